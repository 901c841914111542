/- By hand: what assign.Deny computes. -/
import Derived.Test.YtgiinjfandeddaaGDa
import Derived.Test.YtgiinjfandeddaaGCk
import Derived.OwnWalkIn
import Derived.TacticsInMore
import Derived.LoopNIn
import Derived.LoopIn
namespace Go.Proofs.Ytgiinjfandeddaa.Q
open Go.RowKit Go.Proofs.YtgiinjfandeddaaW.PrintWords Go.Proofs.YtgiinjfandeddaaW.PrintLast Go.Proofs.YtgiinjfandeddaaW.PrintMore Go.Proofs.Ytgiinjfandeddaa.Rng
attribute [local go_sem] Oper.semAt_some
attribute [local go_sem] max2_int min2_int max_two min_two
set_option linter.unusedVariables false
set_option linter.unusedSimpArgs false

/-- how many of the first j columns the rows l have -/
def manyV (C : List (List Int)) (l : List Int) : Nat → Int
  | 0 => 0
  | j + 1 => manyV C l j + (if l.all (okD C j) = true then 0 else 1)
/-- have the rows l fewer columns than k? -/
def badV (C : List (List Int)) (k : Int) (l : List Int) : Bool := decide (manyV C l (widthV C) < k)
def denyL (C : List (List Int)) : Nat → Int → Option (List Int)
  | 0, _ => none
  | f + 1, k => match (exts C.length k k.toNat []).find? (badV C k) with | some l => some l | none => denyL C f (k + 1)
def assign_Deny.f (l0 : List (List Int)) : Option (List Int × Bool × Int) :=
  (assign_Check.f 64 l0).bind fun e => if e = 0 then (match denyL l0 l0.length 1 with | some l => some (l, true, 0) | none => some ([], false, 0)) else some ([], false, e)

abbrev mark_ (D : Nat) : Deferred := { target := .collected D, args := #[] }
theorem KeepsOthers.of_below {W V : World} (h : Below W.heap.size W V) : KeepsOthers W V := ⟨h.size, fun k o hk _ => (h.block k (Array.getElem?_eq_some_iff.1 hk).1).trans hk⟩
/-- What taking marks leaves alone. -/
def Tk (b : Nat) (W V : World) : Prop := V.os = W.os ∧ V.tape = W.tape ∧ V.output = W.output ∧ W.heap.size ≤ V.heap.size ∧ (∀ i, i < b → V.heap[i]? = W.heap[i]?) ∧ (∀ (g : Nat) (cs : Array Value) (t : TypeId) (fr : Nat × Nat), W.heap[g]? = some (.cells cs t fr) → V.heap[g]? = some (.cells cs t fr))
theorem Tk.refl (b : Nat) (W : World) : Tk b W W := ⟨rfl, rfl, rfl, Nat.le_refl _, fun _ _ => rfl, fun _ _ _ _ h => h⟩
theorem leaves_marks {fn : Func} {n b : Nat} {P : Program} {tmps : Array Value} {R : Ending → World → Prop} : ∀ (Ds : List Nat) (W : World), Ds.Nodup → (∀ D, D ∈ Ds → b ≤ D ∧ W.heap[D]? = some (.deferred (some []))) →
    (∀ V, Tk b W V → ∃ v, (results fn tmps).run P V = .ok v V ∧ R (.returned v) V) → LeavesInM Fence.wide n P fn tmps R (Ds.map mark_) .returning W
  | [], W, _, _, h => h W (Tk.refl b W)
  | D :: Ds, W, hn, hD, h => by
    rw [List.nodup_cons] at hn
    obtain ⟨hb, hd⟩ := hD D (by simp)
    refine ⟨by simp, .inl ⟨D, _, rfl, run_takeDeferred hd, ?_⟩⟩
    refine leaves_marks Ds _ hn.2 (fun D' hD' => ⟨(hD D' (by simp [hD'])).1, (World.putObj_heap_other (fun e => hn.1 (by subst e; exact hD'))).trans (hD D' (by simp [hD'])).2⟩) (fun V hV => h V ?_)
    refine ⟨hV.1, hV.2.1, hV.2.2.1, by have := hV.2.2.2.1; simpa using this, fun i hi => (hV.2.2.2.2.1 i hi).trans (World.putObj_heap_other (by omega)), fun g cs t fr hg => hV.2.2.2.2.2 g cs t fr ?_⟩
    exact (World.putObj_heap_other (fun e => by subst e; rw [hg] at hd; cases hd)).trans hg

theorem results_c3 {P : Program} {fn : Func} {p p' p'' : Tmp} {ty ty' ty'' : TypeId} (h : fn.results = #[.cell p ty, .cell p' ty', .cell p'' ty'']) (tmps : Array Value) (w : World) (a a' a'' : Addr) (v v' v'' : Value) (d d' d'' : TypeDesc)
    (hp : tmps.getD p undef = .pointer (some a)) (hp' : tmps.getD p' undef = .pointer (some a')) (hp'' : tmps.getD p'' undef = .pointer (some a'')) (hv : w.cell? a = some v) (hv' : w.cell? a' = some v') (hv'' : w.cell? a'' = some v'')
    (hu : P.underlying ty = some d) (hd : (match d with | .struct _ | .array _ _ => false | _ => true) = true) (hu' : P.underlying ty' = some d') (hd' : (match d' with | .struct _ | .array _ _ => false | _ => true) = true) (hu'' : P.underlying ty'' = some d'') (hd'' : (match d'' with | .struct _ | .array _ _ => false | _ => true) = true) :
    (results fn tmps).run P w = .ok (.tuple #[v, v', v'']) w := by
  have h1 : tmps[p]?.getD undef = .pointer (some a) := by simpa using hp
  have h2 : tmps[p']?.getD undef = .pointer (some a') := by simpa using hp'
  have h3 : tmps[p'']?.getD undef = .pointer (some a'') := by simpa using hp''
  have e1 : (isAgg ty).run P w = .ok false w := by
    simp [isAgg, go_sem, run_underlying hu]
    cases d <;> simp_all
  have e2 : (isAgg ty').run P w = .ok false w := by
    simp [isAgg, go_sem, run_underlying hu']
    cases d' <;> simp_all
  have e3 : (isAgg ty'').run P w = .ok false w := by
    simp [isAgg, go_sem, run_underlying hu'']
    cases d'' <;> simp_all
  simp [results, h, h1, h2, h3, asAddr, loadVar, go_sem, e1, e2, e3, hv, hv', hv'']

/-- The boxes of Deny: the costs, the three results. -/
def DIn (w : World) (A0 : Option Addr) (n c0 : Nat) (v2 v3 v4 : Value) (W : World) : Prop :=
  Below w.heap.size w W ∧ W.heap[w.heap.size]? = some (.cells #[.slice A0 n c0] 22 (0, 0)) ∧ W.heap[w.heap.size + 1]? = some (.cells #[v2] 23 (0, 0)) ∧ W.heap[w.heap.size + 2]? = some (.cells #[v3] 4 (0, 0)) ∧ W.heap[w.heap.size + 3]? = some (.cells #[v4] 26 (0, 0))
theorem DIn.new (w : World) (A0 : Option Addr) (n c0 : Nat) : DIn w A0 n c0 (.slice none 0 0) (.bool false) (.int .i64 0) ((((w.alloc (.cells #[.slice A0 n c0] 22 (0, 0))).alloc (.cells #[.slice none 0 0] 23 (0, 0))).alloc (.cells #[.bool false] 4 (0, 0))).alloc (.cells #[.int .i64 0] 26 (0, 0))) :=
  ⟨below_alloc (below_alloc (below_alloc (below_alloc (Below.refl w.heap.size w) _) _) _) _, heap_at_old _ _ _ _ (heap_at_old _ _ _ _ (heap_at_old _ _ _ _ (heap_at_new _ _ _ rfl))), heap_at_old _ _ _ _ (heap_at_old _ _ _ _ (heap_at_new _ _ _ (by simp))), heap_at_old _ _ _ _ (heap_at_new _ _ _ (by simp)), heap_at_new _ _ _ (by simp)⟩
theorem DIn.below {w : World} {A0 : Option Addr} {n c0 : Nat} {v2 v3 v4 : Value} {W V : World} (h : DIn w A0 n c0 v2 v3 v4 W) (hb : Below W.heap.size W V) : DIn w A0 n c0 v2 v3 v4 V :=
  ⟨below_step h.1 hb, heap_below hb h.2.1, heap_below hb h.2.2.1, heap_below hb h.2.2.2.1, heap_below hb h.2.2.2.2⟩
theorem DIn.drew {w : World} {A0 : Option Addr} {n c0 : Nat} {v2 v3 v4 : Value} {W : World} (h : DIn w A0 n c0 v2 v3 v4 W) : DIn w A0 n c0 v2 v3 v4 W.drew := ⟨below_drew1 h.1, blk_drew h.2.1, blk_drew h.2.2.1, blk_drew h.2.2.2.1, blk_drew h.2.2.2.2⟩
theorem DIn.put2 {w : World} {A0 : Option Addr} {n c0 : Nat} {v2 v3 v4 : Value} {W : World} (h : DIn w A0 n c0 v2 v3 v4 W) (x : Value) : DIn w A0 n c0 x v3 v4 (W.setCell ⟨w.heap.size + 1, 0, none⟩ x) :=
  ⟨below_set h.1 (by omega), blk_far h.2.1 (by simp) _, blk_put h.2.2.1 0 _ rfl, blk_far h.2.2.2.1 (by simp) _, blk_far h.2.2.2.2 (by simp) _⟩
theorem DIn.put3 {w : World} {A0 : Option Addr} {n c0 : Nat} {v2 v3 v4 : Value} {W : World} (h : DIn w A0 n c0 v2 v3 v4 W) (x : Value) : DIn w A0 n c0 v2 x v4 (W.setCell ⟨w.heap.size + 2, 0, none⟩ x) :=
  ⟨below_set h.1 (by omega), blk_far h.2.1 (by simp) _, blk_far h.2.2.1 (by simp) _, blk_put h.2.2.2.1 0 _ rfl, blk_far h.2.2.2.2 (by simp) _⟩
theorem DIn.put4 {w : World} {A0 : Option Addr} {n c0 : Nat} {v2 v3 v4 : Value} {W : World} (h : DIn w A0 n c0 v2 v3 v4 W) (x : Value) : DIn w A0 n c0 v2 v3 x (W.setCell ⟨w.heap.size + 3, 0, none⟩ x) :=
  ⟨below_set h.1 (by omega), blk_far h.2.1 (by simp) _, blk_far h.2.2.1 (by simp) _, blk_far h.2.2.2.1 (by simp) _, blk_put h.2.2.2.2 0 _ rfl⟩

def deny.T3 : Bool × List (List Nat × List Nat) := (true, [([], []), ([], []), ([1, 1], []), ([0, 2, 0, 1, 2], [0])])
def deny.B3 : List Nat := [0, 0, 2, 7]
theorem deny.tab3 : rtab .any (opsOf Try.f22 3) = deny.T3 := by kernel_rfl
theorem deny.bits3 : waitsOk deny.T3.2 deny.B3 = true := by kernel_rfl

set_option maxRecDepth 100000 in
set_option maxHeartbeats 4000000 in
theorem deny_no (A0 : Option Addr) (c0 : Nat) (l0 : List (List Int)) (e0 : Int) (w : World) (hr0 : Kd.C (Kd.slice 3 (Kd.int .i64)) w A0 l0.length l0) (hc0 : l0.length ≤ c0) (hk : assign_Check.f 64 l0 = some e0) (he : ¬ e0 = 0) :
    Calls Try.prog 22 #[.slice A0 l0.length c0] w fun e w' => e = .returned (.tuple #[.slice none 0 0, .bool false, .int .i64 e0]) ∧ Below w.heap.size w w' := by
  have hu := Try.underlying23
  have hu2 := Try.underlying4
  have hu3 := Try.underlying26
  have HI := Aside0.mk (DIn.new w A0 l0.length c0)
  have HC := Aside0.mk (assign_Check.calls 64 A0 c0 l0 e0 _ (Kd.C_below hr0 HI.out.1) hc0 hk)
  have c0_ := (blk_cell HI.out.2.1 0).trans rfl
  have he0 : (e0 == 0) = false := by simp [he]
  have he1 : (e0 != 0) = true := by simp [he]
  clear hr0 hc0 hk
  go_enter Try.func22, Try.ntmps22
  go_wp2_with fail
  refine HC.out.mono ?_
  rintro e w1 ⟨rfl, hb⟩
  have HI1 := Aside0.mk (HI.out.below hb)
  clear hb HI HC c0_
  have c4_ := (blk_cell HI1.out.2.2.2.2 0).trans rfl
  have f4_ := blk_frozen HI1.out.2.2.2.2 0
  go_upto_region 2 with fail
  have HI2 := Aside0.mk (HI1.out.put4 (.int .i64 e0))
  generalize w1.setCell ⟨w.heap.size + 3, 0, none⟩ (.int .i64 e0) = w2 at HI2 ⊢
  clear HI1 c4_ f4_
  have c4_ := (blk_cell HI2.out.2.2.2.2 0).trans rfl
  go_upto_region 3 with fail
  have HI3 := Aside0.mk HI2.out.drew
  refine start_ (n := 4) (S := fun w' => w'.cell? ⟨w.heap.size + 3, 0, none⟩ = some (.int .i64 e0)) (ds := [3]) #[false, false, false, false] (by kernel_rfl) rfl rfl ((blk_cell HI3.out.2.2.2.2 0).trans rfl) (fun hHeld => ?_)
  refine with_tabW deny.tab3 deny.bits3 (fun HT_ HW_ => ?_)
  generalize World.drew _ = wd at HI3 hHeld ⊢
  clear HI2 c4_
  refine take_ (i := 0) (N := some 13) (v := ?_) (a' := ?_) #[true, false, false, false] rfl rfl (take_ofW HT_.out HW_.out (by kernel_rfl)) (fun _ _ _ h => h) (Or.inl ⟨by rfl, ?_⟩) hHeld ?_ ?_
  rotate_left
  · rintro w' s0
    go_simp
    with_reducible rfl
  rotate_left
  · simp only [Act.put, List.setIfInBounds_toArray, List.set_cons_zero, List.set_cons_succ, i64_w, i32_w]
    rfl
  have x2_ := (blk_cell HI3.out.2.2.1 0).trans rfl
  have f2_ := blk_frozen HI3.out.2.2.1 0
  refine one_ (i := 1) (N := none) #[true, true, false, false] rfl rfl (one_of HT_.out (by kernel_rfl)) (by decide) (fun K hK => ?_)
  refine skip_ (w1 := ?_) (by rfl) rfl ?_ ?_
  rotate_left
  · go_simp
    rfl
  have HI4 := Aside0.mk (HI3.out.put2 (.slice none 0 0))
  generalize wd.setCell ⟨w.heap.size + 1, 0, none⟩ (.slice none 0 0) = we at HI4 ⊢
  clear x2_ f2_ HI3
  refine hK.out _ _ ((blk_cell HI4.out.2.2.2.2 0).trans rfl) (fun hHeld => ?_)
  clear hK K
  have x3_ := (blk_cell HI4.out.2.2.2.1 0).trans rfl
  have f3_ := blk_frozen HI4.out.2.2.2.1 0
  refine one_ (i := 2) (N := none) #[true, true, true, false] rfl rfl (one_of HT_.out (by kernel_rfl)) (by decide) (fun K hK => ?_)
  refine skip_ (w1 := ?_) (by rfl) rfl ?_ ?_
  rotate_left
  · go_simp
    rfl
  have HI5 := Aside0.mk (HI4.out.put3 (.bool false))
  generalize we.setCell ⟨w.heap.size + 2, 0, none⟩ (.bool false) = wf at HI5 ⊢
  clear x3_ f3_ HI4
  refine hK.out _ _ ((blk_cell HI5.out.2.2.2.2 0).trans rfl) (fun hHeld => ?_)
  clear hK K
  have x4_ := (blk_cell HI5.out.2.2.2.2 0).trans rfl
  have f4_ := blk_frozen HI5.out.2.2.2.2 0
  refine last_ (i := 3) (N := none) #[true, true, true, true] rfl rfl (one_of HT_.out (by kernel_rfl)) (by decide) (fun K hK => ?_)
  refine skip_ (w1 := ?_) (by rfl) rfl ?_ ?_
  rotate_left
  · go_simp
    rfl
  have HI6 := Aside0.mk (HI5.out.put4 (.int .i64 e0))
  generalize wf.setCell ⟨w.heap.size + 3, 0, none⟩ (.int .i64 e0) = wg at HI6 ⊢
  clear x4_ f4_ HI5
  refine hK.out _ _ ?_
  clear hK K
  refine done_ (done_of HT_.out (by kernel_rfl)) ?_
  go_wp2
  refine bodyPost_ret (results_c3 rfl _ _ ⟨w.heap.size + 1, 0, none⟩ ⟨w.heap.size + 2, 0, none⟩ ⟨w.heap.size + 3, 0, none⟩ (.slice none 0 0) (.bool false) (.int .i64 e0) _ _ _ rfl rfl rfl ((blk_cell HI6.out.2.2.1 0).trans rfl) ((blk_cell HI6.out.2.2.2.1 0).trans rfl) ((blk_cell HI6.out.2.2.2.2 0).trans rfl) hu rfl hu2 rfl hu3 rfl) rfl ?_
  exact ⟨rfl, HI6.out.1⟩

theorem Tk.below {w W V : World} (h : Below w.heap.size w W) (hk : Tk w.heap.size W V) : Below w.heap.size w V := ⟨hk.1.trans h.os, hk.2.1.trans h.tape, hk.2.2.1.trans h.output, Nat.le_trans h.size hk.2.2.2.1, fun i hi => (hk.2.2.2.2.1 i hi).trans (h.block i hi)⟩
theorem R_tk {b : Nat} {W B : World} {base : Nat} {ok : Nat → Prop} {v : Value} {xs : List Int} (h : Kd.R (Kd.int .i64) 3 W base ok v xs) (hk : Tk b W B) : Kd.R (Kd.int .i64) 3 B base ok v xs := by
  refine Kd.R_of_own ?_ h.1
  obtain ⟨hl, hc⟩ := Kd.own_of_R h
  refine ⟨hl, ?_⟩
  rcases hc with hc | ⟨g, cap, cur, he, hb, hg, hr⟩
  · exact .inl hc
  · exact .inr ⟨g, cap, cur, he, hb, hk.2.2.2.2.2 _ _ _ _ hg, hr⟩
theorem iota_mem : ∀ (c : Nat) (a x : Int), x ∈ iota a c → a ≤ x ∧ x < a + c
  | 0, _, _, h => by simp [iota] at h
  | c + 1, a, x, h => by
    simp only [iota, List.mem_cons] at h
    rcases h with rfl | h
    · omega
    · have := iota_mem c (a + 1) x h
      omega
theorem exts_in (n k : Int) : ∀ (d : Nat) (p : List Int), (p.length : Int) + d = k → (∀ x, x ∈ p → 0 ≤ x ∧ x < n) → ∀ l, l ∈ exts n k d p → (l.length : Int) = k ∧ ∀ x, x ∈ l → 0 ≤ x ∧ x < n
  | 0, p, hp, hx, l, hl => by
    simp only [exts, List.mem_singleton] at hl
    subst hl
    exact ⟨by omega, hx⟩
  | d + 1, p, hp, hx, l, hl => by
    simp only [exts, List.mem_flatMap] at hl
    obtain ⟨i, hi, hl⟩ := hl
    have h1 := iota_mem _ _ _ hi
    have hf : 0 ≤ fromV p := by
      unfold fromV
      split
      · rename_i h0
        have := hx (p.getD (p.length - 1) 0) (by rw [List.getD_eq_getElem?_getD, List.getElem?_eq_getElem (by omega), Option.getD_some]; exact List.getElem_mem _)
        omega
      · exact Int.le_refl _
    refine exts_in n k d (p ++ [i]) (by simp; omega) (fun x hm => ?_) l hl
    rw [List.mem_append, List.mem_singleton] at hm
    rcases hm with hm | rfl
    · exact hx x hm
    · omega
theorem callsIn_round {l n : Nat} {P : Program} {f : FuncId} {args : Array Value} {w : World} {R : Ending → World → Prop} (h : Calls P f args w R) : CallsIn (Fence.wide.inRound l) n P f args w R := by
  have h2 := (callsIn_wide (n := n)).2 h
  exact ⟨trivial, fun cs _ => h2.2 cs (room_wide _)⟩
theorem st_put {U : Nat → Prop} {A : World} {q : Nat} (o : Obj) (hq : U q) : St U A (A.putObj q o) := ⟨rfl, rfl, rfl, by simp, fun j _ hu => World.putObj_heap_other (fun e => hu (by subst e; exact hq))⟩
theorem find_at {α : Type} (p : α → Bool) (d : α) : ∀ (l : List α) (j : Nat), j < l.length → p (l.getD j d) = true → (∀ i, i < j → p (l.getD i d) = false) → l.find? p = some (l.getD j d)
  | [], j, h, _, _ => by simp at h
  | a :: l, 0, _, h1, _ => by
    simp only [List.getD_cons_zero] at h1 ⊢
    rw [List.find?_cons_of_pos h1]
  | a :: l, j + 1, h, h1, h2 => by
    have h3 := h2 0 (by omega)
    simp only [List.getD_cons_zero] at h3
    simp only [List.getD_cons_succ] at h1 ⊢
    rw [List.find?_cons_of_neg (by rw [h3]; decide)]
    exact find_at p d l j (by simpa using h) h1 (fun i hi => by simpa using h2 (i + 1) (by omega))
theorem find_no {α : Type} (p : α → Bool) (d : α) : ∀ (l : List α), (∀ i, i < l.length → p (l.getD i d) = false) → l.find? p = none
  | [], _ => rfl
  | a :: l, h => by
    have h3 := h 0 (by simp)
    simp only [List.getD_cons_zero] at h3
    rw [List.find?_cons_of_neg (by rw [h3]; decide)]
    exact find_no p d l (fun i hi => by simpa using h (i + 1) (by simpa using hi))
theorem manyV_bounds (C : List (List Int)) (l : List Int) : ∀ j : Nat, 0 ≤ manyV C l j ∧ manyV C l j ≤ j
  | 0 => ⟨Int.le_refl _, Int.le_refl _⟩
  | j + 1 => by
    have h := manyV_bounds C l j
    unfold manyV
    split <;> omega

/-- The marks that earlier rounds have left. -/
def Mk (w : World) (Ds : List Nat) (s7 : Nat) (V : World) : Prop := ∀ D, D ∈ Ds → w.heap.size + 4 ≤ D ∧ D < s7 ∧ V.heap[D]? = some (.deferred (some []))
theorem Mk.st {w : World} {Ds : List Nat} {s7 : Nat} {A B : World} (h : Mk w Ds s7 A) (hs : St (fun j => j = s7 + 1) A B) : Mk w Ds s7 B := fun D hD => ⟨(h D hD).1, (h D hD).2.1, hs.blk (h D hD).2.2 (by have := (h D hD).2.1; omega)⟩
theorem DIn.st {w : World} {A0 : Option Addr} {n c0 : Nat} {v2 v3 v4 : Value} {s7 : Nat} {W V : World} (h : DIn w A0 n c0 v2 v3 v4 W) (h7 : w.heap.size + 4 ≤ s7) (hs : St (fun j => j = s7 + 1) W V) : DIn w A0 n c0 v2 v3 v4 V :=
  ⟨hs.base h.1 (Nat.le_refl _) (fun k hk => by omega), hs.blk h.2.1 (by omega), hs.blk h.2.2.1 (by omega), hs.blk h.2.2.2.1 (by omega), hs.blk h.2.2.2.2 (by omega)⟩
/-- What holds between the rounds over the lists. -/
def IDe (w : World) (A0 : Option Addr) (c0 : Nat) (l0 : List (List Int)) (b5 : Nat) (kz : Int) (Ds : List Nat) (s7 : Nat) (RL : List (List Int)) (j : Nat) (V : World) : Prop :=
  DIn w A0 l0.length c0 (.slice none 0 0) (.bool false) (.int .i64 0) V ∧ V.heap[b5]? = some (.cells #[.int .i64 kz] 3 (0, 0)) ∧ Mk w Ds s7 V ∧ s7 + 2 ≤ V.heap.size ∧ (∀ i, i < j → badV l0 kz (RL.getD i []) = false)
theorem IDe.st {w : World} {A0 : Option Addr} {c0 : Nat} {l0 : List (List Int)} {b5 : Nat} {kz : Int} {Ds : List Nat} {s7 : Nat} {RL : List (List Int)} {j : Nat} {A B : World} (h : IDe w A0 c0 l0 b5 kz Ds s7 RL j A) (h7 : w.heap.size + 4 ≤ s7) (hb : b5 < s7) (hs : St (fun j => j = s7 + 1) A B) : IDe w A0 c0 l0 b5 kz Ds s7 RL j B :=
  ⟨h.1.st h7 hs, hs.blk h.2.1 (by omega), h.2.2.1.st hs, Nat.le_trans h.2.2.2.1 hs.2.2.2.1, h.2.2.2.2⟩
/-- What holds where a list is found. -/
def XDe (w : World) (A0 : Option Addr) (c0 : Nat) (l0 : List (List Int)) (kz : Int) (Ds : List Nat) (s7 : Nat) (RL : List (List Int)) (j : Nat) (V : World) : Prop :=
  ∃ v, DIn w A0 l0.length c0 v (.bool true) (.int .i64 0) V ∧ Kd.R (Kd.int .i64) 3 V (s7 + 2) (fun _ => True) v (RL.getD j []) ∧ Mk w Ds s7 V ∧ badV l0 kz (RL.getD j []) = true ∧ (∀ i, i < j → badV l0 kz (RL.getD i []) = false)
theorem XDe.st {w : World} {A0 : Option Addr} {c0 : Nat} {l0 : List (List Int)} {kz : Int} {Ds : List Nat} {s7 : Nat} {RL : List (List Int)} {j : Nat} {A B : World} (h : XDe w A0 c0 l0 kz Ds s7 RL j A) (h7 : w.heap.size + 4 ≤ s7) (hs : St (fun j => j = s7 + 1) A B) : XDe w A0 c0 l0 kz Ds s7 RL j B := by
  obtain ⟨v, h1, h2, h3, h4⟩ := h
  exact ⟨v, h1.st h7 hs, R_st h2 (fun k hk => hs.2.2.2.2 k (Kd.R_lt h2 k hk) (by have := Kd.R_base h2 k hk; omega)), h3.st hs, h4⟩

/-- What holds at the loop's head. -/
def DLp (w : World) (A0 : Option Addr) (c0 : Nat) (l0 : List (List Int)) (r : Option (List Int)) (b5 kk : Nat) (kz : Int) (Ds : List Nat) (W : World) : Prop :=
  kk ≤ l0.length ∧ kz = (kk : Int) + 1 ∧ Ds.length = kk ∧ Ds.Nodup ∧ Mk w Ds W.heap.size W ∧ w.heap.size + 4 ≤ W.heap.size ∧
  DIn w A0 l0.length c0 (.slice none 0 0) (.bool false) (.int .i64 0) W ∧ W.heap[b5]? = some (.cells #[.int .i64 kz] 3 (0, 0)) ∧ denyL l0 (l0.length - kk) kz = r

set_option maxRecDepth 100000 in
set_option maxHeartbeats 8000000 in
theorem deny_ok (A0 : Option Addr) (c0 : Nat) (l0 : List (List Int)) (r : Option (List Int)) (w : World) (hr0 : Kd.C (Kd.slice 3 (Kd.int .i64)) w A0 l0.length l0) (hc0 : l0.length ≤ c0) (hk : assign_Check.f 64 l0 = some 0)
    (hm : l0.length ≤ 16) (hwd : ∀ i : Int, 0 ≤ i → i < (l0.length : Int) → (rd_L1 l0 i).length = widthV l0) (hw16 : widthV l0 ≤ 16) (hwf : assign_width.f l0 = some (widthV l0 : Int)) (hr : denyL l0 l0.length 1 = r) :
    Calls Try.prog 22 #[.slice A0 l0.length c0] w fun e w' => ∃ v0_ : Value, e = .returned (.tuple #[v0_, .bool r.isSome, .int .i64 0]) ∧ Kd.R (Kd.int .i64) 3 w' w.heap.size (fun _ => True) v0_ (r.getD []) ∧ Below w.heap.size w w' := by
  have hu := Try.underlying23
  have hu2 := Try.underlying4
  have hu3 := Try.underlying26
  have HI := Aside0.mk (DIn.new w A0 l0.length c0)
  have HC := Aside0.mk (assign_Check.calls 64 A0 c0 l0 0 _ (Kd.C_below hr0 HI.out.1) hc0 hk)
  have c0_ := (blk_cell HI.out.2.1 0).trans rfl
  have HR0 := Aside0.mk hr0
  have HC0 := Aside0.mk hc0
  have HWF := Aside0.mk hwf
  have HDL := Aside0.mk hr
  have HM := Aside0.mk hm
  have HWD := Aside0.mk hwd
  have HW16 := Aside0.mk hw16
  clear hr0 hc0 hk hm hwd hw16 hwf hr
  obtain ⟨q, _⟩ : ∃ q : Nat, q = 7 := ⟨_, rfl⟩
  refine (callsIn_wide (n := q)).1 ?_
  refine callsIn_of_wp_marks Try.func22 rfl trivial ?_ rfl
  simp only [Try.ntmps22, List.size_toArray, List.length_cons, List.length_nil, Nat.reduceAdd, Nat.reduceSub, Array.replicate_succ, Array.replicate_zero, List.push_toArray, List.append_toArray, List.nil_append, List.cons_append]
  gi_wp2_with fail
  refine ⟨trivial, callsIn_wide.2 ?_⟩
  refine HC.out.mono ?_
  rintro e w1 ⟨rfl, hb⟩
  have HI1 := Aside0.mk (HI.out.below hb)
  clear hb HI HC c0_
  have c4_ := (blk_cell HI1.out.2.2.2.2 0).trans rfl
  have f4_ := blk_frozen HI1.out.2.2.2.2 0
  gi_wp2
  have HI2 := Aside0.mk (HI1.out.put4 (.int .i64 0))
  have hsz : (w1.setCell ⟨w.heap.size + 3, 0, none⟩ (.int .i64 0)).heap.size = w1.heap.size := by simp
  rw [← hsz]
  generalize w1.setCell ⟨w.heap.size + 3, 0, none⟩ (.int .i64 0) = w2 at HI2 ⊢
  have HI3 := Aside0.mk (HI2.out.below (below_alloc (Below.refl w2.heap.size w2) (.cells #[.int .i64 1] 3 (0, 0))))
  have HB5 := Aside0.mk (heap_at_new w2 (.cells #[.int .i64 1] 3 (0, 0)) _ rfl)
  clear HI1 hsz c4_ f4_ HI2
  refine wpIn_loop (fun a W => ∃ (b5 kk : Nat) (kz : Int) (Ds : List Nat) (u6 u7 u8 u14 u15 u16 u17 u18 u19 u20 u21 u22 u23 u24 u25 u26 u27 u28 u29 u30 u31 u32 u33 u34 u35 u36 u37 u38 u39 u40 : Value), DLp w A0 c0 l0 r b5 kk kz Ds W ∧ a = { tmps := #[.slice A0 l0.length c0, .pointer (some ⟨w.heap.size, 0, none⟩), .pointer (some ⟨w.heap.size + 1, 0, none⟩), .pointer (some ⟨w.heap.size + 2, 0, none⟩), .pointer (some ⟨w.heap.size + 3, 0, none⟩), .pointer (some ⟨b5, 0, none⟩), u6, u7, u8, .slice A0 l0.length c0, .int .i64 0, .int .i64 0, .bool false, undef, u14, u15, u16, u17, u18, u19, u20, u21, u22, u23, u24, u25, u26, u27, u28, u29, u30, u31, u32, u33, u34, u35, u36, u37, u38, u39, u40], defers := Ds.map mark_ }) (fun a _ => 40 - a.defers.length) ?_ ?_
  · exact ⟨w2.heap.size, 0, 1, [], undef, undef, undef, undef, undef, undef, undef, undef, undef, undef, undef, undef, undef, undef, undef, undef, undef, undef, undef, undef, undef, undef, undef, undef, undef, undef, undef, undef, undef, undef, ⟨Nat.zero_le _, rfl, rfl, List.nodup_nil, fun D hD => by simp at hD, (Array.getElem?_eq_some_iff.1 HI3.out.2.2.2.2).1, HI3.out, HB5.out, HDL.out⟩, rfl⟩
  · rintro a W hinv
    obtain ⟨b5, kk, kz, Ds, u6, u7, u8, u14, u15, u16, u17, u18, u19, u20, u21, u22, u23, u24, u25, u26, u27, u28, u29, u30, u31, u32, u33, u34, u35, u36, u37, u38, u39, u40, HL, rfl⟩ := hinv
    obtain ⟨hkk, hkz, hdl, hdn, hdD, hsz4, hin, hb5, hden⟩ := HL
    have HKK := Aside0.mk hkk
    have HKZ := Aside0.mk hkz
    have HD1 := Aside0.mk hdl
    have HD2 := Aside0.mk hdn
    have HD3 := Aside0.mk hdD
    have HS4 := Aside0.mk hsz4
    have HIN := Aside0.mk hin
    have HBB := Aside0.mk hb5
    have HDN := Aside0.mk hden
    clear hkk hkz hdl hdn hdD hsz4 hin hb5 hden HI3 HB5 HDL
    have c5_ := (blk_cell HBB.out 0).trans rfl
    have c1_ := (blk_cell HIN.out.2.1 0).trans rfl
    by_cases hle : kz ≤ (l0.length : Int)
    · have hled : decide (kz ≤ (l0.length : Int)) = true := decide_eq_true hle
      have HLE := Aside0.mk hle
      clear hle
      gi_wp2_with fail
      refine ⟨trivial, callsIn_wide.2 ?_⟩
      refine (lists_c l0.length kz W).mono ?_
      rintro e W7 ⟨rfl, hW7a⟩
      have HW7 := Aside0.mk hW7a
      clear hW7a
      gi_wp2
      have hW7 := HW7.out
      clear HW7
      have h7 : W7.heap.size = W.heap.size + 2 := by rw [hW7]; simp
      have hB7 : Below W.heap.size W W7 := by rw [hW7]; exact below_alloc (below_alloc (Below.refl W.heap.size W) _) _
      have hbn : W7.heap[W.heap.size]? = some (.cells #[.int .i64 (l0.length : Int)] 3 (0, 0)) := by rw [hW7]; exact heap_at_old _ _ _ _ (heap_at_new _ _ _ rfl)
      have hbk : W7.heap[W.heap.size + 1]? = some (.cells #[.int .i64 kz] 3 (0, 0)) := by rw [hW7]; exact heap_at_new _ _ _ (by simp)
      have HIN7 := Aside0.mk (HIN.out.below hB7)
      have HBB7 := Aside0.mk (heap_below hB7 HBB.out)
      have hb5s : b5 < W.heap.size := (Array.getElem?_eq_some_iff.1 HBB.out).1
      obtain ⟨s7, hs7⟩ : ∃ s7, s7 = W7.heap.size := ⟨_, rfl⟩
      have HS7 := Aside0.mk hs7
      have HS72 := Aside0.mk (hs7.trans h7)
      have HMK := Aside0.mk (show Mk w Ds s7 W7 from fun D hD => ⟨(HD3.out D hD).1, by have := (HD3.out D hD).2.1; omega, heap_below hB7 (HD3.out D hD).2.2⟩)
      have HB5S := Aside0.mk (show b5 < s7 by omega)
      have H47 := Aside0.mk (show w.heap.size + 4 ≤ s7 by have := HS4.out; omega)
      have HBN := Aside0.mk hbn
      have HBK := Aside0.mk hbk
      obtain ⟨RL, hRL⟩ : ∃ RL, RL = exts (l0.length : Int) kz kz.toNat [] := ⟨_, rfl⟩
      have HRL := Aside0.mk hRL
      have HIT : IterE Try.prog 48 #[.pointer (some ⟨W.heap.size + 1, 0, none⟩), .pointer (some ⟨W.heap.size, 0, none⟩)] (LEnc (s7 + 2) RL) RL.length (fun j => j = s7 + 1) (fun _ => False) (LPre (l0.length : Int) kz (W.heap.size + 1) W.heap.size (s7 + 2)) := by
        rw [hRL]
        exact lists_iter (l0.length : Int) kz ⟨by omega, by have := HM.out; omega⟩ ⟨by have := HKZ.out; omega, by have := HLE.out; have := HM.out; omega⟩ _ _ _ _ ⟨by omega, by omega⟩ (fun j hj => by omega)
      clear h7 hB7 hbn hbk hb5s hs7 hRL hW7 c5_ c1_
      generalize hz0 : Value.slice A0 l0.length c0 = z0
      generalize hz14 : Value.int .i64 kz = z14
      generalize hz16 : Value.int .i64 (l0.length : Int) = z16
      generalize hz23 : Value.func (.func 48) #[] #[Value.pointer (some ⟨W.heap.size + 1, 0, none⟩), Value.pointer (some ⟨W.heap.size, 0, none⟩)] = z23
      have HZ0 := Aside0.mk hz0
      have HZ14 := Aside0.mk hz14
      clear hz0 hz14 hz16
      refine range_lawF (gf := 48) hz23.symm (enters_of Try.func48 (by kernel_rfl) rfl) HIT (fun k vs A h => by obtain ⟨v, rfl, _⟩ := h; rfl) (by rw [HS7.out]) (fun k hk => hk.elim)
        (fun o1 o2 => ⟨by rw [HS7.out]; simp, heap_below (below_alloc (below_alloc (Below.refl W7.heap.size W7) o1) o2) HBK.out, heap_below (below_alloc (below_alloc (Below.refl W7.heap.size W7) o1) o2) HBN.out⟩)
        (fun j V => IDe w A0 c0 l0 b5 kz Ds s7 RL j V) (fun j V => XDe w A0 c0 l0 kz Ds s7 RL j V)
        (fun k A B h hS => h.st H47.out HB5S.out (hS.mono (fun _ h => h.elim))) (fun k A B h hS => h.st H47.out (hS.mono (fun _ h => h.elim)))
        (fun k A q o o' h hq hA hc => h.st H47.out HB5S.out (st_put o' (by rw [hq, HS7.out]))) (fun k A q o o' h hq hA hc => h.st H47.out (st_put o' (by rw [hq, HS7.out])))
        (fun o1 o2 => ⟨HIN7.out.below (below_alloc (below_alloc (Below.refl W7.heap.size W7) o1) o2), heap_below (below_alloc (below_alloc (Below.refl W7.heap.size W7) o1) o2) HBB7.out, fun D hD => ⟨(HMK.out D hD).1, (HMK.out D hD).2.1, heap_below (below_alloc (below_alloc (Below.refl W7.heap.size W7) o1) o2) (HMK.out D hD).2.2⟩, by rw [HS7.out]; simp, fun i hi => by omega⟩)
        (fun j b V => IDe w A0 c0 l0 b5 kz Ds s7 RL j V ∧ ∃ v, b = { tmps := #[z0, .pointer (some ⟨w.heap.size, 0, none⟩), .pointer (some ⟨w.heap.size + 1, 0, none⟩), .pointer (some ⟨w.heap.size + 2, 0, none⟩), .pointer (some ⟨w.heap.size + 3, 0, none⟩), .pointer (some ⟨b5, 0, none⟩), v, u7, u8, z0, .int .i64 0, .int .i64 0, .bool false, undef, z14, z0, z16, .bool true, u18, u19, z0, z16, z14, z23, v, u25, u26, u27, u28, u29, u30, u31, u32, u33, u34, u35, u36, u37, u38, u39, u40], defers := [] } ∧ Kd.R (Kd.int .i64) 3 V (s7 + 2) (fun _ => True) v (RL.getD j []))
        (fun k b A q o o' h hq hA hc => ⟨h.1.st H47.out HB5S.out (st_put o' (by rw [hq, HS7.out])), ?_⟩) ?assign ?body ?done ?stop
      case assign =>
        rintro lq j vs V hj hI ⟨v, rfl, hv⟩
        simp only [List.zip_toArray, List.zip_cons_cons, List.zip_nil_left, List.foldl_toArray, List.foldl_cons, List.foldl_nil, List.setIfInBounds_toArray, List.set_cons_succ, List.set_cons_zero]
        have HI := Aside0.mk hI
        have HV := Aside0.mk hv
        clear hI hv
        gi_wp2
        exact ⟨KeepsOthers.refl _, St.refl _ _, HI.out, _, rfl, HV.out⟩
      case body =>
        rintro lq j b V hj ⟨hI, v, rfl, hv⟩
        have HI := Aside0.mk hI
        have HJ := Aside0.mk hj
        have hmem : RL.getD j [] ∈ RL := by rw [List.getD_eq_getElem?_getD, List.getElem?_eq_getElem hj, Option.getD_some]; exact List.getElem_mem _
        obtain ⟨L, hL⟩ : ∃ L, L = RL.getD j [] := ⟨_, rfl⟩
        rw [← hL] at hv hmem
        obtain ⟨Av, cv, rfl⟩ := Kd.R_slice hv
        have HV := Aside0.mk hv
        have hin := exts_in (l0.length : Int) kz kz.toNat [] (by have := HKZ.out; simp; omega) (fun x hx => by simp at hx) L (by rw [← HRL.out]; exact hmem)
        have HIN1 := Aside0.mk hin
        have HL := Aside0.mk hL
        have HLL := Aside0.mk (show L.length ≤ 1000 by have := hin.1; have := HLE.out; have := HM.out; omega)
        clear hI hj hv hmem hin hL
        have c1_ := (blk_cell HI.out.1.2.1 0).trans rfl
        gi_wp2_with fail
        refine ⟨trivial, callsIn_round ?_⟩
        refine (assign_width.calls A0 c0 l0 (widthV l0) V (Kd.C_below HR0.out HI.out.1.1) HC0.out HWF.out).mono ?_
        rintro e w' ⟨rfl, ⟨nd, rfl⟩⟩
        have HB := Aside0.mk (pw_below_drewN (Below.refl V.heap.size V) nd)
        generalize V.drewN nd = Vd at HB ⊢
        clear c1_
        gi_wp2
        gi_loopw [7, 27] (fun m i wr => ∃ jj : Nat, jj ≤ widthV l0 ∧ m = .int .i64 (manyV l0 L jj) ∧ i = .int .i64 jj ∧ Aside0 (Below V.heap.size V wr)) (fun _ i _ => widthV l0 - (intOf i).toNat)
        case atStart => exact ⟨0, Nat.zero_le _, rfl, rfl, HB⟩
        case round =>
          clear HB
          obtain ⟨jj, hjj, rfl, rfl, HB⟩ := hrel
          by_cases hlt : jj < widthV l0
          · have hd1 : decide ((jj : Int) < (widthV l0 : Int)) = true := decide_eq_true (by omega)
            have hd2 : decide (jj < widthV l0) = true := decide_eq_true hlt
            have hmb := manyV_bounds l0 L jj
            have hji : wrap64 ((jj : Int) + 1) = ((jj + 1 : Nat) : Int) := by unfold wrap64; have := HW16.out; omega
            have hwm : wrap64 (manyV l0 L jj + 1) = manyV l0 L jj + 1 := by unfold wrap64; have := HW16.out; omega
            have hx := conD A0 c0 l0 w.heap.size wr.heap.size jj L Av cv (wr.alloc (.cells #[.int .i64 (jj : Int)] 3 (0, 0))) (heap_below (below_alloc HB.out _) HI.out.1.2.1) (heap_at_new _ _ _ rfl)
              (Kd.C_below HR0.out (below_step HI.out.1.1 (below_alloc HB.out _))) (by omega) (fun i hi => by have h1 := HIN1.out.2 i hi; exact ⟨h1.1, h1.2, by rw [HWD.out i h1.1 h1.2]; omega⟩) (Kd.C_below (Kd.R_reads' HV.out).2.2 (below_alloc HB.out _)) HLL.out
            have HMS := Aside0.mk (show manyV l0 L (jj + 1) = manyV l0 L jj + (if L.all (okD l0 jj) = true then 0 else 1) from rfl)
            cases hall : L.all (okD l0 jj) with
            | true =>
              rw [hall] at hx HMS
              simp only [Bool.not_true, if_true] at hx
              have HX := Aside0.mk hx
              clear hx hall hmb
              gi_wp2_with fail
              refine ⟨trivial, callsIn_round ?_⟩
              refine HX.out.mono ?_
              rintro e w3 ⟨rfl, hb⟩
              have HB2 := Aside0.mk (below_step (below_alloc HB.out _) hb)
              clear hb HX
              gi_wp2
              go_round
              case rel => exact ⟨jj + 1, hlt, by rw [HMS.out]; simp, by first | rfl | rw [hji], HB2⟩
              case measure => rw [hji]; simp [intOf]; omega
            | false =>
              rw [hall] at hx HMS
              simp only [Bool.not_false] at hx
              have HX := Aside0.mk hx
              clear hx hall hmb
              gi_wp2_with fail
              refine ⟨trivial, callsIn_round ?_⟩
              refine HX.out.mono ?_
              rintro e w3 ⟨rfl, hb⟩
              have HB2 := Aside0.mk (below_step (below_alloc HB.out _) hb)
              clear hb HX
              gi_wp2
              go_round
              case rel => exact ⟨jj + 1, hlt, by rw [HMS.out, hwm]; simp, by first | rfl | rw [hji], HB2⟩
              case measure => rw [hji]; simp [intOf]; omega
          · have hd1 : decide ((jj : Int) < (widthV l0 : Int)) = false := decide_eq_false (by omega)
            have hd2 : decide (jj < widthV l0) = false := decide_eq_false hlt
            have hje : jj = widthV l0 := by omega
            have HD := Aside0.mk (HI.out.1.below HB.out)
            have c5_ := (blk_cell (heap_below HB.out HI.out.2.1) 0).trans rfl
            have HJE := Aside0.mk hje
            by_cases hbad : manyV l0 L jj < kz
            · have hb1 : decide (manyV l0 L jj < kz) = true := decide_eq_true hbad
              have x2_ := (blk_cell HD.out.2.2.1 0).trans rfl
              have f2_ := blk_frozen HD.out.2.2.1 0
              have x3_ := (blk_cell HD.out.2.2.2.1 0).trans rfl
              have f3_ := blk_frozen HD.out.2.2.2.1 0
              have x4_ := (blk_cell HD.out.2.2.2.2 0).trans rfl
              have f4_ := blk_frozen HD.out.2.2.2.2 0
              have HBD := Aside0.mk hbad
              clear hje hbad hlt hjj
              gi_wp2
              have HE := ((HD.out.put2 (.slice Av L.length cv)).put3 (.bool true)).put4 (.int .i64 0)
              have hko := ((KeepsOthers.of_below HB.out).trans (KeepsOthers.setCell wr ⟨w.heap.size + 1, 0, none⟩ (.slice Av L.length cv))).trans ((KeepsOthers.setCell _ ⟨w.heap.size + 2, 0, none⟩ (.bool true)).trans (KeepsOthers.setCell _ ⟨w.heap.size + 3, 0, none⟩ (.int .i64 0)))
              have h47 := H47.out
              have hst : St (fun k => k < s7) wr (((wr.setCell ⟨w.heap.size + 1, 0, none⟩ (.slice Av L.length cv)).setCell ⟨w.heap.size + 2, 0, none⟩ (.bool true)).setCell ⟨w.heap.size + 3, 0, none⟩ (.int .i64 0)) :=
                (((St.refl _ wr).setCell (.inl (show w.heap.size + 1 < s7 by omega)) _).setCell (.inl (show w.heap.size + 2 < s7 by omega)) _).setCell (.inl (show w.heap.size + 3 < s7 by omega)) _
              have hRb := Kd.R_below HV.out HB.out
              refine ⟨hko, .slice Av L.length cv, HE, ?_, fun D hD => ⟨(HI.out.2.2.1 D hD).1, (HI.out.2.2.1 D hD).2.1, hko.same D _ (HI.out.2.2.1 D hD).2.2 rfl⟩, ?_, HI.out.2.2.2.2⟩
              · rw [← HL.out]
                exact R_st hRb (fun k hk => hst.2.2.2.2 k (Kd.R_lt hRb k hk) (by have := Kd.R_base hRb k hk; omega))
              · rw [← HL.out]; unfold badV; rw [← HJE.out]; exact decide_eq_true HBD.out
            · have hb1 : decide (manyV l0 L jj < kz) = false := decide_eq_false hbad
              have HBD := Aside0.mk hbad
              clear hje hbad hlt hjj
              gi_wp2
              refine ⟨KeepsOthers.of_below HB.out, St.of_below HB.out, HD.out, heap_below HB.out HI.out.2.1, fun D hD => ⟨(HI.out.2.2.1 D hD).1, (HI.out.2.2.1 D hD).2.1, heap_below HB.out (HI.out.2.2.1 D hD).2.2⟩, Nat.le_trans HI.out.2.2.2.1 HB.out.size, fun i hi => ?_⟩
              by_cases hij : i = j
              · subst hij
                rw [← HL.out]; unfold badV; rw [← HJE.out]; exact decide_eq_false (by have := HBD.out; omega)
              · exact HI.out.2.2.2.2 i (by omega)
      case done =>
        rintro D V hD hI hK
        have HI := Aside0.mk hI
        have HK := Aside0.mk hK
        have HDD := Aside0.mk (hD.trans HS7.out.symm)
        clear hI hK hD
        have c5_ := (blk_cell HI.out.2.1 0).trans rfl
        have hkw : wrap64 (kz + 1) = kz + 1 := by unfold wrap64; have := HLE.out; have := HM.out; have := HKZ.out; omega
        gi_wp2
        have hz := HZ0.out
        subst hz
        refine ⟨⟨V.heap.size, kk + 1, kz + 1, D :: Ds, _, _, _, _, _, _, _, _, _, _, _, _, _, _, _, _, _, _, _, _, _, _, _, _, _, _, _, _, _, _, ?_, rfl⟩, by simp; have := HD1.out; have := HKK.out; have := HM.out; omega⟩
        have hB := below_alloc (Below.refl V.heap.size V) (.cells #[.int .i64 (kz + 1)] 3 (0, 0))
        have hle := HLE.out
        have hkz := HKZ.out
        refine ⟨by omega, by omega, by simp [HD1.out], ?_, ?_, ?_, HI.out.1.below hB, heap_at_new _ _ _ rfl, ?_⟩
        · rw [List.nodup_cons]
          refine ⟨fun hm => ?_, HD2.out⟩
          have := (HI.out.2.2.1 D hm).2.1
          have := HDD.out
          omega
        · intro D2 hD2
          rcases List.mem_cons.1 hD2 with rfl | hD2
          · exact ⟨by have := HDD.out; have := H47.out; omega, by have := (Array.getElem?_eq_some_iff.1 HK.out).1; simp; omega, heap_below hB HK.out⟩
          · have h1 := HI.out.2.2.1 D2 hD2
            exact ⟨h1.1, by have := h1.2.1; have := HI.out.2.2.2.1; simp; omega, heap_below hB h1.2.2⟩
        · have := HI.out.2.2.2.1; have := H47.out; simp; omega
        · have h := HDN.out
          obtain ⟨f, hf⟩ : ∃ f, l0.length - kk = f + 1 := ⟨l0.length - kk - 1, by omega⟩
          rw [hf] at h
          unfold denyL at h
          rw [← HRL.out, find_no (badV l0 kz) [] RL HI.out.2.2.2.2] at h
          rw [show l0.length - (kk + 1) = f by omega]
          exact h
      case stop =>
        rintro D j V hD hj ⟨v, hX, hv, hMk, hbad, hfst⟩ hK
        have hDs : D = s7 := hD.trans HS7.out.symm
        have hR : denyL l0 (l0.length - kk) kz = some (RL.getD j []) := by
          obtain ⟨f, hf⟩ : ∃ f, l0.length - kk = f + 1 := ⟨l0.length - kk - 1, by have := HLE.out; have := HKZ.out; omega⟩
          rw [hf]
          unfold denyL
          rw [← HRL.out, find_at (badV l0 kz) [] RL j hj hbad hfst]
        have hr2 := HDN.out
        rw [hR] at hr2
        have HX := Aside0.mk hX
        have HV := Aside0.mk hv
        have HMk := Aside0.mk hMk
        have HR2 := Aside0.mk hr2
        have HDs := Aside0.mk hDs
        have HK := Aside0.mk hK
        clear hX hv hMk hr2 hR hDs hK hbad hfst hD hj
        gi_wp2
        refine leaves_marks (b := w.heap.size) (D :: Ds) V ?_ ?_ (fun V2 hV2 => ⟨_, results_c3 rfl _ _ ⟨w.heap.size + 1, 0, none⟩ ⟨w.heap.size + 2, 0, none⟩ ⟨w.heap.size + 3, 0, none⟩ v (.bool true) (.int .i64 0) _ _ _ rfl rfl rfl ((blk_cell (hV2.2.2.2.2.2 _ _ _ _ HX.out.2.2.1) 0).trans rfl) ((blk_cell (hV2.2.2.2.2.2 _ _ _ _ HX.out.2.2.2.1) 0).trans rfl) ((blk_cell (hV2.2.2.2.2.2 _ _ _ _ HX.out.2.2.2.2) 0).trans rfl) hu rfl hu2 rfl hu3 rfl, v, ?_, ?_, Tk.below HX.out.1 hV2⟩)
        · rw [List.nodup_cons]
          refine ⟨fun hm => ?_, HD2.out⟩
          have := (HMk.out D hm).2.1
          have := HDs.out
          omega
        · intro D2 hD2
          rcases List.mem_cons.1 hD2 with rfl | hD2
          · exact ⟨by have := HDs.out; have := H47.out; omega, HK.out⟩
          · have h1 := HMk.out D2 hD2
            exact ⟨by omega, h1.2.2⟩
        · rw [← HR2.out]; rfl
        · rw [← HR2.out]
          exact Kd.R_lower (R_tk HV.out hV2) (by have := H47.out; omega)
      · obtain ⟨v, hb, hv⟩ := h.2
        exact ⟨v, hb, R_st hv (fun k hk => World.putObj_heap_other (by have := Kd.R_base hv k hk; have := HS7.out; omega))⟩
    · have hled : decide (kz ≤ (l0.length : Int)) = false := decide_eq_false hle
      have hr2 := HDN.out
      rw [show l0.length - kk = 0 by have := HKZ.out; omega] at hr2
      have HR2 := Aside0.mk (show none = r from hr2)
      clear hle hr2
      have x2_ := (blk_cell HIN.out.2.2.1 0).trans rfl
      have f2_ := blk_frozen HIN.out.2.2.1 0
      have x3_ := (blk_cell HIN.out.2.2.2.1 0).trans rfl
      have f3_ := blk_frozen HIN.out.2.2.2.1 0
      have x4_ := (blk_cell HIN.out.2.2.2.2 0).trans rfl
      have f4_ := blk_frozen HIN.out.2.2.2.2 0
      gi_wp2
      have HE := ((HIN.out.put2 (.slice none 0 0)).put3 (.bool false)).put4 (.int .i64 0)
      have hko := (KeepsOthers.setCell W ⟨w.heap.size + 1, 0, none⟩ (.slice none 0 0)).trans ((KeepsOthers.setCell _ ⟨w.heap.size + 2, 0, none⟩ (.bool false)).trans (KeepsOthers.setCell _ ⟨w.heap.size + 3, 0, none⟩ (.int .i64 0)))
      refine leaves_marks (b := w.heap.size) Ds _ HD2.out (fun D hD => ⟨by have := (HD3.out D hD).1; omega, hko.same D _ (HD3.out D hD).2.2 rfl⟩) (fun V2 hV2 => ⟨_, results_c3 rfl _ _ ⟨w.heap.size + 1, 0, none⟩ ⟨w.heap.size + 2, 0, none⟩ ⟨w.heap.size + 3, 0, none⟩ (.slice none 0 0) (.bool false) (.int .i64 0) _ _ _ rfl rfl rfl ((blk_cell (hV2.2.2.2.2.2 _ _ _ _ HE.2.2.1) 0).trans rfl) ((blk_cell (hV2.2.2.2.2.2 _ _ _ _ HE.2.2.2.1) 0).trans rfl) ((blk_cell (hV2.2.2.2.2.2 _ _ _ _ HE.2.2.2.2) 0).trans rfl) hu rfl hu2 rfl hu3 rfl, .slice none 0 0, ?_, ?_, Tk.below HE.1 hV2⟩)
      · rw [← HR2.out]; rfl
      · rw [← HR2.out]
        exact Kd.R_nil _ _ _ _ _

theorem assign_Deny.calls (A0 : Option Addr) (c0 : Nat) (l0 : List (List Int)) (r1 : List Int) (r2 : Bool) (r3 : Int) (w : World) (hr0 : Kd.C (Kd.slice 3 (Kd.int .i64)) w A0 l0.length l0) (hc0 : l0.length ≤ c0) (h : assign_Deny.f l0 = some (r1, r2, r3)) :
    Calls Try.prog 22 #[.slice A0 l0.length c0] w fun e w' => ∃ v0_ : Value, e = .returned (.tuple #[v0_, .bool r2, .int .i64 r3]) ∧ Kd.R (Kd.int .i64) 3 w' w.heap.size (fun _ => True) v0_ r1 ∧ Below w.heap.size w w' := by
  unfold assign_Deny.f at h
  rw [check_eq l0 64 (by decide), Option.bind_some] at h
  by_cases he : chkV l0 = 0
  · rw [if_pos he] at h
    have g := good_of l0 he
    have hb := deny_ok A0 c0 l0 _ w hr0 hc0 (by rw [check_eq l0 64 (by decide), he]) g.rows g.len g.cols (width_eq l0) rfl
    cases hd : denyL l0 l0.length 1 with
    | none =>
      rw [hd] at h hb
      simp only [Option.some.injEq, Prod.mk.injEq] at h
      obtain ⟨rfl, rfl, rfl⟩ := h
      exact hb
    | some l =>
      rw [hd] at h hb
      simp only [Option.some.injEq, Prod.mk.injEq] at h
      obtain ⟨rfl, rfl, rfl⟩ := h
      exact hb
  · rw [if_neg he] at h
    simp only [Option.some.injEq, Prod.mk.injEq] at h
    obtain ⟨rfl, rfl, rfl⟩ := h
    refine (deny_no A0 c0 l0 (chkV l0) w hr0 hc0 (check_eq l0 64 (by decide)) he).mono ?_
    rintro e w' ⟨rfl, hb⟩
    exact ⟨_, rfl, Kd.R_nil _ _ _ _ _, hb⟩

end Go.Proofs.Ytgiinjfandeddaa.Q
