/- By hand: slices.Repeat of one number. -/
import Derived.Test.YtgiinjfandeddaaQ1
import Derived.Outline
import Derived.Laws.EntriesVeiled
import Derived.RegionTactic
import Derived.Deep.RegionWith
import Derived.Shelf.Abstract
import Derived.Laws.Bits64b
namespace Go.Proofs.Ytgiinjfandeddaa.Q
open Go.RowKit Go.Proofs.YtgiinjfandeddaaW.PrintWords Go.Proofs.YtgiinjfandeddaaW.PrintLast Go.Proofs.YtgiinjfandeddaaW.PrintMore
attribute [local go_sem] max2_int min2_int max_two min_two
set_option linter.unusedVariables false
set_option linter.unusedSimpArgs false

theorem infR : (Try.prog.info? 3).map (fun i => (i.zero, i.size, i.bytes)) = some (some (.int .i64 0), 1, 8) := by kernel_rfl
/-- A number, repeated. -/
def slices_Repeat_int_int.f (l0 : List Int) (a1 : Int) : Option (List Int) := if l0.length = 1 ∧ 0 ≤ a1 ∧ a1 ≤ 4096 then some (List.replicate a1.toNat (l0.getD 0 0)) else none
theorem below_setCell {n : Nat} {w W : World} (h : Below n w W) {b : Nat} (hb : n ≤ b) (o : Nat) (v : Value) : Below n w (W.setCell ⟨b, o, none⟩ v) :=
  ⟨h.os, h.tape, h.output, by have := h.size; simpa [World.setCell] using this, fun j hj => (Below.heap_setCell W ⟨b, o, none⟩ v j (by show j ≠ b; omega)).trans (h.block j hj)⟩
theorem copy_blk {P : Program} (w : World) (dT sT ty elem : TypeId) (sz b o dLen dCap : Nat) (a : Addr) (sLen sCap : Nat) (cs : List Value) (cur : Array Value) (t : TypeId)
    (hu : P.underlying dT = some (.slice elem)) (hs : (P.info? elem).map (·.size) = some sz) (hn : cs.length = Nat.min sLen dLen * sz)
    (hsrc : ∀ j v, cs[j]? = some v → w.cell? (a.add j) = some v) (hb : w.heap[b]? = some (.cells cur t (0, 0))) (hf : o + cs.length ≤ cur.size) (h1 : ∀ v ∈ cs, v.oneCell' = true) :
    (Builtin.copy_ #[dT, sT] ty #[.slice (some ⟨b, o, none⟩) dLen dCap, .slice (some a) sLen sCap]).run P w = .ok (goInt (Nat.min sLen dLen)) (w.setCells b o cs) := by
  have hl := run_loadCells_list (P := P) w a cs hsrc
  have hst := run_storeCells_cells (P := P) b o cs 0 w (fun j hj => by rw [Nat.add_zero, blk_cell hb, Array.getElem?_eq_getElem (by omega)]; rfl) (fun j hj => blk_frozen hb _) h1
  cases hq : P.info? elem with
  | none => simp [hq] at hs
  | some i =>
    have hi : i.size = sz := by simpa [hq] using hs
    simp [Builtin.copy_, run_underlying hu, Builtin.lenOf, Builtin.firstCells, sizeOf, typeInfo, hq, hi, ← hn, hl, hst]
theorem copy_none {P : Program} (w : World) (dT sT ty elem : TypeId) (i : TypeInfo) (b o dLen dCap : Nat) (A : Option Addr) (sCap : Nat) (hu : P.underlying dT = some (.slice elem)) (hi : P.info? elem = some i) (hs : i.size = 1) :
    (Builtin.copy_ #[dT, sT] ty #[.slice (some ⟨b, o, none⟩) dLen dCap, .slice A 0 sCap]).run P w = .ok (goInt 0) w := by
  have hst := run_storeCells_cells (P := P) b o [] 0 w (by simp) (by simp) (by simp)
  cases A with
  | none =>
    simp [Builtin.copy_, run_underlying hu, Builtin.lenOf, Builtin.firstCells, sizeOf, typeInfo, hi, hs]
    rw [hst]
    rfl
  | some a =>
    have hl := run_loadCells_list (P := P) w a [] (by simp)
    simp [Builtin.copy_, run_underlying hu, Builtin.lenOf, Builtin.firstCells, sizeOf, typeInfo, hi, hs]
    have hl' : (Sem.run P (loadCells a 0) w) = .ok #[] w := hl
    rw [hl']
    simp
    rw [hst]
    rfl
/-- The cells of a block behind a write. -/
def putL (cs : Array Value) : Nat → List Value → Array Value
  | _, [] => cs
  | o, v :: r => putL (cs.setIfInBounds o v) (o + 1) r
theorem putL_size (vs : List Value) : ∀ (o : Nat) (cs : Array Value), (putL cs o vs).size = cs.size := by
  induction vs with
  | nil => intro o cs; rfl
  | cons v r ih => intro o cs; rw [putL, ih]; simp
theorem setCells_blk {b : Nat} {t : TypeId} : ∀ (vs : List Value) (o : Nat) (w : World) (cs : Array Value), w.heap[b]? = some (.cells cs t (0, 0)) → (w.setCells b o vs).heap[b]? = some (.cells (putL cs o vs) t (0, 0))
  | [], _, _, _, h => h
  | v :: r, o, w, cs, h => by
    rw [World.setCells, putL]
    exact setCells_blk r (o + 1) _ _ (blk_put h o v rfl)
theorem below_setCells {n b : Nat} {w : World} (hb : n ≤ b) : ∀ (vs : List Value) (o : Nat) (W : World), Below n w W → Below n w (W.setCells b o vs)
  | [], _, _, h => h
  | v :: r, o, W, h => by
    rw [World.setCells]
    exact below_setCells hb r (o + 1) _ (below_setCell h hb o v)
theorem putL_get (vs : List Value) : ∀ (o : Nat) (cs : Array Value) (j : Nat), o + vs.length ≤ cs.size → (putL cs o vs)[j]? = if o ≤ j ∧ j < o + vs.length then vs[j - o]? else cs[j]? := by
  induction vs with
  | nil => intro o cs j h; rw [putL, if_neg (by rw [List.length_nil]; omega)]
  | cons v r ih =>
    intro o cs j h
    rw [List.length_cons] at h
    rw [putL, ih (o + 1) (cs.setIfInBounds o v) j (by rw [Array.size_setIfInBounds]; omega), List.length_cons]
    by_cases h1 : j = o
    · subst h1
      rw [if_neg (by omega), if_pos (by omega), Nat.sub_self, List.getElem?_cons_zero, Array.getElem?_setIfInBounds_self_of_lt (by omega)]
    · by_cases h2 : o + 1 ≤ j ∧ j < o + 1 + r.length
      · rw [if_pos h2, if_pos (by omega), show j - o = (j - (o + 1)) + 1 by omega, List.getElem?_cons_succ]
      · rw [if_neg h2, if_neg (by omega), Array.getElem?_setIfInBounds_ne (by omega)]

section
variable {P : Program} {ops : Array Oper} {Q : Exit → Act → World → Prop}
theorem copy_one {oi : Oper} {N : Option Tmp} {a : Act} {w w' : World} {v u v' : Value} {K : Act → World → Prop} (hw : Region.wanted oi (yielded ops a.tmps) = true) (hN : oi.dst = N) (d x : Operand) (dT sT : TypeId)
    (hop : oi.op = .call { callee := .builtin .copy, args := #[d, x], argTypes := #[dT, sT] }) (hd : a.eval d = v) (hx : a.eval x = u) (hr : (Builtin.copy_ #[dT, sT] oi.type #[v, u]).run P w = .ok v' w')
    (h : K (a.put N v') w') : if Region.wanted oi (yielded ops a.tmps) = true then Oper.wp P oi a w K Q else K (a.put N undef) w := by
  refine value_ hw hN ?_ h
  unfold execOp
  simp [hop, resolve, invoke, builtin, hd, hx, hr]
end
theorem u64_in {x : Int} (h0 : 0 ≤ x) (h1 : x < 18446744073709551616) : IntKind.u64.wrap x = x := by
  rw [IntKind.wrap_u64]
  omega
theorem mask32 (n : Nat) (h : n < 4294967296) : bits BinOp.and IntKind.u64 (n : Int) 4294967295 = (n : Int) := by
  have := bits_and_u64_nat n 4294967295 (by omega) (by omega)
  rw [show ((4294967295 : Nat) : Int) = 4294967295 from rfl] at this
  rw [this]
  have h2 : n &&& 4294967295 = n := by
    have := Nat.and_two_pow_sub_one_of_lt_two_pow (x := n) (n := 32) (by omega)
    simpa using this
  rw [h2]
set_option maxHeartbeats 1000000 in
theorem mul64_one (n : Nat) (h0 : n ≤ 4096) (w : World) :
    Calls Try.prog 52 #[.int .u64 1, .int .u64 n] w fun e w' => e = .returned (.tuple #[.int .u64 0, .int .u64 n]) ∧ w' = w := by
  have m1 : bits BinOp.and IntKind.u64 1 4294967295 = 1 := mask32 1 (by omega)
  have m0 : bits BinOp.and IntKind.u64 0 4294967295 = 0 := mask32 0 (by omega)
  have mn := mask32 n (by omega)
  have dn : (n : Int) / 4294967296 = 0 := by omega
  have wn : IntKind.u64.wrap (n : Int) = (n : Int) := u64_in (by omega) (by omega)
  have w0 : IntKind.u64.wrap 0 = 0 := by decide
  go_enter Try.func52, Try.ntmps52
  go_wp2
  go_ret2
  exact ⟨rfl, rfl⟩
theorem mul_one (n : Nat) (h0 : n ≤ 4096) (w : World) :
    Calls Try.prog 50 #[.int .u64 1, .int .u64 n] w fun e w' => e = .returned (.tuple #[.int .u64 0, .int .u64 n]) ∧ w' = w := by
  have h := mul64_one n h0
  go_enter Try.func50, Try.ntmps50
  go_wp2_with (go_at_call 52; refine (h _).mono ?_; rintro e w' ⟨rfl, rfl⟩)
  all_goals
    go_ret2
    exact ⟨rfl, rfl⟩
def rep.T9 : Bool × List (List Nat × List Nat) := (true, [([], []), ([], []), ([], []), ([1, 2], [1, 2]), ([], []), ([], []), ([4, 5], [4, 5]), ([3, 6], [3, 6]), ([0, 7], [0, 7]), ([8, 7, 0, 1, 2, 3, 4, 5, 6, 7, 8], [0, 2, 5, 8])])
def rep.B9 : List Nat := [0, 0, 0, 6, 0, 0, 48, 126, 255, 511]
theorem rep.tab9 : rtab .any (opsOf Try.f45 9) = rep.T9 := by kernel_rfl
theorem rep.bits9 : waitsOk rep.T9.2 rep.B9 = true := by kernel_rfl

/-- A row whose first k cells are v. -/
def RepI (w : World) (g n k : Nat) (v : Value) (W : World) : Prop := ∃ cur : Array Value, W.heap[g]? = some (.cells cur 3 (0, 0)) ∧ cur.size = n ∧ (∀ j, j < k → cur[j]? = some v) ∧ Below w.heap.size w W
theorem RepI.below {w : World} {g n k : Nat} {v : Value} {W V : World} (h : RepI w g n k v W) (hb : Below W.heap.size W V) : RepI w g n k v V := by
  obtain ⟨cur, h1, h2, h3, h4⟩ := h
  exact ⟨cur, heap_below hb h1, h2, h3, below_step h4 hb⟩

set_option maxHeartbeats 4000000 in
set_option maxRecDepth 100000 in
theorem repeat_ (n : Nat) (A0 : Option Addr) (c0 : Nat) (x : Int) (w : World) (hn : n ≤ 4096) (hr : Kd.C (Kd.int .i64) w A0 1 [x]) :
    Calls Try.prog 45 #[.slice A0 1 c0, .int .i64 n] w fun e w' => e = .returned (.slice (some ⟨w.heap.size, 0, none⟩) n n) ∧ RepI w w.heap.size n n (.int .i64 x) w' := by
  obtain ⟨ad, rfl, hcx0⟩ := hr.2.2 (by decide)
  have hcx : w.cell? ad = some (.int .i64 x) := by
    obtain ⟨c, _, hK, hcc⟩ := hcx0 0 x rfl
    obtain rfl : c = [.int .i64 x] := hK
    have := hcc 0 _ rfl
    rwa [Nat.zero_mul, Nat.add_zero, show ad.add 0 = ad from by cases ad; rfl] at this
  have Hg := Aside0.mk hcx
  clear hcx0 hr hcx
  obtain ⟨v, hv0⟩ : ∃ v, v = Value.int .i64 x := ⟨_, rfl⟩
  have hv : v.oneCell' = true := by rw [hv0]; rfl
  rw [← hv0] at Hg ⊢
  clear hv0
  obtain ⟨m0, hm0⟩ : ∃ m0, m0 = Nat.min 1 n := ⟨_, rfl⟩
  have hm1 : m0 ≤ n ∧ (n = 0 ∨ m0 = 1) := by
    rw [hm0]
    refine ⟨Nat.min_le_right _ _, ?_⟩
    rcases Nat.eq_zero_or_pos n with h | h
    · exact .inl h
    · exact .inr (Nat.min_eq_left h)
  have hu := Try.underlying23
  obtain ⟨i0, hi, hzz⟩ := Option.map_eq_some_iff.1 infR
  simp only [Prod.mk.injEq] at hzz
  obtain ⟨hz0, hz1, hz2⟩ := hzz
  have Hm := Aside0.mk (mul_one n hn)
  have hwn : IntKind.u64.wrap (n : Int) = (n : Int) := u64_in (by omega) (by omega)
  have hmk0 := run_make (P := Try.prog) w 23 3 i0 _ Try.underlying23 hi hz0 .i64 .i64 (n : Int) (n : Int) (by omega) (Int.le_refl _) (by rw [hz2]; omega) (by omega)
  rw [hz1, Nat.mul_one, Int.toNat_natCast] at hmk0
  obtain ⟨Z, hZ, hZs⟩ : ∃ Z : Array Value, madeCells (Value.int .i64 0).cells n = Z ∧ Z.size = n := ⟨_, rfl, size_madeCells _ _⟩
  rw [hZ] at hmk0
  clear hZ hi hz0 hz1 hz2
  have HZs := Aside0.mk hZs
  have hB1 := Aside0.mk (below_alloc (Below.refl w.heap.size w) (.cells Z 3 (0, 0)))
  have hG1 := Aside0.mk (heap_at_new w (.cells Z 3 (0, 0)) _ rfl)
  have hcp := copy_blk (P := Try.prog) (w.alloc (.cells Z 3 (0, 0))) 23 23 3 3 1 w.heap.size 0 n n ad 1 c0 (List.replicate m0 v) Z 3 Try.underlying23 (by kernel_rfl) (by rw [Nat.mul_one, List.length_replicate]; exact hm0)
    (fun j u hj => by
      rw [List.getElem?_replicate] at hj
      split at hj
      · cases hj
        obtain rfl : j = 0 := by omega
        rw [show ad.add 0 = ad from by cases ad; rfl]
        exact (World.cell?_alloc_old w _ _ (Nat.ne_of_lt (World.block_lt_of_cell? w _ Hg.out))).trans Hg.out
      · cases hj) hG1.out (by rw [hZs, List.length_replicate]; omega) (fun u hu => by rw [(List.mem_replicate.1 hu).2]; exact hv)
  rw [show Nat.min 1 n = m0 from hm0.symm] at hcp
  have hset := Aside0.mk (setCells_blk (List.replicate m0 v) 0 _ Z hG1.out)
  have hR0 : Aside0 (RepI w w.heap.size n m0 v ((w.alloc (.cells Z 3 (0, 0))).setCells w.heap.size 0 (List.replicate m0 v))) := ⟨_, hset.out, by rw [putL_size]; exact hZs, fun j hj => by
    rw [putL_get _ _ _ _ (by rw [hZs, List.length_replicate]; omega), List.length_replicate, if_pos (by omega), List.getElem?_replicate, if_pos (by omega)], below_setCells (Nat.le_refl _) _ _ _ hB1.out⟩
  clear hset hG1 hB1 hZs
  have hn1 := Aside0.mk hm1
  clear hm0 hm1
  have hn2 := Aside0.mk hn
  have hnp : ¬ (n : Int) < 0 := by omega
  have hnq : ¬ (9223372036854775807 : Int) < (n : Int) := by omega
  have hwi : wrap64 (n : Int) = (n : Int) := by unfold wrap64; omega
  clear hn
  go_enter Try.func45, Try.ntmps45
  go_wp2_with (go_at_call 50; refine (Hm.out _).mono ?_; rintro e w1 ⟨rfl, hq⟩; rw [hq]; clear hq)
  clear hcp hmk0
  go_loopw [8] (fun i wr => ∃ k : Nat, (n = 0 ∨ 1 ≤ k) ∧ k ≤ n ∧ i = .int .i64 k ∧ Aside0 (RepI w w.heap.size n k v wr)) (fun i _ => n - (intOf i).toNat)
  case atStart => exact ⟨m0, by have := hn1.out; omega, hn1.out.1, rfl, hR0⟩
  case round =>
    clear hR0
    obtain ⟨k, hk1, hk, rfl, HR⟩ := hrel
    by_cases hlt : k < n
    · obtain ⟨cur, hcb, hcs, hcv, hB⟩ := HR.out
      have Hcb := Aside0.mk hcb
      have Hcs := Aside0.mk hcs
      have Hcv := Aside0.mk hcv
      have HB := Aside0.mk hB
      have hk2 : 1 ≤ k := by omega
      have hk0 := Aside0.mk hk2
      have hw1 : (k : Int) ≤ (n : Int) := by omega
      have hw2 : (0 : Int) ≤ (k : Int) := by omega
      have hw3 : (k : Int) < (n : Int) := by omega
      have hw4 : ¬ n = k := by omega
      clear hcb hcs hcv hB HR hk1 hk2
      go_upto_region 9 with fail
      refine start_ (n := 10) (S := fun w' => w'.heap[w.heap.size]? = some (.cells cur 3 (0, 0)) ∧ Below w.heap.size w w') (ds := [7]) #[false, false, false, false, false, false, false, false, false, false] (by kernel_rfl) rfl rfl ⟨(blk_drew Hcb.out), (below_step HB.out (below_drew1 (Below.refl _ _)))⟩ (fun hHeld => ?_)
      refine with_tabW rep.tab9 rep.bits9 (fun HT_ HW_ => ?_)
      generalize World.drew _ = Wd at hHeld ⊢
      refine pure_ (i := 0) (N := some 38) (v := ?_) (a' := ?_) #[true, false, false, false, false, false, false, false, false, false] rfl rfl (any_of HT_.out (by kernel_rfl)) (fun _ _ _ h => h) (Or.inl ⟨by rfl, ?_⟩) ?_ ?_
      rotate_left
      · intro w'
        go_simp
        with_reducible rfl
      rotate_left
      · simp only [Act.put, List.setIfInBounds_toArray, List.set_cons_zero, List.set_cons_succ, i64_w, i32_w]
        rfl
      refine pure_ (i := 1) (N := some 39) (v := ?_) (a' := ?_) #[true, true, false, false, false, false, false, false, false, false] rfl rfl (any_of HT_.out (by kernel_rfl)) (fun _ _ _ h => h) (Or.inl ⟨by rfl, ?_⟩) ?_ ?_
      rotate_left
      · intro w'
        go_simp
        with_reducible rfl
      rotate_left
      · simp only [Act.put, List.setIfInBounds_toArray, List.set_cons_zero, List.set_cons_succ, i64_w, i32_w]
        rfl
      refine pure_ (i := 2) (N := some 40) (v := ?_) (a' := ?_) #[true, true, true, false, false, false, false, false, false, false] rfl rfl (any_of HT_.out (by kernel_rfl)) (fun _ _ _ h => h) (Or.inl ⟨by rfl, ?_⟩) ?_ ?_
      rotate_left
      · intro w'
        go_simp
        with_reducible rfl
      rotate_left
      · simp only [Act.put, List.setIfInBounds_toArray, List.set_cons_zero, List.set_cons_succ, i64_w, i32_w]
        rfl
      refine pure_ (i := 3) (N := some 41) (v := ?_) (a' := ?_) #[true, true, true, true, false, false, false, false, false, false] rfl rfl (any_of HT_.out (by kernel_rfl)) (fun _ _ _ h => h) (Or.inl ⟨by rfl, ?_⟩) ?_ ?_
      rotate_left
      · intro w'
        go_simp
        with_reducible rfl
      rotate_left
      · simp only [Act.put, List.setIfInBounds_toArray, List.set_cons_zero, List.set_cons_succ, i64_w, i32_w]
        rfl
      refine pure_ (i := 4) (N := some 42) (v := ?_) (a' := ?_) #[true, true, true, true, true, false, false, false, false, false] rfl rfl (any_of HT_.out (by kernel_rfl)) (fun _ _ _ h => h) (Or.inl ⟨by rfl, ?_⟩) ?_ ?_
      rotate_left
      · intro w'
        go_simp
        with_reducible rfl
      rotate_left
      · simp only [Act.put, List.setIfInBounds_toArray, List.set_cons_zero, List.set_cons_succ, i64_w, i32_w]
        rfl
      refine pure_ (i := 5) (N := some 43) (v := ?_) (a' := ?_) #[true, true, true, true, true, true, false, false, false, false] rfl rfl (any_of HT_.out (by kernel_rfl)) (fun _ _ _ h => h) (Or.inl ⟨by rfl, ?_⟩) ?_ ?_
      rotate_left
      · intro w'
        go_simp
        with_reducible rfl
      rotate_left
      · simp only [Act.put, List.setIfInBounds_toArray, List.set_cons_zero, List.set_cons_succ, i64_w, i32_w]
        rfl
      refine pure_ (i := 6) (N := some 44) (v := ?_) (a' := ?_) #[true, true, true, true, true, true, true, false, false, false] rfl rfl (any_of HT_.out (by kernel_rfl)) (fun _ _ _ h => h) (Or.inl ⟨by rfl, ?_⟩) ?_ ?_
      rotate_left
      · intro w'
        go_simp
        with_reducible rfl
      rotate_left
      · simp only [Act.put, List.setIfInBounds_toArray, List.set_cons_zero, List.set_cons_succ, i64_w, i32_w]
        rfl
      have hCd := Aside0.mk hHeld.1
      have HBd := Aside0.mk hHeld.2
      refine last_ (i := 7) (N := some 45) #[true, true, true, true, true, true, true, true, false, false] rfl rfl (one_of HT_.out (by kernel_rfl)) (by decide) (fun K hK => ?_)
      refine copy_one (v := .slice (some ⟨w.heap.size, k, none⟩) (n - k) (n - k)) (u := .slice (some ⟨w.heap.size, 0, none⟩) k n) (by rfl) rfl _ _ 23 23 rfl (by rfl) (by rfl) (copy_blk (P := Try.prog) Wd 23 23 _ 3 1 w.heap.size k (n - k) (n - k) ⟨w.heap.size, 0, none⟩ k n (List.replicate (Nat.min k (n - k)) v) cur 3 hu (by kernel_rfl) (by rw [List.length_replicate, Nat.mul_one]) (fun j u hj => by
          rw [List.getElem?_replicate] at hj
          split at hj
          · cases hj
            rename_i hj
            have h5 : Nat.min k (n - k) ≤ k := Nat.min_le_left _ _
            rw [Addr.add_lit, Nat.zero_add, blk_cell hCd.out j]
            exact Hcv.out j (by omega)
          · cases hj) hCd.out (by rw [List.length_replicate, Hcs.out]; have h5 : Nat.min k (n - k) ≤ n - k := Nat.min_le_right _ _; omega) (fun u hu_ => by rw [(List.mem_replicate.1 hu_).2]; exact hv)) ?_
      refine hK.out _ _ ?_
      clear hK K
      refine norm_ (a' := ?_) ?_ ?_
      rotate_left
      · show Act.put _ (some 45) _ = _
        simp only [Act.put, List.setIfInBounds_toArray, List.set_cons_zero, List.set_cons_succ, i64_w, i32_w]
        rfl
      refine pure_ (i := 8) (N := some 46) (v := ?_) (a' := ?_) #[true, true, true, true, true, true, true, true, true, false] rfl rfl (any_of HT_.out (by kernel_rfl)) (fun _ _ _ h => h) (Or.inl ⟨by rfl, ?_⟩) ?_ ?_
      rotate_left
      · intro w'
        go_simp
        with_reducible rfl
      rotate_left
      · simp only [Act.put, List.setIfInBounds_toArray, List.set_cons_zero, List.set_cons_succ, i64_w, i32_w]
        rfl
      refine pure_ (i := 9) (N := some 8) (v := ?_) (a' := ?_) #[true, true, true, true, true, true, true, true, true, true] rfl rfl (any_of HT_.out (by kernel_rfl)) (fun _ _ _ h => h) (Or.inl ⟨by rfl, ?_⟩) ?_ ?_
      rotate_left
      · intro w'
        go_simp
        with_reducible rfl
      rotate_left
      · simp only [Act.put, List.setIfInBounds_toArray, List.set_cons_zero, List.set_cons_succ, i64_w, i32_w]
        rfl
      refine done_ (done_of HT_.out (by kernel_rfl)) ?_
      clear hHeld
      obtain ⟨m, hm⟩ : ∃ m, Nat.min k (n - k) = m := ⟨_, rfl⟩
      have hm1 : 0 < m ∧ m ≤ n - k := by
        have h5 := hk0.out
        rw [← hm]
        exact ⟨Nat.lt_min.2 ⟨by omega, by omega⟩, Nat.min_le_right _ _⟩
      rw [hm]
      clear hm
      have hwk : wrap64 ((k : Int) + (m : Int)) = ((k + m : Nat) : Int) := by
        have h5 := hn2.out
        unfold wrap64
        omega
      rw [hwk]
      have hR2 : Aside0 (RepI w w.heap.size n (k + m) v (Wd.setCells w.heap.size k (List.replicate m v))) := ⟨_, setCells_blk (List.replicate m v) k Wd cur hCd.out, by rw [putL_size]; exact Hcs.out, fun j hj => by
        rw [putL_get _ _ _ _ (by rw [List.length_replicate, Hcs.out]; omega), List.length_replicate]
        by_cases h6 : k ≤ j
        · rw [if_pos ⟨h6, hj⟩, List.getElem?_replicate, if_pos (by omega)]
        · rw [if_neg (by omega)]
          exact Hcv.out j (by omega), below_setCells (Nat.le_refl _) _ _ _ HBd.out⟩
      clear hwk hCd HBd Hcb Hcs Hcv HB hw1 hw2 hw3 hw4 HT_ HW_
      go_wp2
      go_round
      case rel => exact ⟨k + m, by omega, by omega, rfl, hR2⟩
      case measure => simp [intOf]; omega
    · go_wp2
      go_ret
      have e := HR.out
      obtain rfl : k = n := by omega
      exact ⟨rfl, e⟩


theorem slices_Repeat_int_int.calls (A0 : Option Addr) (c0 : Nat) (l0 : List Int) (a1 : Int) (r : List Int) (w : World) (hr0 : Kd.C (Kd.int .i64) w A0 l0.length l0) (hc0 : l0.length ≤ c0) (h : slices_Repeat_int_int.f l0 a1 = some r) :
    Calls Try.prog 45 #[.slice A0 l0.length c0, .int .i64 a1] w fun e w' => ∃ v0_ : Value, e = .returned (v0_) ∧ Kd.R (Kd.int .i64) 3 w' w.heap.size (fun _ => True) v0_ r ∧ Below w.heap.size w w' := by
  unfold slices_Repeat_int_int.f at h
  split at h
  · rename_i hl
    obtain ⟨h1, h2, h3⟩ := hl
    obtain rfl := Option.some.inj h
    obtain ⟨n, rfl⟩ := Int.eq_ofNat_of_zero_le h2
    match l0, h1 with
    | [x], _ =>
      refine (repeat_ n A0 c0 x w (by omega) hr0).mono ?_
      rintro e w' ⟨rfl, cur, hb, hs, hv, hB⟩
      refine ⟨_, rfl, Kd.R_of_own ⟨?_, .inr ⟨w.heap.size, n, cur, ?_, Nat.le_refl _, hb, ?_, ?_, ?_, ?_⟩⟩ (fun _ _ => trivial), hB⟩
      all_goals (try simp only [Int.toNat_natCast, List.getD_cons_zero, encs, List.length_map, List.length_replicate, Nat.mul_one, Array.length_toList])
      all_goals (first | done | rfl | omega | (simp only [maxLen]; omega) | skip)
      rw [List.take_of_length_le (by rw [Array.length_toList]; omega), List.map_replicate]
      apply List.ext_getElem?
      intro j
      rw [List.getElem?_replicate, Array.getElem?_toList]
      by_cases hj : j < n
      · rw [if_pos hj]; exact hv j hj
      · rw [if_neg hj, Array.getElem?_eq_none (by omega)]
  · cases h
end Go.Proofs.Ytgiinjfandeddaa.Q
