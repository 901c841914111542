/- By hand: the library's Insert at facts, in the middle. -/
import Derived.Test.YtebfcckaicgcfaaDoorFIns
namespace Go.Proofs.YtebfcckaicgcfaaDoor.Q
open Go.RowKit Go.Proofs.YtebfcckaicgcfaaDoorW.PrintWords Go.Proofs.YtebfcckaicgcfaaDoorW.PrintLast Go.Proofs.YtebfcckaicgcfaaDoorW.PrintMore
attribute [local go_sem] max2_int min2_int max_two min_two
set_option linter.unusedVariables false
set_option linter.unusedSimpArgs false

theorem wr_in {x : Int} (h : -9223372036854775808 ≤ x ∧ x ≤ 9223372036854775807) : wrap64 x = x := by
  unfold wrap64
  omega
theorem putL_shift (cur : Array Value) (fl rp : List Value) (i n : Nat) (hfl : fl.length = n * 9) (hrp : rp.length = 9) (hi : i ≤ n) (hc : (n + 1) * 9 ≤ cur.size) (hcur : cur.toList.take (n * 9) = fl) :
    (putL (putL cur ((i + 1) * 9) (fl.drop (i * 9))) (i * 9) rp).toList.take ((n + 1) * 9) = fl.take (i * 9) ++ (rp ++ fl.drop (i * 9)) := by
  have hget : ∀ k, k < n * 9 → cur[k]? = fl[k]? := fun k hk => by
    rw [← hcur, List.getElem?_take, if_pos hk]
    simp
  apply List.ext_getElem?
  intro k
  rw [List.getElem?_take]
  by_cases hk : k < (n + 1) * 9
  · rw [if_pos hk, Array.getElem?_toList, putL_get _ _ _ _ (by rw [putL_size, hrp]; omega), hrp]
    by_cases h1 : i * 9 ≤ k ∧ k < i * 9 + 9
    · rw [if_pos h1, List.getElem?_append_right (by rw [List.length_take]; omega), List.length_take, Nat.min_eq_left (by omega), List.getElem?_append_left (by omega)]
    · rw [if_neg h1, putL_get _ _ _ _ (by rw [List.length_drop, hfl]; omega), List.length_drop, hfl]
      by_cases h2 : (i + 1) * 9 ≤ k
      · rw [if_pos (by omega), List.getElem?_append_right (by rw [List.length_take]; omega), List.length_take, Nat.min_eq_left (by omega), List.getElem?_append_right (by omega), hrp, List.getElem?_drop, List.getElem?_drop]
        congr 1
        omega
      · rw [if_neg (by omega), List.getElem?_append_left (by rw [List.length_take]; omega), List.getElem?_take, if_pos (by omega), hget k (by omega)]
  · rw [if_neg hk]
    symm
    rw [List.getElem?_eq_none_iff]
    simp only [List.length_append, List.length_take, List.length_drop, hfl, hrp]
    omega

section
variable {P : Program} {ops : Array Oper} {Q : Exit → Act → World → Prop}
/-- 'copy' where its run is known. -/
theorem copy_one {oi : Oper} {N : Option Tmp} {a : Act} {w w' : World} {v u v' : Value} {K : Act → World → Prop} (hw : Region.wanted oi (yielded ops a.tmps) = true) (hN : oi.dst = N) (d x : Operand) (dT sT : TypeId)
    (hop : oi.op = .call { callee := .builtin .copy, args := #[d, x], argTypes := #[dT, sT] }) (hd : a.eval d = v) (hx : a.eval x = u) (hr : (Builtin.copy_ #[dT, sT] oi.type #[v, u]).run P w = .ok v' w')
    (h : K (a.put N v') w') : if Region.wanted oi (yielded ops a.tmps) = true then Oper.wp P oi a w K Q else K (a.put N undef) w := by
  refine value_ hw hN ?_ h
  unfold execOp
  simp [hop, resolve, invoke, builtin, hd, hx, hr]
theorem copyL_ {rest : List Oper} {oi : Oper} {a : Act} {w w' : World} {v u v' : Value} (hgd : oi.guard = none) (d x : Operand) (dT sT : TypeId)
    (hop : oi.op = .call { callee := .builtin .copy, args := #[d, x], argTypes := #[dT, sT] }) (hd : a.eval d = v) (hx : a.eval x = u) (hr : (Builtin.copy_ #[dT, sT] oi.type #[v, u]).run P w = .ok v' w')
    (h : wpList P ops Q rest (a.put oi.dst v') w') : wpList P ops Q (oi :: rest) a w := by
  refine wpList_plain hgd fun K hK => ?_
  have hrun : (execOp a.eval oi).run P w = .ok (.value v') w' := by
    unfold execOp
    simp [hop, resolve, invoke, builtin, hd, hx, hr]
  unfold Oper.wp
  rw [hrun]
  exact hK _ _ h
end

def ins.T15 : Bool × List (List Nat × List Nat) := (true, [([], []), ([], []), ([], []), ([1, 2], [1, 2]), ([0, 3], [0, 3]), ([], []), ([], []), ([5, 6], [5, 6]), ([4, 7], [4, 7])])
def ins.B15 : List Nat := [0, 0, 0, 6, 15, 0, 0, 96, 255]
theorem ins.tab15 : rtab .any (opsOf Tryd.f27 15) = ins.T15 := by kernel_rfl
theorem ins.bits15 : waitsOk ins.T15.2 ins.B15 = true := by kernel_rfl
def ins.T11 : Bool × List (List Nat × List Nat) := (true, [([], []), ([], []), ([], []), ([1, 2], [1, 2]), ([0, 3], [0, 3]), ([], []), ([], []), ([5, 6], [5, 6]), ([4, 7], [4, 7])])
def ins.B11 : List Nat := [0, 0, 0, 6, 15, 0, 0, 96, 255]
theorem ins.tab11 : rtab .any (opsOf Tryd.f27 11) = ins.T11 := by kernel_rfl
theorem ins.bits11 : waitsOk ins.T11.2 ins.B11 = true := by kernel_rfl
/-- Two blocks and all that lay. -/
def InIn (base : Nat) (W0 : World) (g vb : Nat) (cur : Array Value) (rp : List Value) (W : World) : Prop :=
  W.heap[g]? = some (.cells cur 24 (0, 0)) ∧ W.heap[vb]? = some (.cells rp.toArray 24 (0, 0)) ∧ Below base W0 W
set_option maxHeartbeats 4000000 in
set_option maxRecDepth 100000 in
theorem ins_room (l : List S24) (g cap : Nat) (cur : Array Value) (i : Nat) (vb base : Nat) (r : S24) (W : World) (hn : l.length < 4096) (hb : base ≤ g)
    (hg : W.heap[g]? = some (.cells cur 24 (0, 0))) (hcs : cur.size = cap * 9) (hct : cur.toList.take (l.length * 9) = flat l) (hroom : l.length + 1 ≤ cap) (hcm : cap ≤ maxLen) (hi : i < l.length)
    (hvb : W.heap[vb]? = some (.cells (repL r).toArray 24 (0, 0))) (hne : vb ≠ g) :
    Calls Tryd.prog 27 #[.slice (some ⟨g, 0, none⟩) l.length cap, .int .i64 (i : Nat), .slice (some ⟨vb, 0, none⟩) 1 1] W (InsOut base W l i r) := by
  have hu := Tryd.underlying22
  have hsz : ∀ w, (Go.sizeOf 24).run Tryd.prog w = .ok 9 w := Tryd.sizeOf24
  have hz1 : ¬ ((i : Int) = (l.length : Int)) := by omega
  have hov : ∀ lb cb, (callFunc 37 #[.slice (some ⟨vb, 0, none⟩) 1 1, .slice (some ⟨g, (i + 1) * 9, none⟩) lb cb]).run Tryd.prog W = .ok (.value (.bool false)) W := fun lb cb => by
    rw [run_callFunc_extern Tryd.func37 (by kernel_rfl) (by kernel_rfl) (by kernel_rfl) (e := Extern.SlicesOverlaps.overlaps #[22, 22] #[4]) (by kernel_rfl),
      Lib.run_overlaps_apart W 22 4 24 hu 9 hsz ⟨vb, 0, none⟩ ⟨g, (i + 1) * 9, none⟩ 1 1 lb cb hne 24 24 9 cur.size (by simp [World.shape?, hvb, repL]) (by simp [World.shape?, hg]) (by omega) (blk_frozen hvb 0) (blk_frozen hvb 9)]
    rfl
  simp only [maxLen] at hcm
  have HG := Aside0.mk hg
  have HV := Aside0.mk hvb
  have HT := Aside0.mk hct
  clear hg hvb hct
  go_enter Tryd.func27, Tryd.ntmps27
  have hk1 : ¬ (cap = i + 1) := by omega
  have hk2 : ¬ (cap = i) := by omega
  have hk3 : (i : Int) ≤ (l.length : Int) := by omega
  go_wp2_with fail
  have hcp1 : ∀ ty dc sc W', InIn base W g vb cur (repL r) W' → (Builtin.copy_ #[22, 22] ty #[.slice (some ⟨g, (i + 1) * 9, none⟩) (l.length - i) dc, .slice (some ⟨g, i * 9, none⟩) (l.length + 1 - i) sc]).run Tryd.prog W' = .ok (goInt (Nat.min (l.length + 1 - i) (l.length - i))) (W'.setCells g ((i + 1) * 9) ((flat l).drop (i * 9))) := fun ty dc sc W' hW' =>
    copy_blk W' _ _ ty 24 9 g ((i + 1) * 9) _ dc ⟨g, i * 9, none⟩ _ sc _ cur 24 hu (by kernel_rfl) (by rw [List.length_drop, flat_length]; simp only [Nat.min_def]; split <;> omega)
      (fun j v hj => by
        rw [Addr.add_lit, blk_cell hW'.1]
        rw [List.getElem?_drop] at hj
        have hlt : i * 9 + j < l.length * 9 := by have := (List.getElem?_eq_some_iff.1 hj).1; rw [flat_length] at this; exact this
        rw [← hj, ← HT.out, List.getElem?_take, if_pos hlt]
        simp) hW'.1 (by rw [List.length_drop, flat_length]; omega) (fun v hv => flat_one l v (List.mem_of_mem_drop hv))
  have hcp1 := Aside0.mk hcp1
  have hS0 : Aside0 (InIn base W g vb cur (repL r) W.drew) := ⟨blk_drew HG.out, blk_drew HV.out, below_drewB (Below.refl _ _)⟩
  have hw1 : wrap64 ((i : Int) + 1) = (i : Int) + 1 := wr_in (by omega)
  have hw2 : (0 : Int) ≤ (i : Int) + 1 := by omega
  have hw3 : (i : Int) + 1 ≤ (l.length : Int) + 1 := by omega
  have hw4 : ((i : Int) + 1).toNat = i + 1 := by omega
  have hw5 : (i : Int) ≤ (l.length : Int) + 1 := by omega
  refine start_ (n := 9) (S := (InIn base W g vb cur (repL r))) (ds := [8]) #[false, false, false, false, false, false, false, false, false] (by kernel_rfl) rfl rfl hS0.out (fun hHeld => ?_)
  clear hS0
  refine with_tabW ins.tab15 ins.bits15 (fun HT_ HW_ => ?_)
  generalize World.drew _ = Wd at hHeld ⊢
  refine pure_ (i := 0) (N := some 69) (v := ?_) (a' := ?_) #[true, false, false, false, false, false, false, false, false] rfl rfl (any_of HT_.out (by kernel_rfl)) (fun _ _ _ h => h) (Or.inl ⟨by rfl, ?_⟩) ?_ ?_
  rotate_left
  · intro w'
    go_simp
    with_reducible rfl
  rotate_left
  · simp only [Act.put, List.setIfInBounds_toArray, List.set_cons_zero, List.set_cons_succ, i64_w, i32_w]
    rfl
  refine pure_ (i := 1) (N := some 70) (v := ?_) (a' := ?_) #[true, true, false, false, false, false, false, false, false] rfl rfl (any_of HT_.out (by kernel_rfl)) (fun _ _ _ h => h) (Or.inl ⟨by rfl, ?_⟩) ?_ ?_
  rotate_left
  · intro w'
    go_simp
    with_reducible rfl
  rotate_left
  · simp only [Act.put, List.setIfInBounds_toArray, List.set_cons_zero, List.set_cons_succ, i64_w, i32_w]
    rfl
  refine pure_ (i := 2) (N := some 71) (v := ?_) (a' := ?_) #[true, true, true, false, false, false, false, false, false] rfl rfl (any_of HT_.out (by kernel_rfl)) (fun _ _ _ h => h) (Or.inl ⟨by rfl, ?_⟩) ?_ ?_
  rotate_left
  · intro w'
    go_simp
    with_reducible rfl
  rotate_left
  · simp only [Act.put, List.setIfInBounds_toArray, List.set_cons_zero, List.set_cons_succ, i64_w, i32_w]
    rfl
  refine pure_ (i := 3) (N := some 72) (v := ?_) (a' := ?_) #[true, true, true, true, false, false, false, false, false] rfl rfl (any_of HT_.out (by kernel_rfl)) (fun _ _ _ h => h) (Or.inl ⟨by rfl, ?_⟩) ?_ ?_
  rotate_left
  · intro w'
    go_simp
    with_reducible rfl
  rotate_left
  · simp only [Act.put, List.setIfInBounds_toArray, List.set_cons_zero, List.set_cons_succ, i64_w, i32_w]
    rfl
  refine pure_ (i := 4) (N := some 73) (v := ?_) (a' := ?_) #[true, true, true, true, true, false, false, false, false] rfl rfl (any_of HT_.out (by kernel_rfl)) (fun _ _ _ h => h) (Or.inl ⟨by rfl, ?_⟩) ?_ ?_
  rotate_left
  · intro w'
    go_simp
    with_reducible rfl
  rotate_left
  · simp only [Act.put, List.setIfInBounds_toArray, List.set_cons_zero, List.set_cons_succ, i64_w, i32_w]
    rfl
  refine pure_ (i := 5) (N := some 74) (v := ?_) (a' := ?_) #[true, true, true, true, true, true, false, false, false] rfl rfl (any_of HT_.out (by kernel_rfl)) (fun _ _ _ h => h) (Or.inl ⟨by rfl, ?_⟩) ?_ ?_
  rotate_left
  · intro w'
    go_simp
    with_reducible rfl
  rotate_left
  · simp only [Act.put, List.setIfInBounds_toArray, List.set_cons_zero, List.set_cons_succ, i64_w, i32_w]
    rfl
  refine pure_ (i := 6) (N := some 75) (v := ?_) (a' := ?_) #[true, true, true, true, true, true, true, false, false] rfl rfl (any_of HT_.out (by kernel_rfl)) (fun _ _ _ h => h) (Or.inl ⟨by rfl, ?_⟩) ?_ ?_
  rotate_left
  · intro w'
    go_simp
    with_reducible rfl
  rotate_left
  · simp only [Act.put, List.setIfInBounds_toArray, List.set_cons_zero, List.set_cons_succ, i64_w, i32_w]
    rfl
  refine pure_ (i := 7) (N := some 76) (v := ?_) (a' := ?_) #[true, true, true, true, true, true, true, true, false] rfl rfl (any_of HT_.out (by kernel_rfl)) (fun _ _ _ h => h) (Or.inl ⟨by rfl, ?_⟩) ?_ ?_
  rotate_left
  · intro w'
    go_simp
    with_reducible rfl
  rotate_left
  · simp only [Act.put, List.setIfInBounds_toArray, List.set_cons_zero, List.set_cons_succ, i64_w, i32_w]
    rfl
  refine last_ (i := 8) (N := some 77) #[true, true, true, true, true, true, true, true, true] rfl rfl (one_of HT_.out (by kernel_rfl)) (by decide) (fun K hK => ?_)
  refine copy_one (v := .slice (some ⟨g, (i + 1) * 9, none⟩) (l.length - i) (cap - (i + 1))) (u := .slice (some ⟨g, i * 9, none⟩) (l.length + 1 - i) (cap - i)) (by rfl) rfl _ _ 22 22 rfl (by rfl) (by rfl) (hcp1.out _ _ _ _ hHeld) ?_
  refine hK.out _ _ ?_
  clear hK K
  refine norm_ (a' := ?_) ?_ ?_
  rotate_left
  · show Act.put _ (some 77) _ = _
    simp only [Act.put, List.setIfInBounds_toArray, List.set_cons_zero, List.set_cons_succ, i64_w, i32_w]
    rfl
  refine done_ (done_of HT_.out (by kernel_rfl)) ?_
  clear hw1 hw2 hw3 hw4
  have hG2 := setCells_blk ((flat l).drop (i * 9)) ((i + 1) * 9) Wd cur hHeld.1
  have hV2 : (Wd.setCells g ((i + 1) * 9) ((flat l).drop (i * 9))).heap[vb]? = some (.cells (repL r).toArray 24 (0, 0)) := setCells_far hne _ _ _ hHeld.2.1
  have hB2 := below_setCells hb ((flat l).drop (i * 9)) ((i + 1) * 9) Wd hHeld.2.2
  obtain ⟨W2, hW2⟩ : ∃ W2, Wd.setCells g ((i + 1) * 9) ((flat l).drop (i * 9)) = W2 := ⟨_, rfl⟩
  rw [hW2] at hG2 hV2 hB2 ⊢
  clear hW2
  have hG2 := Aside0.mk hG2
  have hV2 := Aside0.mk hV2
  have hB2 := Aside0.mk hB2
  have hcp2 : Aside0 (∀ ty dc sc, (Builtin.copy_ #[22, 22] ty #[.slice (some ⟨g, i * 9, none⟩) (l.length + 1 - i) dc, .slice (some ⟨vb, 0, none⟩) 1 sc]).run Tryd.prog W2 = .ok (goInt (Nat.min 1 (l.length + 1 - i))) (W2.setCells g (i * 9) (repL r))) := ⟨fun ty dc sc =>
    copy_blk W2 _ _ ty 24 9 g (i * 9) _ dc ⟨vb, 0, none⟩ 1 sc _ _ 24 hu (by kernel_rfl) (by show 9 = _; simp only [Nat.min_def]; split <;> omega)
      (fun j v hj => by rw [Addr.add_lit, Nat.zero_add, blk_cell hV2.out]; simpa using hj) hG2.out (by rw [putL_size]; show i * 9 + 9 ≤ _; omega) (repL_one r)⟩
  clear hHeld HG HV hcp1 hov
  have hcp3 := hcp2.out 3 (cap - i) 1
  go_wp2
  go_ret
  have hG3 := setCells_blk (repL r) (i * 9) W2 _ hG2.out
  refine ⟨_, rfl, ⟨by rw [flat_length, insAt_length l i r (by omega)], .inr ⟨g, cap, _, rfl, hb, hG3, hroom, by simp only [maxLen]; omega, by rw [putL_size, putL_size]; exact hcs, ?_⟩⟩, below_setCells hb _ _ _ hB2.out⟩
  rw [flat_ins]
  exact putL_shift cur (flat l) (repL r) i l.length (flat_length l) rfl (by omega) (by omega) HT.out

theorem putL_grow (row : Array Value) (fl rp : List Value) (i n : Nat) (hfl : fl.length = n * 9) (hrp : rp.length = 9) (hi : i ≤ n) (hc : (n + 1) * 9 ≤ row.size) (hrow : ∀ k, k < i * 9 → row[k]? = fl[k]?) :
    (putL (putL row (i * 9) rp) ((i + 1) * 9) (fl.drop (i * 9))).toList.take ((n + 1) * 9) = fl.take (i * 9) ++ (rp ++ fl.drop (i * 9)) := by
  apply List.ext_getElem?
  intro k
  rw [List.getElem?_take]
  by_cases hk : k < (n + 1) * 9
  · rw [if_pos hk, Array.getElem?_toList, putL_get _ _ _ _ (by rw [putL_size, List.length_drop, hfl]; omega), List.length_drop, hfl]
    by_cases h2 : (i + 1) * 9 ≤ k
    · rw [if_pos (by omega), List.getElem?_append_right (by rw [List.length_take]; omega), List.length_take, Nat.min_eq_left (by omega), List.getElem?_append_right (by omega), hrp, List.getElem?_drop, List.getElem?_drop]
      congr 1
      omega
    · rw [if_neg (by omega), putL_get _ _ _ _ (by rw [hrp]; omega), hrp]
      by_cases h1 : i * 9 ≤ k
      · rw [if_pos (by omega), List.getElem?_append_right (by rw [List.length_take]; omega), List.length_take, Nat.min_eq_left (by omega), List.getElem?_append_left (by omega)]
      · rw [if_neg (by omega), List.getElem?_append_left (by rw [List.length_take]; omega), List.getElem?_take, if_pos (by omega), hrow k (by omega)]
  · rw [if_neg hk]
    symm
    rw [List.getElem?_eq_none_iff]
    simp only [List.length_append, List.length_take, List.length_drop, hfl, hrp]
    omega

set_option maxHeartbeats 600000 in
set_option maxRecDepth 100000 in
theorem ins_grow (l : List S24) (g : Nat) (cur : Array Value) (i : Nat) (vb base : Nat) (r : S24) (W : World) (hn : l.length < 4096) (hb : base ≤ W.heap.size)
    (hg : W.heap[g]? = some (.cells cur 24 (0, 0))) (hcs : cur.size = l.length * 9) (hct : cur.toList.take (l.length * 9) = flat l) (hi : i < l.length)
    (hvb : W.heap[vb]? = some (.cells (repL r).toArray 24 (0, 0))) :
    Calls Tryd.prog 27 #[.slice (some ⟨g, 0, none⟩) l.length l.length, .int .i64 (i : Nat), .slice (some ⟨vb, 0, none⟩) 1 1] W (InsOut base W l i r) := by
  have hu := Tryd.underlying22
  have hz1 : ¬ ((i : Int) = (l.length : Int)) := by omega
  have HW : Aside0 (wrap64 ((i : Int) + 1) = (i : Int) + 1 ∧ (0 : Int) ≤ (i : Int) + 1 ∧ (i : Int) + 1 ≤ (l.length : Int) + 1 ∧ ((i : Int) + 1).toNat = i + 1 ∧ (i : Int) ≤ (l.length : Int)) := ⟨wr_in (by omega), by omega, by omega, by omega, by omega⟩
  have HDL : Aside0 (l.length * 9 - i * 9 = Nat.min (l.length - i) (l.length - i) * 9) := ⟨by rw [show Nat.min (l.length - i) (l.length - i) = l.length - i from Nat.min_self _]; omega⟩
  have HLE : Aside0 (i ≤ l.length) := ⟨by omega⟩
  obtain ⟨i0, hi0, hzz⟩ := Option.map_eq_some_iff.1 info24
  simp only [Prod.mk.injEq] at hzz
  obtain ⟨hz0, hsz, hbz⟩ := hzz
  have hfl : ∀ j, j < l.length * 9 → cur[j]? = (flat l)[j]? := fun j hj => by
    rw [← hct, List.getElem?_take, if_pos hj]
    simp
  have hold : (Builtin.firstCells i0.size i (.slice (some ⟨g, 0, none⟩) i l.length)).run Tryd.prog W.drew = .ok ((flat l).take (i * 9)).toArray W.drew := by
    rw [hsz]
    exact run_firstCells_some W.drew 9 i ⟨g, 0, none⟩ i l.length ((flat l).take (i * 9)) (by rw [List.length_take, flat_length]; omega) (fun j v hj => by
      rw [Addr.add_lit, Nat.zero_add]
      rw [List.getElem?_take] at hj
      split at hj
      · rw [← hj]
        exact (blk_cell (blk_drew hg) j).trans (hfl j (by omega))
      · cases hj)
  obtain ⟨G, hG⟩ : ∃ G, Aside0 (G = grownCap W (l.length + 1) l.length 24) := ⟨_, ⟨rfl⟩⟩
  obtain ⟨ROW, hROW⟩ : ∃ ROW : Array Value, Aside0 (ROW = ((flat l).take (i * 9)).toArray ++ Builtin.zeroCells (facC z24) (l.length + 1 - i) ++ Builtin.zeroCells (facC z24) (G - (l.length + 1))) := ⟨_, ⟨rfl⟩⟩
  have hGn : l.length + 1 ≤ G := by rw [hG.out]; exact grownCap_ge W _ _ _
  have hGm : G ≤ maxLen := by rw [hG.out]; exact grownCap_le_maxLen W (l.length + 1) l.length 24 (by unfold maxLen; omega)
  have HGM := Aside0.mk hGm
  have HD2 : Aside0 ((i + 1) * 9 + (l.length * 9 - i * 9) ≤ G * 9) := ⟨by omega⟩
  have HG9 : Aside0 ((l.length + 1) * 9 ≤ G * 9) := ⟨by omega⟩
  have hRs : ROW.size = G * 9 := by
    rw [hROW.out]
    simp [Builtin.zeroCells, facC, flat_length]
    omega
  have hRk : ∀ k, k < i * 9 → ROW[k]? = (flat l)[k]? := fun k hk => by
    rw [hROW.out, Array.append_assoc, Array.getElem?_append_left (by simp [flat_length]; omega)]
    simp [List.getElem?_take, hk]
  have hrz : ∀ ty (x : Int), x = ((l.length + 1 - i : Nat) : Int) → (Builtin.append_ #[22, 3] ty #[.slice (some ⟨g, 0, none⟩) i l.length, .int .i64 x]).run Tryd.prog W = .ok (.slice (some ⟨W.heap.size, 0, none⟩) (l.length + 1) G) (W.drew.alloc (.cells ROW 24 (0, 0))) := fun ty x hx => by
    subst hx
    have h := Lib.run_append_grow_zeros W 22 3 ty 24 i0 _ .i64 .i64 hu Tryd.underlying3 hi0 hz0 (some ⟨g, 0, none⟩) i l.length _ hold (l.length + 1 - i) (by omega) (by omega) (by omega) (by omega) (by rw [hbz]; omega) (by rw [hbz, show i + (l.length + 1 - i) = l.length + 1 by omega]; exact growslice_fits (by omega) (by omega))
    rw [show i + (l.length + 1 - i) = l.length + 1 by omega, ← hG.out] at h
    rw [hROW.out]
    exact h
  have hrz := Aside0.mk hrz
  have HG := Aside0.mk hg
  have HV := Aside0.mk hvb
  have HRS := Aside0.mk hRs
  have HRK := Aside0.mk hRk
  have HFL := Aside0.mk hfl
  clear hg hvb hct hold hfl hRs hRk
  go_enter Tryd.func27, Tryd.ntmps27
  have hrz2 := Aside0.mk (fun ty => hrz.out ty ((l.length : Int) + 1 - (i : Int)) (by omega))
  clear hrz
  obtain ⟨N, hN⟩ : ∃ N, W.heap.size = N := ⟨_, rfl⟩
  have hgN : g < N := by rw [← hN]; exact blk_lt HG.out
  have hvN : vb < N := by rw [← hN]; exact blk_lt HV.out
  rw [hN] at hrz2 hb
  obtain ⟨W1, hW1⟩ : ∃ W1, W.drew.alloc (.cells ROW 24 (0, 0)) = W1 := ⟨_, rfl⟩
  have hN1 : Aside0 (W1.heap[N]? = some (.cells ROW 24 (0, 0))) := ⟨by rw [← hW1, ← hN]; exact heap_at_new _ _ _ rfl⟩
  have hG1 : Aside0 (W1.heap[g]? = some (.cells cur 24 (0, 0))) := ⟨by rw [← hW1]; exact heap_at_old _ _ _ _ (blk_drew HG.out)⟩
  have hV1 : Aside0 (W1.heap[vb]? = some (.cells (repL r).toArray 24 (0, 0))) := ⟨by rw [← hW1]; exact heap_at_old _ _ _ _ (blk_drew HV.out)⟩
  have hB1 : Aside0 (Below base W W1) := ⟨by rw [← hW1]; exact Below.alloc (below_drewB (Below.refl _ _)) (by rw [← hN] at hb; exact hb) _⟩
  rw [hW1] at hrz2
  clear hW1 hN
  have hcpA : Aside0 (∀ ty dc sc, (Builtin.copy_ #[22, 22] ty #[.slice (some ⟨N, i * 9, none⟩) (l.length + 1 - i) dc, .slice (some ⟨vb, 0, none⟩) 1 sc]).run Tryd.prog W1 = .ok (goInt (Nat.min 1 (l.length + 1 - i))) (W1.setCells N (i * 9) (repL r))) := ⟨fun ty dc sc =>
    copy_blk W1 _ _ ty 24 9 N (i * 9) _ dc ⟨vb, 0, none⟩ 1 sc _ _ 24 hu (by kernel_rfl) (by show 9 = _; simp only [Nat.min_def]; split <;> omega)
      (fun j v hj => by rw [Addr.add_lit, Nat.zero_add, blk_cell hV1.out]; simpa using hj) hN1.out (by rw [HRS.out]; show i * 9 + 9 ≤ _; omega) (repL_one r)⟩
  have hk1 : ¬ (G = i) := by omega
  have hk2 : ¬ (G = i + 1) := by omega
  have hk3 : ¬ (l.length = i) := by omega
  simp only [maxLen] at hGm
  have hcpA' := hcpA.out 3 (G - i) 1
  go_wp2_with (at_builtin; refine Lib.wpList_append_run _ rfl _ _ 22 3 rfl _ _ rfl rfl _ _ (hrz2.out _) ?_)
  clear hcpA'
  have hN2 := setCells_blk (repL r) (i * 9) W1 ROW hN1.out
  have hG2 := setCells_far (show g ≠ N by omega) (repL r) (i * 9) W1 hG1.out
  have hB2 := below_setCells (show base ≤ N from hb) (repL r) (i * 9) W1 hB1.out
  obtain ⟨row2, hrow2⟩ : ∃ row2, Aside0 (putL ROW (i * 9) (repL r) = row2) := ⟨_, ⟨rfl⟩⟩
  rw [hrow2.out] at hN2
  obtain ⟨W2, hW2⟩ : ∃ W2, W1.setCells N (i * 9) (repL r) = W2 := ⟨_, rfl⟩
  rw [hW2] at hN2 hG2 hB2 ⊢
  clear hW2
  have hS0 : Aside0 (InIn base W N g row2 cur.toList W2.drew) := ⟨blk_drew hN2, (congrArg (fun x => some (Obj.cells x 24 (0, 0))) (Array.toArray_toList (xs := cur))) ▸ blk_drew hG2, below_drewB hB2⟩
  clear hN2 hG2 hB2
  have hr2s : Aside0 (row2.size = G * 9) := ⟨by rw [← hrow2.out, putL_size]; exact HRS.out⟩
  have hcp2 : Aside0 (∀ ty dc sc W', InIn base W N g row2 cur.toList W' → (Builtin.copy_ #[22, 22] ty #[.slice (some ⟨N, (i + 1) * 9, none⟩) (l.length - i) dc, .slice (some ⟨g, i * 9, none⟩) (l.length - i) sc]).run Tryd.prog W' = .ok (goInt (Nat.min (l.length - i) (l.length - i))) (W'.setCells N ((i + 1) * 9) ((flat l).drop (i * 9)))) := ⟨fun ty dc sc W' hW' =>
    copy_blk W' _ _ ty 24 9 N ((i + 1) * 9) _ dc ⟨g, i * 9, none⟩ _ sc _ row2 24 hu (by kernel_rfl) (by rw [List.length_drop, flat_length]; exact HDL.out)
      (fun j v hj => by
        rw [Addr.add_lit, blk_cell hW'.2.1]
        rw [List.getElem?_drop] at hj
        have hlt : i * 9 + j < l.length * 9 := by have := (List.getElem?_eq_some_iff.1 hj).1; rw [flat_length] at this; exact this
        rw [← hj, ← HFL.out _ hlt, List.getElem?_toArray, Array.getElem?_toList]) hW'.1 (by rw [List.length_drop, flat_length, hr2s.out]; exact HD2.out) (fun v hv => flat_one l v (List.mem_of_mem_drop hv))⟩
  obtain ⟨hw1, hw2, hw3, hw4, hw5⟩ := HW.out
  refine start_ (n := 9) (S := (InIn base W N g row2 cur.toList)) (ds := [8]) #[false, false, false, false, false, false, false, false, false] (by kernel_rfl) rfl rfl hS0.out (fun hHeld => ?_)
  clear hS0
  refine with_tabW ins.tab11 ins.bits11 (fun HT_ HW_ => ?_)
  generalize World.drew _ = Wd at hHeld ⊢
  refine pure_ (i := 0) (N := some 46) (v := ?_) (a' := ?_) #[true, false, false, false, false, false, false, false, false] rfl rfl (any_of HT_.out (by kernel_rfl)) (fun _ _ _ h => h) (Or.inl ⟨by rfl, ?_⟩) ?_ ?_
  rotate_left
  · intro w'
    go_simp
    with_reducible rfl
  rotate_left
  · simp only [Act.put, List.setIfInBounds_toArray, List.set_cons_zero, List.set_cons_succ, i64_w, i32_w]
    rfl
  refine pure_ (i := 1) (N := some 47) (v := ?_) (a' := ?_) #[true, true, false, false, false, false, false, false, false] rfl rfl (any_of HT_.out (by kernel_rfl)) (fun _ _ _ h => h) (Or.inl ⟨by rfl, ?_⟩) ?_ ?_
  rotate_left
  · intro w'
    go_simp
    with_reducible rfl
  rotate_left
  · simp only [Act.put, List.setIfInBounds_toArray, List.set_cons_zero, List.set_cons_succ, i64_w, i32_w]
    rfl
  refine pure_ (i := 2) (N := some 48) (v := ?_) (a' := ?_) #[true, true, true, false, false, false, false, false, false] rfl rfl (any_of HT_.out (by kernel_rfl)) (fun _ _ _ h => h) (Or.inl ⟨by rfl, ?_⟩) ?_ ?_
  rotate_left
  · intro w'
    go_simp
    with_reducible rfl
  rotate_left
  · simp only [Act.put, List.setIfInBounds_toArray, List.set_cons_zero, List.set_cons_succ, i64_w, i32_w]
    rfl
  refine pure_ (i := 3) (N := some 49) (v := ?_) (a' := ?_) #[true, true, true, true, false, false, false, false, false] rfl rfl (any_of HT_.out (by kernel_rfl)) (fun _ _ _ h => h) (Or.inl ⟨by rfl, ?_⟩) ?_ ?_
  rotate_left
  · intro w'
    go_simp
    with_reducible rfl
  rotate_left
  · simp only [Act.put, List.setIfInBounds_toArray, List.set_cons_zero, List.set_cons_succ, i64_w, i32_w]
    rfl
  refine pure_ (i := 4) (N := some 50) (v := ?_) (a' := ?_) #[true, true, true, true, true, false, false, false, false] rfl rfl (any_of HT_.out (by kernel_rfl)) (fun _ _ _ h => h) (Or.inl ⟨by rfl, ?_⟩) ?_ ?_
  rotate_left
  · intro w'
    go_simp
    with_reducible rfl
  rotate_left
  · simp only [Act.put, List.setIfInBounds_toArray, List.set_cons_zero, List.set_cons_succ, i64_w, i32_w]
    rfl
  refine pure_ (i := 5) (N := some 51) (v := ?_) (a' := ?_) #[true, true, true, true, true, true, false, false, false] rfl rfl (any_of HT_.out (by kernel_rfl)) (fun _ _ _ h => h) (Or.inl ⟨by rfl, ?_⟩) ?_ ?_
  rotate_left
  · intro w'
    go_simp
    with_reducible rfl
  rotate_left
  · simp only [Act.put, List.setIfInBounds_toArray, List.set_cons_zero, List.set_cons_succ, i64_w, i32_w]
    rfl
  refine pure_ (i := 6) (N := some 52) (v := ?_) (a' := ?_) #[true, true, true, true, true, true, true, false, false] rfl rfl (any_of HT_.out (by kernel_rfl)) (fun _ _ _ h => h) (Or.inl ⟨by rfl, ?_⟩) ?_ ?_
  rotate_left
  · intro w'
    go_simp
    with_reducible rfl
  rotate_left
  · simp only [Act.put, List.setIfInBounds_toArray, List.set_cons_zero, List.set_cons_succ, i64_w, i32_w]
    rfl
  refine pure_ (i := 7) (N := some 53) (v := ?_) (a' := ?_) #[true, true, true, true, true, true, true, true, false] rfl rfl (any_of HT_.out (by kernel_rfl)) (fun _ _ _ h => h) (Or.inl ⟨by rfl, ?_⟩) ?_ ?_
  rotate_left
  · intro w'
    go_simp
    with_reducible rfl
  rotate_left
  · simp only [Act.put, List.setIfInBounds_toArray, List.set_cons_zero, List.set_cons_succ, i64_w, i32_w]
    rfl
  refine last_ (i := 8) (N := some 54) #[true, true, true, true, true, true, true, true, true] rfl rfl (one_of HT_.out (by kernel_rfl)) (by decide) (fun K hK => ?_)
  refine copy_one (v := .slice (some ⟨N, (i + 1) * 9, none⟩) (l.length - i) (G - (i + 1))) (u := .slice (some ⟨g, i * 9, none⟩) (l.length - i) (l.length - i)) (by rfl) rfl _ _ 22 22 rfl (by rfl) (by rfl) (hcp2.out _ _ _ _ hHeld) ?_
  refine hK.out _ _ ?_
  clear hK K
  refine norm_ (a' := ?_) ?_ ?_
  rotate_left
  · show Act.put _ (some 54) _ = _
    simp only [Act.put, List.setIfInBounds_toArray, List.set_cons_zero, List.set_cons_succ, i64_w, i32_w]
    rfl
  refine done_ (done_of HT_.out (by kernel_rfl)) ?_
  clear hw1 hw2 hw3 hw4 hw5
  go_wp2
  go_ret
  have hG3 := setCells_blk ((flat l).drop (i * 9)) ((i + 1) * 9) Wd row2 hHeld.1
  refine ⟨_, rfl, ⟨by rw [flat_length, insAt_length l i r HLE.out], .inr ⟨N, G, _, rfl, hb, hG3, hGn, HGM.out, by rw [putL_size]; exact hr2s.out, ?_⟩⟩, below_setCells hb _ _ _ hHeld.2.2⟩
  rw [flat_ins, ← hrow2.out]
  exact putL_grow ROW (flat l) (repL r) i l.length (flat_length l) rfl HLE.out (by rw [HRS.out]; exact HG9.out) HRK.out
end Go.Proofs.YtebfcckaicgcfaaDoor.Q
