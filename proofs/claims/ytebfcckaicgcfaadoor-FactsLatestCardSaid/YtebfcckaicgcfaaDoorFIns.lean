/- By hand: the library's Clone and Insert at facts. -/
import Derived.Test.YtebfcckaicgcfaaDoorFKn
import Derived.RegionTactic
import Derived.Deep.RegionWith
import Derived.StillTailTactics
import Derived.Shelf.RegionOpenPlain
import Derived.Lib.Walk
import Derived.Lib.SliceRun
import Derived.Lib.Overlaps
import Derived.Lib.AppendZerosOnto
import Derived.Laws.AppendOwn
import Derived.Laws.IdiomCopy
import Derived.Laws.Externs
namespace Go.Proofs.YtebfcckaicgcfaaDoor.Q
open Go.RowKit Go.Proofs.YtebfcckaicgcfaaDoorW.PrintWords Go.Proofs.YtebfcckaicgcfaaDoorW.PrintLast Go.Proofs.YtebfcckaicgcfaaDoorW.PrintMore
attribute [local go_sem] max2_int min2_int max_two min_two
set_option linter.unusedVariables false
set_option linter.unusedSimpArgs false

/-- Cells written from a place on. -/
def putL (cs : Array Value) : Nat → List Value → Array Value
  | _, [] => cs
  | o, v :: r => putL (cs.setIfInBounds o v) (o + 1) r
theorem putL_size (vs : List Value) : ∀ (cs : Array Value) (o : Nat), (putL cs o vs).size = cs.size := by
  induction vs with
  | nil => intros; rfl
  | cons v r ih => intro cs o; rw [putL, ih]; simp
theorem putL_get (vs : List Value) : ∀ (cs : Array Value) (o i : Nat), o + vs.length ≤ cs.size → (putL cs o vs)[i]? = if o ≤ i ∧ i < o + vs.length then vs[i - o]? else cs[i]? := by
  induction vs with
  | nil => intro cs o i h; rw [putL, if_neg (by simp only [List.length_nil]; omega)]
  | cons v r ih =>
    intro cs o i h
    simp only [List.length_cons] at h
    rw [putL, ih _ _ _ (by simp; omega)]
    by_cases h1 : o + 1 ≤ i ∧ i < o + 1 + r.length
    · rw [if_pos h1, if_pos (by simp only [List.length_cons]; omega), show i - o = (i - (o + 1)) + 1 by omega, List.getElem?_cons_succ]
    · rw [if_neg h1, Array.getElem?_setIfInBounds]
      by_cases h2 : o = i
      · subst h2
        rw [if_pos rfl, if_pos (by omega), if_pos (by simp only [List.length_cons]; omega)]
        simp
      · rw [if_neg h2, if_neg (by simp only [List.length_cons]; omega)]

/-- The cells of facts. -/
def repL (r : S24) : List Value := [.int .i64 r.f0, .int .i64 r.f1, .int .i64 r.f2, .int .i64 r.f3, .int .i64 r.f4, .int .i64 r.f5, .int .i64 r.f6, .int .i64 r.f7, .int .i64 r.f8]
def flat (l : List S24) : List Value := l.flatMap repL
theorem flat_length (l : List S24) : (flat l).length = l.length * 9 := by
  induction l with
  | nil => rfl
  | cons a r ih =>
    show (repL a ++ flat r).length = _
    rw [List.length_append, ih, List.length_cons]
    show 9 + _ = _
    omega
theorem flat_append (a b : List S24) : flat (a ++ b) = flat a ++ flat b := by simp [flat]
theorem flat_seg : ∀ (l : List S24) (j : Nat) (p : S24), l[j]? = some p → ((flat l).drop (j * 9)).take 9 = repL p
  | a :: r, 0, p, h => by
    simp only [List.getElem?_cons_zero, Option.some.injEq] at h
    subst h
    show ((repL a ++ flat r).drop (0 * 9)).take 9 = _
    rw [Nat.zero_mul, List.drop_zero, List.take_append_of_le_length (Nat.le_refl 9)]
    rfl
  | a :: r, j + 1, p, h => by
    simp only [List.getElem?_cons_succ] at h
    show ((repL a ++ flat r).drop ((j + 1) * 9)).take 9 = _
    rw [show (j + 1) * 9 = (repL a).length + j * 9 by show _ = 9 + _; omega, List.drop_append, List.drop_eq_nil_of_le (by omega), List.nil_append, Nat.add_sub_cancel_left]
    exact flat_seg r j p h
theorem flat_one (l : List S24) : ∀ v ∈ flat l, v.oneCell' = true := by
  intro v hv
  obtain ⟨r, _, hr⟩ := List.mem_flatMap.1 hv
  simp only [repL, List.mem_cons, List.not_mem_nil, or_false] at hr
  rcases hr with rfl | rfl | rfl | rfl | rfl | rfl | rfl | rfl | rfl <;> rfl
theorem repL_one (r : S24) : ∀ v ∈ repL r, v.oneCell' = true := by
  intro v hr
  simp only [repL, List.mem_cons, List.not_mem_nil, or_false] at hr
  rcases hr with rfl | rfl | rfl | rfl | rfl | rfl | rfl | rfl | rfl <;> rfl
theorem flat_R {w : World} {base : Nat} {v : Value} {l : List S24} (h : w.ownsRow base 24 9 v l.length (flat l)) : Kd.R k24 24 w base (fun _ => True) v l :=
  ⟨fun _ _ => trivial, flat l, h, flat_length l, fun j p hj => by
    show k24.M w base _ p (((flat l).drop (j * 9)).take 9)
    rw [flat_seg l j p hj]
    exact k24_mkM _ _ _ _⟩
theorem flat_C {w : World} {ad : Addr} {n : Nat} {l : List S24} (h : Kd.C k24 w (some ad) n l) : ∀ j u, (flat l)[j]? = some u → w.cell? (ad.add j) = some u := by
  intro j u hj
  have hl : j < (flat l).length := (List.getElem?_eq_some_iff.1 hj).1
  rw [flat_length] at hl
  have hn : 0 < n := by have := h.1; omega
  obtain ⟨ad', e, hc⟩ := h.2.2 hn
  cases e
  obtain ⟨c, h1, h2, h3⟩ := hc (j / 9) _ (List.getElem?_eq_getElem (by omega))
  obtain rfl := k24_open h2
  have hs := flat_seg l (j / 9) _ (List.getElem?_eq_getElem (by omega))
  have h4 := h3 (j % 9) u (by
    show (repL _)[j % 9]? = some u
    rw [← hs, List.getElem?_take, if_pos (by omega), List.getElem?_drop, show j / 9 * 9 + j % 9 = j by omega]
    exact hj)
  have h5 : j / 9 * k24.sz + j % 9 = j := by show j / 9 * 9 + j % 9 = j; omega
  rwa [h5] at h4

theorem below_drewB {n : Nat} {w W : World} (h : Below n w W) : Below n w W.drew := ⟨h.os, h.tape, h.output, h.size, h.block⟩
theorem setCells_blk {b : Nat} {t : TypeId} : ∀ (vs : List Value) (o : Nat) (w : World) (cs : Array Value), w.heap[b]? = some (.cells cs t (0, 0)) → (w.setCells b o vs).heap[b]? = some (.cells (putL cs o vs) t (0, 0))
  | [], _, _, _, h => h
  | v :: r, o, w, cs, h => by
    rw [World.setCells, putL]
    exact setCells_blk r (o + 1) _ _ (blk_put h o v rfl)
theorem setCells_far {b g : Nat} {t : TypeId} {cs : Array Value} (hne : g ≠ b) : ∀ (vs : List Value) (o : Nat) (w : World), w.heap[g]? = some (.cells cs t (0, 0)) → (w.setCells b o vs).heap[g]? = some (.cells cs t (0, 0))
  | [], _, _, h => h
  | v :: r, o, w, h => by
    rw [World.setCells]
    exact setCells_far hne r (o + 1) _ (blk_far h hne v)
theorem below_setCell {n : Nat} {w W : World} (h : Below n w W) {b : Nat} (hb : n ≤ b) (o : Nat) (v : Value) : Below n w (W.setCell ⟨b, o, none⟩ v) :=
  ⟨h.os, h.tape, h.output, by have := h.size; simpa [World.setCell] using this, fun j hj => (Below.heap_setCell W ⟨b, o, none⟩ v j (by show j ≠ b; omega)).trans (h.block j hj)⟩
theorem below_setCells {n b : Nat} {w : World} (hb : n ≤ b) : ∀ (vs : List Value) (o : Nat) (W : World), Below n w W → Below n w (W.setCells b o vs)
  | [], _, _, h => h
  | v :: r, o, W, h => by
    rw [World.setCells]
    exact below_setCells hb r (o + 1) _ (below_setCell h hb o v)

/-- 'copy' of elements of many cells into a block. -/
theorem copy_blk {P : Program} (w : World) (dT sT ty elem : TypeId) (sz b o dLen dCap : Nat) (a : Addr) (sLen sCap : Nat) (cs : List Value) (cur : Array Value) (t : TypeId)
    (hu : P.underlying dT = some (.slice elem)) (hs : (P.info? elem).map (·.size) = some sz) (hn : cs.length = Nat.min sLen dLen * sz)
    (hsrc : ∀ j v, cs[j]? = some v → w.cell? (a.add j) = some v) (hb : w.heap[b]? = some (.cells cur t (0, 0))) (hf : o + cs.length ≤ cur.size) (h1 : ∀ v ∈ cs, v.oneCell' = true) :
    (Builtin.copy_ #[dT, sT] ty #[.slice (some ⟨b, o, none⟩) dLen dCap, .slice (some a) sLen sCap]).run P w = .ok (goInt (Nat.min sLen dLen)) (w.setCells b o cs) := by
  have hl := run_loadCells_list (P := P) w a cs hsrc
  have hst := run_storeCells_cells (P := P) b o cs 0 w (fun j hj => by rw [Nat.add_zero, blk_cell hb, Array.getElem?_eq_getElem (by omega)]; rfl) (fun j hj => blk_frozen hb _) h1
  cases hq : P.info? elem with
  | none => simp [hq] at hs
  | some i =>
    have hi : i.size = sz := by simpa [hq] using hs
    simp [Builtin.copy_, run_underlying hu, Builtin.lenOf, Builtin.firstCells, sizeOf, typeInfo, hq, hi, ← hn, hl, hst]

set_option maxHeartbeats 2000000 in
set_option maxRecDepth 100000 in
theorem clone_ (l : List S24) (A : Option Addr) (c : Nat) (w : World) (hr : Kd.C k24 w A l.length l) (hn : l.length ≤ 4096) :
    Calls Tryd.prog 28 #[.slice A l.length c] w fun e w' => ∃ v', e = .returned v' ∧ w'.ownsRow w.heap.size 24 9 v' l.length (flat l) ∧ Below w.heap.size w w' := by
  have hu := Tryd.underlying22
  have q22 : ∀ (w : World) (a : Option Addr) (n c n' c' : Nat), (binOp .eql 22 (.slice a n c) (.slice none n' c')).run Tryd.prog w = .ok (.bool a.isNone) w := fun w a n c n' c' => Lib.run_eql_slice_nil w _ _ a n c n' c' Tryd.underlying22
  cases A with
  | none =>
    have h0 : l = [] := by
      by_cases h : 0 < l.length
      · obtain ⟨ad, e, _⟩ := hr.2.2 h
        cases e
      · exact List.eq_nil_of_length_eq_zero (by omega)
    subst h0
    clear hr
    go_enter Tryd.func28, Tryd.ntmps28
    go_wp2
    go_ret
    exact ⟨_, rfl, ⟨rfl, .inl ⟨rfl, rfl⟩⟩, Below.refl _ _⟩
  | some ad =>
    have hc := flat_C hr
    have A' : Aside (∀ j u, (flat l)[j]? = some u → w.cell? (ad.add j) = some u) := hc
    clear hc hr
    obtain ⟨i0, hi, hzz⟩ := Option.map_eq_some_iff.1 info24
    simp only [Prod.mk.injEq] at hzz
    obtain ⟨hz0, hz1, hz2⟩ := hzz
    go_enter Tryd.func28, Tryd.ntmps28
    go_wp2_with (at_builtin; refine wpList_append_own _ rfl _ _ 22 rfl w.heap.size 24 i0 _ 9 72 hu hi hz0 hz1 hz2 rfl (by decide) _ _ _ rfl (World.ownsRow_made w #[] 0 (Nat.le_refl _) (Nat.zero_le _) (by simp)) ad l.length c (flat l) rfl ?qc1 ?qc2 ?qc3 ?qc4 ?qc5 ?qc6 ?_)
    case qc1 => exact flat_length l
    case qc2 =>
      intro j u hj
      exact Lib.cell?_alloc_some _ (A'.out j u hj)
    case qc3 => exact flat_one l
    case qc4 => rw [Nat.zero_add]; simp only [maxLen]; omega
    case qc5 => rw [Nat.zero_add]; omega
    case qc6 => simp
    intro v' w1 hown hgrow hnil
    go_wp2
    go_ret
    refine ⟨v', rfl, by simpa using hown, ?_⟩
    exact ((Below.refl _ w).alloc (Nat.le_refl _) _).grown hgrow (by simp) (by intro k hk; simp [Value.ownBlock] at hk; omega)

/-- A report more at i. -/
def insAt (l : List S24) (i : Nat) (r : S24) : List S24 := l.take i ++ r :: l.drop i
theorem insAt_length (l : List S24) (i : Nat) (r : S24) (hi : i ≤ l.length) : (insAt l i r).length = l.length + 1 := by
  simp [insAt]
  omega
theorem flat_take : ∀ (l : List S24) (i : Nat), (flat l).take (i * 9) = flat (l.take i)
  | [], i => by simp [flat]
  | a :: r, 0 => by simp [flat]
  | a :: r, i + 1 => by
    show (repL a ++ flat r).take ((i + 1) * 9) = repL a ++ flat (r.take i)
    rw [show (i + 1) * 9 = (repL a).length + i * 9 by show _ = 9 + _; omega, List.take_append, List.take_of_length_le (by omega), Nat.add_sub_cancel_left, flat_take r i]
theorem flat_drop : ∀ (l : List S24) (i : Nat), (flat l).drop (i * 9) = flat (l.drop i)
  | [], i => by simp [flat]
  | a :: r, 0 => by simp
  | a :: r, i + 1 => by
    show (repL a ++ flat r).drop ((i + 1) * 9) = flat (r.drop i)
    rw [show (i + 1) * 9 = (repL a).length + i * 9 by show _ = 9 + _; omega, List.drop_append, List.drop_eq_nil_of_le (by omega), List.nil_append, Nat.add_sub_cancel_left, flat_drop r i]
theorem flat_ins (l : List S24) (i : Nat) (r : S24) : flat (insAt l i r) = (flat l).take (i * 9) ++ (repL r ++ (flat l).drop (i * 9)) := by
  rw [flat_take, flat_drop]
  show flat (l.take i ++ ([r] ++ l.drop i)) = _
  rw [flat_append, flat_append]
  simp [flat]

/-- Insert's post. -/
def InsOut (base : Nat) (W : World) (l : List S24) (i : Nat) (r : S24) (e : Ending) (w' : World) : Prop :=
  ∃ v', e = .returned v' ∧ w'.ownsRow base 24 9 v' (l.length + 1) (flat (insAt l i r)) ∧ Below base W w'

set_option maxHeartbeats 2000000 in
set_option maxRecDepth 100000 in
theorem ins_end (l : List S24) (v : Value) (vb base : Nat) (r : S24) (W : World) (hn : l.length < 4096) (hown : W.ownsRow base 24 9 v l.length (flat l)) (hb : base ≤ W.heap.size)
    (hvb : W.heap[vb]? = some (.cells (repL r).toArray 24 (0, 0))) :
    Calls Tryd.prog 27 #[v, .int .i64 (l.length : Nat), .slice (some ⟨vb, 0, none⟩) 1 1] W (InsOut base W l l.length r) := by
  have hu := Tryd.underlying22
  obtain ⟨i0, hi, hzz⟩ := Option.map_eq_some_iff.1 info24
  simp only [Prod.mk.injEq] at hzz
  obtain ⟨hz0, hz1, hz2⟩ := hzz
  have hsl : ∃ A c, v = .slice A l.length c ∧ l.length ≤ c ∧ c ≤ maxLen ∧ (A = none → l.length = 0) := by
    rcases hown.2 with ⟨h1, h2⟩ | ⟨g, cap, cur, h1, _, _, h3, h4, _⟩
    · exact ⟨none, 0, by rw [h1, h2], by omega, by simp [maxLen], fun _ => h2⟩
    · exact ⟨_, cap, h1, h3, h4, fun h => by cases h⟩
  obtain ⟨A, c, rfl, hc1, hc2, hA⟩ := hsl
  have hown' : Aside0 _ := ⟨hown⟩
  have hob : Aside0 (∀ k, (Value.slice A l.length c).ownBlock = some k → base ≤ k) := ⟨by
    intro k hk
    rcases hown.2 with ⟨h1, _⟩ | ⟨g, cap, cur, h1, h2, _⟩
    · rw [h1] at hk; simp [Value.ownBlock] at hk
    · rw [h1] at hk
      simp only [Value.ownBlock, Option.some.injEq] at hk
      omega⟩
  clear hown
  have hfl : Aside0 (flat (insAt l l.length r) = flat l ++ repL r) := ⟨by unfold insAt; rw [List.take_length, List.drop_length, flat_append]; simp [flat]⟩
  have hvb' := Aside0.mk hvb
  clear hvb
  rcases Nat.eq_or_lt_of_le hc1 with hcl | hcl
  · subst hcl
    go_enter Tryd.func27, Tryd.ntmps27
    go_wp2_with (at_builtin; refine wpList_append_own _ rfl _ _ 22 rfl base 24 i0 _ 9 72 hu hi hz0 hz1 hz2 rfl (by decide) _ _ (flat l) rfl hown'.out ⟨vb, 0, none⟩ 1 1 (repL r) rfl rfl ?qc2 (repL_one r) ?qc4 ?qc5 hb ?_)
    case qc2 =>
      intro j u hj
      rw [Addr.add_lit, Nat.zero_add, blk_cell hvb'.out j]
      simpa using hj
    case qc4 => simp only [maxLen]; omega
    case qc5 => omega
    intro v' w1 hown2 hgrow hnil
    go_wp2
    go_ret
    refine ⟨v', rfl, by rw [hfl.out]; exact hown2, ?_⟩
    exact (Below.refl base W).grown hgrow hb hob.out
  · have hcn : ¬ (c = l.length) := by omega
    go_enter Tryd.func27, Tryd.ntmps27
    go_wp2_with (at_builtin; refine wpList_append_own _ rfl _ _ 22 rfl base 24 i0 _ 9 72 hu hi hz0 hz1 hz2 rfl (by decide) _ _ (flat l) rfl hown'.out ⟨vb, 0, none⟩ 1 1 (repL r) rfl rfl ?qc2 (repL_one r) ?qc4 ?qc5 hb ?_)
    case qc2 =>
      intro j u hj
      rw [Addr.add_lit, Nat.zero_add, blk_cell hvb'.out j]
      simpa using hj
    case qc4 => simp only [maxLen]; omega
    case qc5 => omega
    intro v' w1 hown2 hgrow hnil
    go_wp2
    go_ret
    refine ⟨v', rfl, by rw [hfl.out]; exact hown2, ?_⟩
    exact (Below.refl base W).grown hgrow hb hob.out

end Go.Proofs.YtebfcckaicgcfaaDoor.Q
