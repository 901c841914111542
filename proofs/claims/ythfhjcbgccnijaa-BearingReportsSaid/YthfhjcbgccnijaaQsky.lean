/- By hand: what quantity.sky computes over what the sources say. -/
import Derived.Test.YthfhjcbgccnijaaVal
import Derived.Test.YthfhjcbgccnijaaSaid
namespace Go.Proofs.Ythfhjcbgccnijaa.Q
open Go.RowKit Go.Proofs.YthfhjcbgccnijaaW.PrintWords Go.Proofs.YthfhjcbgccnijaaW.PrintLast Go.Proofs.YthfhjcbgccnijaaW.PrintMore Go.Proofs.Ythfhjcbgccnijaa.Rng
attribute [local go_sem] Oper.semAt_some
attribute [local go_sem] max2_int min2_int max_two min_two
set_option linter.unusedVariables false
set_option linter.unusedSimpArgs false

/-- One report more. -/
def meetS (p : (Int × Int) × (Int × Int)) (x : Int × Int) : (Int × Int) × (Int × Int) := ((mx p.1.1 x.1, mn p.1.2 x.2), (mn p.2.1 x.1, mx p.2.2 x.2))
def joinS (m : Int) (xs : List (Int × Int)) : (Int × Int) × (Int × Int) := xs.foldl meetS ((0, m), (m, 0))
def skyV (m : Int) (xs : List (Int × Int)) : Int × Int := if (joinS m xs).1.2 < (joinS m xs).1.1 then (joinS m xs).2 else (joinS m xs).1
theorem joinS_take (m : Int) (xs : List (Int × Int)) (k : Nat) (hk : k < xs.length) (x : Int × Int) (hx : xs[k]? = some x) : joinS m (xs.take (k + 1)) = meetS (joinS m (xs.take k)) x := by
  obtain ⟨h, rfl⟩ := List.getElem?_eq_some_iff.1 hx
  unfold joinS
  rw [List.take_succ_eq_append_getElem hk, List.foldl_append]
  rfl

theorem put_other {A : World} {q g : Nat} {o o' : Obj} {cs : Array Value} {t : TypeId} {fr : Nat × Nat} (hq : A.heap[q]? = some o) (hc : o.isCells = false) (hg : A.heap[g]? = some (.cells cs t fr)) : (A.putObj q o').heap[g]? = A.heap[g]? :=
  World.putObj_heap_other (fun e => by subst e; rw [hg] at hq; cases hq; cases hc)
theorem below_put {b : Nat} {w A : World} {q : Nat} (o' : Obj) (h : Below b w A) (hq : b ≤ q) : Below b w (A.putObj q o') :=
  h.trans ⟨rfl, rfl, rfl, by simp, fun j hj => World.putObj_heap_other (by omega)⟩
theorem keeps_below {W V : World} (h : Below W.heap.size W V) : KeepsOthers W V := ⟨h.size, fun k o hk _ => (h.block k (Array.getElem?_eq_some_iff.1 hk).1).trans hk⟩

/-- The boxes of sky. -/
def QIn (w : World) (m : Int) (fn : Nat) (p : (Int × Int) × (Int × Int)) (W : World) : Prop :=
  Below w.heap.size w W ∧ W.heap[w.heap.size]? = some (.cells #[.int .i64 m, .func (.func fn) #[] #[]] 80 (0, 0)) ∧ W.heap[w.heap.size + 1]? = some (.cells #[.int .i64 0, .int .i64 0] 27 (0, 0)) ∧
  W.heap[w.heap.size + 2]? = some (.cells #[.int .i64 p.1.1, .int .i64 p.1.2] 27 (0, 0)) ∧ W.heap[w.heap.size + 3]? = some (.cells #[.int .i64 p.2.1, .int .i64 p.2.2] 27 (0, 0))
theorem QIn.below {w : World} {m : Int} {fn : Nat} {p : (Int × Int) × (Int × Int)} {W V : World} (h : QIn w m fn p W) (hb : Below W.heap.size W V) : QIn w m fn p V :=
  ⟨below_step h.1 hb, heap_below hb h.2.1, heap_below hb h.2.2.1, heap_below hb h.2.2.2.1, heap_below hb h.2.2.2.2⟩
theorem QIn.st {w : World} {m : Int} {fn : Nat} {p : (Int × Int) × (Int × Int)} {A B : World} (h : QIn w m fn p A) (hs : St (fun _ => False) A B) : QIn w m fn p B :=
  ⟨hs.base h.1 (Nat.le_refl _) (fun _ k => k.elim), hs.blk h.2.1 id, hs.blk h.2.2.1 id, hs.blk h.2.2.2.1 id, hs.blk h.2.2.2.2 id⟩
theorem QIn.put {w : World} {m : Int} {fn : Nat} {p : (Int × Int) × (Int × Int)} {A : World} {q : Nat} {o : Obj} (o' : Obj) (h : QIn w m fn p A) (hb : w.heap.size ≤ q) (hq : A.heap[q]? = some o) (hc : o.isCells = false) : QIn w m fn p (A.putObj q o') :=
  ⟨below_put o' h.1 hb, (put_other hq hc h.2.1).trans h.2.1, (put_other hq hc h.2.2.1).trans h.2.2.1, (put_other hq hc h.2.2.2.1).trans h.2.2.2.1, (put_other hq hc h.2.2.2.2).trans h.2.2.2.2⟩

def rng_rain (r : S41) : Int × Int := (r.f5.f0, r.f5.f1)
set_option maxRecDepth 100000 in
set_option maxHeartbeats 8000000 in
theorem qsky_rain (w : World) (l : List S41) (A : Option Addr) (c bs bg bd bt : Nat) (g d t : Int)
    (hr : Kd.C k41 w A l.length l) (hn : l.length ≤ 4096) (hv : ∀ r ∈ l, 0 ≤ r.f1 ∧ r.f1 ≤ 15) (hp : SaidPre w A l.length c bs bg bd bt g d t w) :
    Calls Try.prog 38 #[.agg #[.int .i64 200, .func (.func 71) #[] #[]], .func (.func 70) #[] #[.pointer (some ⟨bs, 0, none⟩), .pointer (some ⟨bg, 0, none⟩), .pointer (some ⟨bd, 0, none⟩), .pointer (some ⟨bt, 0, none⟩)]] w
      fun e w' => e = .returned (.agg #[.int .i64 (skyV 200 ((says g d t l).map rng_rain)).1, .int .i64 (skyV 200 ((says g d t l).map rng_rain)).2]) ∧ Below w.heap.size w w' := by
  have hu := Try.underlying27
  have HR := Aside0.mk hr
  have HV := Aside0.mk hv
  have HP := Aside0.mk hp
  clear hr hv hp
  have hIt := Aside0.mk (fun U => said_iter w l A c bs bg bd bt g d t U HR.out hn HV.out)
  generalize says g d t l = xs at hIt ⊢
  obtain ⟨sv, hsk⟩ : ∃ sv, Aside0 (skyV 200 (xs.map rng_rain) = sv) := ⟨_, ⟨rfl⟩⟩
  rw [hsk.out]
  have hc := Aside0.mk (fun (r : S41) W => rain1 r.f0 r.f1 r.f2 r.f3 r.f4 r.f5.f0 r.f5.f1 r.f6.f0 r.f6.f1 W)
  obtain ⟨q, _⟩ : ∃ q : Nat, q = 7 := ⟨_, rfl⟩
  refine (callsIn_wide (n := q)).1 ?_
  refine callsIn_of_wp_marks Try.func38 rfl trivial ?_ rfl
  simp only [Try.ntmps38, List.size_toArray, List.length_cons, List.length_nil, Nat.reduceAdd, Nat.reduceSub, Array.replicate_succ, Array.replicate_zero, List.push_toArray, List.append_toArray, List.nil_append, List.cons_append]
  gi_wp2
  obtain ⟨w3, hw3⟩ : ∃ w3, (((w.alloc (.cells #[.int .i64 200, .func (.func 71) #[] #[]] 80 (0, 0))).alloc (.cells #[.int .i64 0, .int .i64 0] 27 (0, 0))).alloc (.cells #[.int .i64 0, .int .i64 200] 27 (0, 0))).alloc (.cells #[.int .i64 200, .int .i64 0] 27 (0, 0)) = w3 := ⟨_, rfl⟩
  have hQ0 : Aside0 (QIn w 200 71 ((0, 200), (200, 0)) w3) := ⟨by
    rw [← hw3]
    exact ⟨below_alloc (below_alloc (below_alloc (below_alloc (Below.refl w.heap.size w) _) _) _) _, heap_at_old _ _ _ _ (heap_at_old _ _ _ _ (heap_at_old _ _ _ _ (heap_at_new _ _ _ rfl))), heap_at_old _ _ _ _ (heap_at_old _ _ _ _ (heap_at_new _ _ _ (by simp))), heap_at_old _ _ _ _ (heap_at_new _ _ _ (by simp)), heap_at_new _ _ _ (by simp)⟩⟩
  have hs3 : w3.heap.size = w.heap.size + 4 := by rw [← hw3]; simp
  rw [hw3]
  clear hw3
  generalize hz1 : Value.func (.func 70) #[] #[.pointer (some ⟨bs, 0, none⟩), .pointer (some ⟨bg, 0, none⟩), .pointer (some ⟨bd, 0, none⟩), .pointer (some ⟨bt, 0, none⟩)] = z1
  have HX : Aside0 (∀ k, k < xs.length → (xs.map rng_rain)[k]? = some (rng_rain (xs.getD k z41))) := ⟨fun k hk => by simp [List.getD_eq_getElem?_getD, hk]⟩
  have HLX : Aside0 ((xs.map rng_rain).length = xs.length) := ⟨by simp⟩
  refine range_law (gf := 70) hz1.symm (enters_of Try.func70 (by kernel_rfl) rfl) (hIt.out (fun j => w.heap.size + 2 ≤ j)) (fun _ => rfl) (fun j hj => by omega) (fun k hk => hk.elim)
    (fun o1 o2 => HP.out.below (below_alloc (below_alloc hQ0.out.1 _) _))
    (fun k => QIn w 200 71 (joinS 200 ((xs.map rng_rain).take k))) (fun _ _ => False)
    (fun k A B h hS => h.st hS) (fun k A B h hS => h)
    (fun k A q o o' h hq hA hc => h.put o' (by omega) hA hc) (fun k A q o o' h hq hA hc => h)
    (fun o1 o2 => hQ0.out.below (below_alloc (below_alloc (Below.refl _ _) _) _))
    (fun k b W => QIn w 200 71 (joinS 200 ((xs.map rng_rain).take k)) W ∧ ∃ bx v16, b = { tmps := #[.agg #[.int .i64 200, .func (.func 71) #[] #[]], z1, .pointer (some ⟨w.heap.size, 0, none⟩), undef, .pointer (some ⟨w.heap.size + 1, 0, none⟩), .pointer (some ⟨w.heap.size + 1 + 1, 0, none⟩), .pointer (some ⟨w.heap.size + 1 + 1 + 1, 0, none⟩), .pointer (some ⟨bx, 0, none⟩), undef, .pointer (some ⟨w.heap.size, 0, none⟩), .int .i64 200, .agg #[.int .i64 0, .int .i64 200], .pointer (some ⟨w.heap.size, 0, none⟩), .int .i64 200, .agg #[.int .i64 200, .int .i64 0], z1, v16, undef, undef, undef, undef, undef, undef, undef, undef, undef, undef, undef, undef, undef, undef, undef, undef, undef, undef, undef, undef, undef, undef, undef, undef, undef, undef, undef, undef, undef, undef, undef, undef, undef], defers := [] } ∧ W.heap[bx]? = some (.cells (repCells (xs.getD k z41)) 41 (0, 0)))
    (fun k b A q o o' h hq hA hc => ⟨h.1.put o' (by omega) hA hc, ?_⟩) ?assign ?body ?done ?stop
  case assign =>
    intro lq k W hk hI
    simp only [List.zip_toArray, List.zip_cons_cons, List.zip_nil_left, List.foldl_toArray, List.foldl_cons, List.foldl_nil, List.setIfInBounds_toArray, List.set_cons_succ, List.set_cons_zero]
    generalize xs.getD k z41 = r
    unfold repCells
    have HI := Aside0.mk hI
    clear hI
    gi_wp2
    have hal := below_alloc (Below.refl W.heap.size W) (.cells #[.int .i64 r.f0, .int .i64 r.f1, .int .i64 r.f2, .int .i64 r.f3, .int .i64 r.f4, .int .i64 r.f5.f0, .int .i64 r.f5.f1, .int .i64 r.f6.f0, .int .i64 r.f6.f1] 41)
    exact ⟨KeepsOthers.alloc _ _, St.of_below hal, HI.out.st (St.of_below (S := fun _ => False) hal), W.heap.size, _, rfl, blk_new _ _⟩
  case body =>
    rintro lq k b W hk ⟨hI, bx, v16, rfl, hbx⟩
    have HJ := Aside0.mk (joinS_take 200 (xs.map rng_rain) k (by rw [HLX.out]; exact hk) _ (HX.out k hk))
    generalize xs.getD k z41 = r at hbx HJ
    generalize joinS 200 ((xs.map rng_rain).take k) = p at hI HJ
    unfold rng_rain meetS at HJ
    unfold repCells at hbx
    have hc' := Aside0.mk (hc.out r W)
    have HI := Aside0.mk hI
    have HBX := Aside0.mk hbx
    clear hI hbx
    have c1 := (blk_cell HI.out.2.1 1).trans rfl
    have d0 := (blk_cell HBX.out 0).trans rfl
    have d1 := (blk_cell HBX.out 1).trans rfl
    have d2 := (blk_cell HBX.out 2).trans rfl
    have d3 := (blk_cell HBX.out 3).trans rfl
    have d4 := (blk_cell HBX.out 4).trans rfl
    have d5 := (blk_cell HBX.out 5).trans rfl
    have d6 := (blk_cell HBX.out 6).trans rfl
    have d7 := (blk_cell HBX.out 7).trans rfl
    have d8 := (blk_cell HBX.out 8).trans rfl
    gi_wp2_with fail
    refine ⟨trivial, ?_⟩
    change CallsIn Fence.wide _ _ _ _ _ _
    refine callsIn_wide.2 ?_
    refine hc'.out.mono ?_
    rintro e W2 ⟨rfl, hb⟩
    have HI2 := Aside0.mk (HI.out.below hb)
    have HKB := Aside0.mk hb
    clear HI HBX c1 d0 d1 d2 d3 d4 d5 d6 d7 d8 hc' hb
    obtain ⟨⟨ml, mh⟩, ⟨hl, hh⟩⟩ := p
    dsimp only at HJ HI2
    generalize r.f5.f0 = lo at HJ ⊢
    generalize r.f5.f1 = hi at HJ ⊢
    have g0 := (blk_cell HI2.out.2.2.2.1 0).trans rfl
    have g1 := (blk_cell HI2.out.2.2.2.1 1).trans rfl
    have k0 := (blk_cell HI2.out.2.2.2.2 0).trans rfl
    have k1 := (blk_cell HI2.out.2.2.2.2 1).trans rfl
    have fg0 := blk_frozen HI2.out.2.2.2.1 0
    have fg1 := blk_frozen HI2.out.2.2.2.1 1
    have fk0 := blk_frozen HI2.out.2.2.2.2 0
    have fk1 := blk_frozen HI2.out.2.2.2.2 1
    have lg := blk_lt HI2.out.2.2.2.1
    have lk := blk_lt HI2.out.2.2.2.2
    dsimp only at g0 g1 k0 k1
    have m1 : (if ml < lo then lo else ml) = mx ml lo := rfl
    have m2 : (if hi < mh then hi else mh) = mn mh hi := rfl
    have m3 : (if lo < hl then lo else hl) = mn hl lo := rfl
    have m4 : (if hh < hi then hi else hh) = mx hh hi := rfl
    gi_wp2
    have hU : ∀ j, j = w.heap.size + 2 ∨ j = w.heap.size + 3 → w.heap.size + 2 ≤ j := fun j h => by omega
    refine ⟨(keeps_below HKB.out).trans (((((KeepsOthers.setCell _ _ _).trans (KeepsOthers.setCell _ _ _)).trans (KeepsOthers.setCell _ _ _)).trans (KeepsOthers.setCell _ _ _)).trans (KeepsOthers.alloc _ _)),
      (((((St.of_below HKB.out).setCell (.inl (hU _ (.inl rfl))) _).setCell (.inl (hU _ (.inl rfl))) _).setCell (.inl (hU _ (.inr rfl))) _).setCell (.inl (hU _ (.inr rfl))) _).below (below_alloc (Below.refl _ _) _), ?_⟩
    have HJ2 : joinS 200 ((xs.map rng_rain).take (k + 1)) = ((mx ml lo, mn mh hi), (mn hl lo, mx hh hi)) := HJ.out
    show QIn w 200 71 (joinS 200 ((xs.map rng_rain).take (k + 1))) _
    rw [HJ2]
    exact ⟨below_alloc (below_set (below_set (below_set (below_set HI2.out.1 (by omega)) (by omega)) (by omega)) (by omega)) _,
      heap_at_old _ _ _ _ (blk_far (blk_far (blk_far (blk_far HI2.out.2.1 (by dsimp only; omega) _) (by dsimp only; omega) _) (by dsimp only; omega) _) (by dsimp only; omega) _),
      heap_at_old _ _ _ _ (blk_far (blk_far (blk_far (blk_far HI2.out.2.2.1 (by dsimp only; omega) _) (by dsimp only; omega) _) (by dsimp only; omega) _) (by dsimp only; omega) _),
      heap_at_old _ _ _ _ (blk_far (blk_far (blk_put (blk_put HI2.out.2.2.2.1 0 _ rfl) 1 _ rfl) (by dsimp only; omega) _) (by dsimp only; omega) _),
      heap_at_old _ _ _ _ (blk_put (blk_put (blk_far (blk_far HI2.out.2.2.2.2 (by dsimp only; omega) _) (by dsimp only; omega) _) 0 _ rfl) 1 _ rfl)⟩
  case done =>
    intro D W hD hI hK
    rw [List.take_of_length_le (by rw [HLX.out]; omega)] at hI
    have HI := Aside0.mk hI
    have HK := Aside0.mk hK
    clear hI hK
    unfold skyV at hsk
    generalize joinS 200 (xs.map rng_rain) = p at HI hsk
    obtain ⟨⟨ml, mh⟩, ⟨hl, hh⟩⟩ := p
    dsimp only at HI hsk
    have g0 := (blk_cell HI.out.2.2.2.1 0).trans rfl
    have g1 := (blk_cell HI.out.2.2.2.1 1).trans rfl
    have k0 := (blk_cell HI.out.2.2.2.2 0).trans rfl
    have k1 := (blk_cell HI.out.2.2.2.2 1).trans rfl
    have e0 := (blk_cell HI.out.2.2.1 0).trans rfl
    have e1 := (blk_cell HI.out.2.2.1 1).trans rfl
    have f0 := blk_frozen HI.out.2.2.1 0
    have f1 := blk_frozen HI.out.2.2.1 1
    dsimp only at g0 g1 k0 k1
    have hend : ∀ x y : Int, (x, y) = sv → ∃ W', Aside0 ((W.setCell ⟨w.heap.size + 1, 0, none⟩ (.int .i64 x)).setCell ⟨w.heap.size + 1, 1, none⟩ (.int .i64 y) = W') ∧ W'.heap[D]? = some (.deferred (some [])) ∧ W'.heap[w.heap.size + 1]? = some (.cells #[.int .i64 sv.1, .int .i64 sv.2] 27 (0, 0)) ∧ Below w.heap.size w W' := by
      rintro x y rfl
      exact ⟨_, ⟨rfl⟩, ((KeepsOthers.setCell W ⟨w.heap.size + 1, 0, none⟩ (.int .i64 x)).trans (KeepsOthers.setCell _ ⟨w.heap.size + 1, 1, none⟩ (.int .i64 y))).same D _ HK.out rfl, blk_put (blk_put HI.out.2.2.1 0 _ rfl) 1 _ rfl, below_set (below_set HI.out.1 (by omega)) (by omega)⟩
    have hend := Aside0.mk hend
    by_cases hlt : mh < ml
    · have hsv : (hl, hh) = sv := by have := hsk.out; rw [if_pos hlt] at this; exact this
      obtain ⟨W', hW', K1, B1, BW⟩ := hend.out hl hh hsv
      clear hsv hend hsk
      gi_wp2
      rw [hW'.out]
      refine ⟨by simp, .inl ⟨_, _, rfl, run_takeDeferred K1, ?_⟩⟩
      refine ⟨_, results_cell_row rfl _ _ (w.heap.size + 1) 27 _ (0, 0) _ rfl ((put_other K1 rfl B1).trans B1) hu rfl (by kernel_rfl), ?_⟩
      exact ⟨rfl, below_put _ BW (by omega)⟩
    · have hsv : (ml, mh) = sv := by have := hsk.out; rw [if_neg hlt] at this; exact this
      obtain ⟨W', hW', K1, B1, BW⟩ := hend.out ml mh hsv
      clear hsv hend hsk
      gi_wp2
      rw [hW'.out]
      refine ⟨by simp, .inl ⟨_, _, rfl, run_takeDeferred K1, ?_⟩⟩
      refine ⟨_, results_cell_row rfl _ _ (w.heap.size + 1) 27 _ (0, 0) _ rfl ((put_other K1 rfl B1).trans B1) hu rfl (by kernel_rfl), ?_⟩
      exact ⟨rfl, below_put _ BW (by omega)⟩
  case stop => exact fun D k W _ _ h _ => h.elim
  · obtain ⟨bx, v16, hb, hbx⟩ := h.2
    exact ⟨bx, v16, hb, (put_other hA hc hbx).trans hbx⟩
def rng_frost (r : S41) : Int × Int := (r.f6.f0, r.f6.f1)
set_option maxRecDepth 100000 in
set_option maxHeartbeats 8000000 in
theorem qsky_frost (w : World) (l : List S41) (A : Option Addr) (c bs bg bd bt : Nat) (g d t : Int)
    (hr : Kd.C k41 w A l.length l) (hn : l.length ≤ 4096) (hv : ∀ r ∈ l, 0 ≤ r.f1 ∧ r.f1 ≤ 15) (hp : SaidPre w A l.length c bs bg bd bt g d t w) :
    Calls Try.prog 38 #[.agg #[.int .i64 40, .func (.func 72) #[] #[]], .func (.func 70) #[] #[.pointer (some ⟨bs, 0, none⟩), .pointer (some ⟨bg, 0, none⟩), .pointer (some ⟨bd, 0, none⟩), .pointer (some ⟨bt, 0, none⟩)]] w
      fun e w' => e = .returned (.agg #[.int .i64 (skyV 40 ((says g d t l).map rng_frost)).1, .int .i64 (skyV 40 ((says g d t l).map rng_frost)).2]) ∧ Below w.heap.size w w' := by
  have hu := Try.underlying27
  have HR := Aside0.mk hr
  have HV := Aside0.mk hv
  have HP := Aside0.mk hp
  clear hr hv hp
  have hIt := Aside0.mk (fun U => said_iter w l A c bs bg bd bt g d t U HR.out hn HV.out)
  generalize says g d t l = xs at hIt ⊢
  obtain ⟨sv, hsk⟩ : ∃ sv, Aside0 (skyV 40 (xs.map rng_frost) = sv) := ⟨_, ⟨rfl⟩⟩
  rw [hsk.out]
  have hc := Aside0.mk (fun (r : S41) W => frost1 r.f0 r.f1 r.f2 r.f3 r.f4 r.f5.f0 r.f5.f1 r.f6.f0 r.f6.f1 W)
  obtain ⟨q, _⟩ : ∃ q : Nat, q = 7 := ⟨_, rfl⟩
  refine (callsIn_wide (n := q)).1 ?_
  refine callsIn_of_wp_marks Try.func38 rfl trivial ?_ rfl
  simp only [Try.ntmps38, List.size_toArray, List.length_cons, List.length_nil, Nat.reduceAdd, Nat.reduceSub, Array.replicate_succ, Array.replicate_zero, List.push_toArray, List.append_toArray, List.nil_append, List.cons_append]
  gi_wp2
  obtain ⟨w3, hw3⟩ : ∃ w3, (((w.alloc (.cells #[.int .i64 40, .func (.func 72) #[] #[]] 80 (0, 0))).alloc (.cells #[.int .i64 0, .int .i64 0] 27 (0, 0))).alloc (.cells #[.int .i64 0, .int .i64 40] 27 (0, 0))).alloc (.cells #[.int .i64 40, .int .i64 0] 27 (0, 0)) = w3 := ⟨_, rfl⟩
  have hQ0 : Aside0 (QIn w 40 72 ((0, 40), (40, 0)) w3) := ⟨by
    rw [← hw3]
    exact ⟨below_alloc (below_alloc (below_alloc (below_alloc (Below.refl w.heap.size w) _) _) _) _, heap_at_old _ _ _ _ (heap_at_old _ _ _ _ (heap_at_old _ _ _ _ (heap_at_new _ _ _ rfl))), heap_at_old _ _ _ _ (heap_at_old _ _ _ _ (heap_at_new _ _ _ (by simp))), heap_at_old _ _ _ _ (heap_at_new _ _ _ (by simp)), heap_at_new _ _ _ (by simp)⟩⟩
  have hs3 : w3.heap.size = w.heap.size + 4 := by rw [← hw3]; simp
  rw [hw3]
  clear hw3
  generalize hz1 : Value.func (.func 70) #[] #[.pointer (some ⟨bs, 0, none⟩), .pointer (some ⟨bg, 0, none⟩), .pointer (some ⟨bd, 0, none⟩), .pointer (some ⟨bt, 0, none⟩)] = z1
  have HX : Aside0 (∀ k, k < xs.length → (xs.map rng_frost)[k]? = some (rng_frost (xs.getD k z41))) := ⟨fun k hk => by simp [List.getD_eq_getElem?_getD, hk]⟩
  have HLX : Aside0 ((xs.map rng_frost).length = xs.length) := ⟨by simp⟩
  refine range_law (gf := 70) hz1.symm (enters_of Try.func70 (by kernel_rfl) rfl) (hIt.out (fun j => w.heap.size + 2 ≤ j)) (fun _ => rfl) (fun j hj => by omega) (fun k hk => hk.elim)
    (fun o1 o2 => HP.out.below (below_alloc (below_alloc hQ0.out.1 _) _))
    (fun k => QIn w 40 72 (joinS 40 ((xs.map rng_frost).take k))) (fun _ _ => False)
    (fun k A B h hS => h.st hS) (fun k A B h hS => h)
    (fun k A q o o' h hq hA hc => h.put o' (by omega) hA hc) (fun k A q o o' h hq hA hc => h)
    (fun o1 o2 => hQ0.out.below (below_alloc (below_alloc (Below.refl _ _) _) _))
    (fun k b W => QIn w 40 72 (joinS 40 ((xs.map rng_frost).take k)) W ∧ ∃ bx v16, b = { tmps := #[.agg #[.int .i64 40, .func (.func 72) #[] #[]], z1, .pointer (some ⟨w.heap.size, 0, none⟩), undef, .pointer (some ⟨w.heap.size + 1, 0, none⟩), .pointer (some ⟨w.heap.size + 1 + 1, 0, none⟩), .pointer (some ⟨w.heap.size + 1 + 1 + 1, 0, none⟩), .pointer (some ⟨bx, 0, none⟩), undef, .pointer (some ⟨w.heap.size, 0, none⟩), .int .i64 40, .agg #[.int .i64 0, .int .i64 40], .pointer (some ⟨w.heap.size, 0, none⟩), .int .i64 40, .agg #[.int .i64 40, .int .i64 0], z1, v16, undef, undef, undef, undef, undef, undef, undef, undef, undef, undef, undef, undef, undef, undef, undef, undef, undef, undef, undef, undef, undef, undef, undef, undef, undef, undef, undef, undef, undef, undef, undef, undef, undef], defers := [] } ∧ W.heap[bx]? = some (.cells (repCells (xs.getD k z41)) 41 (0, 0)))
    (fun k b A q o o' h hq hA hc => ⟨h.1.put o' (by omega) hA hc, ?_⟩) ?assign ?body ?done ?stop
  case assign =>
    intro lq k W hk hI
    simp only [List.zip_toArray, List.zip_cons_cons, List.zip_nil_left, List.foldl_toArray, List.foldl_cons, List.foldl_nil, List.setIfInBounds_toArray, List.set_cons_succ, List.set_cons_zero]
    generalize xs.getD k z41 = r
    unfold repCells
    have HI := Aside0.mk hI
    clear hI
    gi_wp2
    have hal := below_alloc (Below.refl W.heap.size W) (.cells #[.int .i64 r.f0, .int .i64 r.f1, .int .i64 r.f2, .int .i64 r.f3, .int .i64 r.f4, .int .i64 r.f5.f0, .int .i64 r.f5.f1, .int .i64 r.f6.f0, .int .i64 r.f6.f1] 41)
    exact ⟨KeepsOthers.alloc _ _, St.of_below hal, HI.out.st (St.of_below (S := fun _ => False) hal), W.heap.size, _, rfl, blk_new _ _⟩
  case body =>
    rintro lq k b W hk ⟨hI, bx, v16, rfl, hbx⟩
    have HJ := Aside0.mk (joinS_take 40 (xs.map rng_frost) k (by rw [HLX.out]; exact hk) _ (HX.out k hk))
    generalize xs.getD k z41 = r at hbx HJ
    generalize joinS 40 ((xs.map rng_frost).take k) = p at hI HJ
    unfold rng_frost meetS at HJ
    unfold repCells at hbx
    have hc' := Aside0.mk (hc.out r W)
    have HI := Aside0.mk hI
    have HBX := Aside0.mk hbx
    clear hI hbx
    have c1 := (blk_cell HI.out.2.1 1).trans rfl
    have d0 := (blk_cell HBX.out 0).trans rfl
    have d1 := (blk_cell HBX.out 1).trans rfl
    have d2 := (blk_cell HBX.out 2).trans rfl
    have d3 := (blk_cell HBX.out 3).trans rfl
    have d4 := (blk_cell HBX.out 4).trans rfl
    have d5 := (blk_cell HBX.out 5).trans rfl
    have d6 := (blk_cell HBX.out 6).trans rfl
    have d7 := (blk_cell HBX.out 7).trans rfl
    have d8 := (blk_cell HBX.out 8).trans rfl
    gi_wp2_with fail
    refine ⟨trivial, ?_⟩
    change CallsIn Fence.wide _ _ _ _ _ _
    refine callsIn_wide.2 ?_
    refine hc'.out.mono ?_
    rintro e W2 ⟨rfl, hb⟩
    have HI2 := Aside0.mk (HI.out.below hb)
    have HKB := Aside0.mk hb
    clear HI HBX c1 d0 d1 d2 d3 d4 d5 d6 d7 d8 hc' hb
    obtain ⟨⟨ml, mh⟩, ⟨hl, hh⟩⟩ := p
    dsimp only at HJ HI2
    generalize r.f6.f0 = lo at HJ ⊢
    generalize r.f6.f1 = hi at HJ ⊢
    have g0 := (blk_cell HI2.out.2.2.2.1 0).trans rfl
    have g1 := (blk_cell HI2.out.2.2.2.1 1).trans rfl
    have k0 := (blk_cell HI2.out.2.2.2.2 0).trans rfl
    have k1 := (blk_cell HI2.out.2.2.2.2 1).trans rfl
    have fg0 := blk_frozen HI2.out.2.2.2.1 0
    have fg1 := blk_frozen HI2.out.2.2.2.1 1
    have fk0 := blk_frozen HI2.out.2.2.2.2 0
    have fk1 := blk_frozen HI2.out.2.2.2.2 1
    have lg := blk_lt HI2.out.2.2.2.1
    have lk := blk_lt HI2.out.2.2.2.2
    dsimp only at g0 g1 k0 k1
    have m1 : (if ml < lo then lo else ml) = mx ml lo := rfl
    have m2 : (if hi < mh then hi else mh) = mn mh hi := rfl
    have m3 : (if lo < hl then lo else hl) = mn hl lo := rfl
    have m4 : (if hh < hi then hi else hh) = mx hh hi := rfl
    gi_wp2
    have hU : ∀ j, j = w.heap.size + 2 ∨ j = w.heap.size + 3 → w.heap.size + 2 ≤ j := fun j h => by omega
    refine ⟨(keeps_below HKB.out).trans (((((KeepsOthers.setCell _ _ _).trans (KeepsOthers.setCell _ _ _)).trans (KeepsOthers.setCell _ _ _)).trans (KeepsOthers.setCell _ _ _)).trans (KeepsOthers.alloc _ _)),
      (((((St.of_below HKB.out).setCell (.inl (hU _ (.inl rfl))) _).setCell (.inl (hU _ (.inl rfl))) _).setCell (.inl (hU _ (.inr rfl))) _).setCell (.inl (hU _ (.inr rfl))) _).below (below_alloc (Below.refl _ _) _), ?_⟩
    have HJ2 : joinS 40 ((xs.map rng_frost).take (k + 1)) = ((mx ml lo, mn mh hi), (mn hl lo, mx hh hi)) := HJ.out
    show QIn w 40 72 (joinS 40 ((xs.map rng_frost).take (k + 1))) _
    rw [HJ2]
    exact ⟨below_alloc (below_set (below_set (below_set (below_set HI2.out.1 (by omega)) (by omega)) (by omega)) (by omega)) _,
      heap_at_old _ _ _ _ (blk_far (blk_far (blk_far (blk_far HI2.out.2.1 (by dsimp only; omega) _) (by dsimp only; omega) _) (by dsimp only; omega) _) (by dsimp only; omega) _),
      heap_at_old _ _ _ _ (blk_far (blk_far (blk_far (blk_far HI2.out.2.2.1 (by dsimp only; omega) _) (by dsimp only; omega) _) (by dsimp only; omega) _) (by dsimp only; omega) _),
      heap_at_old _ _ _ _ (blk_far (blk_far (blk_put (blk_put HI2.out.2.2.2.1 0 _ rfl) 1 _ rfl) (by dsimp only; omega) _) (by dsimp only; omega) _),
      heap_at_old _ _ _ _ (blk_put (blk_put (blk_far (blk_far HI2.out.2.2.2.2 (by dsimp only; omega) _) (by dsimp only; omega) _) 0 _ rfl) 1 _ rfl)⟩
  case done =>
    intro D W hD hI hK
    rw [List.take_of_length_le (by rw [HLX.out]; omega)] at hI
    have HI := Aside0.mk hI
    have HK := Aside0.mk hK
    clear hI hK
    unfold skyV at hsk
    generalize joinS 40 (xs.map rng_frost) = p at HI hsk
    obtain ⟨⟨ml, mh⟩, ⟨hl, hh⟩⟩ := p
    dsimp only at HI hsk
    have g0 := (blk_cell HI.out.2.2.2.1 0).trans rfl
    have g1 := (blk_cell HI.out.2.2.2.1 1).trans rfl
    have k0 := (blk_cell HI.out.2.2.2.2 0).trans rfl
    have k1 := (blk_cell HI.out.2.2.2.2 1).trans rfl
    have e0 := (blk_cell HI.out.2.2.1 0).trans rfl
    have e1 := (blk_cell HI.out.2.2.1 1).trans rfl
    have f0 := blk_frozen HI.out.2.2.1 0
    have f1 := blk_frozen HI.out.2.2.1 1
    dsimp only at g0 g1 k0 k1
    have hend : ∀ x y : Int, (x, y) = sv → ∃ W', Aside0 ((W.setCell ⟨w.heap.size + 1, 0, none⟩ (.int .i64 x)).setCell ⟨w.heap.size + 1, 1, none⟩ (.int .i64 y) = W') ∧ W'.heap[D]? = some (.deferred (some [])) ∧ W'.heap[w.heap.size + 1]? = some (.cells #[.int .i64 sv.1, .int .i64 sv.2] 27 (0, 0)) ∧ Below w.heap.size w W' := by
      rintro x y rfl
      exact ⟨_, ⟨rfl⟩, ((KeepsOthers.setCell W ⟨w.heap.size + 1, 0, none⟩ (.int .i64 x)).trans (KeepsOthers.setCell _ ⟨w.heap.size + 1, 1, none⟩ (.int .i64 y))).same D _ HK.out rfl, blk_put (blk_put HI.out.2.2.1 0 _ rfl) 1 _ rfl, below_set (below_set HI.out.1 (by omega)) (by omega)⟩
    have hend := Aside0.mk hend
    by_cases hlt : mh < ml
    · have hsv : (hl, hh) = sv := by have := hsk.out; rw [if_pos hlt] at this; exact this
      obtain ⟨W', hW', K1, B1, BW⟩ := hend.out hl hh hsv
      clear hsv hend hsk
      gi_wp2
      rw [hW'.out]
      refine ⟨by simp, .inl ⟨_, _, rfl, run_takeDeferred K1, ?_⟩⟩
      refine ⟨_, results_cell_row rfl _ _ (w.heap.size + 1) 27 _ (0, 0) _ rfl ((put_other K1 rfl B1).trans B1) hu rfl (by kernel_rfl), ?_⟩
      exact ⟨rfl, below_put _ BW (by omega)⟩
    · have hsv : (ml, mh) = sv := by have := hsk.out; rw [if_neg hlt] at this; exact this
      obtain ⟨W', hW', K1, B1, BW⟩ := hend.out ml mh hsv
      clear hsv hend hsk
      gi_wp2
      rw [hW'.out]
      refine ⟨by simp, .inl ⟨_, _, rfl, run_takeDeferred K1, ?_⟩⟩
      refine ⟨_, results_cell_row rfl _ _ (w.heap.size + 1) 27 _ (0, 0) _ rfl ((put_other K1 rfl B1).trans B1) hu rfl (by kernel_rfl), ?_⟩
      exact ⟨rfl, below_put _ BW (by omega)⟩
  case stop => exact fun D k W _ _ h _ => h.elim
  · obtain ⟨bx, v16, hb, hbx⟩ := h.2
    exact ⟨bx, v16, hb, (put_other hA hc hbx).trans hbx⟩
end Go.Proofs.Ythfhjcbgccnijaa.Q
