/- By hand: journal.Open where it finds records. -/
import Derived.Test.YtljmdkeeppikhaaJOp
namespace Go.Proofs.Ytljmdkeeppikhaa.Q
open Go.RowKit Go.Proofs.YtljmdkeeppikhaaW.PrintWords Go.Proofs.YtljmdkeeppikhaaW.PrintLast Go.Proofs.YtljmdkeeppikhaaW.PrintMore Go.Proofs.Ytljmdkeeppikhaa.Rng
attribute [local go_sem] Oper.semAt_some
attribute [local go_sem] max2_int min2_int max_two min_two max_three min_three max_four min_four
set_option linter.unusedVariables false
set_option linter.unusedSimpArgs false

private theorem put_oq {A : World} {q g : Nat} {o o' : Obj} {cs : Array Value} {t : TypeId} {fr : Nat × Nat} (hq : A.heap[q]? = some o) (hc : o.isCells = false) (hg : A.heap[g]? = some (.cells cs t fr)) : (A.putObj q o').heap[g]? = A.heap[g]? :=
  World.putObj_heap_other (fun e => by subst e; rw [hg] at hq; cases hq; cases hc)
private theorem below_pq {b : Nat} {w A : World} {q : Nat} (o' : Obj) (h : Below b w A) (hq : b ≤ q) : Below b w (A.putObj q o') :=
  h.trans ⟨rfl, rfl, rfl, by simp, fun j hj => World.putObj_heap_other (by omega)⟩
theorem row_FK {k : IntKind} {e base : Nat} {ok : Nat → Prop} {W : World} {v : Value} {x : List Int} (h : Kd.N (Kd.int k) e W base ok v x) : Kd.FK (Kd.slice e (Kd.int k)) W (fun j => some j = v.ownBlock) x [v] := by
  obtain ⟨h0, rows, hl, hR, hf⟩ := h
  have h2 : Kd.N (Kd.int k) e W base (fun j => some j = v.ownBlock) v x := ⟨fun j hj => hj.symm, rows, hl, hR, fun j x c hx hc W' _ => by
    have h := Kd.FK_now (hf j x c hx hc)
    exact h⟩
  obtain ⟨A, c, rfl⟩ := Kd.N_slice h2
  exact Kd.FK_slice_mk (Kd.N_reads' h2).2.1 (Kd.N_F h2)
theorem int_base {k : IntKind} {e : Nat} {w : World} {base : Nat} {ok : Nat → Prop} {v : Value} {xs : List Int} (h : Kd.N (Kd.int k) e w base ok v xs) : Kd.N (Kd.int k) e w base (fun i => base ≤ i) v xs := by
  have hb := Kd.N_base h
  obtain ⟨h0, rows, hl, hR, hf⟩ := h
  exact ⟨hb, rows, hl, hR, fun j x c hx hc W' _ => by
    have h := Kd.FK_now (hf j x c hx hc)
    exact h⟩
def rowsOf (R : List (Int × List Int)) : List (List Int) := R.map (fun x => x.2)
theorem take_snd (R : List (Int × List Int)) (k : Nat) (hk : k < R.length) : (rowsOf R).take (k + 1) = (rowsOf R).take k ++ [(R.getD k (0, [])).2] := by
  unfold rowsOf
  rw [List.take_succ_eq_append_getElem (by simpa using hk), List.getElem_map, List.getD_eq_getElem?_getD, List.getElem?_eq_getElem hk, Option.getD_some]

set_option maxRecDepth 100000 in
set_option maxHeartbeats 8000000 in
theorem open_ok (P : Nat → Prop) (A0 : Option Addr) (c0 : Nat) (l0 : List (List Int)) (A1 : Option Addr) (c1 : Nat) (l1 : List SW) (a : Int) (R : List (Int × List Int)) (w : World) (h0 : Kd.V kSec 35 w w.heap.size P (.slice A0 l0.length c0) l0) (hr1 : Kd.C kW w A1 l1.length l1) (hc1 : l1.length ≤ c1)
    (hk : dchk l0 l1 a = 0) (hl1 : l1.length = 0) (hR : recs.l0 (recK l0) l0 0 0 = some R) (hRl : R.length ≤ 100000) :
    Calls Try.prog 12 #[.agg (dkV A0 l0.length c0 A1 l1.length c1 a false)] w fun e w' => ∃ v0_ : Value, e = .returned (.tuple #[.agg #[v0_, .int .i64 l0.length, .int .i64 R.length], .int .i64 0]) ∧ Kd.V kRow 35 w' w.heap.size (fun k => P k ∨ w.heap.size ≤ k) v0_ (rowsOf R) ∧ Below w.heap.size w w' := by
  have hu := Try.underlying29
  have hul := Try.underlying22
  have HT := Aside0.mk (Two.new w (.cells (dkV A0 l0.length c0 A1 l1.length c1 a false) 25 (0, 0)) (.cells #[.slice none 0 0, .int .i64 0, .int .i64 0] 29 (0, 0)))
  have HC := Aside0.mk (disk_Check.calls A0 c0 l0 A1 c1 l1 a false (dchk l0 l1 a) _ (Kd.C_below (Kd.V_reads' h0).2.2 HT.out.2.2) (Kd.V_reads' h0).2.1 (Kd.C_below hr1 HT.out.2.2) hc1 rfl)
  rw [hk] at HC
  have HF0 := Aside0.mk (Kd.F_bound (Kd.V_F h0))
  have HRR := Aside0.mk hR
  have HRL := Aside0.mk hRl
  clear h0 hr1 hc1 hk hR hRl
  have b0_ := (blk_cell HT.out.1 0).trans rfl
  have b1_ := (blk_cell HT.out.1 1).trans rfl
  have b2_ := (blk_cell HT.out.1 2).trans rfl
  have b3_ := (blk_cell HT.out.1 3).trans rfl
  have hp : decide (0 < (l1.length : Int)) = false := decide_eq_false (by omega)
  have hp2 : decide (0 < l1.length) = false := decide_eq_false (by omega)
  have hp3 : (0 < l1.length) = False := eq_false (by omega)
  have hp4 : l1.length = 0 := hl1
  clear hl1
  generalize l1.length = n1 at *
  have HN1 := Aside0.mk hp4
  clear hp4
  obtain ⟨q, _⟩ : ∃ q : Nat, q = 7 := ⟨_, rfl⟩
  refine (callsIn_wide (n := q)).1 ?_
  refine callsIn_of_wp_marks Try.func12 rfl trivial ?_ rfl
  simp only [Try.ntmps12, List.size_toArray, List.length_cons, List.length_nil, Nat.reduceAdd, Nat.reduceSub, Array.replicate_succ, Array.replicate_zero, List.push_toArray, List.append_toArray, List.nil_append, List.cons_append]
  gi_wp2_with fail
  refine ⟨trivial, callsIn_wide.2 ?_⟩
  refine HC.out.mono ?_
  rintro e w1 ⟨rfl, hb⟩
  have HT1 := Aside0.mk (HT.out.below hb)
  clear hb HT HC b0_ b1_ b2_ b3_
  have b0_ := (blk_cell HT1.out.1 0).trans rfl
  have b1_ := (blk_cell HT1.out.1 1).trans rfl
  have b3_ := (blk_cell HT1.out.1 3).trans rfl
  have d1_ := (blk_cell HT1.out.2.1 1).trans rfl
  have df1_ := blk_frozen HT1.out.2.1 1
  gi_wp2_with fail
  refine ⟨trivial, callsIn_wide.2 ?_⟩
  have HJ2 := Aside0.mk (show (w1.setCell ⟨w.heap.size + 1, 1, none⟩ (.int .i64 l0.length)).heap[w.heap.size + 1]? = some (.cells #[.slice none 0 0, .int .i64 l0.length, .int .i64 0] 29 (0, 0)) from blk_put HT1.out.2.1 1 _ rfl)
  have HB2 := Aside0.mk (below_setCell HT1.out.2.2 (Nat.le_succ w.heap.size) 1 (.int .i64 l0.length))
  generalize w1.setCell ⟨w.heap.size + 1, 1, none⟩ (.int .i64 l0.length) = w2 at HJ2 HB2 ⊢
  clear HT1 b0_ b1_ b3_ d1_ df1_
  refine (records_ A0 l0.length c0 w2).mono ?_
  rintro e w3 ⟨rfl, hw3⟩
  have hbx : w3.heap[w2.heap.size]? = some (.cells #[.slice A0 l0.length c0] 22 (0, 0)) := hw3 ▸ heap_at_new _ _ _ rfl
  have h23 : Below w2.heap.size w2 w3 := hw3 ▸ below_alloc (Below.refl w2.heap.size w2) _
  have HJ3 := Aside0.mk (heap_below h23 HJ2.out)
  have HB3 := Aside0.mk (below_step HB2.out h23)
  have HBX := Aside0.mk hbx
  have hs2 : w.heap.size + 1 < w2.heap.size := (Array.getElem?_eq_some_iff.1 HJ2.out).1
  have hs3 : w3.heap.size = w2.heap.size + 1 := by rw [hw3]; simp
  have HS3 := Aside0.mk hs3
  have HS2 := Aside0.mk hs2
  clear hbx h23 hw3 HJ2 HB2 hp hp2 hp3 hs2 hs3
  gi_wp2
  have HIT : IterE Try.prog 60 #[.pointer (some ⟨w2.heap.size, 0, none⟩)] (RecEnc (w3.heap.size + 2) R) R.length (fun j => j = w.heap.size + 1 ∨ w3.heap.size ≤ j) (fun _ => False) (RecIn A0 c0 l0 w2.heap.size (w3.heap.size + 2) (fun k => P k ∧ k < w.heap.size)) :=
    recs_iter.calls (recK l0) l0 R A0 c0 w2.heap.size (w3.heap.size + 2) _ _ (fun j hj hU => by have := HS2.out; have := HS3.out; rcases hU with rfl | hU <;> omega) (fun hU => by have := HS2.out; have := HS3.out; rcases hU with hU | hU <;> omega) HRR.out
  generalize Value.agg (dkV A0 l0.length c0 A1 n1 c1 a false) = z1
  generalize Value.slice A1 n1 c1 = z3
  generalize Value.slice A0 l0.length c0 = z4
  generalize hz5 : Value.func (.func 60) #[] #[Value.pointer (some ⟨w2.heap.size, 0, none⟩)] = z5
  refine range_lawE (gf := 60) hz5.symm (enters_of Try.func60 (by kernel_rfl) rfl) HIT (fun k vs A h => by obtain ⟨v, rfl, _⟩ := h; rfl) (fun j hj => .inr hj) (fun k hk => hk.elim)
    (fun o1 o2 => ⟨by simp, heap_below (below_alloc (below_alloc (Below.refl w3.heap.size w3) o1) o2) HBX.out, Kd.F_below (Kd.F_below HF0.out HB3.out) (below_alloc (below_alloc (Below.refl w3.heap.size w3) o1) o2)⟩)
    (fun k W => OpI w (w3.heap.size + 2) l0.length ((rowsOf R).take k) W) (fun _ _ => False)
    (fun k A B h hS => h.st hS) (fun _ _ _ h _ => h) (fun k A q o o' h hq hA hc => h.put o' (by have := HS2.out; have := HS3.out; omega) (by have := HS2.out; have := HS3.out; omega)) (fun _ _ _ _ _ h _ _ _ => h)
    (fun o1 o2 => ⟨below_alloc (below_alloc HB3.out o1) o2, by simp, _, heap_below (below_alloc (below_alloc (Below.refl w3.heap.size w3) o1) o2) HJ3.out, Kd.N_nil _ _ _ _ _⟩)
    (fun k b W => OpI w (w3.heap.size + 2) l0.length ((rowsOf R).take k) W ∧ ∃ v x, b = { tmps := #[z1, .pointer (some ⟨w.heap.size, 0, none⟩), .pointer (some ⟨w.heap.size + 1, 0, none⟩), .int .i64 0, .int .i64 0, undef, v, z1, .int .i64 0, .int .i64 0, .bool false, undef, undef, .pointer (some ⟨w.heap.size, 3, none⟩), .bool false, undef, .pointer (some ⟨w.heap.size, 1, none⟩), z3, .int .i64 n1, .bool false, undef, .pointer (some ⟨w.heap.size, 0, none⟩), z4, .int .i64 l0.length, .pointer (some ⟨w.heap.size + 1, 1, none⟩), .pointer (some ⟨w.heap.size, 0, none⟩), z4, z5, x, v, undef, undef, undef, undef, undef, undef, undef, undef, undef, undef, undef], defers := [] } ∧ Kd.N (Kd.int .u8) 5 W (w3.heap.size + 2) (fun j => w3.heap.size + 2 ≤ j) v (R.getD k (0, [])).2)
    (fun k b A q o o' h hq hA hc => ⟨h.1.put o' (by have := HS2.out; have := HS3.out; omega) (by have := HS2.out; have := HS3.out; omega), ?_⟩) ?assign ?body ?done ?stop
  case assign =>
    rintro lq k vs W hk hI ⟨v, rfl, hv⟩
    simp only [List.zip_toArray, List.zip_cons_cons, List.zip_nil_left, List.foldl_toArray, List.foldl_cons, List.foldl_nil, List.setIfInBounds_toArray, List.set_cons_succ, List.set_cons_zero]
    have HI := Aside0.mk hI
    have HV := Aside0.mk (int_base (Kd.R_N hv))
    clear hI hv
    gi_wp2
    exact ⟨KeepsOthers.refl _, St.refl _ _, HI.out, _, _, rfl, HV.out⟩
  case body =>
    rintro lq k b W hk ⟨⟨h1, h2, vo, h3, h4⟩, v, x, rfl, hv⟩
    have HB := Aside0.mk h1
    have H2 := Aside0.mk h2
    have H3 := Aside0.mk h3
    have HN := Aside0.mk h4
    have HV := Aside0.mk hv
    have HK := Aside0.mk hk
    clear h1 h2 h3 h4 hv hk
    have d0_ := (blk_cell H3.out 0).trans rfl
    have df0_ := blk_frozen H3.out 0
    have hlen : ((rowsOf R).take k).length = k := by rw [List.length_take]; unfold rowsOf; rw [List.length_map]; have := HK.out; omega
    have hsnd := take_snd R k HK.out
    obtain ⟨xs, hxs⟩ : ∃ xs, (rowsOf R).take k = xs := ⟨_, rfl⟩
    obtain ⟨y, hy⟩ : ∃ y, (R.getD k (0, [])).2 = y := ⟨_, rfl⟩
    rw [hxs] at hlen hsnd HN
    rw [hy] at hsnd HV
    have HLEN := Aside0.mk hlen
    have HSND := Aside0.mk hsnd
    clear hlen hsnd hxs hy
    obtain ⟨Ao, co, rfl⟩ := Kd.N_slice HN.out
    obtain ⟨Av, cv, rfl⟩ := Kd.N_slice HV.out
    gi_wp2_with (gi_at_builtin; refine N_append_in kRow (w3.heap.size + 2) rfl (.tmp 31) (.tmp 33) 22 35 (.slice none 0 0) 24 rfl hul (by kernel_rfl) rfl (by decide) (by decide) (.slice Ao xs.length co) xs y [.slice Av y.length cv] (fun j => w3.heap.size + 2 ≤ j) (fun j => some j = (Value.slice Av y.length cv).ownBlock) rfl rfl (row_FK HV.out) ?hokp ?hfresh HN.out H2.out ?hl ?_)
    case hokp =>
      intro j hj
      obtain ⟨cells, hcells⟩ := Kd.N_typed HV.out j hj.symm
      exact ⟨Kd.N_base HV.out j hj.symm, Kd.N_ne HN.out hcells (by decide)⟩
    case hfresh => exact fun j hj => Nat.le_trans H2.out hj
    case hl => rw [HLEN.out]; have := HK.out; have := HRL.out; omega
    intro v1 w4 hn hg
    have HN4 := Aside0.mk hn
    have HG := Aside0.mk hg
    have H4 := Aside0.mk (blk_grown H3.out hg (Kd.N_ne HN.out H3.out (by decide)))
    obtain ⟨A5, c5, hv1⟩ := Kd.N_slice hn
    rw [List.length_append, List.length_singleton] at hv1
    subst hv1
    clear hn hg d0_ df0_
    have d0_ := (blk_cell H4.out 0).trans rfl
    have df0_ := blk_frozen H4.out 0
    gi_wp2
    have hst : St (fun j => j = w.heap.size + 1 ∨ w3.heap.size ≤ j) W (w4.setCell ⟨w.heap.size + 1, 0, none⟩ (.slice A5 (xs.length + 1) c5)) :=
      St.setCell ⟨HG.out.os, HG.out.tape, HG.out.output, HG.out.size, fun i hi hU => HG.out.block i hi (fun e => hU (.inr (by have := Kd.N_base HN.out i e.symm; omega)))⟩ (.inl (.inl rfl)) _
    refine ⟨(KeepsOthers.of_grownBy HG.out (fun j o hj ho => ?_)).trans (KeepsOthers.setCell _ _ _), hst, ?_⟩
    · obtain ⟨cells, hcells⟩ := Kd.N_typed HN.out j hj
      rw [hcells] at ho
      cases ho
      rfl
    · show OpI w (w3.heap.size + 2) l0.length ((rowsOf R).take (k + 1)) _
      rw [HSND.out]
      exact ⟨hst.base HB.out (Nat.le_refl _) (fun k hk => by have := HS2.out; have := HS3.out; rcases hk with rfl | hk <;> omega), Nat.le_trans H2.out hst.2.2.2.1, _, blk_put H4.out 0 _ rfl, Kd.N_far (p := ⟨w.heap.size + 1, 0, none⟩) HN4.out (fun j hj => by have := HS2.out; have := HS3.out; show j ≠ w.heap.size + 1; omega) _⟩
  case done =>
    rintro D W hD ⟨h1, h2, v, h3, h4⟩ hK
    have HB := Aside0.mk h1
    have H2 := Aside0.mk h2
    have H3 := Aside0.mk h3
    have HK := Aside0.mk hK
    have hall : (rowsOf R).take R.length = rowsOf R := List.take_of_length_le (by unfold rowsOf; exact Nat.le_of_eq (List.length_map _))
    have hlr : (rowsOf R).length = R.length := by unfold rowsOf; rw [List.length_map]
    rw [hall] at h4
    obtain ⟨Ao, co, rfl⟩ := Kd.N_slice h4
    have HN := Aside0.mk h4
    have HLR := Aside0.mk hlr
    clear h1 h2 h3 h4 hK hall hlr
    have d0_ := (blk_cell H3.out 0).trans rfl
    have d1_ := (blk_cell H3.out 1).trans rfl
    have d2_ := (blk_cell H3.out 2).trans rfl
    have df0_ := blk_frozen H3.out 0
    have df1_ := blk_frozen H3.out 1
    have df2_ := blk_frozen H3.out 2
    gi_wp2
    have hNN := HN.out
    rw [HLR.out] at hNN
    have hne : ∀ j, w3.heap.size + 2 ≤ j → j ≠ w.heap.size + 1 := fun j hj => by have := HS2.out; have := HS3.out; omega
    rw [HLR.out]
    obtain ⟨W', hW'⟩ : ∃ W', ((((W.setCell ⟨w.heap.size + 1, 2, none⟩ (.int .i64 R.length)).setCell ⟨w.heap.size + 1, 0, none⟩ (.slice Ao R.length co)).setCell ⟨w.heap.size + 1, 1, none⟩ (.int .i64 l0.length)).setCell ⟨w.heap.size + 1, 2, none⟩ (.int .i64 R.length)) = W' := ⟨_, rfl⟩
    have K1 := hW' ▸ ((((KeepsOthers.setCell W ⟨w.heap.size + 1, 2, none⟩ (.int .i64 R.length)).trans (KeepsOthers.setCell _ ⟨w.heap.size + 1, 0, none⟩ (.slice Ao R.length co))).trans (KeepsOthers.setCell _ ⟨w.heap.size + 1, 1, none⟩ (.int .i64 l0.length))).trans (KeepsOthers.setCell _ ⟨w.heap.size + 1, 2, none⟩ (.int .i64 R.length))).same D _ HK.out rfl
    have B8 : W'.heap[w.heap.size + 1]? = some (.cells #[.slice Ao R.length co, .int .i64 l0.length, .int .i64 R.length] 29 (0, 0)) := hW' ▸ blk_put (blk_put (blk_put (blk_put H3.out 2 (.int .i64 R.length) rfl) 0 (.slice Ao R.length co) rfl) 1 (.int .i64 l0.length) rfl) 2 (.int .i64 R.length) rfl
    have B0 : Below w.heap.size w W' := hW' ▸ below_setCell (below_setCell (below_setCell (below_setCell HB.out (Nat.le_succ w.heap.size) _ _) (Nat.le_succ w.heap.size) _ _) (Nat.le_succ w.heap.size) _ _) (Nat.le_succ w.heap.size) _ _
    have BN : Kd.N kRow 35 W' (w3.heap.size + 2) (fun j => w3.heap.size + 2 ≤ j) (.slice Ao R.length co) (rowsOf R) :=
      hW' ▸ Kd.N_far (p := ⟨w.heap.size + 1, 2, none⟩) (Kd.N_far (p := ⟨w.heap.size + 1, 1, none⟩) (Kd.N_far (p := ⟨w.heap.size + 1, 0, none⟩) (Kd.N_far (p := ⟨w.heap.size + 1, 2, none⟩) hNN hne _) hne _) hne _) hne _
    rw [hW']
    clear hW'
    refine ⟨by simp, .inl ⟨_, _, rfl, run_takeDeferred K1, ?_⟩⟩
    refine ⟨_, results_ct rfl _ _ (w.heap.size + 1) 29 _ (0, 0) _ rfl ((put_oq K1 rfl B8).trans B8) hu rfl (by kernel_rfl), ?_⟩
    exact ⟨_, rfl, Kd.V_mono (Kd.N_V (Kd.N_step BN (fun j hj _ => World.putObj_heap_other (by omega)))) (fun k hk => .inr (by have := HS2.out; have := HS3.out; omega)), below_pq _ B0 (by have := HS2.out; have := HS3.out; omega)⟩
  case stop => exact fun _ _ _ _ _ h => h.elim
  · obtain ⟨v, x, hb, hv⟩ := h.2
    exact ⟨v, x, hb, Kd.N_step hv (fun j hj _ => World.putObj_heap_other (by omega))⟩

def OpOut (w : World) (P : Nat → Prop) (r1 : List (List Int)) (r2 r3 r4 : Int) : Ending → World → Prop := fun e w' => ∃ v0_ : Value, e = .returned (.tuple #[.agg #[v0_, .int .i64 r2, .int .i64 r3], .int .i64 r4]) ∧ Kd.V (Kd.slice 5 (Kd.int .u8)) 35 w' w.heap.size P v0_ r1 ∧ Below w.heap.size w w'
theorem journal_Open.calls (P0_0_ : Nat → Prop) (A0_0 : Option Addr) (c0_0 : Nat) (l0_0 : List (List Int)) (P0_1_ : Nat → Prop) (A0_1 : Option Addr) (c0_1 : Nat) (l0_1 : List SW) (a0_2 : Int) (a0_3 : Bool) (r1 : List (List Int)) (r2 : Int) (r3 : Int) (r4 : Int) (w : World) (hs0_0 : Kd.V (Kd.slice 5 (Kd.int .u8)) 35 w w.heap.size (fun k_ => P0_0_ k_) (.slice A0_0 l0_0.length c0_0) l0_0) (hs0_1 : Kd.V kW 76 w w.heap.size (fun k_ => P0_1_ k_) (.slice A0_1 l0_1.length c0_1) l0_1) (h : journal_Open.f l0_0 l0_1 a0_2 a0_3 = some (r1, r2, r3, r4)) :
    Calls Try.prog 12 #[.agg #[.slice A0_0 l0_0.length c0_0, .slice A0_1 l0_1.length c0_1, .int .i64 a0_2, .bool a0_3]] w fun e w' => ∃ v0_ : Value, e = .returned (.tuple #[.agg #[v0_, .int .i64 r2, .int .i64 r3], .int .i64 r4]) ∧ Kd.V (Kd.slice 5 (Kd.int .u8)) 35 w' w.heap.size (fun k_ => ((P0_0_ k_ ∨ P0_1_ k_) ∨ w.heap.size ≤ k_)) v0_ r1 ∧ Below w.heap.size w w' := by
  have bad : ∀ c, ((dchk l0_0 l0_1 a0_2 ≠ 0 ∧ dchk l0_0 l0_1 a0_2 = c) ∨ (dchk l0_0 l0_1 a0_2 = 0 ∧ a0_3 = true ∧ c = 40) ∨ (dchk l0_0 l0_1 a0_2 = 0 ∧ a0_3 = false ∧ 0 < l0_1.length ∧ c = 1)) → ([] : List (List Int)) = r1 ∧ (0 : Int) = r2 ∧ (0 : Int) = r3 ∧ c = r4 → Calls Try.prog 12 #[.agg #[.slice A0_0 l0_0.length c0_0, .slice A0_1 l0_1.length c0_1, .int .i64 a0_2, .bool a0_3]] w (OpOut w (fun k_ => ((P0_0_ k_ ∨ P0_1_ k_) ∨ w.heap.size ≤ k_)) r1 r2 r3 r4) := fun c hc hr => by
    obtain ⟨rfl, rfl, rfl, rfl⟩ := hr
    refine (open_no A0_0 c0_0 l0_0 A0_1 c0_1 l0_1 a0_2 a0_3 c w (Kd.V_reads' hs0_0).2.2 (Kd.V_reads' hs0_0).2.1 (Kd.V_reads' hs0_1).2.2 (Kd.V_reads' hs0_1).2.1 hc).mono ?_
    rintro e w' ⟨rfl, hb⟩
    exact ⟨_, rfl, Kd.V_nil _ _ _ _ _, hb⟩
  unfold journal_Open.f at h
  by_cases h1 : dchk l0_0 l0_1 a0_2 = 0
  · rw [if_neg (fun hn => hn h1)] at h
    cases a0_3 with
    | true =>
      rw [if_pos rfl] at h
      simp only [Option.some.injEq, Prod.mk.injEq] at h
      exact bad 40 (.inr (.inl ⟨h1, rfl, rfl⟩)) h
    | false =>
      rw [if_neg (by decide)] at h
      by_cases h2 : 0 < l0_1.length
      · rw [if_pos h2] at h
        simp only [Option.some.injEq, Prod.mk.injEq] at h
        exact bad 1 (.inr (.inr ⟨h1, rfl, h2, rfl⟩)) h
      · rw [if_neg h2] at h
        obtain ⟨R, hR, h⟩ := Option.bind_eq_some_iff.1 h
        by_cases h3 : R.length ≤ 100000
        · rw [if_pos h3] at h
          simp only [Option.some.injEq, Prod.mk.injEq] at h
          obtain ⟨rfl, rfl, rfl, rfl⟩ := h
          refine (open_ok P0_0_ A0_0 c0_0 l0_0 A0_1 c0_1 l0_1 a0_2 R w hs0_0 (Kd.V_reads' hs0_1).2.2 (Kd.V_reads' hs0_1).2.1 h1 (by omega) hR h3).mono ?_
          rintro e w' ⟨v, rfl, hv, hb⟩
          exact ⟨v, rfl, Kd.V_mono hv (fun k hk => by rcases hk with hk | hk <;> simp [hk]), hb⟩
        · rw [if_neg h3] at h
          cases h
  · rw [if_pos h1] at h
    simp only [Option.some.injEq, Prod.mk.injEq] at h
    exact bad _ (.inl ⟨h1, rfl⟩) h
end Go.Proofs.Ytljmdkeeppikhaa.Q
