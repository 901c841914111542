/- By hand: what facts.Due computes. -/
import Derived.Test.YtebfcckaicgcfaaDoorFAd
import Derived.Test.YtebfcckaicgcfaaDoorQ3
namespace Go.Proofs.YtebfcckaicgcfaaDoor.Q
open Go.RowKit Go.Proofs.YtebfcckaicgcfaaDoorW.PrintWords Go.Proofs.YtebfcckaicgcfaaDoorW.PrintLast Go.Proofs.YtebfcckaicgcfaaDoorW.PrintMore
attribute [local go_sem] max2_int min2_int max_two min_two
set_option linter.unusedVariables false
set_option linter.unusedSimpArgs false

/-- Where a number stands first. -/
def idxV (l : List S24) (no : Int) : Int := match l.findIdx? (fun r => decide (r.f0 = no)) with | some k => (k : Int) | none => -1
theorem idx_some {l : List S24} {no : Int} {k : Nat} (hk : k < l.length) (h0 : ∀ j, j < k → noAt l j ≠ no) (h1 : noAt l k = no) : l.findIdx? (fun r => decide (r.f0 = no)) = some k := by
  rw [List.findIdx?_eq_some_iff_getElem]
  refine ⟨hk, ?_, fun j hj => ?_⟩
  · rw [← noAt_get l k hk, decide_eq_true_eq]; exact h1
  · rw [← noAt_get l j (by omega), decide_eq_true_eq]; exact h0 j hj
theorem idx_none {l : List S24} {no : Int} (h0 : ∀ j, j < l.length → noAt l j ≠ no) : l.findIdx? (fun r => decide (r.f0 = no)) = none := by
  rw [List.findIdx?_eq_none_iff]
  intro x hx
  obtain ⟨j, hj, rfl⟩ := List.getElem_of_mem hx
  have := h0 j hj
  rw [noAt_get l j hj] at this
  exact decide_eq_false this

set_option maxRecDepth 100000 in
set_option maxHeartbeats 4000000 in
theorem due1 (x : S24) (no : Int) (bn : Nat) (w : World) (hb : w.heap[bn]? = some (.cells #[.int .i64 no] 3 (0, 0))) :
    Calls Tryd.prog 34 #[.agg (facC x), .pointer (some ⟨bn, 0, none⟩)] w fun e w' => e = .returned (.bool (x.f0 == no)) ∧ Below w.heap.size w w' := by
  have c0 := (blk_cell (heap_at_old _ (.cells (facC x) 24 (0, 0)) _ _ hb) 0).trans rfl
  clear hb
  unfold facC at c0 ⊢
  go_enter Tryd.func34, Tryd.ntmps34
  go_wp2
  go_ret
  exact ⟨rfl, below_alloc (Below.refl _ _) _⟩

/-- The box that the closure holds, and the row. -/
def DuIn (w : World) (l : List S24) (A : Option Addr) (no : Int) (bn : Nat) (W : World) : Prop :=
  W.heap[bn]? = some (.cells #[.int .i64 no] 3 (0, 0)) ∧ Kd.C k24 W A l.length l ∧ Below w.heap.size w W
theorem DuIn.below {w : World} {l : List S24} {A : Option Addr} {no : Int} {bn : Nat} {W V : World} (h : DuIn w l A no bn W) (hb : Below W.heap.size W V) : DuIn w l A no bn V :=
  ⟨heap_below hb h.1, Kd.C_below h.2.1 hb, below_step h.2.2 hb⟩
set_option maxRecDepth 100000 in
set_option maxHeartbeats 4000000 in
theorem index_ (l : List S24) (A : Option Addr) (c : Nat) (no : Int) (bn : Nat) (w : World) (hn : l.length ≤ 4096) (h : DuIn w l A no bn w) :
    Calls Tryd.prog 33 #[.slice A l.length c, .func (.func 34) #[] #[.pointer (some ⟨bn, 0, none⟩)]] w fun e w' => e = .returned (.int .i64 (idxV l no)) ∧ Below w.heap.size w w' := by
  have H0 := Aside0.mk h
  clear h
  go_enter Tryd.func33, Tryd.ntmps33
  go_wp2
  go_loopw [8] (fun i wr => ∃ k : Nat, k ≤ l.length ∧ i = .int .i64 k ∧ Aside0 (DuIn w l A no bn wr) ∧ Aside0 (∀ j, j < k → noAt l j ≠ no)) (fun i _ => l.length - (intOf i).toNat)
  case atStart => exact ⟨0, by omega, rfl, H0, ⟨fun j hj => absurd hj (Nat.not_lt_zero _)⟩⟩
  case round =>
    clear H0
    obtain ⟨k, hk, rfl, HS, HN⟩ := hrel
    by_cases hlt : k < l.length
    · obtain ⟨ad2, e2, q0, q1, q2, q3, q4, q5, q6, q7, q8⟩ := at_T24 HS.out.2.1 (k : Int) (by omega) (by omega)
      rw [Int.toNat_natCast] at q0 q1 q2 q3 q4 q5 q6 q7 q8
      have hno : Aside0 ((rd_T24 l (k : Int)).f0 = noAt l k) := ⟨rfl⟩
      generalize rd_T24 l (k : Int) = r at q0 q1 q2 q3 q4 q5 q6 q7 q8 hno
      subst e2
      have HC := Aside0.mk (due1 r no bn wr HS.out.1)
      unfold facC at HC
      by_cases hd : r.f0 = no
      · have HD := Aside0.mk hd
        rw [beq_iff_eq.mpr hd] at HC
        clear hd
        go_wp2_with fail
        refine HC.out.mono ?_
        rintro e w1 ⟨rfl, hb⟩
        have HB1 := Aside0.mk (HS.out.below hb)
        clear hb HC q0 q1 q2 q3 q4 q5 q6 q7 q8
        go_wp2
        go_ret
        refine ⟨?_, HB1.out.2.2⟩
        rw [show idxV l no = (k : Int) by unfold idxV; rw [idx_some hlt HN.out (by rw [← hno.out]; exact HD.out)]]
        rfl
      · have HD := Aside0.mk hd
        rw [beq_eq_false_iff_ne.mpr hd] at HC
        clear hd
        go_wp2_with fail
        refine HC.out.mono ?_
        rintro e w1 ⟨rfl, hb⟩
        have HB1 := Aside0.mk (HS.out.below hb)
        clear hb HC q0 q1 q2 q3 q4 q5 q6 q7 q8
        go_wp2
        go_roundw
        case rel =>
          refine ⟨k + 1, hlt, by go_num, HB1, ⟨fun j hj => ?_⟩⟩
          rcases Nat.lt_succ_iff_lt_or_eq.1 hj with h1 | rfl
          · exact HN.out j h1
          · rw [← hno.out]; exact HD.out
        case measure => simp [intOf]; omega
    · obtain rfl : k = l.length := by omega
      have hv : idxV l no = -1 := by unfold idxV; rw [idx_none HN.out]
      have HV := Aside0.mk hv
      clear HN hv
      go_wp2
      go_ret
      refine ⟨?_, HS.out.2.2⟩
      rw [HV.out]
      rfl

theorem due_take (cur : Array Value) (l : List S24) (k : Nat) (x : S24) (a : Int) (hk : k < l.length) (hx : l[k] = x) (hc : l.length * 9 ≤ cur.size) (hct : cur.toList.take (l.length * 9) = flat l) :
    (cur.setIfInBounds (k * 9 + 8) (.int .i64 a)).toList.take (l.length * 9) = flat (l.set k ⟨x.f0, x.f1, x.f2, x.f3, x.f4, x.f5, x.f6, x.f7, a⟩) := by
  have h1 : l = l.take k ++ (x :: l.drop (k + 1)) := by
    rw [← hx, ← List.drop_eq_getElem_cons hk, List.take_append_drop]
  have h2 : flat (l.set k ⟨x.f0, x.f1, x.f2, x.f3, x.f4, x.f5, x.f6, x.f7, a⟩) = (flat l).set (k * 9 + 8) (.int .i64 a) := by
    have e1 : l.set k ⟨x.f0, x.f1, x.f2, x.f3, x.f4, x.f5, x.f6, x.f7, a⟩ = l.take k ++ (⟨x.f0, x.f1, x.f2, x.f3, x.f4, x.f5, x.f6, x.f7, a⟩ :: l.drop (k + 1)) := by
      rw [List.set_eq_take_append_cons_drop, if_pos hk]
    have hl : (flat (l.take k)).length = k * 9 := by rw [flat_length, List.length_take, Nat.min_eq_left (by omega)]
    have e2 : flat l = flat (l.take k) ++ (repL x ++ flat (l.drop (k + 1))) := by
      conv => lhs; rw [h1]
      rw [flat_append]
      rfl
    rw [e1, flat_append, e2, List.set_append_right _ _ (by omega), hl, Nat.add_sub_cancel_left]
    rfl
  rw [h2, ← hct, Array.toList_setIfInBounds, List.take_set]
theorem due_own {W : World} {base g cap : Nat} {l : List S24} (k : Nat) (x : S24) (a : Int) (hk : k < l.length) (hx : l[k] = x) (h : W.ownsRow base 24 9 (.slice (some ⟨g, 0, none⟩) l.length cap) l.length (flat l)) :
    (W.setCell ⟨g, k * 9 + 8, none⟩ (.int .i64 a)).ownsRow base 24 9 (.slice (some ⟨g, 0, none⟩) l.length cap) (l.set k ⟨x.f0, x.f1, x.f2, x.f3, x.f4, x.f5, x.f6, x.f7, a⟩).length (flat (l.set k ⟨x.f0, x.f1, x.f2, x.f3, x.f4, x.f5, x.f6, x.f7, a⟩)) := by
  refine ⟨by rw [flat_length], ?_⟩
  rw [List.length_set]
  rcases h.2 with ⟨h1, h2⟩ | ⟨g', cap', cur, e, h1, h2, h3, h4, h5, h6⟩
  · cases h1
  · simp only [Value.slice.injEq, Option.some.injEq, Addr.mk.injEq, and_true, true_and] at e
    obtain ⟨rfl, rfl⟩ := e
    refine .inr ⟨g, cap, cur.setIfInBounds (k * 9 + 8) (.int .i64 a), rfl, h1, blk_put h2 _ _ rfl, h3, h4, by rw [Array.size_setIfInBounds]; exact h5, ?_⟩
    exact due_take cur l k x a hk hx (by rw [h5]; exact Nat.mul_le_mul_right 9 h3) h6

def dueV (l : List S24) (no a : Int) : List S24 × Int :=
  if chkV l = 0 then (if wi a 0 134217727 = true then (match l.findIdx? (fun r => decide (r.f0 = no)) with
    | some k => (l.set k ⟨(rd_T24 l k).f0, (rd_T24 l k).f1, (rd_T24 l k).f2, (rd_T24 l k).f3, (rd_T24 l k).f4, (rd_T24 l k).f5, (rd_T24 l k).f6, (rd_T24 l k).f7, a⟩, 0)
    | none => ([], 460)) else ([], 1)) else ([], chkV l)
def facts_Due.f (l0 : List (S24)) (a1 : Int) (a2 : Int) : Option ((List (S24)) × Int) := some (dueV l0 a1 a2)

theorem DuIn.new (w : World) {l : List S24} {A : Option Addr} (no : Int) (hr0 : Kd.C k24 w A l.length l) : DuIn w l A no w.heap.size (w.alloc (.cells #[.int .i64 no] 3 (0, 0))) :=
  ⟨heap_at_new _ _ _ rfl, Kd.C_below hr0 (below_alloc (Below.refl _ _) _), below_alloc (Below.refl _ _) _⟩
theorem moment_calls (a : Int) (w : World) : Calls Tryd.prog 30 #[.int .i64 a] w fun e w' => e = .returned (.bool (wi a 0 134217727)) ∧ Below w.heap.size w w' :=
  (facts_moment.calls a (wi a 0 134217727) w (fmoment a)).mono fun _ _ h => ⟨h.1, h.2.below⟩

section
variable (A0 : Option Addr) (c0 : Nat) (l0 : List S24) (a1 a2 : Int) (w : World) (hr0 : Kd.C k24 w A0 l0.length l0) (hc0 : l0.length ≤ c0) (hrw : RowsAt w)
include hr0 hc0 hrw
set_option maxRecDepth 100000 in
set_option maxHeartbeats 4000000 in
theorem due_no1 (h1 : chkV l0 ≠ 0) : Calls Tryd.prog 19 #[.slice A0 l0.length c0, .int .i64 a1, .int .i64 a2] w (AddOut w [] (chkV l0)) := by
  have HC := Aside0.mk (fun W hb => chk_calls A0 c0 l0 W (Kd.C_below hr0 hb) hc0 (hrw.below hb hrw.pos))
  have H0 := Aside0.mk (DuIn.new w a1 hr0)
  generalize chkV l0 = x at HC h1 ⊢
  have hx : (x != 0) = true := bne_iff_ne.mpr h1
  clear hr0 hrw h1
  go_enter Tryd.func19, Tryd.ntmps19
  go_wp2_with fail
  refine (HC.out _ H0.out.2.2).mono ?_
  rintro e w1 ⟨rfl, hb⟩
  replace H0 := Aside0.mk (H0.out.below hb)
  clear hb
  go_wp2
  go_ret2
  exact ⟨_, rfl, Kd.R_nil _ _ _ _ _, H0.out.2.2⟩
set_option maxRecDepth 100000 in
set_option maxHeartbeats 4000000 in
theorem due_no2 (h1 : chkV l0 = 0) (h2 : wi a2 0 134217727 = false) : Calls Tryd.prog 19 #[.slice A0 l0.length c0, .int .i64 a1, .int .i64 a2] w (AddOut w [] 1) := by
  have HC := Aside0.mk (fun W hb => chk_calls A0 c0 l0 W (Kd.C_below hr0 hb) hc0 (hrw.below hb hrw.pos))
  have HM := Aside0.mk (moment_calls a2)
  have H0 := Aside0.mk (DuIn.new w a1 hr0)
  rw [h1] at HC
  rw [h2] at HM
  clear hr0 hrw h1 h2
  go_enter Tryd.func19, Tryd.ntmps19
  go_wp2_with fail
  refine (HC.out _ H0.out.2.2).mono ?_
  rintro e w1 ⟨rfl, hb⟩
  replace H0 := Aside0.mk (H0.out.below hb)
  clear hb
  go_wp2_with fail
  refine (HM.out _).mono ?_
  rintro e w2 ⟨rfl, hb⟩
  replace H0 := Aside0.mk (H0.out.below hb)
  clear hb
  go_wp2
  go_ret2
  exact ⟨_, rfl, Kd.R_nil _ _ _ _ _, H0.out.2.2⟩
set_option maxRecDepth 100000 in
set_option maxHeartbeats 4000000 in
theorem due_no3 (h1 : chkV l0 = 0) (h2 : wi a2 0 134217727 = true) (h3 : l0.findIdx? (fun r => decide (r.f0 = a1)) = none) : Calls Tryd.prog 19 #[.slice A0 l0.length c0, .int .i64 a1, .int .i64 a2] w (AddOut w [] 460) := by
  have HC := Aside0.mk (fun W hb => chk_calls A0 c0 l0 W (Kd.C_below hr0 hb) hc0 (hrw.below hb hrw.pos))
  have HM := Aside0.mk (moment_calls a2)
  have hn := (chk_ok h1).1
  have HK := Aside0.mk (fun W (hb : Kd.C k24 W A0 l0.length l0) => clone_ l0 A0 c0 W hb hn)
  have HX := Aside0.mk (fun A c W h => index_ l0 A c a1 w.heap.size W hn h)
  have hv : idxV l0 a1 = -1 := by unfold idxV; rw [h3]
  rw [hv] at HX
  have H0 := Aside0.mk (DuIn.new w a1 hr0)
  rw [h1] at HC
  rw [h2] at HM
  clear hr0 hrw h1 h2 h3 hv
  go_enter Tryd.func19, Tryd.ntmps19
  go_wp2_with fail
  refine (HC.out _ H0.out.2.2).mono ?_
  rintro e w1 ⟨rfl, hb⟩
  replace H0 := Aside0.mk (H0.out.below hb)
  clear hb
  go_wp2_with fail
  refine (HM.out _).mono ?_
  rintro e w2 ⟨rfl, hb⟩
  replace H0 := Aside0.mk (H0.out.below hb)
  clear hb
  go_wp2_with fail
  refine (HK.out _ H0.out.2.1).mono ?_
  rintro e w3 ⟨v, rfl, hown, hb⟩
  replace H0 := Aside0.mk (H0.out.below hb)
  clear hb
  obtain ⟨A5, c5, rfl, h5, h6⟩ := Kd.R_reads (flat_R hown)
  have H6 := Aside0.mk h6
  clear h6 hown h5
  go_wp2_with fail
  refine (HX.out _ _ _ ⟨H0.out.1, H6.out, Below.refl _ _⟩).mono ?_
  rintro e w4 ⟨rfl, hb⟩
  replace H0 := Aside0.mk (H0.out.below hb)
  clear hb
  go_wp2
  go_ret2
  exact ⟨_, rfl, Kd.R_nil _ _ _ _ _, H0.out.2.2⟩
set_option maxRecDepth 100000 in
set_option maxHeartbeats 4000000 in
theorem due_yes (h1 : chkV l0 = 0) (h2 : wi a2 0 134217727 = true) (k : Nat) (h3 : l0.findIdx? (fun r => decide (r.f0 = a1)) = some k) (hk : k < l0.length) (x : S24) (hx : l0[k] = x) :
    Calls Tryd.prog 19 #[.slice A0 l0.length c0, .int .i64 a1, .int .i64 a2] w (AddOut w (l0.set k ⟨x.f0, x.f1, x.f2, x.f3, x.f4, x.f5, x.f6, x.f7, a2⟩) 0) := by
  have HC := Aside0.mk (fun W hb => chk_calls A0 c0 l0 W (Kd.C_below hr0 hb) hc0 (hrw.below hb hrw.pos))
  have HM := Aside0.mk (moment_calls a2)
  have hn := (chk_ok h1).1
  have HK := Aside0.mk (fun W (hb : Kd.C k24 W A0 l0.length l0) => clone_ l0 A0 c0 W hb hn)
  have HX := Aside0.mk (fun A c W h => index_ l0 A c a1 w.heap.size W hn h)
  have hv : idxV l0 a1 = (k : Int) := by unfold idxV; rw [h3]
  rw [hv] at HX
  have H0 := Aside0.mk (DuIn.new w a1 hr0)
  have HXX := Aside0.mk hx
  rw [h1] at HC
  rw [h2] at HM
  clear hr0 hrw h1 h2 h3 hv hx
  go_enter Tryd.func19, Tryd.ntmps19
  go_wp2_with fail
  refine (HC.out _ H0.out.2.2).mono ?_
  rintro e w1 ⟨rfl, hb⟩
  replace H0 := Aside0.mk (H0.out.below hb)
  clear hb
  go_wp2_with fail
  refine (HM.out _).mono ?_
  rintro e w2 ⟨rfl, hb⟩
  replace H0 := Aside0.mk (H0.out.below hb)
  clear hb
  go_wp2_with fail
  refine (HK.out _ H0.out.2.1).mono ?_
  rintro e w3 ⟨v, rfl, hown, hb⟩
  have hw2 := Aside0.mk (below_size H0.out.2.2)
  replace H0 := Aside0.mk (H0.out.below hb)
  clear hb
  rcases hown.2 with ⟨_, h0⟩ | ⟨g, cap, cur, rfl, hg1, hg2, hg3, hg4, hg5, hg6⟩
  · omega
  have HOWN := Aside0.mk hown
  obtain ⟨A5, c5, e5, h5, h6⟩ := Kd.R_reads (flat_R hown)
  simp only [Value.slice.injEq, true_and] at e5
  obtain ⟨rfl, rfl⟩ := e5
  have H6 := Aside0.mk h6
  have HG := Aside0.mk hg2
  have HG1 := Aside0.mk hg1
  have HG5 := Aside0.mk hg5
  clear h6 hown h5 hg2 hg1 hg4 hg6
  go_wp2_with fail
  refine (HX.out _ _ _ ⟨H0.out.1, H6.out, Below.refl _ _⟩).mono ?_
  rintro e w4 ⟨rfl, hb⟩
  replace H0 := Aside0.mk (H0.out.below hb)
  have HG4 : Aside0 (w4.heap[g]? = some (.cells cur 24 (0, 0))) := ⟨heap_below hb HG.out⟩
  have HO4 : Aside0 (w4.ownsRow w2.heap.size 24 9 (.slice (some ⟨g, 0, none⟩) l0.length cap) l0.length (flat l0)) := ⟨⟨HOWN.out.1, by
    rcases HOWN.out.2 with ⟨h, _⟩ | ⟨g', cap', cur', e, h1, h2, h3⟩
    · cases h
    · refine .inr ⟨g', cap', cur', e, h1, ?_, h3⟩
      exact heap_below hb h2⟩⟩
  clear hb HOWN HG
  have hki : (k : Int) < (l0.length : Int) := by omega
  have hf := blk_frozen HG4.out (k * 9 + 8)
  have hcell : ∃ z, w4.cell? ⟨g, k * 9 + 8, none⟩ = some z := by
    rw [blk_cell HG4.out, Array.getElem?_eq_getElem (by rw [HG5.out]; omega)]
    exact ⟨_, rfl⟩
  obtain ⟨z, hz⟩ := hcell
  go_wp2
  go_ret2
  have hfin := due_own k x a2 hk HXX.out HO4.out
  have hlen : (l0.set k ⟨x.f0, x.f1, x.f2, x.f3, x.f4, x.f5, x.f6, x.f7, a2⟩).length = l0.length := List.length_set ..
  have hge := hw2.out
  have hg1' := HG1.out
  refine ⟨_, rfl, flat_R (own_base (by rw [hlen] at hfin ⊢; exact hfin) hge), below_set H0.out.2.2 (by show w.heap.size ≤ g; omega)⟩
end

theorem facts_Due.calls (A0 : Option Addr) (c0 : Nat) (l0 : List (S24)) (a1 : Int) (a2 : Int) (r1 : List (S24)) (r2 : Int) (w : World) (hr0 : Kd.C k24 w A0 l0.length l0) (hc0 : l0.length ≤ c0) (h : facts_Due.f l0 a1 a2 = some (r1, r2)) (hrw : RowsAt w := by exact rwB (by assumption) (by assumption)) :
    Calls Tryd.prog 19 #[.slice A0 l0.length c0, .int .i64 a1, .int .i64 a2] w fun e w' => ∃ v0_ : Value, e = .returned (.tuple #[v0_, .int .i64 r2]) ∧ Kd.R k24 24 w' w.heap.size (fun _ => True) v0_ r1 ∧ Below w.heap.size w w' := by
  have h' := Option.some.inj h
  unfold dueV at h'
  by_cases h1 : chkV l0 = 0
  · rw [if_pos h1] at h'
    cases h2 : wi a2 0 134217727 with
    | false =>
      rw [h2, if_neg (by simp)] at h'
      obtain ⟨rfl, rfl⟩ := Prod.mk.inj h'
      exact due_no2 A0 c0 l0 a1 a2 w hr0 hc0 hrw h1 h2
    | true =>
      rw [h2, if_pos rfl] at h'
      cases h3 : l0.findIdx? (fun r => decide (r.f0 = a1)) with
      | none =>
        rw [h3] at h'
        obtain ⟨rfl, rfl⟩ := Prod.mk.inj h'
        exact due_no3 A0 c0 l0 a1 a2 w hr0 hc0 hrw h1 h2 h3
      | some k =>
        rw [h3] at h'
        have hk : k < l0.length := (List.findIdx?_eq_some_iff_getElem.1 h3).1
        obtain ⟨rfl, rfl⟩ := Prod.mk.inj h'
        have hx : rd_T24 l0 (k : Int) = l0[k] := by simp [rd_T24, List.getD_eq_getElem?_getD, hk]
        rw [hx]
        exact due_yes A0 c0 l0 a1 a2 w hr0 hc0 hrw h1 h2 k h3 hk _ rfl
  · rw [if_neg h1] at h'
    obtain ⟨rfl, rfl⟩ := Prod.mk.inj h'
    exact due_no1 A0 c0 l0 a1 a2 w hr0 hc0 hrw h1
end Go.Proofs.YtebfcckaicgcfaaDoor.Q
