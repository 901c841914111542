/- By hand: what facts.Add computes. -/
import Derived.Test.YtebfcckaicgcfaaDoorFSe
namespace Go.Proofs.YtebfcckaicgcfaaDoor.Q
open Go.RowKit Go.Proofs.YtebfcckaicgcfaaDoorW.PrintWords Go.Proofs.YtebfcckaicgcfaaDoorW.PrintLast Go.Proofs.YtebfcckaicgcfaaDoorW.PrintMore
attribute [local go_sem] max2_int min2_int max_two min_two
set_option linter.unusedVariables false
set_option linter.unusedSimpArgs false

theorem ins_all (l : List S24) (v : Value) (i vb base : Nat) (r : S24) (W : World) (hn : l.length < 4096) (hown : W.ownsRow base 24 9 v l.length (flat l)) (hb : base ≤ W.heap.size)
    (hvb : W.heap[vb]? = some (.cells (repL r).toArray 24 (0, 0))) (hne : ∀ g, v.ownBlock = some g → vb ≠ g) (hi : i ≤ l.length) :
    Calls Tryd.prog 27 #[v, .int .i64 (i : Nat), .slice (some ⟨vb, 0, none⟩) 1 1] W (InsOut base W l i r) := by
  rcases Nat.eq_or_lt_of_le hi with h | h
  · subst h
    exact ins_end l v vb base r W hn hown hb hvb
  · rcases hown.2 with ⟨_, h2⟩ | ⟨g, cap, cur, rfl, h1, h2, h3, h4, h5, h6⟩
    · omega
    · rcases Nat.eq_or_lt_of_le h3 with h7 | h7
      · subst h7
        exact ins_grow l g cur i vb base r W hn hb h2 h5 h6 h hvb
      · exact ins_room l g cap cur i vb base r W hn h1 h2 h5 h6 h7 h4 h hvb (hne g rfl)

theorem own_base {w : World} {b b' e size : Nat} {v : Value} {n : Nat} {xs : List Value} (h : w.ownsRow b e size v n xs) (hb : b' ≤ b) : w.ownsRow b' e size v n xs := by
  refine ⟨h.1, ?_⟩
  rcases h.2 with h | ⟨g, cap, cur, h1, h2, h3⟩
  · exact .inl h
  · exact .inr ⟨g, cap, cur, h1, by omega, h3⟩
theorem own_ge {w : World} {b e size : Nat} {v : Value} {n : Nat} {xs : List Value} (h : w.ownsRow b e size v n xs) : ∀ g, v.ownBlock = some g → b ≤ g ∧ g < w.heap.size := by
  intro g hg
  rcases h.2 with ⟨h1, _⟩ | ⟨g', cap, cur, h1, h2, h3, _⟩
  · rw [h1] at hg; simp [Value.ownBlock] at hg
  · rw [h1] at hg
    simp only [Value.ownBlock, Option.some.injEq] at hg
    subst hg
    exact ⟨h2, blk_lt h3⟩

theorem World.lt_alloc (W : World) (o : Obj) : W.heap.size < (W.alloc o).heap.size := by rw [World.size_alloc]; exact Nat.lt_succ_self _
/-- Is the number there already? -/
def twiceB (l : List S24) (x : Int) : Bool := decide (posV l x < l.length) && decide (noAt l (posV l x) = x)
def addV (l : List S24) (r : S24) : List S24 × Int :=
  if chkV l = 0 then (if fB r = true then (if twiceB l r.f0 = true then ([], 171) else if l.length = 4096 then ([], 2) else (insAt l (posV l r.f0) r, 0)) else ([], 460)) else ([], chkV l)
def facts_Add.f (l0 : List (S24)) (a1_0 : Int) (a1_1 : Int) (a1_2 : Int) (a1_3 : Int) (a1_4 : Int) (a1_5 : Int) (a1_6 : Int) (a1_7 : Int) (a1_8 : Int) : Option ((List (S24)) × Int) := some (addV l0 ⟨a1_0, a1_1, a1_2, a1_3, a1_4, a1_5, a1_6, a1_7, a1_8⟩)

/-- Add's post. -/
def AddOut (w : World) (r1 : List S24) (r2 : Int) (e : Ending) (w' : World) : Prop := ∃ v0_ : Value, e = .returned (.tuple #[v0_, .int .i64 r2]) ∧ Kd.R k24 24 w' w.heap.size (fun _ => True) v0_ r1 ∧ Below w.heap.size w w'
theorem sorted_ {l : List S24} (h : chkV l = 0) : ∀ i j, i < j → j < l.length → noAt l i < noAt l j := by
  have hg := (chk_ok h).2
  have h1 : ∀ i, i + 1 < l.length → noAt l i < noAt l (i + 1) := fun i hi => by
    have := hg (i + 1) hi
    unfold goodAt at this
    simp only [Bool.and_eq_true, Bool.or_eq_true, decide_eq_true_eq, Nat.add_sub_cancel] at this
    rcases this.2 with h2 | h2
    · omega
    · exact h2
  intro i j hij
  induction j with
  | zero => omega
  | succ j ih =>
    intro hj
    rcases Nat.lt_or_ge i j with h2 | h2
    · have := ih h2 (by omega); have := h1 j hj; omega
    · obtain rfl : i = j := by omega
      exact h1 i hj
theorem posV_le (l : List S24) (x : Int) : posV l x ≤ l.length := by
  unfold posV
  exact (List.takeWhile_sublist _).length_le
def addr.T11 : Bool × List (List Nat × List Nat) := (true, [([], []), ([0], [0]), ([], []), ([], []), ([3], [3]), ([1, 2, 4, 1], [1, 2, 4]), ([5, 5, 0, 1, 2, 3, 4, 5], [5]), ([6, 0, 1, 2, 3, 4, 5, 6], [])])
def addr.B11 : List Nat := [0, 1, 0, 0, 8, 31, 63, 127]
theorem addr.tab11 : rtab .any (opsOf Tryd.f12 11) = addr.T11 := by kernel_rfl
theorem addr.bits11 : waitsOk addr.T11.2 addr.B11 = true := by kernel_rfl
set_option maxRecDepth 100000 in
set_option maxHeartbeats 4000000 in
theorem add_no1 (A0 : Option Addr) (c0 : Nat) (l0 : List S24) (r : S24) (w : World) (hr0 : Kd.C k24 w A0 l0.length l0) (hc0 : l0.length ≤ c0) (hrw : RowsAt w) (h1 : chkV l0 ≠ 0) :
    Calls Tryd.prog 12 #[.slice A0 l0.length c0, .agg (repL r).toArray] w (AddOut w [] (chkV l0)) := by
  have HC := Aside0.mk (fun W hb => chk_calls A0 c0 l0 W (Kd.C_below hr0 hb) hc0 (hrw.below hb hrw.pos))
  have HVv := Aside0.mk (fun W hb => right_calls r W (hrw.below (w := w) hb hrw.pos))
  have HR := Aside0.mk hr0
  generalize chkV l0 = x at HC h1 ⊢
  have hx : (x != 0) = true := bne_iff_ne.mpr h1
  clear hr0 hrw HVv h1
  unfold repL
  have H0 : Aside0 (SeIn w l0 A0 c0 r w.heap.size (w.heap.size + 1) ((w.alloc (.cells #[.slice A0 l0.length c0] 22 (0, 0))).alloc (.cells #[.int .i64 r.f0, .int .i64 r.f1, .int .i64 r.f2, .int .i64 r.f3, .int .i64 r.f4, .int .i64 r.f5, .int .i64 r.f6, .int .i64 r.f7, .int .i64 r.f8] 24 (0, 0)))) := ⟨heap_at_old _ _ _ _ (heap_at_new _ _ _ rfl), heap_at_new _ _ _ (by simp), Kd.C_below HR.out (below_alloc (below_alloc (Below.refl _ _) _) _), below_alloc (below_alloc (Below.refl _ _) _) _⟩
  clear HR
  go_enter Tryd.func12, Tryd.ntmps12
  have b0 := (blk_cell H0.out.1 0).trans rfl
  go_wp2_with fail
  refine (HC.out _ H0.out.2.2.2).mono ?_
  rintro e w1 ⟨rfl, hb⟩
  replace H0 := Aside0.mk (H0.out.below hb)
  clear hb b0
  go_wp2
  go_ret2
  exact ⟨_, rfl, Kd.R_nil _ _ _ _ _, H0.out.2.2.2⟩
set_option maxRecDepth 100000 in
set_option maxHeartbeats 4000000 in
theorem add_no2 (A0 : Option Addr) (c0 : Nat) (l0 : List S24) (r : S24) (w : World) (hr0 : Kd.C k24 w A0 l0.length l0) (hc0 : l0.length ≤ c0) (hrw : RowsAt w) (h1 : chkV l0 = 0) (h2 : fB r = false) :
    Calls Tryd.prog 12 #[.slice A0 l0.length c0, .agg (repL r).toArray] w (AddOut w [] 460) := by
  have HC := Aside0.mk (fun W hb => chk_calls A0 c0 l0 W (Kd.C_below hr0 hb) hc0 (hrw.below hb hrw.pos))
  have HVv := Aside0.mk (fun W hb => right_calls r W (hrw.below (w := w) hb hrw.pos))
  have HR := Aside0.mk hr0
  rw [h1] at HC
  rw [h2] at HVv
  clear hr0 hrw h1 h2
  unfold repL
  have H0 : Aside0 (SeIn w l0 A0 c0 r w.heap.size (w.heap.size + 1) ((w.alloc (.cells #[.slice A0 l0.length c0] 22 (0, 0))).alloc (.cells #[.int .i64 r.f0, .int .i64 r.f1, .int .i64 r.f2, .int .i64 r.f3, .int .i64 r.f4, .int .i64 r.f5, .int .i64 r.f6, .int .i64 r.f7, .int .i64 r.f8] 24 (0, 0)))) := ⟨heap_at_old _ _ _ _ (heap_at_new _ _ _ rfl), heap_at_new _ _ _ (by simp), Kd.C_below HR.out (below_alloc (below_alloc (Below.refl _ _) _) _), below_alloc (below_alloc (Below.refl _ _) _) _⟩
  clear HR
  go_enter Tryd.func12, Tryd.ntmps12
  have b0 := (blk_cell H0.out.1 0).trans rfl
  go_wp2_with fail
  refine (HC.out _ H0.out.2.2.2).mono ?_
  rintro e w1 ⟨rfl, hb⟩
  replace H0 := Aside0.mk (H0.out.below hb)
  clear hb b0
  have b0 := (blk_cell H0.out.1 0).trans rfl
  have c0' : _ = some (Value.int .i64 r.f0) := (blk_cell H0.out.2.1 0).trans rfl
  have c1' : _ = some (Value.int .i64 r.f1) := (blk_cell H0.out.2.1 1).trans rfl
  have c2' : _ = some (Value.int .i64 r.f2) := (blk_cell H0.out.2.1 2).trans rfl
  have c3' : _ = some (Value.int .i64 r.f3) := (blk_cell H0.out.2.1 3).trans rfl
  have c4' : _ = some (Value.int .i64 r.f4) := (blk_cell H0.out.2.1 4).trans rfl
  have c5' : _ = some (Value.int .i64 r.f5) := (blk_cell H0.out.2.1 5).trans rfl
  have c6' : _ = some (Value.int .i64 r.f6) := (blk_cell H0.out.2.1 6).trans rfl
  have c7' : _ = some (Value.int .i64 r.f7) := (blk_cell H0.out.2.1 7).trans rfl
  have c8' : _ = some (Value.int .i64 r.f8) := (blk_cell H0.out.2.1 8).trans rfl
  go_wp2_with fail
  refine (HVv.out _ H0.out.2.2.2).mono ?_
  rintro e w2 ⟨rfl, hb⟩
  clear b0 c0' c1' c2' c3' c4' c5' c6' c7' c8'
  replace H0 := Aside0.mk (H0.out.below hb)
  clear hb
  go_wp2
  go_ret2
  exact ⟨_, rfl, Kd.R_nil _ _ _ _ _, H0.out.2.2.2⟩
set_option maxRecDepth 100000 in
set_option maxHeartbeats 4000000 in
theorem add_no3 (A0 : Option Addr) (c0 : Nat) (l0 : List S24) (r : S24) (w : World) (hr0 : Kd.C k24 w A0 l0.length l0) (hc0 : l0.length ≤ c0) (hrw : RowsAt w) (h1 : chkV l0 = 0) (h2 : fB r = true) (h3 : twiceB l0 r.f0 = true) :
    Calls Tryd.prog 12 #[.slice A0 l0.length c0, .agg (repL r).toArray] w (AddOut w [] 171) := by
  have HC := Aside0.mk (fun W hb => chk_calls A0 c0 l0 W (Kd.C_below hr0 hb) hc0 (hrw.below hb hrw.pos))
  have HVv := Aside0.mk (fun W hb => right_calls r W (hrw.below (w := w) hb hrw.pos))
  have HR := Aside0.mk hr0
  have hn := (chk_ok h1).1
  have HB := Aside0.mk (fun W (hS : SeIn W l0 A0 c0 r w.heap.size (w.heap.size + 1) W) => search_ l0 A0 c0 r w.heap.size (w.heap.size + 1) W hn (sorted_ h1) hS)
  have hpl := posV_le l0 r.f0
  unfold twiceB at h3
  generalize posV l0 r.f0 = p at HB hpl h3
  obtain ⟨hp0, hy⟩ : p < l0.length ∧ noAt l0 p = r.f0 := by simpa using h3
  have hpi : (p : Int) < (l0.length : Int) := by omega
  rw [h1] at HC
  rw [h2] at HVv
  clear hr0 hrw h1 h2 h3
  unfold repL
  have H0 : Aside0 (SeIn w l0 A0 c0 r w.heap.size (w.heap.size + 1) ((w.alloc (.cells #[.slice A0 l0.length c0] 22 (0, 0))).alloc (.cells #[.int .i64 r.f0, .int .i64 r.f1, .int .i64 r.f2, .int .i64 r.f3, .int .i64 r.f4, .int .i64 r.f5, .int .i64 r.f6, .int .i64 r.f7, .int .i64 r.f8] 24 (0, 0)))) := ⟨heap_at_old _ _ _ _ (heap_at_new _ _ _ rfl), heap_at_new _ _ _ (by simp), Kd.C_below HR.out (below_alloc (below_alloc (Below.refl _ _) _) _), below_alloc (below_alloc (Below.refl _ _) _) _⟩
  clear HR
  go_enter Tryd.func12, Tryd.ntmps12
  have b0 := (blk_cell H0.out.1 0).trans rfl
  go_wp2_with fail
  refine (HC.out _ H0.out.2.2.2).mono ?_
  rintro e w1 ⟨rfl, hb⟩
  replace H0 := Aside0.mk (H0.out.below hb)
  clear hb b0
  have b0 := (blk_cell H0.out.1 0).trans rfl
  have c0' : _ = some (Value.int .i64 r.f0) := (blk_cell H0.out.2.1 0).trans rfl
  have c1' : _ = some (Value.int .i64 r.f1) := (blk_cell H0.out.2.1 1).trans rfl
  have c2' : _ = some (Value.int .i64 r.f2) := (blk_cell H0.out.2.1 2).trans rfl
  have c3' : _ = some (Value.int .i64 r.f3) := (blk_cell H0.out.2.1 3).trans rfl
  have c4' : _ = some (Value.int .i64 r.f4) := (blk_cell H0.out.2.1 4).trans rfl
  have c5' : _ = some (Value.int .i64 r.f5) := (blk_cell H0.out.2.1 5).trans rfl
  have c6' : _ = some (Value.int .i64 r.f6) := (blk_cell H0.out.2.1 6).trans rfl
  have c7' : _ = some (Value.int .i64 r.f7) := (blk_cell H0.out.2.1 7).trans rfl
  have c8' : _ = some (Value.int .i64 r.f8) := (blk_cell H0.out.2.1 8).trans rfl
  go_wp2_with fail
  refine (HVv.out _ H0.out.2.2.2).mono ?_
  rintro e w2 ⟨rfl, hb⟩
  clear b0 c0' c1' c2' c3' c4' c5' c6' c7' c8'
  replace H0 := Aside0.mk (H0.out.below hb)
  clear hb
  have b0 := (blk_cell H0.out.1 0).trans rfl
  go_wp2_with fail
  refine (HB.out _ ⟨H0.out.1, H0.out.2.1, H0.out.2.2.1, Below.refl _ _⟩).mono ?_
  rintro e w3 ⟨rfl, hb⟩
  clear b0
  replace H0 := Aside0.mk (H0.out.below hb)
  clear hb
  obtain ⟨ad2, e2, q0, q1, q2, q3, q4, q5, q6, q7, q8⟩ := at_T24 H0.out.2.2.1 (p : Int) (by omega) (by omega)
  rw [Int.toNat_natCast] at q0
  have hno : (rd_T24 l0 (p : Int)).f0 = noAt l0 p := rfl
  rw [hno] at q0
  clear q1 q2 q3 q4 q5 q6 q7 q8 hno
  have hpn := Aside0.mk hp0
  generalize noAt l0 p = y at q0 hy
  subst e2
  have hyb : decide (y = r.f0) = true := decide_eq_true hy
  have hyc : (y == r.f0) = true := beq_iff_eq.mpr hy
  clear hy
  have b0 := (blk_cell H0.out.1 0).trans rfl
  have x0 : w3.cell? ⟨w.heap.size + 1, 0, none⟩ = some (.int .i64 r.f0) := (blk_cell H0.out.2.1 0).trans rfl
  go_wp2
  go_quiet (fail)
  clear b0 x0
  go_wp2
  go_ret2
  exact ⟨_, rfl, Kd.R_nil _ _ _ _ _, pw_below_drewN H0.out.2.2.2 _⟩
set_option maxRecDepth 100000 in
set_option maxHeartbeats 4000000 in
theorem add_no4a (A0 : Option Addr) (c0 : Nat) (l0 : List S24) (r : S24) (w : World) (hr0 : Kd.C k24 w A0 l0.length l0) (hc0 : l0.length ≤ c0) (hrw : RowsAt w) (h1 : chkV l0 = 0) (h2 : fB r = true) (h3 : twiceB l0 r.f0 = false) (h4 : l0.length = 4096) (hp0 : posV l0 r.f0 < l0.length) :
    Calls Tryd.prog 12 #[.slice A0 l0.length c0, .agg (repL r).toArray] w (AddOut w [] 2) := by
  have HC := Aside0.mk (fun W hb => chk_calls A0 c0 l0 W (Kd.C_below hr0 hb) hc0 (hrw.below hb hrw.pos))
  have HVv := Aside0.mk (fun W hb => right_calls r W (hrw.below (w := w) hb hrw.pos))
  have HR := Aside0.mk hr0
  have hn := (chk_ok h1).1
  have HB := Aside0.mk (fun W (hS : SeIn W l0 A0 c0 r w.heap.size (w.heap.size + 1) W) => search_ l0 A0 c0 r w.heap.size (w.heap.size + 1) W hn (sorted_ h1) hS)
  have hpl := posV_le l0 r.f0
  have HL1 : Aside0 ((l0.length : Int) = 4096) := ⟨by omega⟩
  unfold twiceB at h3
  generalize posV l0 r.f0 = p at HB hpl h3 hp0
  have h3' : p < l0.length → ¬ noAt l0 p = r.f0 := fun a b => by simp [a, b] at h3
  have hy := h3' hp0
  have hpi : (p : Int) < (l0.length : Int) := by omega
  clear h3'
  rw [h1] at HC
  rw [h2] at HVv
  clear hr0 hrw h1 h2 h3 h4
  unfold repL
  have H0 : Aside0 (SeIn w l0 A0 c0 r w.heap.size (w.heap.size + 1) ((w.alloc (.cells #[.slice A0 l0.length c0] 22 (0, 0))).alloc (.cells #[.int .i64 r.f0, .int .i64 r.f1, .int .i64 r.f2, .int .i64 r.f3, .int .i64 r.f4, .int .i64 r.f5, .int .i64 r.f6, .int .i64 r.f7, .int .i64 r.f8] 24 (0, 0)))) := ⟨heap_at_old _ _ _ _ (heap_at_new _ _ _ rfl), heap_at_new _ _ _ (by simp), Kd.C_below HR.out (below_alloc (below_alloc (Below.refl _ _) _) _), below_alloc (below_alloc (Below.refl _ _) _) _⟩
  clear HR
  go_enter Tryd.func12, Tryd.ntmps12
  have b0 := (blk_cell H0.out.1 0).trans rfl
  go_wp2_with fail
  refine (HC.out _ H0.out.2.2.2).mono ?_
  rintro e w1 ⟨rfl, hb⟩
  replace H0 := Aside0.mk (H0.out.below hb)
  clear hb b0
  have b0 := (blk_cell H0.out.1 0).trans rfl
  have c0' : _ = some (Value.int .i64 r.f0) := (blk_cell H0.out.2.1 0).trans rfl
  have c1' : _ = some (Value.int .i64 r.f1) := (blk_cell H0.out.2.1 1).trans rfl
  have c2' : _ = some (Value.int .i64 r.f2) := (blk_cell H0.out.2.1 2).trans rfl
  have c3' : _ = some (Value.int .i64 r.f3) := (blk_cell H0.out.2.1 3).trans rfl
  have c4' : _ = some (Value.int .i64 r.f4) := (blk_cell H0.out.2.1 4).trans rfl
  have c5' : _ = some (Value.int .i64 r.f5) := (blk_cell H0.out.2.1 5).trans rfl
  have c6' : _ = some (Value.int .i64 r.f6) := (blk_cell H0.out.2.1 6).trans rfl
  have c7' : _ = some (Value.int .i64 r.f7) := (blk_cell H0.out.2.1 7).trans rfl
  have c8' : _ = some (Value.int .i64 r.f8) := (blk_cell H0.out.2.1 8).trans rfl
  go_wp2_with fail
  refine (HVv.out _ H0.out.2.2.2).mono ?_
  rintro e w2 ⟨rfl, hb⟩
  clear b0 c0' c1' c2' c3' c4' c5' c6' c7' c8'
  replace H0 := Aside0.mk (H0.out.below hb)
  clear hb
  have b0 := (blk_cell H0.out.1 0).trans rfl
  go_wp2_with fail
  refine (HB.out _ ⟨H0.out.1, H0.out.2.1, H0.out.2.2.1, Below.refl _ _⟩).mono ?_
  rintro e w3 ⟨rfl, hb⟩
  clear b0
  replace H0 := Aside0.mk (H0.out.below hb)
  clear hb
  obtain ⟨ad2, e2, q0, q1, q2, q3, q4, q5, q6, q7, q8⟩ := at_T24 H0.out.2.2.1 (p : Int) (by omega) (by omega)
  rw [Int.toNat_natCast] at q0
  have hno : (rd_T24 l0 (p : Int)).f0 = noAt l0 p := rfl
  rw [hno] at q0
  clear q1 q2 q3 q4 q5 q6 q7 q8 hno
  have hpn := Aside0.mk hp0
  generalize noAt l0 p = y at q0 hy
  subst e2
  have hyb : decide (y = r.f0) = false := decide_eq_false hy
  have hyc : (y == r.f0) = false := beq_eq_false_iff_ne.mpr hy
  clear hy
  have b0 := (blk_cell H0.out.1 0).trans rfl
  have x0 : w3.cell? ⟨w.heap.size + 1, 0, none⟩ = some (.int .i64 r.f0) := (blk_cell H0.out.2.1 0).trans rfl
  go_wp2
  go_quiet (fail)
  clear b0 x0
  have hl1 := HL1.out
  clear HB HC HVv
  have b0 := fun n => (blk_cell (blk_drewN H0.out.1 n) 0).trans rfl
  go_wp2
  go_ret2
  exact ⟨_, rfl, Kd.R_nil _ _ _ _ _, pw_below_drewN H0.out.2.2.2 _⟩
set_option maxRecDepth 100000 in
set_option maxHeartbeats 4000000 in
theorem add_no4b (A0 : Option Addr) (c0 : Nat) (l0 : List S24) (r : S24) (w : World) (hr0 : Kd.C k24 w A0 l0.length l0) (hc0 : l0.length ≤ c0) (hrw : RowsAt w) (h1 : chkV l0 = 0) (h2 : fB r = true) (h3 : twiceB l0 r.f0 = false) (h4 : l0.length = 4096) (hp0 : ¬ posV l0 r.f0 < l0.length) :
    Calls Tryd.prog 12 #[.slice A0 l0.length c0, .agg (repL r).toArray] w (AddOut w [] 2) := by
  have HC := Aside0.mk (fun W hb => chk_calls A0 c0 l0 W (Kd.C_below hr0 hb) hc0 (hrw.below hb hrw.pos))
  have HVv := Aside0.mk (fun W hb => right_calls r W (hrw.below (w := w) hb hrw.pos))
  have HR := Aside0.mk hr0
  have hn := (chk_ok h1).1
  have HB := Aside0.mk (fun W (hS : SeIn W l0 A0 c0 r w.heap.size (w.heap.size + 1) W) => search_ l0 A0 c0 r w.heap.size (w.heap.size + 1) W hn (sorted_ h1) hS)
  have hpl := posV_le l0 r.f0
  have HL1 : Aside0 ((l0.length : Int) = 4096) := ⟨by omega⟩
  unfold twiceB at h3
  generalize posV l0 r.f0 = p at HB hpl h3 hp0
  have h3' : p < l0.length → ¬ noAt l0 p = r.f0 := fun a b => by simp [a, b] at h3
  have hpi : ¬ (p : Int) < (l0.length : Int) := by omega
  clear h3'
  rw [h1] at HC
  rw [h2] at HVv
  clear hr0 hrw h1 h2 h3 h4
  unfold repL
  have H0 : Aside0 (SeIn w l0 A0 c0 r w.heap.size (w.heap.size + 1) ((w.alloc (.cells #[.slice A0 l0.length c0] 22 (0, 0))).alloc (.cells #[.int .i64 r.f0, .int .i64 r.f1, .int .i64 r.f2, .int .i64 r.f3, .int .i64 r.f4, .int .i64 r.f5, .int .i64 r.f6, .int .i64 r.f7, .int .i64 r.f8] 24 (0, 0)))) := ⟨heap_at_old _ _ _ _ (heap_at_new _ _ _ rfl), heap_at_new _ _ _ (by simp), Kd.C_below HR.out (below_alloc (below_alloc (Below.refl _ _) _) _), below_alloc (below_alloc (Below.refl _ _) _) _⟩
  clear HR
  go_enter Tryd.func12, Tryd.ntmps12
  have b0 := (blk_cell H0.out.1 0).trans rfl
  go_wp2_with fail
  refine (HC.out _ H0.out.2.2.2).mono ?_
  rintro e w1 ⟨rfl, hb⟩
  replace H0 := Aside0.mk (H0.out.below hb)
  clear hb b0
  have b0 := (blk_cell H0.out.1 0).trans rfl
  have c0' : _ = some (Value.int .i64 r.f0) := (blk_cell H0.out.2.1 0).trans rfl
  have c1' : _ = some (Value.int .i64 r.f1) := (blk_cell H0.out.2.1 1).trans rfl
  have c2' : _ = some (Value.int .i64 r.f2) := (blk_cell H0.out.2.1 2).trans rfl
  have c3' : _ = some (Value.int .i64 r.f3) := (blk_cell H0.out.2.1 3).trans rfl
  have c4' : _ = some (Value.int .i64 r.f4) := (blk_cell H0.out.2.1 4).trans rfl
  have c5' : _ = some (Value.int .i64 r.f5) := (blk_cell H0.out.2.1 5).trans rfl
  have c6' : _ = some (Value.int .i64 r.f6) := (blk_cell H0.out.2.1 6).trans rfl
  have c7' : _ = some (Value.int .i64 r.f7) := (blk_cell H0.out.2.1 7).trans rfl
  have c8' : _ = some (Value.int .i64 r.f8) := (blk_cell H0.out.2.1 8).trans rfl
  go_wp2_with fail
  refine (HVv.out _ H0.out.2.2.2).mono ?_
  rintro e w2 ⟨rfl, hb⟩
  clear b0 c0' c1' c2' c3' c4' c5' c6' c7' c8'
  replace H0 := Aside0.mk (H0.out.below hb)
  clear hb
  have b0 := (blk_cell H0.out.1 0).trans rfl
  go_wp2_with fail
  refine (HB.out _ ⟨H0.out.1, H0.out.2.1, H0.out.2.2.1, Below.refl _ _⟩).mono ?_
  rintro e w3 ⟨rfl, hb⟩
  clear b0
  replace H0 := Aside0.mk (H0.out.below hb)
  clear hb
  have hpd : decide ((p : Int) < (l0.length : Int)) = false := decide_eq_false (by omega)
  have b0 := (blk_cell H0.out.1 0).trans rfl
  have x0 : w3.cell? ⟨w.heap.size + 1, 0, none⟩ = some (.int .i64 r.f0) := (blk_cell H0.out.2.1 0).trans rfl
  go_wp2
  go_quiet (fail)
  clear b0 x0
  have hl1 := HL1.out
  clear HB HC HVv
  have b0 := fun n => (blk_cell (blk_drewN H0.out.1 n) 0).trans rfl
  go_wp2
  go_ret2
  exact ⟨_, rfl, Kd.R_nil _ _ _ _ _, pw_below_drewN H0.out.2.2.2 _⟩
set_option maxRecDepth 100000 in
set_option maxHeartbeats 4000000 in
theorem add_yesa (A0 : Option Addr) (c0 : Nat) (l0 : List S24) (r : S24) (w : World) (hr0 : Kd.C k24 w A0 l0.length l0) (hc0 : l0.length ≤ c0) (hrw : RowsAt w) (h1 : chkV l0 = 0) (h2 : fB r = true) (h3 : twiceB l0 r.f0 = false) (h4 : ¬ l0.length = 4096) (hp0 : posV l0 r.f0 < l0.length) :
    Calls Tryd.prog 12 #[.slice A0 l0.length c0, .agg (repL r).toArray] w (AddOut w (insAt l0 (posV l0 r.f0) r) 0) := by
  have HC := Aside0.mk (fun W hb => chk_calls A0 c0 l0 W (Kd.C_below hr0 hb) hc0 (hrw.below hb hrw.pos))
  have HVv := Aside0.mk (fun W hb => right_calls r W (hrw.below (w := w) hb hrw.pos))
  have HR := Aside0.mk hr0
  have hn := (chk_ok h1).1
  have HB := Aside0.mk (fun W (hS : SeIn W l0 A0 c0 r w.heap.size (w.heap.size + 1) W) => search_ l0 A0 c0 r w.heap.size (w.heap.size + 1) W hn (sorted_ h1) hS)
  have hpl := posV_le l0 r.f0
  have HCl := Aside0.mk (fun W (hb : Kd.C k24 W A0 l0.length l0) => clone_ l0 A0 c0 W hb hn)
  have hn4 : l0.length < 4096 := by omega
  have HI := Aside0.mk (fun v vb base W h1 h2 h3 h4 => ins_all l0 v (posV l0 r.f0) vb base r W hn4 h1 h2 h3 h4 (posV_le l0 r.f0))
  have HL1 : Aside0 (((l0.length : Int) = 4096) = False) := ⟨eq_false (by omega)⟩
  have HL2 : Aside0 (((l0.length : Int) == 4096) = false) := ⟨beq_eq_false_iff_ne.2 (by omega)⟩
  have HPL := Aside0.mk (posV_le l0 r.f0)
  unfold twiceB at h3
  generalize posV l0 r.f0 = p at HB hpl h3 hp0 HI HPL ⊢
  have h3' : p < l0.length → ¬ noAt l0 p = r.f0 := fun a b => by simp [a, b] at h3
  have hy := h3' hp0
  have hpi : (p : Int) < (l0.length : Int) := by omega
  clear h3'
  rw [h1] at HC
  rw [h2] at HVv
  clear hr0 hrw h1 h2 h3 h4
  unfold repL
  have H0 : Aside0 (SeIn w l0 A0 c0 r w.heap.size (w.heap.size + 1) ((w.alloc (.cells #[.slice A0 l0.length c0] 22 (0, 0))).alloc (.cells #[.int .i64 r.f0, .int .i64 r.f1, .int .i64 r.f2, .int .i64 r.f3, .int .i64 r.f4, .int .i64 r.f5, .int .i64 r.f6, .int .i64 r.f7, .int .i64 r.f8] 24 (0, 0)))) := ⟨heap_at_old _ _ _ _ (heap_at_new _ _ _ rfl), heap_at_new _ _ _ (by simp), Kd.C_below HR.out (below_alloc (below_alloc (Below.refl _ _) _) _), below_alloc (below_alloc (Below.refl _ _) _) _⟩
  clear HR
  go_enter Tryd.func12, Tryd.ntmps12
  have b0 := (blk_cell H0.out.1 0).trans rfl
  go_wp2_with fail
  refine (HC.out _ H0.out.2.2.2).mono ?_
  rintro e w1 ⟨rfl, hb⟩
  replace H0 := Aside0.mk (H0.out.below hb)
  clear hb b0
  have b0 := (blk_cell H0.out.1 0).trans rfl
  have c0' : _ = some (Value.int .i64 r.f0) := (blk_cell H0.out.2.1 0).trans rfl
  have c1' : _ = some (Value.int .i64 r.f1) := (blk_cell H0.out.2.1 1).trans rfl
  have c2' : _ = some (Value.int .i64 r.f2) := (blk_cell H0.out.2.1 2).trans rfl
  have c3' : _ = some (Value.int .i64 r.f3) := (blk_cell H0.out.2.1 3).trans rfl
  have c4' : _ = some (Value.int .i64 r.f4) := (blk_cell H0.out.2.1 4).trans rfl
  have c5' : _ = some (Value.int .i64 r.f5) := (blk_cell H0.out.2.1 5).trans rfl
  have c6' : _ = some (Value.int .i64 r.f6) := (blk_cell H0.out.2.1 6).trans rfl
  have c7' : _ = some (Value.int .i64 r.f7) := (blk_cell H0.out.2.1 7).trans rfl
  have c8' : _ = some (Value.int .i64 r.f8) := (blk_cell H0.out.2.1 8).trans rfl
  go_wp2_with fail
  refine (HVv.out _ H0.out.2.2.2).mono ?_
  rintro e w2 ⟨rfl, hb⟩
  clear b0 c0' c1' c2' c3' c4' c5' c6' c7' c8'
  replace H0 := Aside0.mk (H0.out.below hb)
  clear hb
  have b0 := (blk_cell H0.out.1 0).trans rfl
  go_wp2_with fail
  refine (HB.out _ ⟨H0.out.1, H0.out.2.1, H0.out.2.2.1, Below.refl _ _⟩).mono ?_
  rintro e w3 ⟨rfl, hb⟩
  clear b0
  replace H0 := Aside0.mk (H0.out.below hb)
  clear hb
  obtain ⟨ad2, e2, q0, q1, q2, q3, q4, q5, q6, q7, q8⟩ := at_T24 H0.out.2.2.1 (p : Int) (by omega) (by omega)
  rw [Int.toNat_natCast] at q0
  have hno : (rd_T24 l0 (p : Int)).f0 = noAt l0 p := rfl
  rw [hno] at q0
  clear q1 q2 q3 q4 q5 q6 q7 q8 hno
  have hpn := Aside0.mk hp0
  generalize noAt l0 p = y at q0 hy
  subst e2
  have hyb : decide (y = r.f0) = false := decide_eq_false hy
  have hyc : (y == r.f0) = false := beq_eq_false_iff_ne.mpr hy
  clear hy
  have b0 := (blk_cell H0.out.1 0).trans rfl
  have x0 : w3.cell? ⟨w.heap.size + 1, 0, none⟩ = some (.int .i64 r.f0) := (blk_cell H0.out.2.1 0).trans rfl
  go_wp2
  go_quiet (fail)
  clear b0 x0
  have hl1 := HL1.out
  have hl2 := HL2.out
  have b0 := fun n => (blk_cell (blk_drewN H0.out.1 n) 0).trans rfl
  go_wp2
  clear b0
  generalize hwd : World.drewN w3 _ = w4
  have H1 : Aside0 (SeIn w l0 (some ad2) c0 r w.heap.size (w.heap.size + 1) w4) := ⟨hwd ▸ ⟨blk_drewN H0.out.1 _, blk_drewN H0.out.2.1 _, Kd.C_drewN H0.out.2.2.1 _, pw_below_drewN H0.out.2.2.2 _⟩⟩
  clear hwd H0
  have hS0 : Aside0 (SeIn w l0 (some ad2) c0 r w.heap.size (w.heap.size + 1) (World.drew w4)) := ⟨H1.out.below (below_drew1 (Below.refl _ _))⟩
  refine start_ (n := 8) (S := (SeIn w l0 (some ad2) c0 r w.heap.size (w.heap.size + 1))) (ds := [5]) #[false, false, false, false, false, false, false, false] (by kernel_rfl) rfl rfl hS0.out (fun hHeld => ?_)
  clear hS0 H1
  refine with_tabW addr.tab11 addr.bits11 (fun HT_ HW_ => ?_)
  generalize World.drew _ = Wd at hHeld ⊢
  refine take_ (i := 0) (N := some 38) (v := ?_) (a' := ?_) #[true, false, false, false, false, false, false, false] rfl rfl (take_ofW HT_.out HW_.out (by kernel_rfl)) (fun _ _ _ h => h) (Or.inl ⟨by rfl, ?_⟩) hHeld ?_ ?_
  rotate_left
  · rintro w' hs
    have c0' := (blk_cell hs.1 0).trans rfl
    go_simp
    with_reducible rfl
  rotate_left
  · simp only [Act.put, List.setIfInBounds_toArray, List.set_cons_zero, List.set_cons_succ, i64_w, i32_w]
    rfl
  refine pure_ (i := 2) (N := some 40) (v := ?_) (a' := ?_) #[true, false, true, false, false, false, false, false] rfl rfl (any_of HT_.out (by kernel_rfl)) (fun _ _ _ h => h) (Or.inl ⟨by rfl, ?_⟩) ?_ ?_
  rotate_left
  · intro w'
    go_simp
    with_reducible rfl
  rotate_left
  · simp only [Act.put, List.setIfInBounds_toArray, List.set_cons_zero, List.set_cons_succ, i64_w, i32_w]
    rfl
  refine take_ (i := 3) (N := some 41) (v := ?_) (a' := ?_) #[true, false, true, true, false, false, false, false] rfl rfl (take_ofW HT_.out HW_.out (by kernel_rfl)) (fun _ _ _ h => h) (Or.inl ⟨by rfl, ?_⟩) hHeld ?_ ?_
  rotate_left
  · rintro w' hs
    have c0' : _ = some (Value.int .i64 r.f0) := (blk_cell hs.2.1 0).trans rfl
    have c1' : _ = some (Value.int .i64 r.f1) := (blk_cell hs.2.1 1).trans rfl
    have c2' : _ = some (Value.int .i64 r.f2) := (blk_cell hs.2.1 2).trans rfl
    have c3' : _ = some (Value.int .i64 r.f3) := (blk_cell hs.2.1 3).trans rfl
    have c4' : _ = some (Value.int .i64 r.f4) := (blk_cell hs.2.1 4).trans rfl
    have c5' : _ = some (Value.int .i64 r.f5) := (blk_cell hs.2.1 5).trans rfl
    have c6' : _ = some (Value.int .i64 r.f6) := (blk_cell hs.2.1 6).trans rfl
    have c7' : _ = some (Value.int .i64 r.f7) := (blk_cell hs.2.1 7).trans rfl
    have c8' : _ = some (Value.int .i64 r.f8) := (blk_cell hs.2.1 8).trans rfl
    go_simp
    with_reducible rfl
  rotate_left
  · simp only [Act.put, List.setIfInBounds_toArray, List.set_cons_zero, List.set_cons_succ, i64_w, i32_w]
    rfl
  have hsz := hHeld.2.2.2.size
  refine join_ (σ := Value × Nat) 3 #[true, true, true, true, true, false, false, false] (fun s_ => [(39, s_.1), (42, .slice (some ⟨s_.2, 0, none⟩) 1 1)]) (fun s_ W => SeIn w l0 (some ad2) c0 r w.heap.size (w.heap.size + 1) W ∧ W.ownsRow w.heap.size 24 9 s_.1 l0.length (flat l0) ∧ W.heap[s_.2]? = some (.cells (repL r).toArray 24 (0, 0)) ∧ ∀ g, s_.1.ownBlock = some g → s_.2 ≠ g) ?_ ?_
  rotate_left
  · intro HJ0
    have HJ := Aside0.mk HJ0
    clear HJ0
    refine two_ (i := 1) (j := 4) (Ni := some 39) (Nj := some 42) #[true, true, true, true, false, false, false, false] #[true, false, true, true, true, false, false, false] rfl rfl rfl rfl (two_of HT_.out (by kernel_rfl)) (by decide) (by decide) (fun K hK => ?_) (fun K hK => ?_)
    · skip
      refine goes_ Tryd.func28 (by kernel_rfl) rfl #[.slice (some ad2) l0.length c0] (by rfl) rfl rfl (by (try simp only [List.map_toArray, List.map_cons, List.map_nil, List.append_toArray, List.cons_append, List.nil_append]); first | done | rfl) ?_
      refine (HCl.out _ hHeld.2.2.1).mono ?_
      rintro e wc ⟨v_, rfl, hown, hb⟩
      have hown := Aside0.mk hown
      have hbb := Aside0.mk hb
      refine ⟨_, rfl, ?_⟩
      refine hK.out _ _ (hHeld.below hb) (fun hHeld => ?_)
      clear hK K hb
      refine norm_ (a' := ?_) ?_ ?_
      rotate_left
      · show Act.put _ (some 39) _ = _
        simp only [Act.put, List.setIfInBounds_toArray, List.set_cons_zero, List.set_cons_succ, i64_w, i32_w]
        rfl
      refine one_ (i := 4) (N := some 42) #[true, true, true, true, true, false, false, false] rfl rfl (one_of HT_.out (by kernel_rfl)) (by decide) (fun K hK => ?_)
      refine value_ (w1 := ?_) (v := ?_) (by rfl) rfl ?_ ?_
      rotate_left
      rotate_left
      · go_simp
        refine And.intro ?_ ?_ <;> rfl
      refine hK.out _ _ (hHeld.below (below_alloc (Below.refl _ _) _)) (fun hHeld => ?_)
      clear hK K
      refine norm_ (a' := ?_) ?_ ?_
      rotate_left
      · show Act.put _ (some 42) _ = _
        simp only [Act.put, List.setIfInBounds_toArray, List.set_cons_zero, List.set_cons_succ, i64_w, i32_w]
        rfl
      exact norm_ (by first | (simp only [putAll, Act.put, List.setIfInBounds_toArray, List.set_cons_zero, List.set_cons_succ]; done) | (simp only [putAll, Act.put, List.setIfInBounds_toArray, List.set_cons_zero, List.set_cons_succ]; rfl)) (HJ.out (v_, wc.heap.size) _ ⟨hHeld, own_base (hown.out.alloc _) hsz, heap_at_new _ _ _ rfl, fun g hg => Ne.symm (Nat.ne_of_lt (own_ge hown.out g hg).2)⟩)
    · skip
      refine value_ (w1 := ?_) (v := ?_) (by rfl) rfl ?_ ?_
      rotate_left
      rotate_left
      · go_simp
        refine And.intro ?_ ?_ <;> rfl
      refine hK.out _ _ (hHeld.below (below_alloc (Below.refl _ _) _)) (fun hHeld => ?_)
      clear hK K
      refine norm_ (a' := ?_) ?_ ?_
      rotate_left
      · show Act.put _ (some 42) _ = _
        simp only [Act.put, List.setIfInBounds_toArray, List.set_cons_zero, List.set_cons_succ, i64_w, i32_w]
        rfl
      refine one_ (i := 1) (N := some 39) #[true, true, true, true, true, false, false, false] rfl rfl (one_of HT_.out (by kernel_rfl)) (by decide) (fun K hK => ?_)
      refine goes_ Tryd.func28 (by kernel_rfl) rfl #[.slice (some ad2) l0.length c0] (by rfl) rfl rfl (by (try simp only [List.map_toArray, List.map_cons, List.map_nil, List.append_toArray, List.cons_append, List.nil_append]); first | done | rfl) ?_
      refine (HCl.out _ hHeld.2.2.1).mono ?_
      rintro e wc ⟨v_, rfl, hown, hb⟩
      have hown := Aside0.mk hown
      have hbb := Aside0.mk hb
      refine ⟨_, rfl, ?_⟩
      refine hK.out _ _ (hHeld.below hb) (fun hHeld => ?_)
      clear hK K hb
      refine norm_ (a' := ?_) ?_ ?_
      rotate_left
      · show Act.put _ (some 39) _ = _
        simp only [Act.put, List.setIfInBounds_toArray, List.set_cons_zero, List.set_cons_succ, i64_w, i32_w]
        rfl
      exact norm_ (by first | (simp only [putAll, Act.put, List.setIfInBounds_toArray, List.set_cons_zero, List.set_cons_succ]; done) | (simp only [putAll, Act.put, List.setIfInBounds_toArray, List.set_cons_zero, List.set_cons_succ]; rfl)) (HJ.out (v_, Wd.heap.size) _ ⟨hHeld, own_base hown.out (Nat.le_trans hsz (below_alloc (Below.refl _ _) _).size), heap_below hbb.out (heap_at_new _ _ _ rfl), fun g hg => Nat.ne_of_lt (Nat.lt_of_lt_of_le (World.lt_alloc Wd _) (own_ge hown.out g hg).1)⟩)
  rintro ⟨v, vb⟩ W0 ⟨hHeld, hown, hvb, hne⟩
  have hown := Aside0.mk hown
  have hvb := Aside0.mk hvb
  have hne := Aside0.mk hne
  dsimp only at hown hvb hne
  refine norm_ (a' := ?_) ?_ ?_
  rotate_left
  · simp only [putAll, Act.put, List.setIfInBounds_toArray, List.set_cons_zero, List.set_cons_succ]
    rfl
  refine last_ (i := 5) (N := some 43) #[true, true, true, true, true, true, false, false] rfl rfl (one_of HT_.out (by kernel_rfl)) (by decide) (fun K hK => ?_)
  refine goes_ Tryd.func27 (by kernel_rfl) rfl #[v, .int .i64 (p : Nat), .slice (some ⟨vb, 0, none⟩) 1 1] (by rfl) rfl rfl (by (try simp only [List.map_toArray, List.map_cons, List.map_nil, List.append_toArray, List.cons_append, List.nil_append]); first | done | rfl) ?_
  refine (HI.out v vb w.heap.size _ hown.out hHeld.2.2.2.size hvb.out hne.out).mono ?_
  rintro e wi ⟨vi, rfl, hown2, hb2⟩
  have hown2 := Aside0.mk hown2
  have hb2 := Aside0.mk (hHeld.2.2.2.trans hb2)
  refine ⟨_, rfl, ?_⟩
  refine hK.out _ _ ?_
  clear hK K
  refine norm_ (a' := ?_) ?_ ?_
  rotate_left
  · show Act.put _ (some 43) _ = _
    simp only [Act.put, List.setIfInBounds_toArray, List.set_cons_zero, List.set_cons_succ, i64_w, i32_w]
    rfl
  refine pure_ (i := 6) (N := some 4) (v := ?_) (a' := ?_) #[true, true, true, true, true, true, true, false] rfl rfl (any_of HT_.out (by kernel_rfl)) (fun _ _ _ h => h) (Or.inl ⟨by rfl, ?_⟩) ?_ ?_
  rotate_left
  · intro w'
    go_simp
    with_reducible rfl
  rotate_left
  · simp only [Act.put, List.setIfInBounds_toArray, List.set_cons_zero, List.set_cons_succ, i64_w, i32_w]
    rfl
  refine pure_ (i := 7) (N := some 5) (v := ?_) (a' := ?_) #[true, true, true, true, true, true, true, true] rfl rfl (any_of HT_.out (by kernel_rfl)) (fun _ _ _ h => h) (Or.inl ⟨by rfl, ?_⟩) ?_ ?_
  rotate_left
  · intro w'
    go_simp
    with_reducible rfl
  rotate_left
  · simp only [Act.put, List.setIfInBounds_toArray, List.set_cons_zero, List.set_cons_succ, i64_w, i32_w]
    rfl
  refine done_ (done_of HT_.out (by kernel_rfl)) ?_
  clear hown hvb hne hHeld
  go_wp2
  go_ret2
  exact ⟨_, rfl, flat_R (by rw [insAt_length _ _ _ HPL.out]; exact hown2.out), hb2.out⟩
set_option maxRecDepth 100000 in
set_option maxHeartbeats 4000000 in
theorem add_yesb (A0 : Option Addr) (c0 : Nat) (l0 : List S24) (r : S24) (w : World) (hr0 : Kd.C k24 w A0 l0.length l0) (hc0 : l0.length ≤ c0) (hrw : RowsAt w) (h1 : chkV l0 = 0) (h2 : fB r = true) (h3 : twiceB l0 r.f0 = false) (h4 : ¬ l0.length = 4096) (hp0 : ¬ posV l0 r.f0 < l0.length) :
    Calls Tryd.prog 12 #[.slice A0 l0.length c0, .agg (repL r).toArray] w (AddOut w (insAt l0 (posV l0 r.f0) r) 0) := by
  have HC := Aside0.mk (fun W hb => chk_calls A0 c0 l0 W (Kd.C_below hr0 hb) hc0 (hrw.below hb hrw.pos))
  have HVv := Aside0.mk (fun W hb => right_calls r W (hrw.below (w := w) hb hrw.pos))
  have HR := Aside0.mk hr0
  have hn := (chk_ok h1).1
  have HB := Aside0.mk (fun W (hS : SeIn W l0 A0 c0 r w.heap.size (w.heap.size + 1) W) => search_ l0 A0 c0 r w.heap.size (w.heap.size + 1) W hn (sorted_ h1) hS)
  have hpl := posV_le l0 r.f0
  have HCl := Aside0.mk (fun W (hb : Kd.C k24 W A0 l0.length l0) => clone_ l0 A0 c0 W hb hn)
  have hn4 : l0.length < 4096 := by omega
  have HI := Aside0.mk (fun v vb base W h1 h2 h3 h4 => ins_all l0 v (posV l0 r.f0) vb base r W hn4 h1 h2 h3 h4 (posV_le l0 r.f0))
  have HL1 : Aside0 (((l0.length : Int) = 4096) = False) := ⟨eq_false (by omega)⟩
  have HL2 : Aside0 (((l0.length : Int) == 4096) = false) := ⟨beq_eq_false_iff_ne.2 (by omega)⟩
  have HPL := Aside0.mk (posV_le l0 r.f0)
  unfold twiceB at h3
  generalize posV l0 r.f0 = p at HB hpl h3 hp0 HI HPL ⊢
  have h3' : p < l0.length → ¬ noAt l0 p = r.f0 := fun a b => by simp [a, b] at h3
  have hpi : ¬ (p : Int) < (l0.length : Int) := by omega
  clear h3'
  rw [h1] at HC
  rw [h2] at HVv
  clear hr0 hrw h1 h2 h3 h4
  unfold repL
  have H0 : Aside0 (SeIn w l0 A0 c0 r w.heap.size (w.heap.size + 1) ((w.alloc (.cells #[.slice A0 l0.length c0] 22 (0, 0))).alloc (.cells #[.int .i64 r.f0, .int .i64 r.f1, .int .i64 r.f2, .int .i64 r.f3, .int .i64 r.f4, .int .i64 r.f5, .int .i64 r.f6, .int .i64 r.f7, .int .i64 r.f8] 24 (0, 0)))) := ⟨heap_at_old _ _ _ _ (heap_at_new _ _ _ rfl), heap_at_new _ _ _ (by simp), Kd.C_below HR.out (below_alloc (below_alloc (Below.refl _ _) _) _), below_alloc (below_alloc (Below.refl _ _) _) _⟩
  clear HR
  go_enter Tryd.func12, Tryd.ntmps12
  have b0 := (blk_cell H0.out.1 0).trans rfl
  go_wp2_with fail
  refine (HC.out _ H0.out.2.2.2).mono ?_
  rintro e w1 ⟨rfl, hb⟩
  replace H0 := Aside0.mk (H0.out.below hb)
  clear hb b0
  have b0 := (blk_cell H0.out.1 0).trans rfl
  have c0' : _ = some (Value.int .i64 r.f0) := (blk_cell H0.out.2.1 0).trans rfl
  have c1' : _ = some (Value.int .i64 r.f1) := (blk_cell H0.out.2.1 1).trans rfl
  have c2' : _ = some (Value.int .i64 r.f2) := (blk_cell H0.out.2.1 2).trans rfl
  have c3' : _ = some (Value.int .i64 r.f3) := (blk_cell H0.out.2.1 3).trans rfl
  have c4' : _ = some (Value.int .i64 r.f4) := (blk_cell H0.out.2.1 4).trans rfl
  have c5' : _ = some (Value.int .i64 r.f5) := (blk_cell H0.out.2.1 5).trans rfl
  have c6' : _ = some (Value.int .i64 r.f6) := (blk_cell H0.out.2.1 6).trans rfl
  have c7' : _ = some (Value.int .i64 r.f7) := (blk_cell H0.out.2.1 7).trans rfl
  have c8' : _ = some (Value.int .i64 r.f8) := (blk_cell H0.out.2.1 8).trans rfl
  go_wp2_with fail
  refine (HVv.out _ H0.out.2.2.2).mono ?_
  rintro e w2 ⟨rfl, hb⟩
  clear b0 c0' c1' c2' c3' c4' c5' c6' c7' c8'
  replace H0 := Aside0.mk (H0.out.below hb)
  clear hb
  have b0 := (blk_cell H0.out.1 0).trans rfl
  go_wp2_with fail
  refine (HB.out _ ⟨H0.out.1, H0.out.2.1, H0.out.2.2.1, Below.refl _ _⟩).mono ?_
  rintro e w3 ⟨rfl, hb⟩
  clear b0
  replace H0 := Aside0.mk (H0.out.below hb)
  clear hb
  have hpd : decide ((p : Int) < (l0.length : Int)) = false := decide_eq_false (by omega)
  have b0 := (blk_cell H0.out.1 0).trans rfl
  have x0 : w3.cell? ⟨w.heap.size + 1, 0, none⟩ = some (.int .i64 r.f0) := (blk_cell H0.out.2.1 0).trans rfl
  go_wp2
  go_quiet (fail)
  clear b0 x0
  have hl1 := HL1.out
  have hl2 := HL2.out
  have b0 := fun n => (blk_cell (blk_drewN H0.out.1 n) 0).trans rfl
  go_wp2
  clear b0
  generalize hwd : World.drewN w3 _ = w4
  have H1 : Aside0 (SeIn w l0 A0 c0 r w.heap.size (w.heap.size + 1) w4) := ⟨hwd ▸ ⟨blk_drewN H0.out.1 _, blk_drewN H0.out.2.1 _, Kd.C_drewN H0.out.2.2.1 _, pw_below_drewN H0.out.2.2.2 _⟩⟩
  clear hwd H0
  have hS0 : Aside0 (SeIn w l0 A0 c0 r w.heap.size (w.heap.size + 1) (World.drew w4)) := ⟨H1.out.below (below_drew1 (Below.refl _ _))⟩
  refine start_ (n := 8) (S := (SeIn w l0 A0 c0 r w.heap.size (w.heap.size + 1))) (ds := [5]) #[false, false, false, false, false, false, false, false] (by kernel_rfl) rfl rfl hS0.out (fun hHeld => ?_)
  clear hS0 H1
  refine with_tabW addr.tab11 addr.bits11 (fun HT_ HW_ => ?_)
  generalize World.drew _ = Wd at hHeld ⊢
  refine take_ (i := 0) (N := some 38) (v := ?_) (a' := ?_) #[true, false, false, false, false, false, false, false] rfl rfl (take_ofW HT_.out HW_.out (by kernel_rfl)) (fun _ _ _ h => h) (Or.inl ⟨by rfl, ?_⟩) hHeld ?_ ?_
  rotate_left
  · rintro w' hs
    have c0' := (blk_cell hs.1 0).trans rfl
    go_simp
    with_reducible rfl
  rotate_left
  · simp only [Act.put, List.setIfInBounds_toArray, List.set_cons_zero, List.set_cons_succ, i64_w, i32_w]
    rfl
  refine pure_ (i := 2) (N := some 40) (v := ?_) (a' := ?_) #[true, false, true, false, false, false, false, false] rfl rfl (any_of HT_.out (by kernel_rfl)) (fun _ _ _ h => h) (Or.inl ⟨by rfl, ?_⟩) ?_ ?_
  rotate_left
  · intro w'
    go_simp
    with_reducible rfl
  rotate_left
  · simp only [Act.put, List.setIfInBounds_toArray, List.set_cons_zero, List.set_cons_succ, i64_w, i32_w]
    rfl
  refine take_ (i := 3) (N := some 41) (v := ?_) (a' := ?_) #[true, false, true, true, false, false, false, false] rfl rfl (take_ofW HT_.out HW_.out (by kernel_rfl)) (fun _ _ _ h => h) (Or.inl ⟨by rfl, ?_⟩) hHeld ?_ ?_
  rotate_left
  · rintro w' hs
    have c0' : _ = some (Value.int .i64 r.f0) := (blk_cell hs.2.1 0).trans rfl
    have c1' : _ = some (Value.int .i64 r.f1) := (blk_cell hs.2.1 1).trans rfl
    have c2' : _ = some (Value.int .i64 r.f2) := (blk_cell hs.2.1 2).trans rfl
    have c3' : _ = some (Value.int .i64 r.f3) := (blk_cell hs.2.1 3).trans rfl
    have c4' : _ = some (Value.int .i64 r.f4) := (blk_cell hs.2.1 4).trans rfl
    have c5' : _ = some (Value.int .i64 r.f5) := (blk_cell hs.2.1 5).trans rfl
    have c6' : _ = some (Value.int .i64 r.f6) := (blk_cell hs.2.1 6).trans rfl
    have c7' : _ = some (Value.int .i64 r.f7) := (blk_cell hs.2.1 7).trans rfl
    have c8' : _ = some (Value.int .i64 r.f8) := (blk_cell hs.2.1 8).trans rfl
    go_simp
    with_reducible rfl
  rotate_left
  · simp only [Act.put, List.setIfInBounds_toArray, List.set_cons_zero, List.set_cons_succ, i64_w, i32_w]
    rfl
  have hsz := hHeld.2.2.2.size
  refine join_ (σ := Value × Nat) 3 #[true, true, true, true, true, false, false, false] (fun s_ => [(39, s_.1), (42, .slice (some ⟨s_.2, 0, none⟩) 1 1)]) (fun s_ W => SeIn w l0 A0 c0 r w.heap.size (w.heap.size + 1) W ∧ W.ownsRow w.heap.size 24 9 s_.1 l0.length (flat l0) ∧ W.heap[s_.2]? = some (.cells (repL r).toArray 24 (0, 0)) ∧ ∀ g, s_.1.ownBlock = some g → s_.2 ≠ g) ?_ ?_
  rotate_left
  · intro HJ0
    have HJ := Aside0.mk HJ0
    clear HJ0
    refine two_ (i := 1) (j := 4) (Ni := some 39) (Nj := some 42) #[true, true, true, true, false, false, false, false] #[true, false, true, true, true, false, false, false] rfl rfl rfl rfl (two_of HT_.out (by kernel_rfl)) (by decide) (by decide) (fun K hK => ?_) (fun K hK => ?_)
    · skip
      refine goes_ Tryd.func28 (by kernel_rfl) rfl #[.slice A0 l0.length c0] (by rfl) rfl rfl (by (try simp only [List.map_toArray, List.map_cons, List.map_nil, List.append_toArray, List.cons_append, List.nil_append]); first | done | rfl) ?_
      refine (HCl.out _ hHeld.2.2.1).mono ?_
      rintro e wc ⟨v_, rfl, hown, hb⟩
      have hown := Aside0.mk hown
      have hbb := Aside0.mk hb
      refine ⟨_, rfl, ?_⟩
      refine hK.out _ _ (hHeld.below hb) (fun hHeld => ?_)
      clear hK K hb
      refine norm_ (a' := ?_) ?_ ?_
      rotate_left
      · show Act.put _ (some 39) _ = _
        simp only [Act.put, List.setIfInBounds_toArray, List.set_cons_zero, List.set_cons_succ, i64_w, i32_w]
        rfl
      refine one_ (i := 4) (N := some 42) #[true, true, true, true, true, false, false, false] rfl rfl (one_of HT_.out (by kernel_rfl)) (by decide) (fun K hK => ?_)
      refine value_ (w1 := ?_) (v := ?_) (by rfl) rfl ?_ ?_
      rotate_left
      rotate_left
      · go_simp
        refine And.intro ?_ ?_ <;> rfl
      refine hK.out _ _ (hHeld.below (below_alloc (Below.refl _ _) _)) (fun hHeld => ?_)
      clear hK K
      refine norm_ (a' := ?_) ?_ ?_
      rotate_left
      · show Act.put _ (some 42) _ = _
        simp only [Act.put, List.setIfInBounds_toArray, List.set_cons_zero, List.set_cons_succ, i64_w, i32_w]
        rfl
      exact norm_ (by first | (simp only [putAll, Act.put, List.setIfInBounds_toArray, List.set_cons_zero, List.set_cons_succ]; done) | (simp only [putAll, Act.put, List.setIfInBounds_toArray, List.set_cons_zero, List.set_cons_succ]; rfl)) (HJ.out (v_, wc.heap.size) _ ⟨hHeld, own_base (hown.out.alloc _) hsz, heap_at_new _ _ _ rfl, fun g hg => Ne.symm (Nat.ne_of_lt (own_ge hown.out g hg).2)⟩)
    · skip
      refine value_ (w1 := ?_) (v := ?_) (by rfl) rfl ?_ ?_
      rotate_left
      rotate_left
      · go_simp
        refine And.intro ?_ ?_ <;> rfl
      refine hK.out _ _ (hHeld.below (below_alloc (Below.refl _ _) _)) (fun hHeld => ?_)
      clear hK K
      refine norm_ (a' := ?_) ?_ ?_
      rotate_left
      · show Act.put _ (some 42) _ = _
        simp only [Act.put, List.setIfInBounds_toArray, List.set_cons_zero, List.set_cons_succ, i64_w, i32_w]
        rfl
      refine one_ (i := 1) (N := some 39) #[true, true, true, true, true, false, false, false] rfl rfl (one_of HT_.out (by kernel_rfl)) (by decide) (fun K hK => ?_)
      refine goes_ Tryd.func28 (by kernel_rfl) rfl #[.slice A0 l0.length c0] (by rfl) rfl rfl (by (try simp only [List.map_toArray, List.map_cons, List.map_nil, List.append_toArray, List.cons_append, List.nil_append]); first | done | rfl) ?_
      refine (HCl.out _ hHeld.2.2.1).mono ?_
      rintro e wc ⟨v_, rfl, hown, hb⟩
      have hown := Aside0.mk hown
      have hbb := Aside0.mk hb
      refine ⟨_, rfl, ?_⟩
      refine hK.out _ _ (hHeld.below hb) (fun hHeld => ?_)
      clear hK K hb
      refine norm_ (a' := ?_) ?_ ?_
      rotate_left
      · show Act.put _ (some 39) _ = _
        simp only [Act.put, List.setIfInBounds_toArray, List.set_cons_zero, List.set_cons_succ, i64_w, i32_w]
        rfl
      exact norm_ (by first | (simp only [putAll, Act.put, List.setIfInBounds_toArray, List.set_cons_zero, List.set_cons_succ]; done) | (simp only [putAll, Act.put, List.setIfInBounds_toArray, List.set_cons_zero, List.set_cons_succ]; rfl)) (HJ.out (v_, Wd.heap.size) _ ⟨hHeld, own_base hown.out (Nat.le_trans hsz (below_alloc (Below.refl _ _) _).size), heap_below hbb.out (heap_at_new _ _ _ rfl), fun g hg => Nat.ne_of_lt (Nat.lt_of_lt_of_le (World.lt_alloc Wd _) (own_ge hown.out g hg).1)⟩)
  rintro ⟨v, vb⟩ W0 ⟨hHeld, hown, hvb, hne⟩
  have hown := Aside0.mk hown
  have hvb := Aside0.mk hvb
  have hne := Aside0.mk hne
  dsimp only at hown hvb hne
  refine norm_ (a' := ?_) ?_ ?_
  rotate_left
  · simp only [putAll, Act.put, List.setIfInBounds_toArray, List.set_cons_zero, List.set_cons_succ]
    rfl
  refine last_ (i := 5) (N := some 43) #[true, true, true, true, true, true, false, false] rfl rfl (one_of HT_.out (by kernel_rfl)) (by decide) (fun K hK => ?_)
  refine goes_ Tryd.func27 (by kernel_rfl) rfl #[v, .int .i64 (p : Nat), .slice (some ⟨vb, 0, none⟩) 1 1] (by rfl) rfl rfl (by (try simp only [List.map_toArray, List.map_cons, List.map_nil, List.append_toArray, List.cons_append, List.nil_append]); first | done | rfl) ?_
  refine (HI.out v vb w.heap.size _ hown.out hHeld.2.2.2.size hvb.out hne.out).mono ?_
  rintro e wi ⟨vi, rfl, hown2, hb2⟩
  have hown2 := Aside0.mk hown2
  have hb2 := Aside0.mk (hHeld.2.2.2.trans hb2)
  refine ⟨_, rfl, ?_⟩
  refine hK.out _ _ ?_
  clear hK K
  refine norm_ (a' := ?_) ?_ ?_
  rotate_left
  · show Act.put _ (some 43) _ = _
    simp only [Act.put, List.setIfInBounds_toArray, List.set_cons_zero, List.set_cons_succ, i64_w, i32_w]
    rfl
  refine pure_ (i := 6) (N := some 4) (v := ?_) (a' := ?_) #[true, true, true, true, true, true, true, false] rfl rfl (any_of HT_.out (by kernel_rfl)) (fun _ _ _ h => h) (Or.inl ⟨by rfl, ?_⟩) ?_ ?_
  rotate_left
  · intro w'
    go_simp
    with_reducible rfl
  rotate_left
  · simp only [Act.put, List.setIfInBounds_toArray, List.set_cons_zero, List.set_cons_succ, i64_w, i32_w]
    rfl
  refine pure_ (i := 7) (N := some 5) (v := ?_) (a' := ?_) #[true, true, true, true, true, true, true, true] rfl rfl (any_of HT_.out (by kernel_rfl)) (fun _ _ _ h => h) (Or.inl ⟨by rfl, ?_⟩) ?_ ?_
  rotate_left
  · intro w'
    go_simp
    with_reducible rfl
  rotate_left
  · simp only [Act.put, List.setIfInBounds_toArray, List.set_cons_zero, List.set_cons_succ, i64_w, i32_w]
    rfl
  refine done_ (done_of HT_.out (by kernel_rfl)) ?_
  clear hown hvb hne hHeld
  go_wp2
  go_ret2
  exact ⟨_, rfl, flat_R (by rw [insAt_length _ _ _ HPL.out]; exact hown2.out), hb2.out⟩

theorem facts_Add.calls (A0 : Option Addr) (c0 : Nat) (l0 : List (S24)) (a1_0 : Int) (a1_1 : Int) (a1_2 : Int) (a1_3 : Int) (a1_4 : Int) (a1_5 : Int) (a1_6 : Int) (a1_7 : Int) (a1_8 : Int) (r1 : List (S24)) (r2 : Int) (w : World) (hr0 : Kd.C k24 w A0 l0.length l0) (hc0 : l0.length ≤ c0) (h : facts_Add.f l0 a1_0 a1_1 a1_2 a1_3 a1_4 a1_5 a1_6 a1_7 a1_8 = some (r1, r2)) (hrw : RowsAt w := by exact rwB (by assumption) (by assumption)) :
    Calls Tryd.prog 12 #[.slice A0 l0.length c0, .agg #[.int .i64 a1_0, .int .i64 a1_1, .int .i64 a1_2, .int .i64 a1_3, .int .i64 a1_4, .int .i64 a1_5, .int .i64 a1_6, .int .i64 a1_7, .int .i64 a1_8]] w fun e w' => ∃ v0_ : Value, e = .returned (.tuple #[v0_, .int .i64 r2]) ∧ Kd.R k24 24 w' w.heap.size (fun _ => True) v0_ r1 ∧ Below w.heap.size w w' := by
  have h' := Option.some.inj h
  obtain ⟨r, hr⟩ : ∃ r : S24, r = ⟨a1_0, a1_1, a1_2, a1_3, a1_4, a1_5, a1_6, a1_7, a1_8⟩ := ⟨_, rfl⟩
  rw [← hr] at h'
  have hcell : (#[.int .i64 a1_0, .int .i64 a1_1, .int .i64 a1_2, .int .i64 a1_3, .int .i64 a1_4, .int .i64 a1_5, .int .i64 a1_6, .int .i64 a1_7, .int .i64 a1_8] : Array Value) = (repL r).toArray := by rw [hr]; rfl
  rw [hcell]
  unfold addV at h'
  by_cases h1 : chkV l0 = 0
  · rw [if_pos h1] at h'
    cases h2 : fB r with
    | false =>
      rw [h2, if_neg (by simp)] at h'
      obtain ⟨rfl, rfl⟩ := Prod.mk.inj h'
      exact add_no2 A0 c0 l0 r w hr0 hc0 hrw h1 h2
    | true =>
      rw [h2, if_pos rfl] at h'
      cases h3 : twiceB l0 r.f0 with
      | true =>
        rw [h3, if_pos rfl] at h'
        obtain ⟨rfl, rfl⟩ := Prod.mk.inj h'
        exact add_no3 A0 c0 l0 r w hr0 hc0 hrw h1 h2 h3
      | false =>
        rw [h3, if_neg (by simp)] at h'
        by_cases h4 : l0.length = 4096
        · rw [if_pos h4] at h'
          obtain ⟨rfl, rfl⟩ := Prod.mk.inj h'
          by_cases h5 : posV l0 r.f0 < l0.length
          · exact add_no4a A0 c0 l0 r w hr0 hc0 hrw h1 h2 h3 h4 h5
          · exact add_no4b A0 c0 l0 r w hr0 hc0 hrw h1 h2 h3 h4 h5
        · rw [if_neg h4] at h'
          obtain ⟨rfl, rfl⟩ := Prod.mk.inj h'
          by_cases h5 : posV l0 r.f0 < l0.length
          · exact add_yesa A0 c0 l0 r w hr0 hc0 hrw h1 h2 h3 h4 h5
          · exact add_yesb A0 c0 l0 r w hr0 hc0 hrw h1 h2 h3 h4 h5
  · rw [if_neg h1] at h'
    obtain ⟨rfl, rfl⟩ := Prod.mk.inj h'
    exact add_no1 A0 c0 l0 r w hr0 hc0 hrw h1
end Go.Proofs.YtebfcckaicgcfaaDoor.Q
