/- By hand: what turf.Run computes: the iterator of the days, the loop over it. -/
import Derived.Test.YthfhjcbgccnijaaTurf
import Derived.Test.YthfhjcbgccnijaaRng
import Derived.Shelf.Abstract
import Derived.OwnWalkIn
import Derived.TacticsInMore
import Derived.LoopNIn
import Derived.LoopIn
import Derived.Maps.AppendAt
namespace Go.Proofs.Ythfhjcbgccnijaa.Q
open Go.RowKit Go.Proofs.YthfhjcbgccnijaaW.PrintWords Go.Proofs.YthfhjcbgccnijaaW.PrintLast Go.Proofs.YthfhjcbgccnijaaW.PrintMore Go.Proofs.Ythfhjcbgccnijaa.Rng
attribute [local go_sem] Oper.semAt_some
attribute [local go_sem] max2_int min2_int max_two min_two
set_option linter.unusedVariables false
set_option linter.unusedSimpArgs false

/-- What Next answers. -/
def nextV (bear wear grow uses : Int) (x : Int × Int) (s : S39) (u : Int) : Int × Int × Int :=
  if okNext bear wear grow uses x.1 x.2 s.f0.f0 s.f0.f1 s.f1.f0 s.f1.f1 u then (dayV wear grow u x.1 s.f0.f1 s.f1.f1, dayV wear grow u x.2 s.f0.f0 s.f1.f0, 0) else (0, 0, 280)

/-- The range behind k days, with the error of the last one. -/
def days (bear wear grow uses : Int) (l2 : List S39) (l3 : List Int) (x : Int × Int) : Nat → Int × Int × Int
  | 0 => (x.1, x.2, 0)
  | k + 1 => nextV bear wear grow uses ((days bear wear grow uses l2 l3 x k).1, (days bear wear grow uses l2 l3 x k).2.1) (rd_T39 l2 k) (rd l3 k)

/-- The boxes of the iterator. -/
def AfterIn (w : World) (n m : ByteArray) (t bear wear grow uses : Int) (l2 : List S39) (l3 : List Int) (A2 A3 : Option Addr) (c2 c3 bs bg bx bu : Nat) (x : Int × Int) (k : Nat) (W : World) : Prop :=
  Below w.heap.size w W ∧ W.heap[bs]? = some (.cells #[.slice A2 l2.length c2] 37 (0, 0)) ∧
  W.heap[bg]? = some (.cells #[.string n, .string m, .int .i64 t, .int .i64 bear, .int .i64 wear, .int .i64 grow, .int .i64 uses] 25 (0, 0)) ∧
  W.heap[bu]? = some (.cells #[.slice A3 l3.length c3] 31 (0, 0)) ∧
  W.heap[bx]? = some (.cells #[.int .i64 (days bear wear grow uses l2 l3 x k).1, .int .i64 (days bear wear grow uses l2 l3 x k).2.1] 27 (0, 0))
def after.T4 : Bool × List (List Nat × List Nat) := (true, [([], []), ([], []), ([], []), ([], []), ([2, 3], [2, 3]), ([4], [4]), ([], []), ([], []), ([6, 7], [6, 7]), ([8], [8]), ([0, 1, 5, 9], [0, 1, 5, 9]), ([10], [10]), ([11], [11]), ([11], [11]), ([12, 10, 0, 1, 2, 3, 4, 5, 6, 7, 8, 9, 10, 11, 12], [12]), ([13, 14, 0, 1, 2, 3, 4, 5, 6, 7, 8, 9, 10, 11, 12, 13, 14], [13])])
def after.B4 : List Nat := [0, 0, 0, 0, 12, 28, 0, 0, 192, 448, 1023, 2047, 4095, 4095, 8191, 32767]
theorem after.tab4 : rtab .any (opsOf Try.f75 4) = after.T4 := by kernel_rfl
theorem after.bits4 : waitsOk after.T4.2 after.B4 = true := by kernel_rfl

theorem AfterIn.below {w : World} {n m : ByteArray} {t bear wear grow uses : Int} {l2 : List S39} {l3 : List Int} {A2 A3 : Option Addr} {c2 c3 bs bg bx bu : Nat} {x : Int × Int} {k : Nat} {W V : World}
    (h : AfterIn w n m t bear wear grow uses l2 l3 A2 A3 c2 c3 bs bg bx bu x k W) (hb : Below W.heap.size W V) : AfterIn w n m t bear wear grow uses l2 l3 A2 A3 c2 c3 bs bg bx bu x k V :=
  ⟨below_step h.1 hb, blk_below h.2.1 hb, blk_below h.2.2.1 hb, blk_below h.2.2.2.1 hb, blk_below h.2.2.2.2 hb⟩
theorem AfterIn.drew {w : World} {n m : ByteArray} {t bear wear grow uses : Int} {l2 : List S39} {l3 : List Int} {A2 A3 : Option Addr} {c2 c3 bs bg bx bu : Nat} {x : Int × Int} {k : Nat} {W : World}
    (h : AfterIn w n m t bear wear grow uses l2 l3 A2 A3 c2 c3 bs bg bx bu x k W) : AfterIn w n m t bear wear grow uses l2 l3 A2 A3 c2 c3 bs bg bx bu x k W.drew :=
  ⟨below_drew1 h.1, blk_drew h.2.1, blk_drew h.2.2.1, blk_drew h.2.2.2.1, blk_drew h.2.2.2.2⟩
theorem AfterIn.put {w : World} {n m : ByteArray} {t bear wear grow uses : Int} {l2 : List S39} {l3 : List Int} {A2 A3 : Option Addr} {c2 c3 bs bg bx bu : Nat} {x : Int × Int} {k : Nat} {W : World} {N1 : Int × Int × Int}
    (h : AfterIn w n m t bear wear grow uses l2 l3 A2 A3 c2 c3 bs bg bx bu x k W) (hx : w.heap.size ≤ bx) (hne : bs ≠ bx ∧ bg ≠ bx ∧ bu ≠ bx) (hN : days bear wear grow uses l2 l3 x (k + 1) = N1) :
    AfterIn w n m t bear wear grow uses l2 l3 A2 A3 c2 c3 bs bg bx bu x (k + 1) ((W.setCell ⟨bx, 0, none⟩ (.int .i64 N1.1)).setCell ⟨bx, 1, none⟩ (.int .i64 N1.2.1)) := by
  subst hN
  exact ⟨below_set (below_set h.1 hx) hx, blk_far (blk_far h.2.1 hne.1 _) hne.1 _, blk_far (blk_far h.2.2.1 hne.2.1 _) hne.2.1 _, blk_far (blk_far h.2.2.2.1 hne.2.2 _) hne.2.2 _, blk_put (blk_put h.2.2.2.2 0 _ rfl) 1 _ rfl⟩
theorem AfterIn.far {w : World} {n m : ByteArray} {t bear wear grow uses : Int} {l2 : List S39} {l3 : List Int} {A2 A3 : Option Addr} {c2 c3 bs bg bx bu : Nat} {x : Int × Int} {k : Nat} {U : Nat → Prop} {W V : World}
    (h : AfterIn w n m t bear wear grow uses l2 l3 A2 A3 c2 c3 bs bg bx bu x k W) (hb : St U W V)
    (hbs : ¬ U bs) (hbg : ¬ U bg) (hbx : w.heap.size ≤ bx ∧ ¬ U bx) (hbu : ¬ U bu) (hw : ∀ k, U k → w.heap.size ≤ k) : AfterIn w n m t bear wear grow uses l2 l3 A2 A3 c2 c3 bs bg bx bu x k V :=
  ⟨hb.base h.1 (Nat.le_refl _) hw, hb.blk h.2.1 hbs, hb.blk h.2.2.1 hbg, hb.blk h.2.2.2.1 hbu, hb.blk h.2.2.2.2 hbx.2⟩

set_option maxRecDepth 100000 in
set_option maxHeartbeats 4000000 in
theorem after_iter (w : World) (n m : ByteArray) (t bear wear grow uses : Int) (l2 : List S39) (l3 : List Int) (A2 A3 : Option Addr) (c2 c3 bs bg bx bu : Nat) (U : Nat → Prop) (x : Int × Int)
    (hr2 : Kd.C k39 w A2 l2.length l2) (hr3 : Kd.C (Kd.int .i64) w A3 l3.length l3) (hl : l3.length = l2.length) (hn : l2.length ≤ 512)
    (hbs : ¬ U bs) (hbg : ¬ U bg) (hbx : w.heap.size ≤ bx ∧ ¬ U bx) (hbu : ¬ U bu) (hne : bs ≠ bx ∧ bg ≠ bx ∧ bu ≠ bx) (hw : ∀ k, U k → w.heap.size ≤ k) :
    Iter Try.prog 75 #[.pointer (some ⟨bs, 0, none⟩), .pointer (some ⟨bg, 0, none⟩), .pointer (some ⟨bx, 0, none⟩), .pointer (some ⟨bu, 0, none⟩)]
      (fun k => #[.agg #[.int .i64 (days bear wear grow uses l2 l3 x (k + 1)).1, .int .i64 (days bear wear grow uses l2 l3 x (k + 1)).2.1], .int .i64 (days bear wear grow uses l2 l3 x (k + 1)).2.2]) l2.length U (fun k => k = bx)
      (AfterIn w n m t bear wear grow uses l2 l3 A2 A3 c2 c3 bs bg bx bu x 0) := by
  intro q l J Jx W hJ hJx hY h0 hpre
  have hpre' := Aside0.mk hpre
  clear hpre
  refine callsIn_of_wp Try.func75 rfl trivial ?_ rfl
  simp only [Try.ntmps75, List.size_toArray, List.length_cons, List.length_nil, Nat.reduceAdd, Nat.reduceSub, Array.replicate_succ, Array.replicate_zero, List.push_toArray, List.append_toArray, List.nil_append, List.cons_append]
  have b1 := (blk_cell hpre'.out.2.1 0).trans rfl
  gi_wp2
  clear b1
  gi_loopw [10] (fun i wr => ∃ k : Nat, k ≤ l2.length ∧ i = .int .i64 k ∧ Aside0 (J k wr) ∧ Aside0 (AfterIn w n m t bear wear grow uses l2 l3 A2 A3 c2 c3 bs bg bx bu x k wr)) (fun i _ => l2.length - (intOf i).toNat)
  case atStart => exact ⟨0, by omega, rfl, ⟨h0⟩, hpre'⟩
  case round =>
    obtain ⟨k, hk, rfl, HJ, HA⟩ := hrel
    by_cases hlt : k < l2.length
    · have hC2 := Kd.C_below hr2 HA.out.1
      obtain ⟨ad2, e2, q0, q1, q2, q3⟩ := at_T39 hr2 (k : Int) (by omega) (by omega)
      obtain ⟨ad3, e3, p0⟩ := Kd.at_int hr3 (k : Int) (by omega) (by omega)
      have hY' := hY k
      obtain ⟨N1, hN1⟩ : ∃ N1, days bear wear grow uses l2 l3 x (k + 1) = N1 := ⟨_, rfl⟩
      have hN2 : turf_Next.f n m t bear wear grow uses (days bear wear grow uses l2 l3 x k).1 (days bear wear grow uses l2 l3 x k).2.1 (rd_T39 l2 k).f0.f0 (rd_T39 l2 k).f0.f1 (rd_T39 l2 k).f1.f0 (rd_T39 l2 k).f1.f1 (rd l3 k) = some (N1.1, N1.2.1, N1.2.2) := by
        rw [← hN1]
        rfl
      have HN := Aside0.mk (fun W => turf_Next.calls n m t bear wear grow uses (days bear wear grow uses l2 l3 x k).1 (days bear wear grow uses l2 l3 x k).2.1 (rd_T39 l2 k).f0.f0 (rd_T39 l2 k).f0.f1 (rd_T39 l2 k).f1.f0 (rd_T39 l2 k).f1.f1 (rd l3 k) N1.1 N1.2.1 N1.2.2 W hN2)
      clear hN2
      rw [Int.toNat_natCast] at q0 q1 q2 q3 p0
      subst e2 e3
      gi_wp2
      refine wpIn_wide.2 ?_
      refine start_ (n := 16) (S := fun w' => w'.cell? ⟨bg, 0, none⟩ = some (.string n) ∧ w'.cell? ⟨bg, 1, none⟩ = some (.string m) ∧ w'.cell? ⟨bg, 2, none⟩ = some (.int .i64 t) ∧ w'.cell? ⟨bg, 3, none⟩ = some (.int .i64 bear) ∧ w'.cell? ⟨bg, 4, none⟩ = some (.int .i64 wear) ∧ w'.cell? ⟨bg, 5, none⟩ = some (.int .i64 grow) ∧ w'.cell? ⟨bg, 6, none⟩ = some (.int .i64 uses) ∧ w'.cell? ⟨bx, 0, none⟩ = some (.int .i64 (days bear wear grow uses l2 l3 x k).1) ∧ w'.cell? ⟨bx, 1, none⟩ = some (.int .i64 (days bear wear grow uses l2 l3 x k).2.1) ∧ w'.cell? ⟨bs, 0, none⟩ = some (.slice (some ad2) l2.length c2) ∧ w'.cell? ⟨bu, 0, none⟩ = some (.slice (some ad3) l3.length c3) ∧ w'.cell? (ad2.add (k * 4)) = some (.int .i64 ((rd_T39 l2 k).f0.f0)) ∧ w'.cell? ⟨(ad2.add (k * 4)).block, (ad2.add (k * 4)).off + 1, none⟩ = some (.int .i64 ((rd_T39 l2 k).f0.f1)) ∧ w'.cell? ⟨(ad2.add (k * 4)).block, (ad2.add (k * 4)).off + 2, none⟩ = some (.int .i64 ((rd_T39 l2 k).f1.f0)) ∧ w'.cell? ⟨(ad2.add (k * 4)).block, (ad2.add (k * 4)).off + 3, none⟩ = some (.int .i64 ((rd_T39 l2 k).f1.f1)) ∧ w'.cell? (ad3.add k) = some (.int .i64 (rd l3 k))) (ds := [14]) #[false, false, false, false, false, false, false, false, false, false, false, false, false, false, false, false] (by kernel_rfl) rfl rfl ⟨(blk_cell HA.out.2.2.1 0).trans rfl, (blk_cell HA.out.2.2.1 1).trans rfl, (blk_cell HA.out.2.2.1 2).trans rfl, (blk_cell HA.out.2.2.1 3).trans rfl, (blk_cell HA.out.2.2.1 4).trans rfl, (blk_cell HA.out.2.2.1 5).trans rfl, (blk_cell HA.out.2.2.1 6).trans rfl, (blk_cell HA.out.2.2.2.2 0).trans rfl, (blk_cell HA.out.2.2.2.2 1).trans rfl, (blk_cell HA.out.2.1 0).trans rfl, (blk_cell HA.out.2.2.2.1 0).trans rfl, (HA.out.1.cell (World.block_lt_of_cell? w _ q0)).trans q0, (HA.out.1.cell (World.block_lt_of_cell? w _ q1)).trans q1, (HA.out.1.cell (World.block_lt_of_cell? w _ q2)).trans q2, (HA.out.1.cell (World.block_lt_of_cell? w _ q3)).trans q3, (HA.out.1.cell (World.block_lt_of_cell? w _ p0)).trans p0⟩ (fun hHeld => ?_)
      refine with_tabW after.tab4 after.bits4 (fun HT_ HW_ => ?_)
      have HJ := Aside0.mk (hJ _ _ _ HJ.out (St.drew (St.refl _ _)))
      have HA := Aside0.mk HA.out.drew
      generalize wr.drew = wq at HJ HA hHeld ⊢
      refine pure_ (i := 3) (N := some 17) (v := ?_) (a' := ?_) #[false, false, false, true, false, false, false, false, false, false, false, false, false, false, false, false] rfl rfl (any_of HT_.out (by kernel_rfl)) (fun _ _ _ h => h) (Or.inl ⟨by rfl, ?_⟩) ?_ ?_
      rotate_left
      · intro w'
        go_simp
        with_reducible rfl
      rotate_left
      · simp only [Act.put, List.setIfInBounds_toArray, List.set_cons_zero, List.set_cons_succ, i64_w, i32_w]
        rfl
      refine pure_ (i := 7) (N := some 21) (v := ?_) (a' := ?_) #[false, false, false, true, false, false, false, true, false, false, false, false, false, false, false, false] rfl rfl (any_of HT_.out (by kernel_rfl)) (fun _ _ _ h => h) (Or.inl ⟨by rfl, ?_⟩) ?_ ?_
      rotate_left
      · intro w'
        go_simp
        with_reducible rfl
      rotate_left
      · simp only [Act.put, List.setIfInBounds_toArray, List.set_cons_zero, List.set_cons_succ, i64_w, i32_w]
        rfl
      refine take_ (i := 0) (N := some 14) (v := ?_) (a' := ?_) #[true, false, false, true, false, false, false, true, false, false, false, false, false, false, false, false] rfl rfl (take_ofW HT_.out HW_.out (by kernel_rfl)) (fun _ _ _ h => h) (Or.inl ⟨by rfl, ?_⟩) hHeld ?_ ?_
      rotate_left
      · rintro w' ⟨s0, s1, s2, s3, s4, s5, s6, s7, s8, s9, s10, s11, s12, s13, s14, s15⟩
        go_simp
        with_reducible rfl
      rotate_left
      · simp only [Act.put, List.setIfInBounds_toArray, List.set_cons_zero, List.set_cons_succ, i64_w, i32_w]
        rfl
      refine take_ (i := 1) (N := some 15) (v := ?_) (a' := ?_) #[true, true, false, true, false, false, false, true, false, false, false, false, false, false, false, false] rfl rfl (take_ofW HT_.out HW_.out (by kernel_rfl)) (fun _ _ _ h => h) (Or.inl ⟨by rfl, ?_⟩) hHeld ?_ ?_
      rotate_left
      · rintro w' ⟨s0, s1, s2, s3, s4, s5, s6, s7, s8, s9, s10, s11, s12, s13, s14, s15⟩
        go_simp
        with_reducible rfl
      rotate_left
      · simp only [Act.put, List.setIfInBounds_toArray, List.set_cons_zero, List.set_cons_succ, i64_w, i32_w]
        rfl
      refine take_ (i := 2) (N := some 16) (v := ?_) (a' := ?_) #[true, true, true, true, false, false, false, true, false, false, false, false, false, false, false, false] rfl rfl (take_ofW HT_.out HW_.out (by kernel_rfl)) (fun _ _ _ h => h) (Or.inl ⟨by rfl, ?_⟩) hHeld ?_ ?_
      rotate_left
      · rintro w' ⟨s0, s1, s2, s3, s4, s5, s6, s7, s8, s9, s10, s11, s12, s13, s14, s15⟩
        go_simp
        with_reducible rfl
      rotate_left
      · simp only [Act.put, List.setIfInBounds_toArray, List.set_cons_zero, List.set_cons_succ, i64_w, i32_w]
        rfl
      refine pure_ (i := 4) (N := some 18) (v := ?_) (a' := ?_) #[true, true, true, true, true, false, false, true, false, false, false, false, false, false, false, false] rfl rfl (any_of HT_.out (by kernel_rfl)) (fun _ _ _ h => h) (Or.inl ⟨by rfl, ?_⟩) ?_ ?_
      rotate_left
      · intro w'
        go_simp
        with_reducible rfl
      rotate_left
      · simp only [Act.put, List.setIfInBounds_toArray, List.set_cons_zero, List.set_cons_succ, i64_w, i32_w]
        rfl
      refine take_ (i := 5) (N := some 19) (v := ?_) (a' := ?_) #[true, true, true, true, true, true, false, true, false, false, false, false, false, false, false, false] rfl rfl (take_ofW HT_.out HW_.out (by kernel_rfl)) (fun _ _ _ h => h) (Or.inl ⟨by rfl, ?_⟩) hHeld ?_ ?_
      rotate_left
      · rintro w' ⟨s0, s1, s2, s3, s4, s5, s6, s7, s8, s9, s10, s11, s12, s13, s14, s15⟩
        go_simp
        with_reducible rfl
      rotate_left
      · simp only [Act.put, List.setIfInBounds_toArray, List.set_cons_zero, List.set_cons_succ, i64_w, i32_w]
        rfl
      refine take_ (i := 6) (N := some 20) (v := ?_) (a' := ?_) #[true, true, true, true, true, true, true, true, false, false, false, false, false, false, false, false] rfl rfl (take_ofW HT_.out HW_.out (by kernel_rfl)) (fun _ _ _ h => h) (Or.inl ⟨by rfl, ?_⟩) hHeld ?_ ?_
      rotate_left
      · rintro w' ⟨s0, s1, s2, s3, s4, s5, s6, s7, s8, s9, s10, s11, s12, s13, s14, s15⟩
        go_simp
        with_reducible rfl
      rotate_left
      · simp only [Act.put, List.setIfInBounds_toArray, List.set_cons_zero, List.set_cons_succ, i64_w, i32_w]
        rfl
      refine pure_ (i := 8) (N := some 22) (v := ?_) (a' := ?_) #[true, true, true, true, true, true, true, true, true, false, false, false, false, false, false, false] rfl rfl (any_of HT_.out (by kernel_rfl)) (fun _ _ _ h => h) (Or.inl ⟨by rfl, ?_⟩) ?_ ?_
      rotate_left
      · intro w'
        go_simp
        with_reducible rfl
      rotate_left
      · simp only [Act.put, List.setIfInBounds_toArray, List.set_cons_zero, List.set_cons_succ, i64_w, i32_w]
        rfl
      refine take_ (i := 9) (N := some 23) (v := ?_) (a' := ?_) #[true, true, true, true, true, true, true, true, true, true, false, false, false, false, false, false] rfl rfl (take_ofW HT_.out HW_.out (by kernel_rfl)) (fun _ _ _ h => h) (Or.inl ⟨by rfl, ?_⟩) hHeld ?_ ?_
      rotate_left
      · rintro w' ⟨s0, s1, s2, s3, s4, s5, s6, s7, s8, s9, s10, s11, s12, s13, s14, s15⟩
        go_simp
        with_reducible rfl
      rotate_left
      · simp only [Act.put, List.setIfInBounds_toArray, List.set_cons_zero, List.set_cons_succ, i64_w, i32_w]
        rfl
      refine one_ (i := 10) (N := some 24) #[true, true, true, true, true, true, true, true, true, true, true, false, false, false, false, false] rfl rfl (one_of HT_.out (by kernel_rfl)) (by decide) (fun K hK => ?_)
      refine goes_ Try.func21 (by kernel_rfl) rfl #[.agg #[.string n, .string m, .int .i64 t, .int .i64 bear, .int .i64 wear, .int .i64 grow, .int .i64 uses], .agg #[.int .i64 (days bear wear grow uses l2 l3 x k).1, .int .i64 (days bear wear grow uses l2 l3 x k).2.1], .agg #[.int .i64 (rd_T39 l2 k).f0.f0, .int .i64 (rd_T39 l2 k).f0.f1, .int .i64 (rd_T39 l2 k).f1.f0, .int .i64 (rd_T39 l2 k).f1.f1], .int .i64 (rd l3 k)] (by rfl) rfl rfl (by (try simp only [List.map_toArray, List.map_cons, List.map_nil]); first | done | rfl | (simp only [List.length_drop, List.length_take]; rfl)) ?_
      with_reducible refine (HN.out _).mono ?_
      rintro e w4 ⟨rfl, hb⟩
      refine ⟨_, rfl, ?_⟩
      have HJ := Aside0.mk (hJ _ _ _ HJ.out (St.of_below hb))
      have HA := Aside0.mk (HA.out.below hb)
      clear hb
      refine hK.out _ _ ⟨(blk_cell HA.out.2.2.1 0).trans rfl, (blk_cell HA.out.2.2.1 1).trans rfl, (blk_cell HA.out.2.2.1 2).trans rfl, (blk_cell HA.out.2.2.1 3).trans rfl, (blk_cell HA.out.2.2.1 4).trans rfl, (blk_cell HA.out.2.2.1 5).trans rfl, (blk_cell HA.out.2.2.1 6).trans rfl, (blk_cell HA.out.2.2.2.2 0).trans rfl, (blk_cell HA.out.2.2.2.2 1).trans rfl, (blk_cell HA.out.2.1 0).trans rfl, (blk_cell HA.out.2.2.2.1 0).trans rfl, (HA.out.1.cell (World.block_lt_of_cell? w _ q0)).trans q0, (HA.out.1.cell (World.block_lt_of_cell? w _ q1)).trans q1, (HA.out.1.cell (World.block_lt_of_cell? w _ q2)).trans q2, (HA.out.1.cell (World.block_lt_of_cell? w _ q3)).trans q3, (HA.out.1.cell (World.block_lt_of_cell? w _ p0)).trans p0⟩ (fun hHeld => ?_)
      clear hK K
      refine norm_ (a' := ?_) ?_ ?_
      rotate_left
      · show Act.put _ (some 24) _ = _
        simp only [Act.put, List.setIfInBounds_toArray, List.set_cons_zero, List.set_cons_succ, i64_w, i32_w]
        rfl
      refine pure_ (i := 11) (N := some 13) (v := ?_) (a' := ?_) #[true, true, true, true, true, true, true, true, true, true, true, true, false, false, false, false] rfl rfl (any_of HT_.out (by kernel_rfl)) (fun _ _ _ h => h) (Or.inl ⟨by rfl, ?_⟩) ?_ ?_
      rotate_left
      · intro w'
        go_simp
        with_reducible rfl
      rotate_left
      · simp only [Act.put, List.setIfInBounds_toArray, List.set_cons_zero, List.set_cons_succ, i64_w, i32_w]
        rfl
      refine pure_ (i := 12) (N := some 25) (v := ?_) (a' := ?_) #[true, true, true, true, true, true, true, true, true, true, true, true, true, false, false, false] rfl rfl (any_of HT_.out (by kernel_rfl)) (fun _ _ _ h => h) (Or.inl ⟨by rfl, ?_⟩) ?_ ?_
      rotate_left
      · intro w'
        go_simp
        with_reducible rfl
      rotate_left
      · simp only [Act.put, List.setIfInBounds_toArray, List.set_cons_zero, List.set_cons_succ, i64_w, i32_w]
        rfl
      refine pure_ (i := 13) (N := some 26) (v := ?_) (a' := ?_) #[true, true, true, true, true, true, true, true, true, true, true, true, true, true, false, false] rfl rfl (any_of HT_.out (by kernel_rfl)) (fun _ _ _ h => h) (Or.inl ⟨by rfl, ?_⟩) ?_ ?_
      rotate_left
      · intro w'
        go_simp
        with_reducible rfl
      rotate_left
      · simp only [Act.put, List.setIfInBounds_toArray, List.set_cons_zero, List.set_cons_succ, i64_w, i32_w]
        rfl
      refine last_ (i := 14) (N := none) #[true, true, true, true, true, true, true, true, true, true, true, true, true, true, true, false] rfl rfl (one_of HT_.out (by kernel_rfl)) (by decide) (fun K hK => ?_)
      have x0 := (blk_cell HA.out.2.2.2.2 0).trans rfl
      have x1 := (blk_cell HA.out.2.2.2.2 1).trans rfl
      have xf := blk_frozen HA.out.2.2.2.2 0
      have xf1 := blk_frozen HA.out.2.2.2.2 1
      refine skip_ (w1 := ?_) (by rfl) rfl ?_ ?_
      rotate_left
      · go_simp
        rfl
      refine hK.out _ _ ?_
      clear hK K
      refine pure_ (i := 15) (N := some 6) (v := ?_) (a' := ?_) #[true, true, true, true, true, true, true, true, true, true, true, true, true, true, true, true] rfl rfl (any_of HT_.out (by kernel_rfl)) (fun _ _ _ h => h) (Or.inl ⟨by rfl, ?_⟩) ?_ ?_
      rotate_left
      · intro w'
        go_simp
        with_reducible rfl
      rotate_left
      · simp only [Act.put, List.setIfInBounds_toArray, List.set_cons_zero, List.set_cons_succ, i64_w, i32_w]
        rfl
      refine done_ (done_of HT_.out (by kernel_rfl)) ?_
      clear x0 x1 xf xf1 q0 q1 q2 q3 p0
      have HJ5 := Aside0.mk (hJ _ _ _ HJ.out (((St.refl (fun k => k = bx) w4).setCell (p := ⟨bx, 0, none⟩) (.inl rfl) (.int .i64 N1.1)).setCell (p := ⟨bx, 1, none⟩) (.inl rfl) (.int .i64 N1.2.1)))
      have HA5 := Aside0.mk (HA.out.put hbx.1 hne hN1)
      generalize (w4.setCell ⟨bx, 0, none⟩ (.int .i64 N1.1)).setCell ⟨bx, 1, none⟩ (.int .i64 N1.2.1) = w5 at HJ5 HA5 ⊢
      clear HJ HA
      obtain ⟨fn, tmps, assign, body, hy, hR⟩ := hY' w5 hlt HJ5.out
      rw [hN1] at hy
      have x0 := (blk_cell HA5.out.2.2.2.2 0).trans rfl
      have x1 := (blk_cell HA5.out.2.2.2.2 1).trans rfl
      rw [hN1] at x0 x1
      gi_wp2
      refine ⟨fun h => by simp [Fence.wide] at h, hR.mono ?_⟩
      rintro e W3 (⟨rfl, hJ3, hk3⟩ | ⟨rfl, hJx3⟩)
      · have HA6 := Aside0.mk (HA5.out.far hk3 hbs hbg hbx hbu hw)
        have HJ6 := Aside0.mk hJ3
        clear HJ5 HA5 x0 x1 hk3 hJ3
        gi_wp2
        go_roundw
        case rel => exact ⟨k + 1, hlt, rfl, HJ6, HA6⟩
        case measure => simp [intOf]; omega
      · have HJ6 := Aside0.mk hJx3
        clear HJ5 HA5 x0 x1 hJx3
        gi_wp2
        refine bodyPost_ret (results_none rfl _ _ _) rfl ?_
        exact ⟨⟨_, rfl⟩, .inr ⟨k, hlt, HJ6.out⟩⟩
    · gi_wp2
      go_end0
      obtain rfl : k = l2.length := by omega
      exact ⟨⟨_, rfl⟩, .inl HJ.out⟩
end Go.Proofs.Ythfhjcbgccnijaa.Q
