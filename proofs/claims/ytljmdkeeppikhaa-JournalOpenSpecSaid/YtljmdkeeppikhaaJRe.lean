/- journal.records: the records on sectors as an iterator (its values are told by recs.l0). -/
import Derived.Test.YtljmdkeeppikhaaQ0
import Derived.Test.YtljmdkeeppikhaaAidB
import Derived.Test.YtljmdkeeppikhaaAidC
import Derived.Test.YtljmdkeeppikhaaRngE
import Derived.Test.YtljmdkeeppikhaaJUs
import Derived.Test.YtljmdkeeppikhaaQ1
import Derived.Test.YtljmdkeeppikhaaQ2
namespace Go.Proofs.Ytljmdkeeppikhaa.Q
open Go.RowKit Go.Proofs.YtljmdkeeppikhaaW.PrintWords Go.Proofs.YtljmdkeeppikhaaW.PrintLast Go.Proofs.YtljmdkeeppikhaaW.PrintMore Go.Proofs.Ytljmdkeeppikhaa.Rng
attribute [local go_sem] max2_int min2_int max_two min_two max_three min_three max_four min_four
set_option linter.unusedVariables false
set_option linter.unusedSimpArgs false

/-! ### recs: function 60 -/
mutual
def recs.l0 : Nat → List (List Int) → Int → Int → Option (List (Int × List Int))
  | 0, _, _, _ => none
  | k + 1, x1, x3, x4 => recs.l1 k x1 x3 x4 ([] : List Int) x3
def recs.l1 : Nat → List (List Int) → Int → Int → List Int → Int → Option (List (Int × List Int))
  | 0, _, _, _, _, _ => none
  | k + 1, x1, x3, x4, x5, x6 => if x6 < (x1.length : Int) then (if 0 ≤ x6 then ((journal_good.f k (rd_L1 x1 x6) x6).bind fun t117 => (if t117 = true then (if 10 < ((rd_L1 x1 x6).length : Int) then (if (((Go.bits .and .u8 (rd (rd_L1 x1 x6) 10) 1) != 0) != (x6 == x3)) = true then (recs.j2 k x1 x3 x4 x5 x6 (rd_L1 x1 x6) true) else (if 4 ≤ ((rd_L1 x1 x6).length : Int) then ((journal_get.f k ((rd_L1 x1 x6).take 4)).bind fun t120 => (if 0 ≤ x3 then (if x3 < (x1.length : Int) then (if 4 ≤ ((rd_L1 x1 x3).length : Int) then ((journal_get.f k ((rd_L1 x1 x3).take 4)).bind fun t123 => (if t120 = t123 then ((journal_get.f k ((rd_L1 x1 x6).take 4)).bind fun t125 => (recs.j2 k x1 x3 x4 x5 x6 (rd_L1 x1 x6) (decide (t125 < x4)))) else (recs.j2 k x1 x3 x4 x5 x6 (rd_L1 x1 x6) true))) else (none)) else (none)) else (none))) else (none))) else (none)) else (recs.j2 k x1 x3 x4 x5 x6 (rd_L1 x1 x6) true))) else (none)) else (some [])
def recs.j2 : Nat → List (List Int) → Int → Int → List Int → Int → List Int → Bool → Option (List (Int × List Int))
  | 0, _, _, _, _, _, _, _ => none
  | k + 1, x1, x3, x4, x5, x6, x7, x52 => if x52 = true then (some []) else (if 11 < (x7.length : Int) then (if 12 ≤ (wrap64 (12 + (wrap64 (rd x7 11)))) then (if (wrap64 (12 + (wrap64 (rd x7 11)))) ≤ (x7.length : Int) then (if x5.length + ((x7.take ((wrap64 (12 + (wrap64 (rd x7 11)))) : Int).toNat).drop 12).length < 140737488355328 then ((some (x5 ++ ((x7.take ((wrap64 (12 + (wrap64 (rd x7 11)))) : Int).toNat).drop 12) : List Int)).bind fun y128 => (if 10 < (x7.length : Int) then (if (Go.bits .and .u8 (rd x7 10) 2) = 0 then (recs.l1 k x1 x3 x4 y128 (wrap64 (x6 + 1))) else (if 4 ≤ (x7.length : Int) then ((journal_get.f k (x7.take 4)).bind fun t133 => ((recs.l0 k x1 (wrap64 (x6 + 1)) t133).map (fun r_ => (wrap64 (x6 + 1), y128) :: r_))) else (none))) else (none))) else (none)) else (none)) else (none)) else (none))
end

def recs.T6 : Bool × List (List Nat × List Nat) := (true, [([], []), ([], []), ([0, 1], [0, 1]), ([2], [2]), ([3, 2], [3]), ([4], [4]), ([5, 4], [4, 5]), ([6, 4], [4, 6]), ([7, 4], [4, 7]), ([8, 4], [4, 8]), ([4], [4]), ([4], [4]), ([10, 11, 4], [4, 10, 11]), ([9, 12, 4], [4, 9, 12]), ([4, 13], [4, 13]), ([14, 4], [14]), ([15], [15]), ([16, 15], [15, 16]), ([17, 15, 15], [15, 17]), ([15], [15]), ([15], [15]), ([19, 20, 15], [15, 19, 20]), ([21, 15], [15, 21]), ([22, 15], [15, 22]), ([23, 18, 15], [15, 23]), ([18, 24, 15], [15, 18, 24]), ([15, 25], [15, 25]), ([26, 24], [26]), ([27], [27]), ([28, 27], [27, 28]), ([29, 27, 27], [27, 29]), ([27], [27]), ([30, 31, 27], [27, 30, 31]), ([27, 32], [27, 32])])
def recs.B6 : List Nat := [0, 0, 3, 7, 15, 31, 63, 127, 255, 511, 31, 31, 3103, 8191, 16383, 32767, 65535, 131071, 262143, 65535, 65535, 1638399, 3735551, 7929855, 16777215, 33554431, 67108863, 134217727, 268435455, 536870911, 1073741823, 268435455, 4294967295, 8589934591]
theorem recs.tab6 : rtab .any (opsOf Try.f60 6) = recs.T6 := by kernel_rfl
theorem recs.bits6 : waitsOk recs.T6.2 recs.B6 = true := by kernel_rfl
set_option maxHeartbeats 8000000 in
set_option maxRecDepth 100000 in

theorem drop_cons {α : Type} {R : List α} {k : Nat} {x d : α} {r : List α} (hk : k < R.length) (h : R.drop k = x :: r) : R.getD k d = x ∧ R.drop (k + 1) = r := by
  rw [List.drop_eq_getElem_cons hk] at h
  injection h with h1 h2
  exact ⟨by rw [List.getD_eq_getElem?_getD, List.getElem?_eq_getElem hk, Option.getD_some, h1], h2⟩
theorem at_end {α : Type} {R : List α} {k : Nat} {J : Nat → World → Prop} {W : World} (hk : k ≤ R.length) (h : R.drop k = []) (hj : J k W) : J R.length W := by
  have : R.length ≤ k := List.drop_eq_nil_iff.1 h
  rwa [show R.length = k from Nat.le_antisymm this hk]

def RecEnc (base : Nat) (R : List (Int × List Int)) (k : Nat) (vs : Array Value) (A : World) : Prop := ∃ v, vs = #[.int .i64 (R.getD k (0, [])).1, v] ∧ Kd.R (Kd.int .u8) 5 A base (fun _ => True) v (R.getD k (0, [])).2
def RecIn (A0 : Option Addr) (c0 : Nat) (l0 : List (List Int)) (bl base : Nat) (ok : Nat → Prop) (W : World) : Prop :=
  base ≤ W.heap.size ∧ W.heap[bl]? = some (.cells #[.slice A0 l0.length c0] 22 (0, 0)) ∧ Kd.F (Kd.slice 5 (Kd.int .u8)) W ok A0 l0.length l0
theorem RecIn.below {A0 : Option Addr} {c0 : Nat} {l0 : List (List Int)} {bl base : Nat} {ok : Nat → Prop} {W V : World} (h : RecIn A0 c0 l0 bl base ok W) (hb : Below W.heap.size W V) : RecIn A0 c0 l0 bl base ok V :=
  ⟨Nat.le_trans h.1 hb.size, heap_below hb h.2.1, Kd.F_below h.2.2 hb⟩
theorem RecIn.st {A0 : Option Addr} {c0 : Nat} {l0 : List (List Int)} {bl base : Nat} {ok U : Nat → Prop} {W V : World} (h : RecIn A0 c0 l0 bl base ok W) (hUo : ∀ j, ok j → ¬ U j) (hUb : ¬ U bl) (hs : St U W V) : RecIn A0 c0 l0 bl base ok V :=
  ⟨Nat.le_trans h.1 hs.2.2.2.1, hs.blk h.2.1 hUb, Kd.F_step h.2.2 (fun k hk hlt => hs.2.2.2.2 k hlt (hUo k hk))⟩

set_option maxHeartbeats 8000000 in
set_option maxRecDepth 100000 in
theorem recs_iter.calls (k : Nat) (l0 : List (List Int)) (R : List (Int × List Int)) (A0 : Option Addr) (c0 bl base : Nat) (U ok : Nat → Prop) (hUo : ∀ j, ok j → ¬ U j) (hUb : ¬ U bl) (h : recs.l0 k l0 0 0 = some R) :
    IterE Try.prog 60 #[.pointer (some ⟨bl, 0, none⟩)] (RecEnc base R) R.length U (fun _ => False) (RecIn A0 c0 l0 bl base ok) := by
 intro q l J Jx W hJ hJx hY h0 hpre
 have H' := Aside0.mk h; have h0 := Aside0.mk h0; have hpre := Aside0.mk hpre; clear h
 refine callsIn_of_wp Try.func60 rfl trivial ?_ rfl
 simp only [Try.ntmps60, List.size_toArray, List.length_cons, List.length_nil, Nat.reduceAdd, Nat.reduceSub, Array.replicate_succ, Array.replicate_zero, List.push_toArray, List.append_toArray, List.nil_append, List.cons_append]
 refine wpIn_wide.2 ?_
 go_wp2
 go_step3
 go_wp2
 go_step3
 go_wp2
 go_loopg [3, 4] k (fun kq v3 v4 w' => ∃ (x3_1 : Int) (x4_1 : Int) (kk : Nat), v3 = .int .i64 x3_1 ∧ v4 = .int .u64 x4_1 ∧ Aside0 (recs.l0 kq l0 x3_1 x4_1 = some (R.drop kk)) ∧ Aside0 (kq ≤ k) ∧ Aside0 (kk ≤ R.length) ∧ Aside0 (J kk w') ∧ Aside0 (RecIn A0 c0 l0 bl base ok w'))
 case atStart => exact ⟨0, 0, 0, rfl, rfl, H', ⟨Nat.le_refl _⟩, ⟨Nat.zero_le _⟩, h0, hpre⟩
 clear H'; obtain ⟨x3_1, x4_1, kk, rfl, rfl, HA, HK1, HKK, HJ, HRI⟩ := hrel; clear h0 hpre; obtain ⟨RV, hRV⟩ : ∃ RV, R.drop kk = RV := ⟨_, rfl⟩; rw [hRV] at HA; have HRV := Aside0.mk hRV; clear hRV
 generalize wr = w at *
 have HR0 := Aside0.mk (Kd.F_now HRI.out.2.2); have HBX := Aside0.mk HRI.out.2.1; have HB := Aside0.mk (Below.refl w.heap.size w); have bx_ := (blk_cell HBX.out 0).trans rfl
 cases gk with
 | zero => exact absurd HA.out (by simp [recs.l0])
 | succ k1 =>
   have H := HA.out; clear HA
   simp only [recs.l0] at H
   have H' := Aside0.mk H; clear H
   go_wp2
   go_loopg [3, 4, 5, 6] k1 (fun kq v3 v4 v5 v6 w' => ∃ (x3_2 : Int) (x4_2 : Int) (x5_2 : List Int) (x6_2 : Int), v3 = .int .i64 x3_2 ∧ v4 = .int .u64 x4_2 ∧ v6 = .int .i64 x6_2 ∧ Aside0 (recs.l1 kq l0 x3_2 x4_2 x5_2 x6_2 = some RV) ∧ Aside0 (kq ≤ k1) ∧ Aside0 (Kd.R (Kd.int .u8) 5 w' w.heap.size (fun _ => True) v5 x5_2) ∧ Aside0 (Below w.heap.size w w'))
   case atStart => exact ⟨(x3_1), (x4_1), (([] : List Int)), (x3_1), (by first | rfl | (simp; done) | (simp [*]; done)), (by first | rfl | (simp; done) | (simp [*]; done)), (by first | rfl | (simp; done) | (simp [*]; done)), H', ⟨Nat.le_refl _⟩, ⟨by first | exact Kd.R_nil _ _ _ _ _ | exact Kd.N_nil _ _ _ _ _ | exact Kd.V_nil _ _ _ _ _ | exact Kd.Q_nil _ _ _ _ _ | exact Kd.S_nil _ _ _ _ _⟩, ⟨blw HB.out⟩⟩
   case round =>
     clear H'; clear bx_; obtain ⟨x3_2, x4_2, x5_2, x6_2, rfl, rfl, rfl, HA, HK2, HO_5, HB⟩ := hrel; have bx_ := (blk_cell (heap_below HB.out HBX.out) 0).trans rfl
     cases gk with
     | zero => exact absurd HA.out (by simp [recs.l1])
     | succ k2 =>
       have H := HA.out; clear HA
       simp only [recs.l1] at H
       by_cases c2 : x6_2 < (l0.length : Int)
       · rw [if_pos c2] at H
         have c2b0 : decide (x6_2 < (l0.length : Int)) = true := decide_eq_true c2; clear c2
         by_cases c3 : 0 ≤ x6_2
         · rw [if_pos c3] at H
           have c3b0 : decide (0 ≤ x6_2) = true := decide_eq_true c3; clear c3; have HC4 := Aside0.mk H; clear H; have p116 : 0 ≤ (x6_2 : Int) := of_decide_eq_true (by first | (with_reducible assumption) | assumption); have q116 : x6_2 < (l0.length : Int) := of_decide_eq_true (by first | (with_reducible assumption) | assumption); obtain ⟨ad116, A116_0, c116_0, e116, hx116_0, hl116_0, hi116_0⟩ := at_L1 HR0.out x6_2 p116 q116; cases e116; replace hx116_0 := (HB.out.cell (World.block_lt_of_cell? w _ hx116_0)).trans hx116_0; have HR116_0 := Aside0.mk hi116_0; have HC116_0 := Aside0.mk hl116_0; clear hi116_0 hl116_0; replace p116 := eq_true p116; replace q116 := eq_true q116
           go_upto_region 6 with (fail)
           go_cut [52] (fun v52 wc => ∃ (kq : Nat) (x52_3 : Bool), v52 = .bool x52_3 ∧ Aside0 (recs.j2 kq l0 x3_2 x4_2 x5_2 x6_2 (rd_L1 l0 x6_2) x52_3 = some RV) ∧ Aside0 (kq ≤ k2) ∧ Aside0 (Kd.R (Kd.int .u8) 5 wc w.heap.size (fun _ => True) u5 x5_2) ∧ Aside0 (Below w.heap.size w wc))
           case first =>
             have H := HC4.out; clear HC4; replace H := Option.bind_eq_some_iff.mp H; obtain ⟨t117, A50, H⟩ := H; replace H : (if t117 = true then (if 10 < ((rd_L1 l0 x6_2).length : Int) then (if (((Go.bits .and .u8 (rd (rd_L1 l0 x6_2) 10) 1) != 0) != (x6_2 == x3_2)) = true then (recs.j2 k2 l0 x3_2 x4_2 x5_2 x6_2 (rd_L1 l0 x6_2) true) else (if 4 ≤ ((rd_L1 l0 x6_2).length : Int) then ((journal_get.f k2 ((rd_L1 l0 x6_2).take 4)).bind fun t120 => (if 0 ≤ x3_2 then (if x3_2 < (l0.length : Int) then (if 4 ≤ ((rd_L1 l0 x3_2).length : Int) then ((journal_get.f k2 ((rd_L1 l0 x3_2).take 4)).bind fun t123 => (if t120 = t123 then ((journal_get.f k2 ((rd_L1 l0 x6_2).take 4)).bind fun t125 => (recs.j2 k2 l0 x3_2 x4_2 x5_2 x6_2 (rd_L1 l0 x6_2) (decide (t125 < x4_2)))) else (recs.j2 k2 l0 x3_2 x4_2 x5_2 x6_2 (rd_L1 l0 x6_2) true))) else (none)) else (none)) else (none))) else (none))) else (none)) else (recs.j2 k2 l0 x3_2 x4_2 x5_2 x6_2 (rd_L1 l0 x6_2) true)) = some RV := H; have A5 := Aside0.mk A50; clear A50
             by_cases c6 : t117 = true
             · subst c6
               have H1 : (if 10 < ((rd_L1 l0 x6_2).length : Int) then (if (((Go.bits .and .u8 (rd (rd_L1 l0 x6_2) 10) 1) != 0) != (x6_2 == x3_2)) = true then (recs.j2 k2 l0 x3_2 x4_2 x5_2 x6_2 (rd_L1 l0 x6_2) true) else (if 4 ≤ ((rd_L1 l0 x6_2).length : Int) then ((journal_get.f k2 ((rd_L1 l0 x6_2).take 4)).bind fun t120 => (if 0 ≤ x3_2 then (if x3_2 < (l0.length : Int) then (if 4 ≤ ((rd_L1 l0 x3_2).length : Int) then ((journal_get.f k2 ((rd_L1 l0 x3_2).take 4)).bind fun t123 => (if t120 = t123 then ((journal_get.f k2 ((rd_L1 l0 x6_2).take 4)).bind fun t125 => (recs.j2 k2 l0 x3_2 x4_2 x5_2 x6_2 (rd_L1 l0 x6_2) (decide (t125 < x4_2)))) else (recs.j2 k2 l0 x3_2 x4_2 x5_2 x6_2 (rd_L1 l0 x6_2) true))) else (none)) else (none)) else (none))) else (none))) else (none)) = some RV := by rw [if_pos rfl] at H; exact H
               clear H; have H := H1; clear H1
               by_cases c7 : 10 < ((rd_L1 l0 x6_2).length : Int)
               · rw [if_pos c7] at H
                 have c7b0 : decide (10 < ((rd_L1 l0 x6_2).length : Int)) = true := decide_eq_true c7; have c7b1 : decide (10 < (rd_L1 l0 x6_2).length) = true := decide_eq_true (by omega); clear c7
                 (first | rw [c7b0] | (simp only [i64_w, i32_w]; rw [c7b0]) | skip)
                 by_cases c8 : (((Go.bits .and .u8 (rd (rd_L1 l0 x6_2) 10) 1) != 0) != (x6_2 == x3_2)) = true
                 · rw [if_pos c8] at H
                   have c8b0 : (((Go.bits .and .u8 (rd (rd_L1 l0 x6_2) 10) 1) != 0) != (x6_2 == x3_2)) = true := c8
                   (try (have c8b1 : decide (((Go.bits .and .u8 (rd (rd_L1 l0 x6_2) 10) 1) != 0) = (x6_2 == x3_2)) = false := by simpa using c8))
                   (try (have c8b2 : (((Go.bits .and .u8 (rd (rd_L1 l0 x6_2) 10) 1) != 0) == (x6_2 == x3_2)) = false := by simpa using c8))
                   (try (have c8b3 : ¬ (((Go.bits .and .u8 (rd (rd_L1 l0 x6_2) 10) 1) != 0) = (x6_2 == x3_2)) := by simpa using c8))
                   clear c8; have H' := Aside0.mk H; clear H
                   try go_wp2
                   replace HO_5 := Aside0.mk (Kd.R_drew HO_5.out); replace HB := hD HB; have p118 : 0 ≤ (10 : Int) := (by omega); have q118 : 10 < ((rd_L1 l0 x6_2).length : Int) := of_decide_eq_true (by first | (with_reducible assumption) | assumption); obtain ⟨ad118, e118, hx118_0⟩ := Kd.at_int HR116_0.out 10 p118 q118; have hw118_0 := hx118_0
                   (try rw [show ((10 : Int)).toNat = 10 from rfl] at hw118_0)
                   (try rw [show 10 * 1 = 10 from rfl] at hw118_0)
                   (try simp only [Nat.reduceMul, Nat.reduceEqDiff, Go.Addr.add, ↓reduceIte] at hw118_0)
                   cases e118
                   (try simp only [show (10 : Int).toNat = 10 from rfl, Nat.reduceMul, Nat.reduceEqDiff, Go.Addr.add, ↓reduceIte] at hx118_0)
                   have qi118 : (10 < (rd_L1 l0 x6_2).length) = True := eq_true (by omega)
                   (try rw [show ((10 : Int)).toNat = 10 from rfl] at hx118_0)
                   replace hx118_0 := (HB.out.cell (World.block_lt_of_cell? w _ hx118_0)).trans hx118_0; replace p118 := eq_true p118; replace q118 := eq_true q118
                   refine start_ (n := 34) (S := fun w' => w'.cell? ⟨ad118.block, ad118.off + 10, none⟩ = some (.int .u8 (rd (rd_L1 l0 x6_2) 10))) (ds := []) (ar 34 0) (by kernel_rfl) rfl rfl (((HB.out.cell (World.block_lt_of_cell? w _ hw118_0)).trans hw118_0)) (fun hHeld => ?_); refine with_tabW recs.tab6 recs.bits6 (fun HT_ HW_ => ?_)
                   generalize wr.drew = w9 at HO_5 HB hx118_0 hHeld ⊢
                   refine pA HT_ 0 19 1 ?_; refine pA HT_ 1 20 3 ?_
                   refine oA HT_ 2 21 7 fun K hK => ?_
                   refine goesA Try.func61 #[.slice (some ad118) (rd_L1 l0 x6_2).length c116_0, .int .i64 x6_2] ?_
                   with_reducible refine (journal_good.calls k2 _ _ (rd_L1 l0 x6_2) x6_2 true _ ?side1 ?side2 A5.out).mono ?_
                   (case side1 => exact cB HR116_0 HB)
                   (case side2 => exact HC116_0.out)
                   rintro e w10 ⟨rfl, hb⟩
                   refine ⟨_, rfl, ?_⟩
                   replace HO_5 := Aside0.mk (Kd.R_below (rmv HO_5.out) hb); replace HB := sB HB hb; (try clear hb); (try clear hb2); (try clear hk); (try clear hi)
                   refine hK.out _ _ (((HB.out.cell (World.block_lt_of_cell? w _ hw118_0)).trans hw118_0)) (fun hHeld => normA ?_); clear hK K
                   refine pA HT_ 3 22 15 ?_; refine pA HT_ 4 23 31 ?_; refine pA HT_ 5 24 63 ?_; refine pA HT_ 6 25 127 ?_; refine pA HT_ 10 29 1151 ?_; refine pA HT_ 11 30 3199 ?_; refine pA HT_ 12 31 7295 ?_
                   refine take_ (i := 7) (N := some 26) (v := ?_) (a' := ?_) (ar 34 7423) rfl rfl (take_ofW HT_.out HW_.out (by kernel_rfl)) (fun _ _ _ h => h) (Or.inl ⟨by rfl, ?_⟩) hHeld ?_ ?_
                   rotate_left
                   · intro w' s0
                     go_simp
                     with_reducible rfl
                   rotate_left
                   · simp only [Act.put, List.setIfInBounds_toArray, List.set_cons_zero, List.set_cons_succ, i64_w, i32_w]
                     rfl
                   refine pA HT_ 8 27 7679 ?_; refine pA HT_ 9 28 8191 ?_; refine pA HT_ 13 32 16383 ?_; refine pA HT_ 14 33 32767 ?_; refine pA HT_ 15 34 65535 ?_; refine pU HT_ 16 35 131071 ?_; refine pU HT_ 17 36 262143 ?_; refine pU HT_ 18 37 524287 ?_; refine pU HT_ 19 38 1048575 ?_; refine pU HT_ 20 39 2097151 ?_
                   refine pU HT_ 21 40 4194303 ?_; refine pU HT_ 22 41 8388607 ?_; refine pU HT_ 23 42 16777215 ?_; refine pU HT_ 24 43 33554431 ?_; refine pU HT_ 25 44 67108863 ?_; refine pA HT_ 26 45 134217727 ?_; refine pA HT_ 27 46 268435455 ?_; refine pU HT_ 28 47 536870911 ?_; refine pU HT_ 29 48 1073741823 ?_; refine pU HT_ 30 49 2147483647 ?_
                   refine pU HT_ 31 50 4294967295 ?_; refine pU HT_ 32 51 8589934591 ?_; refine pA HT_ 33 52 17179869183 ?_
                   refine done_ (done_of HT_.out (by kernel_rfl)) ?_
                   try go_wp2
                   go_meet
                   case rel => exact ⟨_, (true), (by first | rfl | (simp; done) | (simp [*]; done)), H', ⟨by have := HK1.out; have := HK2.out; first | omega | exact Nat.le_refl _⟩, ⟨rmv HO_5.out⟩, ⟨blw HB.out⟩⟩
                 · rw [if_neg c8] at H
                   have c8b0 : (((Go.bits .and .u8 (rd (rd_L1 l0 x6_2) 10) 1) != 0) != (x6_2 == x3_2)) = false := by simpa using c8
                   (try (have c8b1 : decide (((Go.bits .and .u8 (rd (rd_L1 l0 x6_2) 10) 1) != 0) = (x6_2 == x3_2)) = true := by simpa using c8))
                   (try (have c8b2 : (((Go.bits .and .u8 (rd (rd_L1 l0 x6_2) 10) 1) != 0) == (x6_2 == x3_2)) = true := by simpa using c8))
                   clear c8
                   by_cases c11 : 4 ≤ ((rd_L1 l0 x6_2).length : Int)
                   · rw [if_pos c11] at H
                     have c11b0 := eq_true c11; have c11b1 : decide (4 ≤ ((rd_L1 l0 x6_2).length : Int)) = true := decide_eq_true c11; clear c11; replace H := Option.bind_eq_some_iff.mp H; obtain ⟨t120, A120, H⟩ := H; replace H : (if 0 ≤ x3_2 then (if x3_2 < (l0.length : Int) then (if 4 ≤ ((rd_L1 l0 x3_2).length : Int) then ((journal_get.f k2 ((rd_L1 l0 x3_2).take 4)).bind fun t123 => (if t120 = t123 then ((journal_get.f k2 ((rd_L1 l0 x6_2).take 4)).bind fun t125 => (recs.j2 k2 l0 x3_2 x4_2 x5_2 x6_2 (rd_L1 l0 x6_2) (decide (t125 < x4_2)))) else (recs.j2 k2 l0 x3_2 x4_2 x5_2 x6_2 (rd_L1 l0 x6_2) true))) else (none)) else (none)) else (none)) = some RV := H; have A12 := Aside0.mk A120; clear A120
                     by_cases c13 : 0 ≤ x3_2
                     · rw [if_pos c13] at H
                       have c13b0 : decide (0 ≤ x3_2) = true := decide_eq_true c13; clear c13
                       by_cases c14 : x3_2 < (l0.length : Int)
                       · rw [if_pos c14] at H
                         have c14b0 : decide (x3_2 < (l0.length : Int)) = true := decide_eq_true c14; clear c14
                         by_cases c15 : 4 ≤ ((rd_L1 l0 x3_2).length : Int)
                         · rw [if_pos c15] at H
                           have c15b0 := eq_true c15; have c15b1 : decide (4 ≤ ((rd_L1 l0 x3_2).length : Int)) = true := decide_eq_true c15; clear c15; replace H := Option.bind_eq_some_iff.mp H; obtain ⟨t123, A160, H⟩ := H; replace H : (if t120 = t123 then ((journal_get.f k2 ((rd_L1 l0 x6_2).take 4)).bind fun t125 => (recs.j2 k2 l0 x3_2 x4_2 x5_2 x6_2 (rd_L1 l0 x6_2) (decide (t125 < x4_2)))) else (recs.j2 k2 l0 x3_2 x4_2 x5_2 x6_2 (rd_L1 l0 x6_2) true)) = some RV := H; have A16 := Aside0.mk A160; clear A160
                           by_cases c17 : t120 = t123
                           · rw [if_pos c17] at H
                             have c17b0 : (t120 == t123) = true := beq_iff_eq.mpr c17; have c17b1 : (t120 != t123) = false := bne_eq_false_iff_eq.mpr c17; clear c17; have c18b0 := eq_true (of_decide_eq_true (by first | (with_reducible assumption) | assumption) : 4 ≤ ((rd_L1 l0 x6_2).length : Int)); replace H := Option.bind_eq_some_iff.mp H; obtain ⟨t125, A190, H⟩ := H; replace H : (recs.j2 k2 l0 x3_2 x4_2 x5_2 x6_2 (rd_L1 l0 x6_2) (decide (t125 < x4_2))) = some RV := H; have A19 := Aside0.mk A190; clear A190; have H' := Aside0.mk H; clear H
                             try go_wp2
                             replace HO_5 := Aside0.mk (Kd.R_drew HO_5.out); replace HB := hD HB; have p118 : 0 ≤ (10 : Int) := (by omega); have q118 : 10 < ((rd_L1 l0 x6_2).length : Int) := of_decide_eq_true (by first | (with_reducible assumption) | assumption); obtain ⟨ad118, e118, hx118_0⟩ := Kd.at_int HR116_0.out 10 p118 q118; have hw118_0 := hx118_0
                             (try rw [show ((10 : Int)).toNat = 10 from rfl] at hw118_0)
                             (try rw [show 10 * 1 = 10 from rfl] at hw118_0)
                             (try simp only [Nat.reduceMul, Nat.reduceEqDiff, Go.Addr.add, ↓reduceIte] at hw118_0)
                             cases e118
                             (try simp only [show (10 : Int).toNat = 10 from rfl, Nat.reduceMul, Nat.reduceEqDiff, Go.Addr.add, ↓reduceIte] at hx118_0)
                             have qi118 : (10 < (rd_L1 l0 x6_2).length) = True := eq_true (by omega)
                             (try rw [show ((10 : Int)).toNat = 10 from rfl] at hx118_0)
                             replace hx118_0 := (HB.out.cell (World.block_lt_of_cell? w _ hx118_0)).trans hx118_0; replace p118 := eq_true p118; replace q118 := eq_true q118; have p121 : 0 ≤ (x3_2 : Int) := of_decide_eq_true (by first | (with_reducible assumption) | assumption); have q121 : x3_2 < (l0.length : Int) := of_decide_eq_true (by first | (with_reducible assumption) | assumption); obtain ⟨ad121, A121_0, c121_0, e121, hx121_0, hl121_0, hi121_0⟩ := at_L1 HR0.out x3_2 p121 q121; have hw121_0 := hx121_0; obtain rfl : ad116 = ad121 := (by injection e121); replace hx121_0 := (HB.out.cell (World.block_lt_of_cell? w _ hx121_0)).trans hx121_0; have HR121_0 := Aside0.mk hi121_0; have HC121_0 := Aside0.mk hl121_0; have k121_ : ((4 : Int) ≤ (c121_0 : Int)) = True := eq_true (by have h1_ := HC121_0.out; have h2_ : 4 ≤ ((rd_L1 l0 x3_2).length : Int) := of_decide_eq_true (by first | (with_reducible assumption) | assumption); omega); clear hi121_0 hl121_0; replace p121 := eq_true p121; replace q121 := eq_true q121
                             refine start_ (n := 34) (S := fun w' => w'.cell? ⟨bl, 0, none⟩ = some (.slice (some ad116) l0.length c0) ∧ w'.cell? ⟨ad118.block, ad118.off + 10, none⟩ = some (.int .u8 (rd (rd_L1 l0 x6_2) 10)) ∧ w'.cell? (ad116.add (x3_2).toNat) = some (.slice A121_0 (rd_L1 l0 x3_2).length c121_0)) (ds := []) (ar 34 0) (by kernel_rfl) rfl rfl ⟨(blk_cell (heap_below HB.out HBX.out) 0).trans rfl, ((HB.out.cell (World.block_lt_of_cell? w _ hw118_0)).trans hw118_0), ((HB.out.cell (World.block_lt_of_cell? w _ hw121_0)).trans hw121_0)⟩ (fun hHeld => ?_); refine with_tabW recs.tab6 recs.bits6 (fun HT_ HW_ => ?_)
                             generalize wr.drew = w20 at HO_5 HB HR121_0 hx118_0 hx121_0 hHeld ⊢
                             refine pA HT_ 0 19 1 ?_; refine pA HT_ 1 20 3 ?_
                             refine oA HT_ 2 21 7 fun K hK => ?_
                             refine goesA Try.func61 #[.slice (some ad118) (rd_L1 l0 x6_2).length c116_0, .int .i64 x6_2] ?_
                             with_reducible refine (journal_good.calls k2 _ _ (rd_L1 l0 x6_2) x6_2 true _ ?side1 ?side2 A5.out).mono ?_
                             (case side1 => exact cB HR116_0 HB)
                             (case side2 => exact HC116_0.out)
                             rintro e w21 ⟨rfl, hb⟩
                             refine ⟨_, rfl, ?_⟩
                             replace HO_5 := Aside0.mk (Kd.R_below (rmv HO_5.out) hb); replace HB := sB HB hb; (try clear hb); (try clear hb2); (try clear hk); (try clear hi); obtain ⟨i022, hi022, _, hsz22, _⟩ := info_parts info5; obtain ⟨hcut22, hA22, hC22⟩ := print_take_of (P := Try.prog) (Value.int .u8) 0 35 5 .i64 Try.underlying35 hi022 hsz22 (some ad118) c116_0 (rd_L1 l0 x6_2) 4 (by omega) (of_decide_eq_true (by first | (with_reducible assumption) | assumption)) HC116_0.out; have HR119 := Aside0.mk (Kd.C_of_reads (h1 := fun _ => rfl) (hA22 _ (Kd.reads_of_C HR116_0.out))); have HC119 := Aside0.mk hC22; clear hA22 hC22 hi022 hsz22
                             refine hK.out _ _ ⟨(blk_cell (heap_below HB.out HBX.out) 0).trans rfl, ((HB.out.cell (World.block_lt_of_cell? w _ hw118_0)).trans hw118_0), ((HB.out.cell (World.block_lt_of_cell? w _ hw121_0)).trans hw121_0)⟩ (fun hHeld => normA ?_); clear hK K
                             refine pA HT_ 3 22 15 ?_; refine pA HT_ 4 23 31 ?_; refine pA HT_ 5 24 63 ?_; refine pA HT_ 6 25 127 ?_; refine pA HT_ 10 29 1151 ?_; refine pA HT_ 11 30 3199 ?_; refine pA HT_ 12 31 7295 ?_; refine takeA (i := 7) (N := some 26) (ar 34 7423) rfl (take_ofW HT_.out HW_.out (by kernel_rfl)) hHeld (by rintro w' ⟨sb, s0, s1⟩; go_simp; with_reducible rfl) ?_; refine pA HT_ 8 27 7679 ?_
                             refine pA HT_ 9 28 8191 ?_; refine pA HT_ 13 32 16383 ?_; refine pA HT_ 14 33 32767 ?_; refine pA HT_ 15 34 65535 ?_; refine pA HT_ 16 35 131071 ?_; refine pA HT_ 17 36 262143 ?_; refine takeA (i := 19) (N := some 38) (ar 34 786431) rfl (take_ofW HT_.out HW_.out (by kernel_rfl)) hHeld (by rintro w' ⟨sb, s0, s1⟩; go_simp; with_reducible rfl) ?_; refine pA HT_ 20 39 1835007 ?_; refine pA HT_ 21 40 3932159 ?_
                             refine takeA (i := 22) (N := some 41) (ar 34 8126463) rfl (take_ofW HT_.out HW_.out (by kernel_rfl)) hHeld (by rintro w' ⟨sb, s0, s1⟩; go_simp; with_reducible rfl) ?_; refine pA HT_ 23 42 16515071 ?_
                             refine oA HT_ 18 37 16777215 fun K hK => ?_
                             refine goes_ Try.func41 (by kernel_rfl) rfl #[.slice (some ad118) ((rd_L1 l0 x6_2).take 4).length c116_0] (by rfl) rfl rfl (by (try simp only [List.map_toArray, List.map_cons, List.map_nil]); first | done | (rw [show ((rd_L1 l0 x6_2).take 4).length = 4 from (by rw [List.length_take]; have h_ : (4 : Int) ≤ ((rd_L1 l0 x6_2).length : Int) := of_decide_eq_true (by first | (with_reducible assumption) | assumption); omega)] <;> rfl) | rfl | (simp only [List.length_drop, List.length_take]; rfl)) ?_
                             with_reducible refine (journal_get.calls k2 _ _ ((rd_L1 l0 x6_2).take 4) t120 _ ?side1 ?side2 A12.out).mono ?_
                             (case side1 => exact cB HR119 HB)
                             (case side2 => exact HC119.out)
                             rintro e w' ⟨rfl, ⟨nd, rfl⟩⟩
                             refine ⟨_, rfl, ?_⟩
                             obtain ⟨i023, hi023, _, hsz23, _⟩ := info_parts info5; obtain ⟨hcut23, hA23, hC23⟩ := print_take_of (P := Try.prog) (Value.int .u8) 0 35 5 .i64 Try.underlying35 hi023 hsz23 A121_0 c121_0 (rd_L1 l0 x3_2) 4 (by omega) (of_decide_eq_true (by first | (with_reducible assumption) | assumption)) HC121_0.out; have HR122 := Aside0.mk (Kd.C_of_reads (h1 := fun _ => rfl) (hA23 _ (Kd.reads_of_C HR121_0.out))); have HC122 := Aside0.mk hC23; clear hA23 hC23 hi023 hsz23
                             refine hK.out _ _ ⟨(blk_cell (heap_below HB.out HBX.out) 0).trans rfl, ((HB.out.cell (World.block_lt_of_cell? w _ hw118_0)).trans hw118_0), ((HB.out.cell (World.block_lt_of_cell? w _ hw121_0)).trans hw121_0)⟩ (fun hHeld => normA ?_); clear hK K
                             refine oA HT_ 24 43 33554431 fun K hK => ?_
                             refine goes_ Try.func41 (by kernel_rfl) rfl #[.slice A121_0 ((rd_L1 l0 x3_2).take 4).length c121_0] (by rfl) rfl rfl (by (try simp only [List.map_toArray, List.map_cons, List.map_nil]); first | done | (rw [show ((rd_L1 l0 x3_2).take 4).length = 4 from (by rw [List.length_take]; have h_ : (4 : Int) ≤ ((rd_L1 l0 x3_2).length : Int) := of_decide_eq_true (by first | (with_reducible assumption) | assumption); omega)] <;> rfl) | rfl | (simp only [List.length_drop, List.length_take]; rfl)) ?_
                             with_reducible refine (journal_get.calls k2 _ _ ((rd_L1 l0 x3_2).take 4) t123 _ ?side1 ?side2 A16.out).mono ?_
                             (case side1 => exact cB HR122 HB)
                             (case side2 => exact HC122.out)
                             rintro e w' ⟨rfl, ⟨nd, rfl⟩⟩
                             refine ⟨_, rfl, ?_⟩
                             obtain ⟨i024, hi024, _, hsz24, _⟩ := info_parts info5; obtain ⟨hcut24, hA24, hC24⟩ := print_take_of (P := Try.prog) (Value.int .u8) 0 35 5 .i64 Try.underlying35 hi024 hsz24 (some ad118) c116_0 (rd_L1 l0 x6_2) 4 (by omega) (of_decide_eq_true (by first | (with_reducible assumption) | assumption)) HC116_0.out; have HR124 := Aside0.mk (Kd.C_of_reads (h1 := fun _ => rfl) (hA24 _ (Kd.reads_of_C HR116_0.out))); have HC124 := Aside0.mk hC24; clear hA24 hC24 hi024 hsz24
                             refine hK.out _ _ ⟨(blk_cell (heap_below HB.out HBX.out) 0).trans rfl, ((HB.out.cell (World.block_lt_of_cell? w _ hw118_0)).trans hw118_0), ((HB.out.cell (World.block_lt_of_cell? w _ hw121_0)).trans hw121_0)⟩ (fun hHeld => normA ?_); clear hK K
                             refine pA HT_ 25 44 67108863 ?_; refine pA HT_ 26 45 134217727 ?_; refine pA HT_ 27 46 268435455 ?_; refine pA HT_ 28 47 536870911 ?_; refine pA HT_ 29 48 1073741823 ?_; refine pA HT_ 31 50 3221225471 ?_
                             refine oA HT_ 30 49 4294967295 fun K hK => ?_
                             refine goes_ Try.func41 (by kernel_rfl) rfl #[.slice (some ad118) ((rd_L1 l0 x6_2).take 4).length c116_0] (by rfl) rfl rfl (by (try simp only [List.map_toArray, List.map_cons, List.map_nil]); first | done | (rw [show ((rd_L1 l0 x6_2).take 4).length = 4 from (by rw [List.length_take]; have h_ : (4 : Int) ≤ ((rd_L1 l0 x6_2).length : Int) := of_decide_eq_true (by first | (with_reducible assumption) | assumption); omega)] <;> rfl) | rfl | (simp only [List.length_drop, List.length_take]; rfl)) ?_
                             with_reducible refine (journal_get.calls k2 _ _ ((rd_L1 l0 x6_2).take 4) t125 _ ?side1 ?side2 A19.out).mono ?_
                             (case side1 => exact cB HR124 HB)
                             (case side2 => exact HC124.out)
                             rintro e w' ⟨rfl, ⟨nd, rfl⟩⟩
                             refine ⟨_, rfl, ?_⟩
                             refine hK.out _ _ ⟨(blk_cell (heap_below HB.out HBX.out) 0).trans rfl, ((HB.out.cell (World.block_lt_of_cell? w _ hw118_0)).trans hw118_0), ((HB.out.cell (World.block_lt_of_cell? w _ hw121_0)).trans hw121_0)⟩ (fun hHeld => normA ?_); clear hK K
                             refine pA HT_ 32 51 8589934591 ?_; refine pA HT_ 33 52 17179869183 ?_
                             refine done_ (done_of HT_.out (by kernel_rfl)) ?_
                             try go_wp2
                             go_meet
                             case rel => exact ⟨_, (decide (t125 < x4_2)), (by first | rfl | (simp; done) | (simp [*]; done)), H', ⟨by have := HK1.out; have := HK2.out; first | omega | exact Nat.le_refl _⟩, ⟨rmv HO_5.out⟩, ⟨blw HB.out⟩⟩
                           · rw [if_neg c17] at H
                             have c17b0 : (t120 == t123) = false := beq_eq_false_iff_ne.mpr c17; have c17b1 : (t120 != t123) = true := bne_iff_ne.mpr c17; have H' := Aside0.mk H; clear H
                             try go_wp2
                             replace HO_5 := Aside0.mk (Kd.R_drew HO_5.out); replace HB := hD HB; have p118 : 0 ≤ (10 : Int) := (by omega); have q118 : 10 < ((rd_L1 l0 x6_2).length : Int) := of_decide_eq_true (by first | (with_reducible assumption) | assumption); obtain ⟨ad118, e118, hx118_0⟩ := Kd.at_int HR116_0.out 10 p118 q118; have hw118_0 := hx118_0
                             (try rw [show ((10 : Int)).toNat = 10 from rfl] at hw118_0)
                             (try rw [show 10 * 1 = 10 from rfl] at hw118_0)
                             (try simp only [Nat.reduceMul, Nat.reduceEqDiff, Go.Addr.add, ↓reduceIte] at hw118_0)
                             cases e118
                             (try simp only [show (10 : Int).toNat = 10 from rfl, Nat.reduceMul, Nat.reduceEqDiff, Go.Addr.add, ↓reduceIte] at hx118_0)
                             have qi118 : (10 < (rd_L1 l0 x6_2).length) = True := eq_true (by omega)
                             (try rw [show ((10 : Int)).toNat = 10 from rfl] at hx118_0)
                             replace hx118_0 := (HB.out.cell (World.block_lt_of_cell? w _ hx118_0)).trans hx118_0; replace p118 := eq_true p118; replace q118 := eq_true q118; have p121 : 0 ≤ (x3_2 : Int) := of_decide_eq_true (by first | (with_reducible assumption) | assumption); have q121 : x3_2 < (l0.length : Int) := of_decide_eq_true (by first | (with_reducible assumption) | assumption); obtain ⟨ad121, A121_0, c121_0, e121, hx121_0, hl121_0, hi121_0⟩ := at_L1 HR0.out x3_2 p121 q121; have hw121_0 := hx121_0; obtain rfl : ad116 = ad121 := (by injection e121); replace hx121_0 := (HB.out.cell (World.block_lt_of_cell? w _ hx121_0)).trans hx121_0; have HR121_0 := Aside0.mk hi121_0; have HC121_0 := Aside0.mk hl121_0; have k121_ : ((4 : Int) ≤ (c121_0 : Int)) = True := eq_true (by have h1_ := HC121_0.out; have h2_ : 4 ≤ ((rd_L1 l0 x3_2).length : Int) := of_decide_eq_true (by first | (with_reducible assumption) | assumption); omega); clear hi121_0 hl121_0; replace p121 := eq_true p121; replace q121 := eq_true q121
                             refine start_ (n := 34) (S := fun w' => w'.cell? ⟨bl, 0, none⟩ = some (.slice (some ad116) l0.length c0) ∧ w'.cell? ⟨ad118.block, ad118.off + 10, none⟩ = some (.int .u8 (rd (rd_L1 l0 x6_2) 10)) ∧ w'.cell? (ad116.add (x3_2).toNat) = some (.slice A121_0 (rd_L1 l0 x3_2).length c121_0)) (ds := []) (ar 34 0) (by kernel_rfl) rfl rfl ⟨(blk_cell (heap_below HB.out HBX.out) 0).trans rfl, ((HB.out.cell (World.block_lt_of_cell? w _ hw118_0)).trans hw118_0), ((HB.out.cell (World.block_lt_of_cell? w _ hw121_0)).trans hw121_0)⟩ (fun hHeld => ?_); refine with_tabW recs.tab6 recs.bits6 (fun HT_ HW_ => ?_)
                             generalize wr.drew = w25 at HO_5 HB HR121_0 hx118_0 hx121_0 hHeld ⊢
                             refine pA HT_ 0 19 1 ?_; refine pA HT_ 1 20 3 ?_
                             refine oA HT_ 2 21 7 fun K hK => ?_
                             refine goesA Try.func61 #[.slice (some ad118) (rd_L1 l0 x6_2).length c116_0, .int .i64 x6_2] ?_
                             with_reducible refine (journal_good.calls k2 _ _ (rd_L1 l0 x6_2) x6_2 true _ ?side1 ?side2 A5.out).mono ?_
                             (case side1 => exact cB HR116_0 HB)
                             (case side2 => exact HC116_0.out)
                             rintro e w26 ⟨rfl, hb⟩
                             refine ⟨_, rfl, ?_⟩
                             replace HO_5 := Aside0.mk (Kd.R_below (rmv HO_5.out) hb); replace HB := sB HB hb; (try clear hb); (try clear hb2); (try clear hk); (try clear hi); obtain ⟨i027, hi027, _, hsz27, _⟩ := info_parts info5; obtain ⟨hcut27, hA27, hC27⟩ := print_take_of (P := Try.prog) (Value.int .u8) 0 35 5 .i64 Try.underlying35 hi027 hsz27 (some ad118) c116_0 (rd_L1 l0 x6_2) 4 (by omega) (of_decide_eq_true (by first | (with_reducible assumption) | assumption)) HC116_0.out; have HR119 := Aside0.mk (Kd.C_of_reads (h1 := fun _ => rfl) (hA27 _ (Kd.reads_of_C HR116_0.out))); have HC119 := Aside0.mk hC27; clear hA27 hC27 hi027 hsz27
                             refine hK.out _ _ ⟨(blk_cell (heap_below HB.out HBX.out) 0).trans rfl, ((HB.out.cell (World.block_lt_of_cell? w _ hw118_0)).trans hw118_0), ((HB.out.cell (World.block_lt_of_cell? w _ hw121_0)).trans hw121_0)⟩ (fun hHeld => normA ?_); clear hK K
                             refine pA HT_ 3 22 15 ?_; refine pA HT_ 4 23 31 ?_; refine pA HT_ 5 24 63 ?_; refine pA HT_ 6 25 127 ?_; refine pA HT_ 10 29 1151 ?_; refine pA HT_ 11 30 3199 ?_; refine pA HT_ 12 31 7295 ?_; refine takeA (i := 7) (N := some 26) (ar 34 7423) rfl (take_ofW HT_.out HW_.out (by kernel_rfl)) hHeld (by rintro w' ⟨sb, s0, s1⟩; go_simp; with_reducible rfl) ?_; refine pA HT_ 8 27 7679 ?_
                             refine pA HT_ 9 28 8191 ?_; refine pA HT_ 13 32 16383 ?_; refine pA HT_ 14 33 32767 ?_; refine pA HT_ 15 34 65535 ?_; refine pA HT_ 16 35 131071 ?_; refine pA HT_ 17 36 262143 ?_; refine takeA (i := 19) (N := some 38) (ar 34 786431) rfl (take_ofW HT_.out HW_.out (by kernel_rfl)) hHeld (by rintro w' ⟨sb, s0, s1⟩; go_simp; with_reducible rfl) ?_; refine pA HT_ 20 39 1835007 ?_; refine pA HT_ 21 40 3932159 ?_
                             refine takeA (i := 22) (N := some 41) (ar 34 8126463) rfl (take_ofW HT_.out HW_.out (by kernel_rfl)) hHeld (by rintro w' ⟨sb, s0, s1⟩; go_simp; with_reducible rfl) ?_; refine pA HT_ 23 42 16515071 ?_
                             refine oA HT_ 18 37 16777215 fun K hK => ?_
                             refine goes_ Try.func41 (by kernel_rfl) rfl #[.slice (some ad118) ((rd_L1 l0 x6_2).take 4).length c116_0] (by rfl) rfl rfl (by (try simp only [List.map_toArray, List.map_cons, List.map_nil]); first | done | (rw [show ((rd_L1 l0 x6_2).take 4).length = 4 from (by rw [List.length_take]; have h_ : (4 : Int) ≤ ((rd_L1 l0 x6_2).length : Int) := of_decide_eq_true (by first | (with_reducible assumption) | assumption); omega)] <;> rfl) | rfl | (simp only [List.length_drop, List.length_take]; rfl)) ?_
                             with_reducible refine (journal_get.calls k2 _ _ ((rd_L1 l0 x6_2).take 4) t120 _ ?side1 ?side2 A12.out).mono ?_
                             (case side1 => exact cB HR119 HB)
                             (case side2 => exact HC119.out)
                             rintro e w' ⟨rfl, ⟨nd, rfl⟩⟩
                             refine ⟨_, rfl, ?_⟩
                             obtain ⟨i028, hi028, _, hsz28, _⟩ := info_parts info5; obtain ⟨hcut28, hA28, hC28⟩ := print_take_of (P := Try.prog) (Value.int .u8) 0 35 5 .i64 Try.underlying35 hi028 hsz28 A121_0 c121_0 (rd_L1 l0 x3_2) 4 (by omega) (of_decide_eq_true (by first | (with_reducible assumption) | assumption)) HC121_0.out; have HR122 := Aside0.mk (Kd.C_of_reads (h1 := fun _ => rfl) (hA28 _ (Kd.reads_of_C HR121_0.out))); have HC122 := Aside0.mk hC28; clear hA28 hC28 hi028 hsz28
                             refine hK.out _ _ ⟨(blk_cell (heap_below HB.out HBX.out) 0).trans rfl, ((HB.out.cell (World.block_lt_of_cell? w _ hw118_0)).trans hw118_0), ((HB.out.cell (World.block_lt_of_cell? w _ hw121_0)).trans hw121_0)⟩ (fun hHeld => normA ?_); clear hK K
                             refine oA HT_ 24 43 33554431 fun K hK => ?_
                             refine goes_ Try.func41 (by kernel_rfl) rfl #[.slice A121_0 ((rd_L1 l0 x3_2).take 4).length c121_0] (by rfl) rfl rfl (by (try simp only [List.map_toArray, List.map_cons, List.map_nil]); first | done | (rw [show ((rd_L1 l0 x3_2).take 4).length = 4 from (by rw [List.length_take]; have h_ : (4 : Int) ≤ ((rd_L1 l0 x3_2).length : Int) := of_decide_eq_true (by first | (with_reducible assumption) | assumption); omega)] <;> rfl) | rfl | (simp only [List.length_drop, List.length_take]; rfl)) ?_
                             with_reducible refine (journal_get.calls k2 _ _ ((rd_L1 l0 x3_2).take 4) t123 _ ?side1 ?side2 A16.out).mono ?_
                             (case side1 => exact cB HR122 HB)
                             (case side2 => exact HC122.out)
                             rintro e w' ⟨rfl, ⟨nd, rfl⟩⟩
                             refine ⟨_, rfl, ?_⟩
                             refine hK.out _ _ ⟨(blk_cell (heap_below HB.out HBX.out) 0).trans rfl, ((HB.out.cell (World.block_lt_of_cell? w _ hw118_0)).trans hw118_0), ((HB.out.cell (World.block_lt_of_cell? w _ hw121_0)).trans hw121_0)⟩ (fun hHeld => normA ?_); clear hK K
                             refine pA HT_ 25 44 67108863 ?_; refine pA HT_ 26 45 134217727 ?_; refine pA HT_ 27 46 268435455 ?_; refine pU HT_ 28 47 536870911 ?_; refine pU HT_ 29 48 1073741823 ?_; refine pU HT_ 30 49 2147483647 ?_; refine pU HT_ 31 50 4294967295 ?_; refine pU HT_ 32 51 8589934591 ?_; refine pA HT_ 33 52 17179869183 ?_
                             refine done_ (done_of HT_.out (by kernel_rfl)) ?_
                             try go_wp2
                             go_meet
                             case rel => exact ⟨_, (true), (by first | rfl | (simp; done) | (simp [*]; done)), H', ⟨by have := HK1.out; have := HK2.out; first | omega | exact Nat.le_refl _⟩, ⟨rmv HO_5.out⟩, ⟨blw HB.out⟩⟩
                         · rw [if_neg c15] at H
                           exact absurd H (by simp)
                       · rw [if_neg c14] at H
                         exact absurd H (by simp)
                     · rw [if_neg c13] at H
                       exact absurd H (by simp)
                   · rw [if_neg c11] at H
                     exact absurd H (by simp)
               · rw [if_neg c7] at H
                 exact absurd H (by simp)
             · replace c6 := Bool.eq_false_iff.mpr c6
               subst c6
               have H1 : (recs.j2 k2 l0 x3_2 x4_2 x5_2 x6_2 (rd_L1 l0 x6_2) true) = some RV := by rw [if_neg (show ¬ (false = true) by decide)] at H; exact H
               clear H; have H := H1; clear H1; have H' := Aside0.mk H; clear H
               try go_wp2
               replace HO_5 := Aside0.mk (Kd.R_drew HO_5.out); replace HB := hD HB
               refine start_ (n := 34) (S := fun w' => True) (ds := []) (ar 34 0) (by kernel_rfl) rfl rfl trivial (fun hHeld => ?_); refine with_tabW recs.tab6 recs.bits6 (fun HT_ HW_ => ?_)
               generalize wr.drew = w29 at HO_5 HB hHeld ⊢
               refine pA HT_ 0 19 1 ?_; refine pA HT_ 1 20 3 ?_
               refine oA HT_ 2 21 7 fun K hK => ?_
               refine goesA Try.func61 #[.slice A116_0 (rd_L1 l0 x6_2).length c116_0, .int .i64 x6_2] ?_
               with_reducible refine (journal_good.calls k2 _ _ (rd_L1 l0 x6_2) x6_2 false _ ?side1 ?side2 A5.out).mono ?_
               (case side1 => exact cB HR116_0 HB)
               (case side2 => exact HC116_0.out)
               rintro e w30 ⟨rfl, hb⟩
               refine ⟨_, rfl, ?_⟩
               replace HO_5 := Aside0.mk (Kd.R_below (rmv HO_5.out) hb); replace HB := sB HB hb; (try clear hb); (try clear hb2); (try clear hk); (try clear hi)
               refine hK.out _ _ trivial (fun hHeld => normA ?_); clear hK K
               refine pA HT_ 3 22 15 ?_; refine pA HT_ 4 23 31 ?_; refine pU HT_ 5 24 63 ?_; refine pU HT_ 6 25 127 ?_; refine pU HT_ 7 26 255 ?_; refine pU HT_ 8 27 511 ?_; refine pU HT_ 9 28 1023 ?_; refine pU HT_ 10 29 2047 ?_; refine pU HT_ 11 30 4095 ?_; refine pU HT_ 12 31 8191 ?_
               refine pU HT_ 13 32 16383 ?_; refine pA HT_ 14 33 32767 ?_; refine pA HT_ 15 34 65535 ?_; refine pU HT_ 16 35 131071 ?_; refine pU HT_ 17 36 262143 ?_; refine pU HT_ 18 37 524287 ?_; refine pU HT_ 19 38 1048575 ?_; refine pU HT_ 20 39 2097151 ?_; refine pU HT_ 21 40 4194303 ?_; refine pU HT_ 22 41 8388607 ?_
               refine pU HT_ 23 42 16777215 ?_; refine pU HT_ 24 43 33554431 ?_; refine pU HT_ 25 44 67108863 ?_; refine pA HT_ 26 45 134217727 ?_; refine pA HT_ 27 46 268435455 ?_; refine pU HT_ 28 47 536870911 ?_; refine pU HT_ 29 48 1073741823 ?_; refine pU HT_ 30 49 2147483647 ?_; refine pU HT_ 31 50 4294967295 ?_; refine pU HT_ 32 51 8589934591 ?_
               refine pA HT_ 33 52 17179869183 ?_
               refine done_ (done_of HT_.out (by kernel_rfl)) ?_
               try go_wp2
               go_meet
               case rel => exact ⟨_, (true), (by first | rfl | (simp; done) | (simp [*]; done)), H', ⟨by have := HK1.out; have := HK2.out; first | omega | exact Nat.le_refl _⟩, ⟨rmv HO_5.out⟩, ⟨blw HB.out⟩⟩
           case rest =>
             clear HC4; (try clear c1); (try clear p1); (try clear q1); (try clear hx1); (try clear qi1); (try clear p2); (try clear c4); (try clear c6); (try clear c7); (try clear c11); (try clear p11); (try clear q11); (try clear hx11); (try clear qi11); (try clear c12); (try clear p12); (try clear q12); (try clear hx12); (try clear c13); (try clear c14); (try clear c15); (try clear c17); (try clear c17b0); (try clear c17b1); (try clear hx118_0); (try clear hx121_0); (try clear p118); (try clear p121); (try clear q118); (try clear q121); obtain ⟨kq, x52_3, rfl, HA, HJ3, HO_5, HB⟩ := hcut; (try clear bx_); have bx_ := (blk_cell (heap_below HB.out HBX.out) 0).trans rfl
             cases kq with
             | zero => exact absurd HA.out (by simp [recs.j2])
             | succ kj3 =>
               have H := HA.out; clear HA
               simp only [recs.j2] at H
               by_cases c31 : x52_3 = true
               · subst c31
                 have H1 : (some []) = some RV := by rw [if_pos rfl] at H; exact H
                 clear H; have H := H1; clear H1
                 go_wp2
                 first | go_end0 | ((try simp only [Exit.inBlock, Exit.then, Exit.noGoto_ret]); refine bodyPost_ret (results_none rfl _ _ _) rfl ?_)
                 exact ⟨⟨_, rfl⟩, .inl (at_end HKK.out (HRV.out.trans (Option.some.inj H).symm) (hJ _ _ _ HJ.out (St.of_below (blw HB.out))))⟩
               · replace c31 := Bool.eq_false_iff.mpr c31
                 subst c31
                 have H1 : (if 11 < ((rd_L1 l0 x6_2).length : Int) then (if 12 ≤ (wrap64 (12 + (wrap64 (rd (rd_L1 l0 x6_2) 11)))) then (if (wrap64 (12 + (wrap64 (rd (rd_L1 l0 x6_2) 11)))) ≤ ((rd_L1 l0 x6_2).length : Int) then (if x5_2.length + (((rd_L1 l0 x6_2).take ((wrap64 (12 + (wrap64 (rd (rd_L1 l0 x6_2) 11)))) : Int).toNat).drop 12).length < 140737488355328 then ((some (x5_2 ++ (((rd_L1 l0 x6_2).take ((wrap64 (12 + (wrap64 (rd (rd_L1 l0 x6_2) 11)))) : Int).toNat).drop 12) : List Int)).bind fun y128 => (if 10 < ((rd_L1 l0 x6_2).length : Int) then (if (Go.bits .and .u8 (rd (rd_L1 l0 x6_2) 10) 2) = 0 then (recs.l1 kj3 l0 x3_2 x4_2 y128 (wrap64 (x6_2 + 1))) else (if 4 ≤ ((rd_L1 l0 x6_2).length : Int) then ((journal_get.f kj3 ((rd_L1 l0 x6_2).take 4)).bind fun t133 => ((recs.l0 kj3 l0 (wrap64 (x6_2 + 1)) t133).map (fun r_ => (wrap64 (x6_2 + 1), y128) :: r_))) else (none))) else (none))) else (none)) else (none)) else (none)) else (none)) = some RV := by rw [if_neg (show ¬ (false = true) by decide)] at H; exact H
                 clear H; have H := H1; clear H1
                 by_cases c32 : 11 < ((rd_L1 l0 x6_2).length : Int)
                 · rw [if_pos c32] at H
                   have c32b0 : decide (11 < ((rd_L1 l0 x6_2).length : Int)) = true := decide_eq_true c32; have c32b1 : decide (11 < (rd_L1 l0 x6_2).length) = true := decide_eq_true (by omega); clear c32
                   by_cases c33 : 12 ≤ (wrap64 (12 + (wrap64 (rd (rd_L1 l0 x6_2) 11))))
                   · rw [if_pos c33] at H
                     have c33b0 := eq_true c33; have c33b1 : decide (12 ≤ (wrap64 (12 + (wrap64 (rd (rd_L1 l0 x6_2) 11))))) = true := decide_eq_true c33
                     by_cases c34 : (wrap64 (12 + (wrap64 (rd (rd_L1 l0 x6_2) 11)))) ≤ ((rd_L1 l0 x6_2).length : Int)
                     · rw [if_pos c34] at H
                       have c34b0 := eq_true c34; have c34b1 : decide ((wrap64 (12 + (wrap64 (rd (rd_L1 l0 x6_2) 11)))) ≤ ((rd_L1 l0 x6_2).length : Int)) = true := decide_eq_true c34
                       by_cases c35 : x5_2.length + (((rd_L1 l0 x6_2).take ((wrap64 (12 + (wrap64 (rd (rd_L1 l0 x6_2) 11)))) : Int).toNat).drop 12).length < 140737488355328
                       · rw [if_pos c35] at H
                         have LMc35 := Aside0.mk c35; clear c35; obtain ⟨y128, hy128⟩ : ∃ y_ : List Int, y_ = (x5_2 ++ (((rd_L1 l0 x6_2).take ((wrap64 (12 + (wrap64 (rd (rd_L1 l0 x6_2) 11)))) : Int).toNat).drop 12)) := ⟨_, rfl⟩
                         replace H : (if 10 < ((rd_L1 l0 x6_2).length : Int) then (if (Go.bits .and .u8 (rd (rd_L1 l0 x6_2) 10) 2) = 0 then (recs.l1 kj3 l0 x3_2 x4_2 y128 (wrap64 (x6_2 + 1))) else (if 4 ≤ ((rd_L1 l0 x6_2).length : Int) then ((journal_get.f kj3 ((rd_L1 l0 x6_2).take 4)).bind fun t133 => ((recs.l0 kj3 l0 (wrap64 (x6_2 + 1)) t133).map (fun r_ => (wrap64 (x6_2 + 1), y128) :: r_))) else (none))) else (none)) = some RV := by first | (rw [hy128]; with_reducible exact H) | (have H2_ := (Option.bind_some _ _).symm.trans H; rw [hy128]; with_reducible exact H2_) | (have H2_ := (Option.bind_some _ _).symm.trans H; with_reducible exact H2_) | with_reducible exact H | (rw [hy128]; exact H) | exact H
                         have Ny128 := Aside0.mk hy128; clear hy128
                         by_cases c36 : 10 < ((rd_L1 l0 x6_2).length : Int)
                         · rw [if_pos c36] at H
                           have c36b0 : decide (10 < ((rd_L1 l0 x6_2).length : Int)) = true := decide_eq_true c36; have c36b1 : decide (10 < (rd_L1 l0 x6_2).length) = true := decide_eq_true (by omega); clear c36
                           by_cases c37 : (Go.bits .and .u8 (rd (rd_L1 l0 x6_2) 10) 2) = 0
                           · rw [if_pos c37] at H
                             have c37b0 : ((Go.bits .and .u8 (rd (rd_L1 l0 x6_2) 10) 2) == 0) = true := beq_iff_eq.mpr c37; have c37b1 : ((Go.bits .and .u8 (rd (rd_L1 l0 x6_2) 10) 2) != 0) = false := bne_eq_false_iff_eq.mpr c37; clear c37; have H' := Aside0.mk H; clear H; have p126 : 0 ≤ (11 : Int) := (by omega); have q126 : 11 < ((rd_L1 l0 x6_2).length : Int) := of_decide_eq_true (by first | (with_reducible assumption) | assumption); obtain ⟨ad126, e126, hx126_0⟩ := Kd.at_int HR116_0.out 11 p126 q126; cases e126
                             (try simp only [show (11 : Int).toNat = 11 from rfl, Nat.reduceMul, Nat.reduceEqDiff, Go.Addr.add, ↓reduceIte] at hx126_0)
                             have qi126 : (11 < (rd_L1 l0 x6_2).length) = True := eq_true (by omega)
                             (try rw [show ((11 : Int)).toNat = 11 from rfl] at hx126_0)
                             replace hx126_0 := (HB.out.cell (World.block_lt_of_cell? w _ hx126_0)).trans hx126_0; replace p126 := eq_true p126; replace q126 := eq_true q126; obtain ⟨i038, hi038, _, hsz38, _⟩ := info_parts info5; obtain ⟨A38, hcut38, hA38, hC38⟩ := print_mid_of (P := Try.prog) (Value.int .u8) 0 35 5 .i64 .i64 Try.underlying35 hi038 hsz38 (some ad126) c116_0 (rd_L1 l0 x6_2) 12 (wrap64 (12 + (wrap64 (rd (rd_L1 l0 x6_2) 11)))) (by omega) (by first | omega | exact of_decide_eq_true (by first | (with_reducible assumption) | assumption)) (of_decide_eq_true (by first | (with_reducible assumption) | assumption)) HC116_0.out; have HR127 := Aside0.mk (Kd.C_of_reads (h1 := fun _ => rfl) (hA38 _ (Kd.reads_of_C HR116_0.out))); have HC127 := Aside0.mk hC38; clear hA38 hC38 hi038 hsz38
                             go_wp2_with (first | ((with_reducible refine gate_builtin (b := .append) (xs := #[.tmp 53, .tmp 60]) rfl ?_); at_builtin; refine Kd.R_append_rows (Kd.int .u8) (w0 := w) w.heap.size rfl (.tmp 53) (.tmp 60) 35 5 (.int .u8 0) 1 rfl Try.underlying35 info5 rfl (by decide) (by omega) u5 x5_2 (((rd_L1 l0 x6_2).take ((wrap64 (12 + (wrap64 (rd (rd_L1 l0 x6_2) 11)))) : Int).toNat).drop 12) _ _ _ (fun _ => True) (fun _ => False) rfl rfl ?aO ?aR (fun _ _ h => h) (fun _ h => h.elim) ?aF ?aB ?aS ?aL ?_; (case aR => first | (rw [← show (((rd_L1 l0 x6_2).take ((wrap64 (12 + (wrap64 (rd (rd_L1 l0 x6_2) 11)))) : Int).toNat).drop 12).length = ((wrap64 (12 + (wrap64 (rd (rd_L1 l0 x6_2) 11)))).toNat - 12) from (by rw [List.length_drop, List.length_take]; have h_ : ((wrap64 (12 + (wrap64 (rd (rd_L1 l0 x6_2) 11)))) : Int) ≤ ((rd_L1 l0 x6_2).length : Int) := of_decide_eq_true (by first | (with_reducible assumption) | assumption); omega)]; repeat (first | exact (Kd.C_below HR127.out HB.out) | (with_reducible refine Kd.C_alloc ?_ _) | (with_reducible refine Kd.C_drewN ?_ _) | (with_reducible refine Kd.C_drew ?_))) | (repeat (first | exact (Kd.C_below HR127.out HB.out) | (with_reducible refine Kd.C_alloc ?_ _) | (with_reducible refine Kd.C_drewN ?_ _) | (with_reducible refine Kd.C_drew ?_)))); (case aB => exact (blw HB.out)); (case aF => exact (fun _ _ => trivial)); (case aO => exact (rmv HO_5.out)); (case aS => exact (below_size (blw HB.out))); (case aL => have := LMc35.out; have hlx_ := (show (((rd_L1 l0 x6_2).take ((wrap64 (12 + (wrap64 (rd (rd_L1 l0 x6_2) 11)))) : Int).toNat).drop 12).length = ((wrap64 (12 + (wrap64 (rd (rd_L1 l0 x6_2) 11)))).toNat - 12) from (by rw [List.length_drop, List.length_take]; have h_ : ((wrap64 (12 + (wrap64 (rd (rd_L1 l0 x6_2) 11)))) : Int) ≤ ((rd_L1 l0 x6_2).length : Int) := of_decide_eq_true (by first | (with_reducible assumption) | assumption); omega)); omega); intro v129 w39 ho hb hg hat; rw [← Ny128.out] at ho; replace HB := Aside0.mk (hb); have HO130 := Aside0.mk (ho); clear HO_5; clear ho hb hg hat; have p131 : 0 ≤ (10 : Int) := (by omega); have q131 : 10 < ((rd_L1 l0 x6_2).length : Int) := of_decide_eq_true (by first | (with_reducible assumption) | assumption); obtain ⟨ad131, e131, hx131_0⟩ := Kd.at_int HR116_0.out 10 p131 q131; obtain rfl : ad126 = ad131 := (by injection e131); (try simp only [show (10 : Int).toNat = 10 from rfl, Nat.reduceMul, Nat.reduceEqDiff, Go.Addr.add, ↓reduceIte] at hx131_0); have qi131 : (10 < (rd_L1 l0 x6_2).length) = True := eq_true (by omega); (try rw [show ((10 : Int)).toNat = 10 from rfl] at hx131_0); replace hx131_0 := (HB.out.cell (World.block_lt_of_cell? w _ hx131_0)).trans hx131_0; replace p131 := eq_true p131; replace q131 := eq_true q131))
                             go_roundg kj3
                             case measure => have := HK1.out; have := HK2.out; have := HJ3.out; omega
                             case rel => exact ⟨(x3_2), (x4_2), (y128), (wrap64 (x6_2 + 1)), (by first | rfl | (simp; done) | (simp [*]; done)), (by first | rfl | (simp; done) | (simp [*]; done)), (by first | rfl | (simp; done) | (simp [*]; done)), H', ⟨by have := HK1.out; have := HK2.out; have := HJ3.out; omega⟩, ⟨rmv HO130.out⟩, ⟨blw HB.out⟩⟩
                           · rw [if_neg c37] at H
                             have c37b0 : ((Go.bits .and .u8 (rd (rd_L1 l0 x6_2) 10) 2) == 0) = false := beq_eq_false_iff_ne.mpr c37; have c37b1 : ((Go.bits .and .u8 (rd (rd_L1 l0 x6_2) 10) 2) != 0) = true := bne_iff_ne.mpr c37
                             by_cases c40 : 4 ≤ ((rd_L1 l0 x6_2).length : Int)
                             · rw [if_pos c40] at H
                               have c40b0 := eq_true c40; have c40b1 : decide (4 ≤ ((rd_L1 l0 x6_2).length : Int)) = true := decide_eq_true c40; clear c40; replace H := Option.bind_eq_some_iff.mp H; obtain ⟨t133, A410, H⟩ := H; replace H : ((recs.l0 kj3 l0 (wrap64 (x6_2 + 1)) t133).map (fun r_ => (wrap64 (x6_2 + 1), y128) :: r_)) = some RV := H; have A41 := Aside0.mk A410; clear A410; obtain ⟨rr, hrr, hcons⟩ := Option.map_eq_some_iff.1 H; clear H
                               have hlt : kk < R.length := by
                                 by_cases hk_ : kk < R.length
                                 · exact hk_
                                 · exfalso
                                   have h1 := HRV.out; rw [List.drop_eq_nil_of_le (by omega), ← hcons] at h1; cases h1
                               have hR2 := Aside0.mk (drop_cons (d := (0, [])) hlt (HRV.out.trans hcons.symm)); have HLT := Aside0.mk hlt; have HRR := Aside0.mk hrr; clear hrr hcons hlt; have p126 : 0 ≤ (11 : Int) := (by omega); have q126 : 11 < ((rd_L1 l0 x6_2).length : Int) := of_decide_eq_true (by first | (with_reducible assumption) | assumption); obtain ⟨ad126, e126, hx126_0⟩ := Kd.at_int HR116_0.out 11 p126 q126; cases e126
                               (try simp only [show (11 : Int).toNat = 11 from rfl, Nat.reduceMul, Nat.reduceEqDiff, Go.Addr.add, ↓reduceIte] at hx126_0)
                               have qi126 : (11 < (rd_L1 l0 x6_2).length) = True := eq_true (by omega)
                               (try rw [show ((11 : Int)).toNat = 11 from rfl] at hx126_0)
                               replace hx126_0 := (HB.out.cell (World.block_lt_of_cell? w _ hx126_0)).trans hx126_0; replace p126 := eq_true p126; replace q126 := eq_true q126; obtain ⟨i044, hi044, _, hsz44, _⟩ := info_parts info5; obtain ⟨A44, hcut44, hA44, hC44⟩ := print_mid_of (P := Try.prog) (Value.int .u8) 0 35 5 .i64 .i64 Try.underlying35 hi044 hsz44 (some ad126) c116_0 (rd_L1 l0 x6_2) 12 (wrap64 (12 + (wrap64 (rd (rd_L1 l0 x6_2) 11)))) (by omega) (by first | omega | exact of_decide_eq_true (by first | (with_reducible assumption) | assumption)) (of_decide_eq_true (by first | (with_reducible assumption) | assumption)) HC116_0.out; have HR127 := Aside0.mk (Kd.C_of_reads (h1 := fun _ => rfl) (hA44 _ (Kd.reads_of_C HR116_0.out))); have HC127 := Aside0.mk hC44; clear hA44 hC44 hi044 hsz44
                               go_upto_region 10 with (first | ((with_reducible refine gate_builtin (b := .append) (xs := #[.tmp 53, .tmp 60]) rfl ?_); at_builtin; refine Kd.R_append_rows (Kd.int .u8) (w0 := w) w.heap.size rfl (.tmp 53) (.tmp 60) 35 5 (.int .u8 0) 1 rfl Try.underlying35 info5 rfl (by decide) (by omega) u5 x5_2 (((rd_L1 l0 x6_2).take ((wrap64 (12 + (wrap64 (rd (rd_L1 l0 x6_2) 11)))) : Int).toNat).drop 12) _ _ _ (fun _ => True) (fun _ => False) rfl rfl ?aO ?aR (fun _ _ h => h) (fun _ h => h.elim) ?aF ?aB ?aS ?aL ?_; (case aR => first | (rw [← show (((rd_L1 l0 x6_2).take ((wrap64 (12 + (wrap64 (rd (rd_L1 l0 x6_2) 11)))) : Int).toNat).drop 12).length = ((wrap64 (12 + (wrap64 (rd (rd_L1 l0 x6_2) 11)))).toNat - 12) from (by rw [List.length_drop, List.length_take]; have h_ : ((wrap64 (12 + (wrap64 (rd (rd_L1 l0 x6_2) 11)))) : Int) ≤ ((rd_L1 l0 x6_2).length : Int) := of_decide_eq_true (by first | (with_reducible assumption) | assumption); omega)]; repeat (first | exact (Kd.C_below HR127.out HB.out) | (with_reducible refine Kd.C_alloc ?_ _) | (with_reducible refine Kd.C_drewN ?_ _) | (with_reducible refine Kd.C_drew ?_))) | (repeat (first | exact (Kd.C_below HR127.out HB.out) | (with_reducible refine Kd.C_alloc ?_ _) | (with_reducible refine Kd.C_drewN ?_ _) | (with_reducible refine Kd.C_drew ?_)))); (case aB => exact (blw HB.out)); (case aF => exact (fun _ _ => trivial)); (case aO => exact (rmv HO_5.out)); (case aS => exact (below_size (blw HB.out))); (case aL => have := LMc35.out; have hlx_ := (show (((rd_L1 l0 x6_2).take ((wrap64 (12 + (wrap64 (rd (rd_L1 l0 x6_2) 11)))) : Int).toNat).drop 12).length = ((wrap64 (12 + (wrap64 (rd (rd_L1 l0 x6_2) 11)))).toNat - 12) from (by rw [List.length_drop, List.length_take]; have h_ : ((wrap64 (12 + (wrap64 (rd (rd_L1 l0 x6_2) 11)))) : Int) ≤ ((rd_L1 l0 x6_2).length : Int) := of_decide_eq_true (by first | (with_reducible assumption) | assumption); omega)); omega); intro v129 w45 ho hb hg hat; rw [← Ny128.out] at ho; replace HB := Aside0.mk (hb); have HO130 := Aside0.mk (ho); clear HO_5; clear ho hb hg hat; have p131 : 0 ≤ (10 : Int) := (by omega); have q131 : 10 < ((rd_L1 l0 x6_2).length : Int) := of_decide_eq_true (by first | (with_reducible assumption) | assumption); obtain ⟨ad131, e131, hx131_0⟩ := Kd.at_int HR116_0.out 10 p131 q131; obtain rfl : ad126 = ad131 := (by injection e131); (try simp only [show (10 : Int).toNat = 10 from rfl, Nat.reduceMul, Nat.reduceEqDiff, Go.Addr.add, ↓reduceIte] at hx131_0); have qi131 : (10 < (rd_L1 l0 x6_2).length) = True := eq_true (by omega); (try rw [show ((10 : Int)).toNat = 10 from rfl] at hx131_0); replace hx131_0 := (HB.out.cell (World.block_lt_of_cell? w _ hx131_0)).trans hx131_0; replace p131 := eq_true p131; replace q131 := eq_true q131; obtain ⟨i046, hi046, _, hsz46, _⟩ := info_parts info5; obtain ⟨hcut46, hA46, hC46⟩ := print_take_of (P := Try.prog) (Value.int .u8) 0 35 5 .i64 Try.underlying35 hi046 hsz46 (some ad126) c116_0 (rd_L1 l0 x6_2) 4 (by omega) (of_decide_eq_true (by first | (with_reducible assumption) | assumption)) HC116_0.out; have HR132 := Aside0.mk (Kd.C_of_reads (h1 := fun _ => rfl) (hA46 _ (Kd.reads_of_C HR116_0.out))); have HC132 := Aside0.mk hC46; clear hA46 hC46 hi046 hsz46) | ((with_reducible refine gate_callee (f := 41) rfl ?_); refine goesL_ (some 71) rfl rfl Try.func41 (by kernel_rfl) rfl #[.slice (some ad126) ((rd_L1 l0 x6_2).take 4).length c116_0] rfl (by (try simp only [List.map_toArray, List.map_cons, List.map_nil]); first | done | (rw [show ((rd_L1 l0 x6_2).take 4).length = 4 from (by rw [List.length_take]; have h_ : (4 : Int) ≤ ((rd_L1 l0 x6_2).length : Int) := of_decide_eq_true (by first | (with_reducible assumption) | assumption); omega)] <;> rfl) | rfl | (simp only [List.length_drop, List.length_take]; rfl)) ?_; (with_reducible refine (journal_get.calls kj3 _ _ ((rd_L1 l0 x6_2).take 4) t133 _ ?side1 ?side2 A41.out).mono ?_); (case side1 => exact cB HR132 HB); (case side2 => exact HC132.out); rintro e w' ⟨rfl, ⟨nd, rfl⟩⟩; refine ⟨_, rfl, ?_⟩; obtain ⟨Ao47, co47, eo47⟩ := Kd.R_slice HO130.out; subst eo47))
                               obtain ⟨W5, hW5⟩ : ∃ W5, W5 = (_ : World) := ⟨World.drewN _ _, rfl⟩; rw [← hW5]
                               have HB5 : Below w.heap.size w W5 := by rw [hW5]; exact pw_below_drewN HB.out _
                               have HO5 : Kd.R (Kd.int .u8) 5 W5 w.heap.size (fun _ => True) (.slice Ao47 y128.length co47) y128 := by rw [hW5]; exact Kd.R_drewN HO130.out _
                               have HB5 := Aside0.mk HB5; have HJ5 := Aside0.mk (hJ _ _ _ HJ.out (St.of_below HB5.out)); have HRI5 := Aside0.mk (HRI.out.below HB5.out); obtain ⟨fn, tmps, assign, body, hy, hR⟩ := hY kk W5 #[.int .i64 (wrap64 (x6_2 + 1)), .slice Ao47 y128.length co47] HLT.out HJ5.out ⟨_, by rw [hR2.out.1], by rw [hR2.out.1]; exact Kd.R_lower HO5 HRI.out.1⟩; clear hW5 HO5 HO130 HB bx_
                               refine (wpIn_wide (n := q)).1 ?_
                               gi_wp2
                               refine ⟨fun h => by simp [Fence.wide] at h, hR.mono ?_⟩
                               rintro e W3 (⟨rfl, hJ3, hk3⟩ | ⟨rfl, hJx3⟩)
                               · have HRI6 := Aside0.mk (HRI5.out.st hUo hUb hk3)
                                 have HJ6 := Aside0.mk hJ3; clear hJ3 hk3
                                 try gi_wp2
                                 go_wp2
                                 go_roundg kj3
                                 case measure => have := HK1.out; have := HK2.out; have := HJ3.out; omega
                                 case rel => exact ⟨(wrap64 (x6_2 + 1)), (t133), kk + 1, rfl, rfl, ⟨by rw [hR2.out.2]; exact HRR.out⟩, ⟨by have := HK1.out; have := HK2.out; have := HJ3.out; omega⟩, ⟨HLT.out⟩, HJ6, HRI6⟩
                               · try gi_wp2
                                 go_wp2
                                 (try simp only [Exit.inBlock, Exit.then, Exit.noGoto_ret])
                                 refine bodyPost_ret (results_none rfl _ _ _) rfl ?_
                                 exact ⟨⟨_, rfl⟩, .inr ⟨kk, HLT.out, hJx3⟩⟩
                             · rw [if_neg c40] at H
                               exact absurd H (by simp)
                         · rw [if_neg c36] at H
                           exact absurd H (by simp)
                       · rw [if_neg c35] at H
                         exact absurd H (by simp)
                     · rw [if_neg c34] at H
                       exact absurd H (by simp)
                   · rw [if_neg c33] at H
                     exact absurd H (by simp)
                 · rw [if_neg c32] at H
                   exact absurd H (by simp)
         · rw [if_neg c3] at H
           exact absurd H (by simp)
       · rw [if_neg c2] at H
         have c2b0 : decide (x6_2 < (l0.length : Int)) = false := decide_eq_false c2; clear c2
         go_wp2
         first | go_end0 | ((try simp only [Exit.inBlock, Exit.then, Exit.noGoto_ret]); refine bodyPost_ret (results_none rfl _ _ _) rfl ?_)
         exact ⟨⟨_, rfl⟩, .inl (at_end HKK.out (HRV.out.trans (Option.some.inj H).symm) (hJ _ _ _ HJ.out (St.of_below (blw HB.out))))⟩

end Go.Proofs.Ytljmdkeeppikhaa.Q
