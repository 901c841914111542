/- By hand: facts.known's function as an iterator. -/
import Derived.Test.YtebfcckaicgcfaaDoorQ0
import Derived.Test.YtebfcckaicgcfaaDoorRng
import Derived.Test.YtebfcckaicgcfaaDoorAidC
import Derived.Shelf.Abstract
import Derived.OwnWalkIn
import Derived.TacticsInMore
import Derived.LoopNIn
import Derived.LoopIn
import Derived.Maps.AppendAt
import Derived.Outline
namespace Go.Proofs.YtebfcckaicgcfaaDoor.Q
open Go.RowKit Go.Proofs.YtebfcckaicgcfaaDoorW.PrintWords Go.Proofs.YtebfcckaicgcfaaDoorW.PrintLast Go.Proofs.YtebfcckaicgcfaaDoorW.PrintMore Go.Proofs.YtebfcckaicgcfaaDoor.Rng
attribute [local go_sem] Oper.semAt_some
attribute [local go_sem] max2_int min2_int max_two min_two
set_option linter.unusedVariables false
set_option linter.unusedSimpArgs false

/-- A fact's cells, and those of what it is about. -/
def facC (r : S24) : Array Value := #[.int .i64 r.f0, .int .i64 r.f1, .int .i64 r.f2, .int .i64 r.f3, .int .i64 r.f4, .int .i64 r.f5, .int .i64 r.f6, .int .i64 r.f7, .int .i64 r.f8]
def subC (r : S24) : Array Value := #[.int .i64 r.f1, .int .i64 r.f2, .int .i64 r.f3, .int .i64 r.f4, .int .i64 r.f7]
/-- The facts that are known at t. -/
def knownV (t : Int) (l : List S24) : List S24 := l.filter (fun r => decide (r.f8 ≤ t))
theorem known_step (t : Int) (l : List S24) (k : Nat) (hk : k < l.length) :
    knownV t (l.take (k + 1)) = knownV t (l.take k) ++ (if (rd_T24 l k).f8 ≤ t then [rd_T24 l k] else []) := by
  unfold knownV
  rw [List.take_succ_eq_append_getElem hk, List.filter_append]
  congr 1
  have hr : rd_T24 l (k : Int) = l[k] := by simp [rd_T24, List.getD_eq_getElem?_getD, hk]
  rw [hr]
  by_cases h : l[k].f8 ≤ t <;> simp [h]
theorem known_get (t : Int) (l : List S24) (k : Nat) (hk : k < l.length) (h : (rd_T24 l k).f8 ≤ t) :
    (knownV t (l.take k)).length < (knownV t l).length ∧ (knownV t l).getD (knownV t (l.take k)).length z24 = rd_T24 l k := by
  have hs := known_step t l k hk
  rw [if_pos h] at hs
  have hl : knownV t l = knownV t (l.take k) ++ ([rd_T24 l k] ++ knownV t (l.drop (k + 1))) := by
    have h1 : knownV t l = knownV t (l.take (k + 1)) ++ knownV t (l.drop (k + 1)) := by
      unfold knownV
      rw [← List.filter_append, List.take_append_drop]
    rw [h1, hs, List.append_assoc]
  constructor
  · rw [hl]
    simp only [List.length_append, List.length_cons, List.length_nil]
    omega
  · rw [hl, List.getD_eq_getElem?_getD, List.getElem?_append_right (Nat.le_refl _), Nat.sub_self]
    rfl

/-- The boxes of known's function. -/
def KnPre (w : World) (A : Option Addr) (n c bl bt : Nat) (t : Int) (W : World) : Prop :=
  Below w.heap.size w W ∧ W.heap[bl]? = some (.cells #[.slice A n c] 22 (0, 0)) ∧ W.heap[bt]? = some (.cells #[.int .i64 t] 3 (0, 0))

theorem known_ (A : Option Addr) (n c : Nat) (t : Int) (w : World) :
    Calls Tryd.prog 31 #[.slice A n c, .int .i64 t] w fun e w' => e = .returned (.func (.func 41) #[] #[.pointer (some ⟨w.heap.size, 0, none⟩), .pointer (some ⟨w.heap.size + 1, 0, none⟩)]) ∧
      w' = ((w.alloc (.cells #[.slice A n c] 22)).alloc (.cells #[.int .i64 t] 3)) := by
  go_enter Tryd.func31, Tryd.ntmps31
  go_wp2
  go_ret
  exact ⟨rfl, rfl⟩

set_option maxRecDepth 100000 in
set_option maxHeartbeats 8000000 in
theorem known_iter (w : World) (l : List S24) (A : Option Addr) (c bl bt : Nat) (t : Int) (U S : Nat → Prop)
    (hr : Kd.C k24 w A l.length l) (hn : l.length ≤ 4096) (hU : ∀ j, U j → w.heap.size ≤ j ∧ j ≠ bl ∧ j ≠ bt) (hbl : w.heap.size ≤ bl) (hbt : w.heap.size ≤ bt) :
    Iter Tryd.prog 41 #[.pointer (some ⟨bl, 0, none⟩), .pointer (some ⟨bt, 0, none⟩)]
      (fun k => #[.agg (subC ((knownV t l).getD k z24)), .agg (facC ((knownV t l).getD k z24))]) (knownV t l).length U S
      (KnPre w A l.length c bl bt t) := by
  intro q l0 J Jx W hJ hJx hY h0 hpre
  have hpre' := Aside0.mk hpre
  clear hpre
  refine callsIn_of_wp Tryd.func41 rfl trivial ?_ rfl
  simp only [Tryd.ntmps41, List.size_toArray, List.length_cons, List.length_nil, Nat.reduceAdd, Nat.reduceSub, Array.replicate_succ, Array.replicate_zero, List.push_toArray, List.append_toArray, List.nil_append, List.cons_append]
  have b1 := (blk_cell hpre'.out.2.1 0).trans rfl
  have HJ0 := Aside0.mk h0
  gi_wp2
  clear b1
  gi_loopw [8] (fun i wr => ∃ k : Nat, k ≤ l.length ∧ i = .int .i64 k ∧ Aside0 (KnPre w A l.length c bl bt t wr) ∧ Aside0 (J (knownV t (l.take k)).length wr)) (fun i _ => l.length - (intOf i).toNat)
  case atStart => exact ⟨0, by omega, rfl, hpre', HJ0⟩
  case round =>
    clear HJ0 h0
    obtain ⟨k, hk, rfl, HS, HJ⟩ := hrel
    by_cases hlt : k < l.length
    · have hC2 := Kd.C_below hr HS.out.1
      obtain ⟨ad2, e2, q0, q1, q2, q3, q4, q5, q6, q7, q8⟩ := at_T24 hC2 (k : Int) (by omega) (by omega)
      rw [Int.toNat_natCast] at q0 q1 q2 q3 q4 q5 q6 q7 q8
      have hst := Aside0.mk (known_step t l k hlt)
      have hgt := Aside0.mk (known_get t l k hlt)
      generalize rd_T24 l (k : Int) = r at q0 q1 q2 q3 q4 q5 q6 q7 q8 hst hgt
      subst e2
      have lt1 := blk_lt HS.out.2.1
      have lt2 := blk_lt HS.out.2.2
      have hob := Aside0.mk (below_alloc (Below.refl wr.heap.size wr) (.cells (facC r) 24 (0, 0)))
      have HJ1 := Aside0.mk (hJ _ _ _ HJ.out (St.of_below hob.out))
      have y1 : Aside0 ((wr.alloc (.cells (facC r) 24 (0, 0))).heap[bt]? = some (.cells #[.int .i64 t] 3 (0, 0)) ∧ (wr.alloc (.cells (facC r) 24 (0, 0))).heap[bl]? = some (.cells #[.slice (some ad2) l.length c] 22 (0, 0))) :=
        ⟨heap_at_old _ _ _ _ HS.out.2.2, heap_at_old _ _ _ _ HS.out.2.1⟩
      have x1 := (blk_cell y1.out.1 0).trans rfl
      clear HJ lt1 lt2
      unfold facC at hob HJ1 x1 y1
      by_cases h3 : r.f8 ≤ t
      · obtain ⟨k0, k1⟩ := hgt.out h3
        obtain ⟨fn, tmps, assign, body, hy, hR⟩ := hY _ _ k0 HJ1.out
        rw [k1] at hy
        unfold subC facC at hy
        have hdec : decide (r.f8 ≤ t) = true := decide_eq_true h3
        gi_wp2
        refine ⟨fun h => by simp [Fence.wide] at h, hR.mono ?_⟩
        rintro e W3 (⟨rfl, hJ3, hk3⟩ | ⟨rfl, hJx3⟩)
        · have HJ6 := Aside0.mk hJ3
          have HK3 := Aside0.mk hk3
          clear hJ3 hk3
          gi_wp2
          go_roundw
          case rel =>
            refine ⟨k + 1, hlt, by go_num, ⟨?_, ?_, ?_⟩, ⟨by rw [hst.out, if_pos h3, List.length_append]; exact HJ6.out⟩⟩
            · exact HK3.out.base (below_step HS.out.1 hob.out) (Nat.le_refl _) (fun j hj => (hU j hj).1)
            · exact HK3.out.blk y1.out.2 (fun hu => (hU _ hu).2.1 rfl)
            · exact HK3.out.blk y1.out.1 (fun hu => (hU _ hu).2.2 rfl)
          case measure => simp [intOf]; omega
        · have HJ6 := Aside0.mk hJx3
          clear hJx3
          gi_wp2
          refine bodyPost_ret (results_none rfl _ _ _) rfl ?_
          exact ⟨⟨_, rfl⟩, .inr ⟨_, k0, HJ6.out⟩⟩
      · have hdec : decide (r.f8 ≤ t) = false := decide_eq_false h3
        gi_wp2
        refine ⟨(fun f hf => nomatch hf), ?_⟩
        gi_wp2
        go_roundw
        case rel => exact ⟨k + 1, hlt, by go_num, ⟨⟨below_step HS.out.1 hob.out, y1.out.2, y1.out.1⟩⟩, ⟨by rw [hst.out, if_neg (by omega), List.append_nil]; exact HJ1.out⟩⟩
        case measure => simp [intOf]; omega
    · obtain rfl : k = l.length := by omega
      rw [List.take_length] at HJ
      gi_wp2
      go_end0
      exact ⟨⟨_, rfl⟩, .inl HJ.out⟩
end Go.Proofs.YtebfcckaicgcfaaDoor.Q
