/- By hand: slices.Clone of numbers. -/
import Derived.Test.YtgiinjfandeddaaQ0
import Derived.Outline
import Derived.Shelf.RegionOpenPlain
import Derived.Lib.Walk
import Derived.Lib.SliceRun
import Derived.Laws.AppendOwn
namespace Go.Proofs.Ytgiinjfandeddaa.Q
open Go.RowKit Go.Proofs.YtgiinjfandeddaaW.PrintWords Go.Proofs.YtgiinjfandeddaaW.PrintLast Go.Proofs.YtgiinjfandeddaaW.PrintMore
attribute [local go_sem] max2_int min2_int max_two min_two
set_option linter.unusedVariables false
set_option linter.unusedSimpArgs false

theorem infI : (Try.prog.info? 3).map (fun i => (i.zero, i.size, i.bytes)) = some (some (.int .i64 0), 1, 8) := by kernel_rfl
def slices_Clone_int_int.f (l0 : List Int) : Option (List Int) := if l0.length ≤ 100000 then some l0 else none
theorem R_made0 (e : Nat) (w : World) : Kd.R (Kd.int .i64) e (w.alloc (.cells #[] e)) w.heap.size (fun _ => True) (.slice (some ⟨w.heap.size, 0, none⟩) 0 0) [] :=
  ⟨fun _ _ => trivial, [], World.ownsRow_made w #[] 0 (Nat.le_refl _) (Nat.zero_le _) (by simp), ⟨by simp, fun j p hj => by simp at hj⟩⟩

set_option maxHeartbeats 2000000 in
set_option maxRecDepth 100000 in
theorem slices_Clone_int_int.calls (A0 : Option Addr) (c0 : Nat) (l0 : List Int) (r : List Int) (w : World) (hr0 : Kd.C (Kd.int .i64) w A0 l0.length l0) (hc0 : l0.length ≤ c0) (h : slices_Clone_int_int.f l0 = some r) :
    Calls Try.prog 33 #[.slice A0 l0.length c0] w fun e w' => ∃ v0_ : Value, e = .returned (v0_) ∧ Kd.R (Kd.int .i64) 3 w' w.heap.size (fun _ => True) v0_ r ∧ Below w.heap.size w w' := by
  have hu := Try.underlying23
  have q22 : ∀ (w : World) (a : Option Addr) (n c n' c' : Nat), (binOp .eql 23 (.slice a n c) (.slice none n' c')).run Try.prog w = .ok (.bool a.isNone) w := fun w a n c n' c' => Lib.run_eql_slice_nil w _ _ a n c n' c' Try.underlying23
  unfold slices_Clone_int_int.f at h
  split at h
  · rename_i hn
    obtain rfl := Option.some.inj h
    clear h
    cases A0 with
    | none =>
      have h0 : l0 = [] := by
        by_cases h : 0 < l0.length
        · obtain ⟨ad, e, _⟩ := hr0.2.2 h
          cases e
        · exact List.eq_nil_of_length_eq_zero (by omega)
      subst h0
      clear hr0
      go_enter Try.func33, Try.ntmps33
      go_wp2
      go_ret
      exact ⟨_, rfl, Kd.R_nil _ _ _ _ _, Below.refl _ _⟩
    | some ad =>
      have HV := Aside0.mk (Kd.C_alloc hr0 (.cells #[] 3 (0, 0)))
      have HN := Aside0.mk hn
      clear hr0 hn
      have HO := Aside0.mk (R_made0 3 w)
      have HB := Aside0.mk (below_alloc (Below.refl w.heap.size w) (.cells #[] 3 (0, 0)))
      have hsz := Aside0.mk (show w.heap.size ≤ (w.alloc (.cells #[] 3 (0, 0))).heap.size from by simp)
      go_enter Try.func33, Try.ntmps33
      go_wp2_with (at_builtin; refine Kd.R_append_rows (Kd.int .i64) (w0 := w) w.heap.size rfl _ _ 23 3 (.int .i64 0) 8 rfl hu infI rfl (by decide) (by decide) (.slice (some ⟨w.heap.size, 0, none⟩) 0 0) [] l0 (some ad) l0.length c0 (fun _ => True) (fun _ => False) rfl rfl HO.out HV.out (fun _ _ h => h) (fun _ h => h.elim) (fun _ _ => trivial) HB.out hsz.out ?qc3 ?_)
      case qc3 => rw [List.length_nil, Nat.zero_add]; have := HN.out; omega
      intro v' w1 hN hb hgrow hat
      go_wp2
      go_ret
      exact ⟨v', rfl, by simpa using hN, hb⟩
  · cases h
/-- Its block alone matters to a row of numbers. -/
theorem R_st {W B : World} {base : Nat} {ok : Nat → Prop} {v : Value} {xs : List Int} (h : Kd.R (Kd.int .i64) 3 W base ok v xs) (hs : ∀ k, v.ownBlock = some k → B.heap[k]? = W.heap[k]?) : Kd.R (Kd.int .i64) 3 B base ok v xs := by
  refine Kd.R_of_own ?_ h.1
  obtain ⟨hl, hc⟩ := Kd.own_of_R h
  refine ⟨hl, ?_⟩
  rcases hc with hc | ⟨g, cap, cur, he, hb, hg, hr⟩
  · exact .inl hc
  · exact .inr ⟨g, cap, cur, he, hb, (hs g (by rw [he]; rfl)).trans hg, hr⟩
end Go.Proofs.Ytgiinjfandeddaa.Q
