/- By hand: the examples with which the statements about weather begin are right. -/
import Derived.Test.YthfhjcbgccnijaaOf
import Derived.Test.YthfhjcbgccnijaaAdd
namespace Go.Proofs.Ythfhjcbgccnijaa.Q
open Go.RowKit Go.Proofs.YthfhjcbgccnijaaW.PrintWords Go.Proofs.YthfhjcbgccnijaaW.PrintLast Go.Proofs.YthfhjcbgccnijaaW.PrintMore
attribute [local go_sem] max2_int min2_int max_two min_two
set_option linter.unusedVariables false
set_option linter.unusedSimpArgs false

set_option maxHeartbeats 1000000 in
theorem report_ (a0 a1 a2 a3 a4 a5 : Int) (w : World) (h : wrap64 (a1 + 2) = a5) :
    Calls Try.prog 57 #[.int .i64 a0, .int .i64 a1, .int .i64 a2, .int .i64 a3, .int .i64 a4] w fun e w' => e = .returned (.agg #[.int .i64 a0, .int .i64 a1, .int .i64 0, .int .i64 0, .int .i64 a2, .int .i64 a3, .int .i64 a4, .int .i64 a1, .int .i64 a5]) ∧ Below w.heap.size w w' := by
  have hu := Try.underlying41
  go_enter Try.func57, Try.ntmps57
  go_wp2
  refine bodyPost_ret (results_cell_row rfl _ _ w.heap.size 41 _ (0, 0) _ rfl (heap_at_new _ _ _ rfl) hu rfl (by kernel_rfl)) rfl ?_
  exact ⟨rfl, below_alloc (Below.refl _ _) _⟩

theorem C_flat {W : World} {g : Nat} {L : List S41} (h : W.heap[g]? = some (.cells (flat L).toArray 41 (0, 0))) (n : Nat) (hn : n ≤ L.length) (hm : n ≤ 4096) : Kd.C k41 W (some ⟨g, 0, none⟩) n (L.take n) := by
  refine ⟨by rw [List.length_take]; omega, by omega, fun _ => ⟨_, rfl, fun j p hp => ⟨repL p, rfl, k41_mk _ _, fun i u hu => ?_⟩⟩⟩
  have hi : i < 9 := (List.getElem?_eq_some_iff.1 hu).1
  have hp' : L[j]? = some p := by
    rw [List.getElem?_take] at hp
    split at hp
    · exact hp
    · cases hp
  have hs := flat_seg L j p hp'
  have h2 : (flat L)[j * 9 + i]? = some u := by
    have h3 : (((flat L).drop (j * 9)).take 9)[i]? = some u := by rw [hs]; exact hu
    rwa [List.getElem?_take, if_pos hi, List.getElem?_drop] at h3
  show W.cell? ((⟨g, 0, none⟩ : Addr).add (j * 9 + i)) = some u
  rw [Addr.add_lit, Nat.zero_add, blk_cell h]
  simpa using h2

def fastilaw27_sane.f : Option (Bool) := some true
set_option maxRecDepth 100000 in
set_option maxHeartbeats 8000000 in
theorem fastilaw27_sane.calls (r : Bool) (w : World) (h : fastilaw27_sane.f = some r) :
    Calls Try.prog 25 #[] w fun e w' => e = .returned (.bool r) ∧ Below w.heap.size w w' := by
  obtain rfl := Option.some.inj h
  clear h
  have hu39 := Try.underlying39
  have hu27 := Try.underlying27
  have C1 : Aside0 (∀ W, Calls Try.prog 15 #[.slice none 0 0, .int .i64 0, .int .i64 0, .int .i64 0] W fun e w' => e = .returned (.tuple #[.agg #[.int .i64 0, .int .i64 200, .int .i64 0, .int .i64 40], .int .i64 0, .int .i64 0]) ∧ Below W.heap.size W w') := ⟨fun W => weather_Of.calls none 0 [] 0 0 0 0 200 0 40 0 0 W ⟨rfl, by decide, fun h => absurd h (by decide)⟩ (by decide) (by kernel_rfl)⟩
  have C2 : Aside0 (∀ W, Calls Try.prog 15 #[.slice none 0 0, .int .i64 64, .int .i64 0, .int .i64 0] W fun e w' => e = .returned (.tuple #[.agg #[.int .i64 0, .int .i64 0, .int .i64 0, .int .i64 0], .int .i64 0, .int .i64 1]) ∧ Below W.heap.size W w') := ⟨fun W => weather_Of.calls none 0 [] 64 0 0 0 0 0 0 0 1 W ⟨rfl, by decide, fun h => absurd h (by decide)⟩ (by decide) (by kernel_rfl)⟩
  have C4 : Aside0 (∀ (g : Nat) (cp : Nat) W, 2 ≤ cp → W.heap[g]? = some (.cells #[.int .i64 2, .int .i64 0, .int .i64 0, .int .i64 0, .int .i64 4, .int .i64 2, .int .i64 9, .int .i64 0, .int .i64 2, .int .i64 5, .int .i64 1, .int .i64 0, .int .i64 0, .int .i64 4, .int .i64 5, .int .i64 20, .int .i64 1, .int .i64 3] 41 (0, 0)) → Calls Try.prog 15 #[.slice (some ⟨g, 0, none⟩) 2 cp, .int .i64 0, .int .i64 0, .int .i64 4] W fun e w' => e = .returned (.tuple #[.agg #[.int .i64 5, .int .i64 9, .int .i64 1, .int .i64 2], .int .i64 2, .int .i64 0]) ∧ Below W.heap.size W w') := ⟨fun g cp W hcp h => weather_Of.calls (some ⟨g, 0, none⟩) cp [(⟨2, 0, 0, 0, 4, ⟨2, 9⟩, ⟨0, 2⟩⟩ : S41), (⟨5, 1, 0, 0, 4, ⟨5, 20⟩, ⟨1, 3⟩⟩ : S41)] 0 0 4 5 9 1 2 2 0 W (C_flat (L := [(⟨2, 0, 0, 0, 4, ⟨2, 9⟩, ⟨0, 2⟩⟩ : S41), (⟨5, 1, 0, 0, 4, ⟨5, 20⟩, ⟨1, 3⟩⟩ : S41)]) h 2 (by decide) (by decide)) hcp (by kernel_rfl)⟩
  have C6 : Aside0 (∀ (g : Nat) (cp : Nat) W, 2 ≤ cp → W.heap[g]? = some (.cells #[.int .i64 0, .int .i64 0, .int .i64 0, .int .i64 0, .int .i64 4, .int .i64 1, .int .i64 2, .int .i64 0, .int .i64 2, .int .i64 1, .int .i64 1, .int .i64 0, .int .i64 0, .int .i64 6, .int .i64 5, .int .i64 5, .int .i64 1, .int .i64 3, .int .i64 7, .int .i64 0, .int .i64 0, .int .i64 0, .int .i64 6, .int .i64 3, .int .i64 4, .int .i64 0, .int .i64 2] 41 (0, 0)) → Calls Try.prog 15 #[.slice (some ⟨g, 0, none⟩) 2 cp, .int .i64 0, .int .i64 0, .int .i64 6] W fun e w' => e = .returned (.tuple #[.agg #[.int .i64 1, .int .i64 5, .int .i64 1, .int .i64 2], .int .i64 2, .int .i64 0]) ∧ Below W.heap.size W w') := ⟨fun g cp W hcp h => weather_Of.calls (some ⟨g, 0, none⟩) cp [(⟨0, 0, 0, 0, 4, ⟨1, 2⟩, ⟨0, 2⟩⟩ : S41), (⟨1, 1, 0, 0, 6, ⟨5, 5⟩, ⟨1, 3⟩⟩ : S41)] 0 0 6 1 5 1 2 2 0 W (C_flat (L := [(⟨0, 0, 0, 0, 4, ⟨1, 2⟩, ⟨0, 2⟩⟩ : S41), (⟨1, 1, 0, 0, 6, ⟨5, 5⟩, ⟨1, 3⟩⟩ : S41), (⟨7, 0, 0, 0, 6, ⟨3, 4⟩, ⟨0, 2⟩⟩ : S41)]) h 2 (by decide) (by decide)) hcp (by kernel_rfl)⟩
  have C7 : Aside0 (∀ (g : Nat) (cp : Nat) W, 3 ≤ cp → W.heap[g]? = some (.cells #[.int .i64 0, .int .i64 0, .int .i64 0, .int .i64 0, .int .i64 4, .int .i64 1, .int .i64 2, .int .i64 0, .int .i64 2, .int .i64 1, .int .i64 1, .int .i64 0, .int .i64 0, .int .i64 6, .int .i64 5, .int .i64 5, .int .i64 1, .int .i64 3, .int .i64 7, .int .i64 0, .int .i64 0, .int .i64 0, .int .i64 6, .int .i64 3, .int .i64 4, .int .i64 0, .int .i64 2] 41 (0, 0)) → Calls Try.prog 15 #[.slice (some ⟨g, 0, none⟩) 3 cp, .int .i64 0, .int .i64 0, .int .i64 5] W fun e w' => e = .returned (.tuple #[.agg #[.int .i64 1, .int .i64 2, .int .i64 0, .int .i64 2], .int .i64 1, .int .i64 0]) ∧ Below W.heap.size W w') := ⟨fun g cp W hcp h => weather_Of.calls (some ⟨g, 0, none⟩) cp [(⟨0, 0, 0, 0, 4, ⟨1, 2⟩, ⟨0, 2⟩⟩ : S41), (⟨1, 1, 0, 0, 6, ⟨5, 5⟩, ⟨1, 3⟩⟩ : S41), (⟨7, 0, 0, 0, 6, ⟨3, 4⟩, ⟨0, 2⟩⟩ : S41)] 0 0 5 1 2 0 2 1 0 W (C_flat (L := [(⟨0, 0, 0, 0, 4, ⟨1, 2⟩, ⟨0, 2⟩⟩ : S41), (⟨1, 1, 0, 0, 6, ⟨5, 5⟩, ⟨1, 3⟩⟩ : S41), (⟨7, 0, 0, 0, 6, ⟨3, 4⟩, ⟨0, 2⟩⟩ : S41)]) h 3 (by decide) (by decide)) hcp (by kernel_rfl)⟩
  have C8 : Aside0 (∀ (g : Nat) (cp : Nat) W, 3 ≤ cp → W.heap[g]? = some (.cells #[.int .i64 0, .int .i64 0, .int .i64 0, .int .i64 0, .int .i64 4, .int .i64 1, .int .i64 2, .int .i64 0, .int .i64 2, .int .i64 1, .int .i64 1, .int .i64 0, .int .i64 0, .int .i64 6, .int .i64 5, .int .i64 5, .int .i64 1, .int .i64 3, .int .i64 7, .int .i64 0, .int .i64 0, .int .i64 0, .int .i64 6, .int .i64 3, .int .i64 4, .int .i64 0, .int .i64 2] 41 (0, 0)) → Calls Try.prog 15 #[.slice (some ⟨g, 0, none⟩) 3 cp, .int .i64 0, .int .i64 0, .int .i64 6] W fun e w' => e = .returned (.tuple #[.agg #[.int .i64 3, .int .i64 5, .int .i64 1, .int .i64 2], .int .i64 2, .int .i64 0]) ∧ Below W.heap.size W w') := ⟨fun g cp W hcp h => weather_Of.calls (some ⟨g, 0, none⟩) cp [(⟨0, 0, 0, 0, 4, ⟨1, 2⟩, ⟨0, 2⟩⟩ : S41), (⟨1, 1, 0, 0, 6, ⟨5, 5⟩, ⟨1, 3⟩⟩ : S41), (⟨7, 0, 0, 0, 6, ⟨3, 4⟩, ⟨0, 2⟩⟩ : S41)] 0 0 6 3 5 1 2 2 0 W (C_flat (L := [(⟨0, 0, 0, 0, 4, ⟨1, 2⟩, ⟨0, 2⟩⟩ : S41), (⟨1, 1, 0, 0, 6, ⟨5, 5⟩, ⟨1, 3⟩⟩ : S41), (⟨7, 0, 0, 0, 6, ⟨3, 4⟩, ⟨0, 2⟩⟩ : S41)]) h 3 (by decide) (by decide)) hcp (by kernel_rfl)⟩
  have C9 : Aside0 (∀ (g : Nat) W, W.heap[g]? = some (.cells #[.int .i64 2, .int .i64 0, .int .i64 0, .int .i64 0, .int .i64 4, .int .i64 2, .int .i64 9, .int .i64 0, .int .i64 2, .int .i64 5, .int .i64 1, .int .i64 0, .int .i64 0, .int .i64 4, .int .i64 5, .int .i64 20, .int .i64 1, .int .i64 3] 41 (0, 0)) → Calls Try.prog 26 #[.slice (some ⟨g, 0, none⟩) 2 2, .agg #[.int .i64 3, .int .i64 1, .int .i64 0, .int .i64 0, .int .i64 0, .int .i64 0, .int .i64 0, .int .i64 1, .int .i64 3]] W fun e w' => ∃ v0_ : Value, e = .returned (.tuple #[v0_, .int .i64 0]) ∧ Kd.R k41 41 w' W.heap.size (fun _ => True) v0_ [(⟨2, 0, 0, 0, 4, ⟨2, 9⟩, ⟨0, 2⟩⟩ : S41), (⟨3, 1, 0, 0, 0, ⟨0, 0⟩, ⟨1, 3⟩⟩ : S41), (⟨5, 1, 0, 0, 4, ⟨5, 20⟩, ⟨1, 3⟩⟩ : S41)] ∧ Below W.heap.size W w') := ⟨fun g W h => weather_Add.calls (some ⟨g, 0, none⟩) 2 [(⟨2, 0, 0, 0, 4, ⟨2, 9⟩, ⟨0, 2⟩⟩ : S41), (⟨5, 1, 0, 0, 4, ⟨5, 20⟩, ⟨1, 3⟩⟩ : S41)] 3 1 0 0 0 0 0 1 3 [(⟨2, 0, 0, 0, 4, ⟨2, 9⟩, ⟨0, 2⟩⟩ : S41), (⟨3, 1, 0, 0, 0, ⟨0, 0⟩, ⟨1, 3⟩⟩ : S41), (⟨5, 1, 0, 0, 4, ⟨5, 20⟩, ⟨1, 3⟩⟩ : S41)] 0 W (C_flat (L := [(⟨2, 0, 0, 0, 4, ⟨2, 9⟩, ⟨0, 2⟩⟩ : S41), (⟨5, 1, 0, 0, 4, ⟨5, 20⟩, ⟨1, 3⟩⟩ : S41)]) h 2 (by decide) (by decide)) (by decide) (by kernel_rfl)⟩
  have C10 : Aside0 (∀ (g : Nat) W, W.heap[g]? = some (.cells #[.int .i64 2, .int .i64 0, .int .i64 0, .int .i64 0, .int .i64 4, .int .i64 2, .int .i64 9, .int .i64 0, .int .i64 2, .int .i64 5, .int .i64 1, .int .i64 0, .int .i64 0, .int .i64 4, .int .i64 5, .int .i64 20, .int .i64 1, .int .i64 3] 41 (0, 0)) → Calls Try.prog 26 #[.slice (some ⟨g, 0, none⟩) 2 2, .agg #[.int .i64 5, .int .i64 1, .int .i64 0, .int .i64 0, .int .i64 0, .int .i64 0, .int .i64 0, .int .i64 1, .int .i64 3]] W fun e w' => ∃ v0_ : Value, e = .returned (.tuple #[v0_, .int .i64 171]) ∧ Kd.R k41 41 w' W.heap.size (fun _ => True) v0_ ([] : List S41) ∧ Below W.heap.size W w') := ⟨fun g W h => weather_Add.calls (some ⟨g, 0, none⟩) 2 [(⟨2, 0, 0, 0, 4, ⟨2, 9⟩, ⟨0, 2⟩⟩ : S41), (⟨5, 1, 0, 0, 4, ⟨5, 20⟩, ⟨1, 3⟩⟩ : S41)] 5 1 0 0 0 0 0 1 3 ([] : List S41) 171 W (C_flat (L := [(⟨2, 0, 0, 0, 4, ⟨2, 9⟩, ⟨0, 2⟩⟩ : S41), (⟨5, 1, 0, 0, 4, ⟨5, 20⟩, ⟨1, 3⟩⟩ : S41)]) h 2 (by decide) (by decide)) (by decide) (by kernel_rfl)⟩
  have C13 : Aside0 (∀ (g : Nat) W, W.heap[g]? = some (.cells #[.int .i64 0, .int .i64 0, .int .i64 0, .int .i64 0, .int .i64 0, .int .i64 0, .int .i64 0, .int .i64 (-1), .int .i64 0] 41 (0, 0)) → Calls Try.prog 28 #[.slice (some ⟨g, 0, none⟩) 1 1] W fun e w' => e = .returned (.int .i64 270) ∧ Below W.heap.size W w') := ⟨fun g W h => (chk_calls (some ⟨g, 0, none⟩) 1 [(⟨0, 0, 0, 0, 0, ⟨0, 0⟩, ⟨-1, 0⟩⟩ : S41)] W (C_flat (L := [(⟨0, 0, 0, 0, 0, ⟨0, 0⟩, ⟨-1, 0⟩⟩ : S41)]) h 1 (by decide) (by decide)) (by decide)).mono (fun e w' h => ⟨h.1.trans (by rfl), h.2⟩)⟩
  have HB : Aside0 (Below w.heap.size w w) := ⟨Below.refl _ _⟩
  go_enter Try.func25, Try.ntmps25
  go_wp2_with fail
  refine (C1.out _).mono ?_
  rintro e w1 ⟨rfl, hb⟩
  replace HB : Aside0 (Below w.heap.size w w1) := ⟨below_step HB.out hb⟩
  clear hb
  go_wp2_with fail
  refine (C2.out _).mono ?_
  rintro e w2 ⟨rfl, hb⟩
  have F1 : Aside0 (w2.heap[w1.heap.size]? = some (.cells #[.int .i64 0, .int .i64 200, .int .i64 0, .int .i64 40] 39 (0, 0))) := ⟨heap_below hb (heap_at_new _ _ _ rfl)⟩
  replace HB : Aside0 (Below w.heap.size w w2) := ⟨below_step (below_alloc HB.out _) hb⟩
  clear hb
  go_wp2_with fail
  refine (report_ 2 0 4 2 9 2 _ (by rw [wr_in (by decide)]; decide)).mono ?_
  rintro e w3 ⟨rfl, hb⟩
  replace F1 : Aside0 (w3.heap[w1.heap.size]? = some (.cells #[.int .i64 0, .int .i64 200, .int .i64 0, .int .i64 40] 39 (0, 0))) := ⟨heap_below hb (heap_at_old _ _ _ _ F1.out)⟩
  have F2 : Aside0 (w3.heap[w2.heap.size]? = some (.cells #[.int .i64 0, .int .i64 0, .int .i64 0, .int .i64 0] 39 (0, 0))) := ⟨heap_below hb (heap_at_new _ _ _ rfl)⟩
  replace HB : Aside0 (Below w.heap.size w w3) := ⟨below_step (below_alloc HB.out _) hb⟩
  clear hb
  go_wp2_with fail
  refine (report_ 5 1 4 5 20 3 _ (by rw [wr_in (by decide)]; decide)).mono ?_
  rintro e w4 ⟨rfl, hb⟩
  replace F1 : Aside0 (w4.heap[w1.heap.size]? = some (.cells #[.int .i64 0, .int .i64 200, .int .i64 0, .int .i64 40] 39 (0, 0))) := ⟨heap_below hb F1.out⟩
  replace F2 : Aside0 (w4.heap[w2.heap.size]? = some (.cells #[.int .i64 0, .int .i64 0, .int .i64 0, .int .i64 0] 39 (0, 0))) := ⟨heap_below hb F2.out⟩
  replace HB : Aside0 (Below w.heap.size w w4) := ⟨below_step HB.out hb⟩
  clear hb
  go_wp2_with fail
  refine (C4.out _ _ _ (by decide) (heap_at_new _ _ _ rfl)).mono ?_
  rintro e w5 ⟨rfl, hb⟩
  replace F1 : Aside0 (w5.heap[w1.heap.size]? = some (.cells #[.int .i64 0, .int .i64 200, .int .i64 0, .int .i64 40] 39 (0, 0))) := ⟨heap_below hb (heap_at_old _ _ _ _ F1.out)⟩
  replace F2 : Aside0 (w5.heap[w2.heap.size]? = some (.cells #[.int .i64 0, .int .i64 0, .int .i64 0, .int .i64 0] 39 (0, 0))) := ⟨heap_below hb (heap_at_old _ _ _ _ F2.out)⟩
  have FT : Aside0 (w5.heap[w4.heap.size]? = some (.cells #[.int .i64 2, .int .i64 0, .int .i64 0, .int .i64 0, .int .i64 4, .int .i64 2, .int .i64 9, .int .i64 0, .int .i64 2, .int .i64 5, .int .i64 1, .int .i64 0, .int .i64 0, .int .i64 4, .int .i64 5, .int .i64 20, .int .i64 1, .int .i64 3] 41 (0, 0))) := ⟨heap_below hb (heap_at_new _ _ _ rfl)⟩
  replace HB : Aside0 (Below w.heap.size w w5) := ⟨below_step (below_alloc HB.out _) hb⟩
  clear hb
  go_wp2_with fail
  refine (report_ 0 0 4 1 2 2 _ (by rw [wr_in (by decide)]; decide)).mono ?_
  rintro e w6 ⟨rfl, hb⟩
  replace F1 : Aside0 (w6.heap[w1.heap.size]? = some (.cells #[.int .i64 0, .int .i64 200, .int .i64 0, .int .i64 40] 39 (0, 0))) := ⟨heap_below hb (heap_at_old _ _ _ _ F1.out)⟩
  replace F2 : Aside0 (w6.heap[w2.heap.size]? = some (.cells #[.int .i64 0, .int .i64 0, .int .i64 0, .int .i64 0] 39 (0, 0))) := ⟨heap_below hb (heap_at_old _ _ _ _ F2.out)⟩
  replace FT : Aside0 (w6.heap[w4.heap.size]? = some (.cells #[.int .i64 2, .int .i64 0, .int .i64 0, .int .i64 0, .int .i64 4, .int .i64 2, .int .i64 9, .int .i64 0, .int .i64 2, .int .i64 5, .int .i64 1, .int .i64 0, .int .i64 0, .int .i64 4, .int .i64 5, .int .i64 20, .int .i64 1, .int .i64 3] 41 (0, 0))) := ⟨heap_below hb (heap_at_old _ _ _ _ FT.out)⟩
  have F4 : Aside0 (w6.heap[w5.heap.size]? = some (.cells #[.int .i64 5, .int .i64 9, .int .i64 1, .int .i64 2] 39 (0, 0))) := ⟨heap_below hb (heap_at_new _ _ _ rfl)⟩
  replace HB : Aside0 (Below w.heap.size w w6) := ⟨below_step (below_alloc HB.out _) hb⟩
  clear hb
  go_wp2_with fail
  refine (report_ 1 1 6 5 5 3 _ (by rw [wr_in (by decide)]; decide)).mono ?_
  rintro e w7 ⟨rfl, hb⟩
  replace F1 : Aside0 (w7.heap[w1.heap.size]? = some (.cells #[.int .i64 0, .int .i64 200, .int .i64 0, .int .i64 40] 39 (0, 0))) := ⟨heap_below hb F1.out⟩
  replace F2 : Aside0 (w7.heap[w2.heap.size]? = some (.cells #[.int .i64 0, .int .i64 0, .int .i64 0, .int .i64 0] 39 (0, 0))) := ⟨heap_below hb F2.out⟩
  replace FT : Aside0 (w7.heap[w4.heap.size]? = some (.cells #[.int .i64 2, .int .i64 0, .int .i64 0, .int .i64 0, .int .i64 4, .int .i64 2, .int .i64 9, .int .i64 0, .int .i64 2, .int .i64 5, .int .i64 1, .int .i64 0, .int .i64 0, .int .i64 4, .int .i64 5, .int .i64 20, .int .i64 1, .int .i64 3] 41 (0, 0))) := ⟨heap_below hb FT.out⟩
  replace F4 : Aside0 (w7.heap[w5.heap.size]? = some (.cells #[.int .i64 5, .int .i64 9, .int .i64 1, .int .i64 2] 39 (0, 0))) := ⟨heap_below hb F4.out⟩
  replace HB : Aside0 (Below w.heap.size w w7) := ⟨below_step HB.out hb⟩
  clear hb
  go_wp2_with fail
  refine (report_ 7 0 6 3 4 2 _ (by rw [wr_in (by decide)]; decide)).mono ?_
  rintro e w8 ⟨rfl, hb⟩
  replace F1 : Aside0 (w8.heap[w1.heap.size]? = some (.cells #[.int .i64 0, .int .i64 200, .int .i64 0, .int .i64 40] 39 (0, 0))) := ⟨heap_below hb F1.out⟩
  replace F2 : Aside0 (w8.heap[w2.heap.size]? = some (.cells #[.int .i64 0, .int .i64 0, .int .i64 0, .int .i64 0] 39 (0, 0))) := ⟨heap_below hb F2.out⟩
  replace FT : Aside0 (w8.heap[w4.heap.size]? = some (.cells #[.int .i64 2, .int .i64 0, .int .i64 0, .int .i64 0, .int .i64 4, .int .i64 2, .int .i64 9, .int .i64 0, .int .i64 2, .int .i64 5, .int .i64 1, .int .i64 0, .int .i64 0, .int .i64 4, .int .i64 5, .int .i64 20, .int .i64 1, .int .i64 3] 41 (0, 0))) := ⟨heap_below hb FT.out⟩
  replace F4 : Aside0 (w8.heap[w5.heap.size]? = some (.cells #[.int .i64 5, .int .i64 9, .int .i64 1, .int .i64 2] 39 (0, 0))) := ⟨heap_below hb F4.out⟩
  replace HB : Aside0 (Below w.heap.size w w8) := ⟨below_step HB.out hb⟩
  clear hb
  go_wp2_with fail
  refine (C6.out _ _ _ (by decide) (heap_at_new _ _ _ rfl)).mono ?_
  rintro e w9 ⟨rfl, hb⟩
  replace F1 : Aside0 (w9.heap[w1.heap.size]? = some (.cells #[.int .i64 0, .int .i64 200, .int .i64 0, .int .i64 40] 39 (0, 0))) := ⟨heap_below hb (heap_at_old _ _ _ _ F1.out)⟩
  replace F2 : Aside0 (w9.heap[w2.heap.size]? = some (.cells #[.int .i64 0, .int .i64 0, .int .i64 0, .int .i64 0] 39 (0, 0))) := ⟨heap_below hb (heap_at_old _ _ _ _ F2.out)⟩
  replace FT : Aside0 (w9.heap[w4.heap.size]? = some (.cells #[.int .i64 2, .int .i64 0, .int .i64 0, .int .i64 0, .int .i64 4, .int .i64 2, .int .i64 9, .int .i64 0, .int .i64 2, .int .i64 5, .int .i64 1, .int .i64 0, .int .i64 0, .int .i64 4, .int .i64 5, .int .i64 20, .int .i64 1, .int .i64 3] 41 (0, 0))) := ⟨heap_below hb (heap_at_old _ _ _ _ FT.out)⟩
  replace F4 : Aside0 (w9.heap[w5.heap.size]? = some (.cells #[.int .i64 5, .int .i64 9, .int .i64 1, .int .i64 2] 39 (0, 0))) := ⟨heap_below hb (heap_at_old _ _ _ _ F4.out)⟩
  have FA : Aside0 (w9.heap[w8.heap.size]? = some (.cells #[.int .i64 0, .int .i64 0, .int .i64 0, .int .i64 0, .int .i64 4, .int .i64 1, .int .i64 2, .int .i64 0, .int .i64 2, .int .i64 1, .int .i64 1, .int .i64 0, .int .i64 0, .int .i64 6, .int .i64 5, .int .i64 5, .int .i64 1, .int .i64 3, .int .i64 7, .int .i64 0, .int .i64 0, .int .i64 0, .int .i64 6, .int .i64 3, .int .i64 4, .int .i64 0, .int .i64 2] 41 (0, 0))) := ⟨heap_below hb (heap_at_new _ _ _ rfl)⟩
  replace HB : Aside0 (Below w.heap.size w w9) := ⟨below_step (below_alloc HB.out _) hb⟩
  clear hb
  go_wp2_with fail
  refine (C7.out _ _ _ (by decide) (heap_at_old _ _ _ _ FA.out)).mono ?_
  rintro e w10 ⟨rfl, hb⟩
  replace F1 : Aside0 (w10.heap[w1.heap.size]? = some (.cells #[.int .i64 0, .int .i64 200, .int .i64 0, .int .i64 40] 39 (0, 0))) := ⟨heap_below hb (heap_at_old _ _ _ _ F1.out)⟩
  replace F2 : Aside0 (w10.heap[w2.heap.size]? = some (.cells #[.int .i64 0, .int .i64 0, .int .i64 0, .int .i64 0] 39 (0, 0))) := ⟨heap_below hb (heap_at_old _ _ _ _ F2.out)⟩
  replace FT : Aside0 (w10.heap[w4.heap.size]? = some (.cells #[.int .i64 2, .int .i64 0, .int .i64 0, .int .i64 0, .int .i64 4, .int .i64 2, .int .i64 9, .int .i64 0, .int .i64 2, .int .i64 5, .int .i64 1, .int .i64 0, .int .i64 0, .int .i64 4, .int .i64 5, .int .i64 20, .int .i64 1, .int .i64 3] 41 (0, 0))) := ⟨heap_below hb (heap_at_old _ _ _ _ FT.out)⟩
  replace F4 : Aside0 (w10.heap[w5.heap.size]? = some (.cells #[.int .i64 5, .int .i64 9, .int .i64 1, .int .i64 2] 39 (0, 0))) := ⟨heap_below hb (heap_at_old _ _ _ _ F4.out)⟩
  replace FA : Aside0 (w10.heap[w8.heap.size]? = some (.cells #[.int .i64 0, .int .i64 0, .int .i64 0, .int .i64 0, .int .i64 4, .int .i64 1, .int .i64 2, .int .i64 0, .int .i64 2, .int .i64 1, .int .i64 1, .int .i64 0, .int .i64 0, .int .i64 6, .int .i64 5, .int .i64 5, .int .i64 1, .int .i64 3, .int .i64 7, .int .i64 0, .int .i64 0, .int .i64 0, .int .i64 6, .int .i64 3, .int .i64 4, .int .i64 0, .int .i64 2] 41 (0, 0))) := ⟨heap_below hb (heap_at_old _ _ _ _ FA.out)⟩
  have F6 : Aside0 (w10.heap[w9.heap.size]? = some (.cells #[.int .i64 1, .int .i64 5, .int .i64 1, .int .i64 2] 39 (0, 0))) := ⟨heap_below hb (heap_at_new _ _ _ rfl)⟩
  replace HB : Aside0 (Below w.heap.size w w10) := ⟨below_step (below_alloc HB.out _) hb⟩
  clear hb
  go_wp2_with fail
  refine (C8.out _ _ _ (by decide) (heap_at_old _ _ _ _ FA.out)).mono ?_
  rintro e w11 ⟨rfl, hb⟩
  replace F1 : Aside0 (w11.heap[w1.heap.size]? = some (.cells #[.int .i64 0, .int .i64 200, .int .i64 0, .int .i64 40] 39 (0, 0))) := ⟨heap_below hb (heap_at_old _ _ _ _ F1.out)⟩
  replace F2 : Aside0 (w11.heap[w2.heap.size]? = some (.cells #[.int .i64 0, .int .i64 0, .int .i64 0, .int .i64 0] 39 (0, 0))) := ⟨heap_below hb (heap_at_old _ _ _ _ F2.out)⟩
  replace FT : Aside0 (w11.heap[w4.heap.size]? = some (.cells #[.int .i64 2, .int .i64 0, .int .i64 0, .int .i64 0, .int .i64 4, .int .i64 2, .int .i64 9, .int .i64 0, .int .i64 2, .int .i64 5, .int .i64 1, .int .i64 0, .int .i64 0, .int .i64 4, .int .i64 5, .int .i64 20, .int .i64 1, .int .i64 3] 41 (0, 0))) := ⟨heap_below hb (heap_at_old _ _ _ _ FT.out)⟩
  replace F4 : Aside0 (w11.heap[w5.heap.size]? = some (.cells #[.int .i64 5, .int .i64 9, .int .i64 1, .int .i64 2] 39 (0, 0))) := ⟨heap_below hb (heap_at_old _ _ _ _ F4.out)⟩
  replace FA : Aside0 (w11.heap[w8.heap.size]? = some (.cells #[.int .i64 0, .int .i64 0, .int .i64 0, .int .i64 0, .int .i64 4, .int .i64 1, .int .i64 2, .int .i64 0, .int .i64 2, .int .i64 1, .int .i64 1, .int .i64 0, .int .i64 0, .int .i64 6, .int .i64 5, .int .i64 5, .int .i64 1, .int .i64 3, .int .i64 7, .int .i64 0, .int .i64 0, .int .i64 0, .int .i64 6, .int .i64 3, .int .i64 4, .int .i64 0, .int .i64 2] 41 (0, 0))) := ⟨heap_below hb (heap_at_old _ _ _ _ FA.out)⟩
  replace F6 : Aside0 (w11.heap[w9.heap.size]? = some (.cells #[.int .i64 1, .int .i64 5, .int .i64 1, .int .i64 2] 39 (0, 0))) := ⟨heap_below hb (heap_at_old _ _ _ _ F6.out)⟩
  have F7 : Aside0 (w11.heap[w10.heap.size]? = some (.cells #[.int .i64 1, .int .i64 2, .int .i64 0, .int .i64 2] 39 (0, 0))) := ⟨heap_below hb (heap_at_new _ _ _ rfl)⟩
  replace HB : Aside0 (Below w.heap.size w w11) := ⟨below_step (below_alloc HB.out _) hb⟩
  clear hb
  go_wp2_with fail
  refine (report_ 3 1 0 0 0 3 _ (by rw [wr_in (by decide)]; decide)).mono ?_
  rintro e w12 ⟨rfl, hb⟩
  replace F1 : Aside0 (w12.heap[w1.heap.size]? = some (.cells #[.int .i64 0, .int .i64 200, .int .i64 0, .int .i64 40] 39 (0, 0))) := ⟨heap_below hb (heap_at_old _ _ _ _ F1.out)⟩
  replace F2 : Aside0 (w12.heap[w2.heap.size]? = some (.cells #[.int .i64 0, .int .i64 0, .int .i64 0, .int .i64 0] 39 (0, 0))) := ⟨heap_below hb (heap_at_old _ _ _ _ F2.out)⟩
  replace FT : Aside0 (w12.heap[w4.heap.size]? = some (.cells #[.int .i64 2, .int .i64 0, .int .i64 0, .int .i64 0, .int .i64 4, .int .i64 2, .int .i64 9, .int .i64 0, .int .i64 2, .int .i64 5, .int .i64 1, .int .i64 0, .int .i64 0, .int .i64 4, .int .i64 5, .int .i64 20, .int .i64 1, .int .i64 3] 41 (0, 0))) := ⟨heap_below hb (heap_at_old _ _ _ _ FT.out)⟩
  replace F4 : Aside0 (w12.heap[w5.heap.size]? = some (.cells #[.int .i64 5, .int .i64 9, .int .i64 1, .int .i64 2] 39 (0, 0))) := ⟨heap_below hb (heap_at_old _ _ _ _ F4.out)⟩
  replace FA : Aside0 (w12.heap[w8.heap.size]? = some (.cells #[.int .i64 0, .int .i64 0, .int .i64 0, .int .i64 0, .int .i64 4, .int .i64 1, .int .i64 2, .int .i64 0, .int .i64 2, .int .i64 1, .int .i64 1, .int .i64 0, .int .i64 0, .int .i64 6, .int .i64 5, .int .i64 5, .int .i64 1, .int .i64 3, .int .i64 7, .int .i64 0, .int .i64 0, .int .i64 0, .int .i64 6, .int .i64 3, .int .i64 4, .int .i64 0, .int .i64 2] 41 (0, 0))) := ⟨heap_below hb (heap_at_old _ _ _ _ FA.out)⟩
  replace F6 : Aside0 (w12.heap[w9.heap.size]? = some (.cells #[.int .i64 1, .int .i64 5, .int .i64 1, .int .i64 2] 39 (0, 0))) := ⟨heap_below hb (heap_at_old _ _ _ _ F6.out)⟩
  replace F7 : Aside0 (w12.heap[w10.heap.size]? = some (.cells #[.int .i64 1, .int .i64 2, .int .i64 0, .int .i64 2] 39 (0, 0))) := ⟨heap_below hb (heap_at_old _ _ _ _ F7.out)⟩
  have F8 : Aside0 (w12.heap[w11.heap.size]? = some (.cells #[.int .i64 3, .int .i64 5, .int .i64 1, .int .i64 2] 39 (0, 0))) := ⟨heap_below hb (heap_at_new _ _ _ rfl)⟩
  replace HB : Aside0 (Below w.heap.size w w12) := ⟨below_step (below_alloc HB.out _) hb⟩
  clear hb
  go_wp2_with fail
  refine (C9.out _ _ FT.out).mono ?_
  rintro e w13 ⟨v13, rfl, hR13, hb⟩
  replace F1 : Aside0 (w13.heap[w1.heap.size]? = some (.cells #[.int .i64 0, .int .i64 200, .int .i64 0, .int .i64 40] 39 (0, 0))) := ⟨heap_below hb F1.out⟩
  replace F2 : Aside0 (w13.heap[w2.heap.size]? = some (.cells #[.int .i64 0, .int .i64 0, .int .i64 0, .int .i64 0] 39 (0, 0))) := ⟨heap_below hb F2.out⟩
  replace FT : Aside0 (w13.heap[w4.heap.size]? = some (.cells #[.int .i64 2, .int .i64 0, .int .i64 0, .int .i64 0, .int .i64 4, .int .i64 2, .int .i64 9, .int .i64 0, .int .i64 2, .int .i64 5, .int .i64 1, .int .i64 0, .int .i64 0, .int .i64 4, .int .i64 5, .int .i64 20, .int .i64 1, .int .i64 3] 41 (0, 0))) := ⟨heap_below hb FT.out⟩
  replace F4 : Aside0 (w13.heap[w5.heap.size]? = some (.cells #[.int .i64 5, .int .i64 9, .int .i64 1, .int .i64 2] 39 (0, 0))) := ⟨heap_below hb F4.out⟩
  replace FA : Aside0 (w13.heap[w8.heap.size]? = some (.cells #[.int .i64 0, .int .i64 0, .int .i64 0, .int .i64 0, .int .i64 4, .int .i64 1, .int .i64 2, .int .i64 0, .int .i64 2, .int .i64 1, .int .i64 1, .int .i64 0, .int .i64 0, .int .i64 6, .int .i64 5, .int .i64 5, .int .i64 1, .int .i64 3, .int .i64 7, .int .i64 0, .int .i64 0, .int .i64 0, .int .i64 6, .int .i64 3, .int .i64 4, .int .i64 0, .int .i64 2] 41 (0, 0))) := ⟨heap_below hb FA.out⟩
  replace F6 : Aside0 (w13.heap[w9.heap.size]? = some (.cells #[.int .i64 1, .int .i64 5, .int .i64 1, .int .i64 2] 39 (0, 0))) := ⟨heap_below hb F6.out⟩
  replace F7 : Aside0 (w13.heap[w10.heap.size]? = some (.cells #[.int .i64 1, .int .i64 2, .int .i64 0, .int .i64 2] 39 (0, 0))) := ⟨heap_below hb F7.out⟩
  replace F8 : Aside0 (w13.heap[w11.heap.size]? = some (.cells #[.int .i64 3, .int .i64 5, .int .i64 1, .int .i64 2] 39 (0, 0))) := ⟨heap_below hb F8.out⟩
  replace HB : Aside0 (Below w.heap.size w w13) := ⟨below_step HB.out hb⟩
  clear hb
  obtain ⟨A13, c13, rfl, hc13, hC13_⟩ := Kd.R_reads hR13
  obtain ⟨ad, rfl, q0_, _⟩ := at_T41 hC13_ 1 (by decide) (by decide)
  obtain ⟨g13, rfl⟩ : ∃ g, ad = ⟨g, 0, none⟩ := by
    obtain ⟨_, inner, ho, _⟩ := hR13
    rcases ho.2 with ⟨hv, _⟩ | ⟨g, cap, cur, hv, _⟩
    · cases hv
    · injection hv with ha _ _
      exact ⟨g, Option.some.inj ha⟩
  have HQ : Aside0 (w13.cell? ⟨g13, 9, none⟩ = some (.int .i64 3)) := ⟨by rw [Addr.add_lit] at q0_; exact q0_⟩
  have HQb : Aside0 (g13 < w13.heap.size) := ⟨World.block_lt_of_cell? w13 _ HQ.out⟩
  clear hR13 hC13_ q0_
  simp only [List.length_cons, List.length_nil, Nat.reduceAdd]
  go_wp2_with fail
  refine (report_ 5 1 0 0 0 3 _ (by rw [wr_in (by decide)]; decide)).mono ?_
  rintro e w14 ⟨rfl, hb⟩
  replace F1 : Aside0 (w14.heap[w1.heap.size]? = some (.cells #[.int .i64 0, .int .i64 200, .int .i64 0, .int .i64 40] 39 (0, 0))) := ⟨heap_below hb F1.out⟩
  replace F2 : Aside0 (w14.heap[w2.heap.size]? = some (.cells #[.int .i64 0, .int .i64 0, .int .i64 0, .int .i64 0] 39 (0, 0))) := ⟨heap_below hb F2.out⟩
  replace FT : Aside0 (w14.heap[w4.heap.size]? = some (.cells #[.int .i64 2, .int .i64 0, .int .i64 0, .int .i64 0, .int .i64 4, .int .i64 2, .int .i64 9, .int .i64 0, .int .i64 2, .int .i64 5, .int .i64 1, .int .i64 0, .int .i64 0, .int .i64 4, .int .i64 5, .int .i64 20, .int .i64 1, .int .i64 3] 41 (0, 0))) := ⟨heap_below hb FT.out⟩
  replace F4 : Aside0 (w14.heap[w5.heap.size]? = some (.cells #[.int .i64 5, .int .i64 9, .int .i64 1, .int .i64 2] 39 (0, 0))) := ⟨heap_below hb F4.out⟩
  replace FA : Aside0 (w14.heap[w8.heap.size]? = some (.cells #[.int .i64 0, .int .i64 0, .int .i64 0, .int .i64 0, .int .i64 4, .int .i64 1, .int .i64 2, .int .i64 0, .int .i64 2, .int .i64 1, .int .i64 1, .int .i64 0, .int .i64 0, .int .i64 6, .int .i64 5, .int .i64 5, .int .i64 1, .int .i64 3, .int .i64 7, .int .i64 0, .int .i64 0, .int .i64 0, .int .i64 6, .int .i64 3, .int .i64 4, .int .i64 0, .int .i64 2] 41 (0, 0))) := ⟨heap_below hb FA.out⟩
  replace F6 : Aside0 (w14.heap[w9.heap.size]? = some (.cells #[.int .i64 1, .int .i64 5, .int .i64 1, .int .i64 2] 39 (0, 0))) := ⟨heap_below hb F6.out⟩
  replace F7 : Aside0 (w14.heap[w10.heap.size]? = some (.cells #[.int .i64 1, .int .i64 2, .int .i64 0, .int .i64 2] 39 (0, 0))) := ⟨heap_below hb F7.out⟩
  replace F8 : Aside0 (w14.heap[w11.heap.size]? = some (.cells #[.int .i64 3, .int .i64 5, .int .i64 1, .int .i64 2] 39 (0, 0))) := ⟨heap_below hb F8.out⟩
  replace HQ : Aside0 (w14.cell? ⟨g13, 9, none⟩ = some (.int .i64 3)) := ⟨(hb.cell HQb.out).trans HQ.out⟩
  replace HQb : Aside0 (g13 < w14.heap.size) := ⟨Nat.lt_of_lt_of_le HQb.out hb.size⟩
  replace HB : Aside0 (Below w.heap.size w w14) := ⟨below_step HB.out hb⟩
  clear hb
  go_wp2_with fail
  refine (C10.out _ _ FT.out).mono ?_
  rintro e w15 ⟨v15, rfl, hR15, hb⟩
  replace F1 : Aside0 (w15.heap[w1.heap.size]? = some (.cells #[.int .i64 0, .int .i64 200, .int .i64 0, .int .i64 40] 39 (0, 0))) := ⟨heap_below hb F1.out⟩
  replace F2 : Aside0 (w15.heap[w2.heap.size]? = some (.cells #[.int .i64 0, .int .i64 0, .int .i64 0, .int .i64 0] 39 (0, 0))) := ⟨heap_below hb F2.out⟩
  replace FT : Aside0 (w15.heap[w4.heap.size]? = some (.cells #[.int .i64 2, .int .i64 0, .int .i64 0, .int .i64 0, .int .i64 4, .int .i64 2, .int .i64 9, .int .i64 0, .int .i64 2, .int .i64 5, .int .i64 1, .int .i64 0, .int .i64 0, .int .i64 4, .int .i64 5, .int .i64 20, .int .i64 1, .int .i64 3] 41 (0, 0))) := ⟨heap_below hb FT.out⟩
  replace F4 : Aside0 (w15.heap[w5.heap.size]? = some (.cells #[.int .i64 5, .int .i64 9, .int .i64 1, .int .i64 2] 39 (0, 0))) := ⟨heap_below hb F4.out⟩
  replace FA : Aside0 (w15.heap[w8.heap.size]? = some (.cells #[.int .i64 0, .int .i64 0, .int .i64 0, .int .i64 0, .int .i64 4, .int .i64 1, .int .i64 2, .int .i64 0, .int .i64 2, .int .i64 1, .int .i64 1, .int .i64 0, .int .i64 0, .int .i64 6, .int .i64 5, .int .i64 5, .int .i64 1, .int .i64 3, .int .i64 7, .int .i64 0, .int .i64 0, .int .i64 0, .int .i64 6, .int .i64 3, .int .i64 4, .int .i64 0, .int .i64 2] 41 (0, 0))) := ⟨heap_below hb FA.out⟩
  replace F6 : Aside0 (w15.heap[w9.heap.size]? = some (.cells #[.int .i64 1, .int .i64 5, .int .i64 1, .int .i64 2] 39 (0, 0))) := ⟨heap_below hb F6.out⟩
  replace F7 : Aside0 (w15.heap[w10.heap.size]? = some (.cells #[.int .i64 1, .int .i64 2, .int .i64 0, .int .i64 2] 39 (0, 0))) := ⟨heap_below hb F7.out⟩
  replace F8 : Aside0 (w15.heap[w11.heap.size]? = some (.cells #[.int .i64 3, .int .i64 5, .int .i64 1, .int .i64 2] 39 (0, 0))) := ⟨heap_below hb F8.out⟩
  replace HQ : Aside0 (w15.cell? ⟨g13, 9, none⟩ = some (.int .i64 3)) := ⟨(hb.cell HQb.out).trans HQ.out⟩
  replace HQb : Aside0 (g13 < w15.heap.size) := ⟨Nat.lt_of_lt_of_le HQb.out hb.size⟩
  replace HB : Aside0 (Below w.heap.size w w15) := ⟨below_step HB.out hb⟩
  clear hb
  clear hR15
  go_wp2_with fail
  refine (report_ 0 0 0 0 0 2 _ (by rw [wr_in (by decide)]; decide)).mono ?_
  rintro e w16 ⟨rfl, hb⟩
  replace F1 : Aside0 (w16.heap[w1.heap.size]? = some (.cells #[.int .i64 0, .int .i64 200, .int .i64 0, .int .i64 40] 39 (0, 0))) := ⟨heap_below hb F1.out⟩
  replace F2 : Aside0 (w16.heap[w2.heap.size]? = some (.cells #[.int .i64 0, .int .i64 0, .int .i64 0, .int .i64 0] 39 (0, 0))) := ⟨heap_below hb F2.out⟩
  replace FT : Aside0 (w16.heap[w4.heap.size]? = some (.cells #[.int .i64 2, .int .i64 0, .int .i64 0, .int .i64 0, .int .i64 4, .int .i64 2, .int .i64 9, .int .i64 0, .int .i64 2, .int .i64 5, .int .i64 1, .int .i64 0, .int .i64 0, .int .i64 4, .int .i64 5, .int .i64 20, .int .i64 1, .int .i64 3] 41 (0, 0))) := ⟨heap_below hb FT.out⟩
  replace F4 : Aside0 (w16.heap[w5.heap.size]? = some (.cells #[.int .i64 5, .int .i64 9, .int .i64 1, .int .i64 2] 39 (0, 0))) := ⟨heap_below hb F4.out⟩
  replace FA : Aside0 (w16.heap[w8.heap.size]? = some (.cells #[.int .i64 0, .int .i64 0, .int .i64 0, .int .i64 0, .int .i64 4, .int .i64 1, .int .i64 2, .int .i64 0, .int .i64 2, .int .i64 1, .int .i64 1, .int .i64 0, .int .i64 0, .int .i64 6, .int .i64 5, .int .i64 5, .int .i64 1, .int .i64 3, .int .i64 7, .int .i64 0, .int .i64 0, .int .i64 0, .int .i64 6, .int .i64 3, .int .i64 4, .int .i64 0, .int .i64 2] 41 (0, 0))) := ⟨heap_below hb FA.out⟩
  replace F6 : Aside0 (w16.heap[w9.heap.size]? = some (.cells #[.int .i64 1, .int .i64 5, .int .i64 1, .int .i64 2] 39 (0, 0))) := ⟨heap_below hb F6.out⟩
  replace F7 : Aside0 (w16.heap[w10.heap.size]? = some (.cells #[.int .i64 1, .int .i64 2, .int .i64 0, .int .i64 2] 39 (0, 0))) := ⟨heap_below hb F7.out⟩
  replace F8 : Aside0 (w16.heap[w11.heap.size]? = some (.cells #[.int .i64 3, .int .i64 5, .int .i64 1, .int .i64 2] 39 (0, 0))) := ⟨heap_below hb F8.out⟩
  replace HQ : Aside0 (w16.cell? ⟨g13, 9, none⟩ = some (.int .i64 3)) := ⟨(hb.cell HQb.out).trans HQ.out⟩
  replace HQb : Aside0 (g13 < w16.heap.size) := ⟨Nat.lt_of_lt_of_le HQb.out hb.size⟩
  replace HB : Aside0 (Below w.heap.size w w16) := ⟨below_step HB.out hb⟩
  clear hb
  go_wp2_with fail
  refine (C13.out _ _ (heap_at_new _ _ _ (by simp))).mono ?_
  rintro e w17 ⟨rfl, hb⟩
  have hb' := below_step (below_alloc (below_alloc (Below.refl w16.heap.size w16) _) _) hb
  clear hb
  replace HB : Aside0 (Below w.heap.size w w17) := ⟨below_step HB.out hb'⟩
  have q0 := (hb'.cell HQb.out).trans HQ.out
  have a := heap_below hb' F1.out
  have a0 := (blk_cell a 0).trans rfl
  have a1 := (blk_cell a 1).trans rfl
  have a2 := (blk_cell a 2).trans rfl
  have a3 := (blk_cell a 3).trans rfl
  clear a
  have b := heap_below hb' F4.out
  have b0 := (blk_cell b 0).trans rfl
  have b1 := (blk_cell b 1).trans rfl
  have b2 := (blk_cell b 2).trans rfl
  have b3 := (blk_cell b 3).trans rfl
  clear b
  have c := heap_below hb' F6.out
  have c0 := (blk_cell c 0).trans rfl
  have c1 := (blk_cell c 1).trans rfl
  have c2 := (blk_cell c 2).trans rfl
  have c3 := (blk_cell c 3).trans rfl
  clear c
  have d := heap_below hb' F7.out
  have d0 := (blk_cell d 0).trans rfl
  have d1 := (blk_cell d 1).trans rfl
  have d2 := (blk_cell d 2).trans rfl
  have d3 := (blk_cell d 3).trans rfl
  clear d
  have e := heap_below hb' F8.out
  have e0 := (blk_cell e 0).trans rfl
  have e1 := (blk_cell e 1).trans rfl
  have e2 := (blk_cell e 2).trans rfl
  have e3 := (blk_cell e 3).trans rfl
  clear e
  clear hb' HQ HQb C1 C2 C4 C6 C7 C8 C9 C10 C13 F1 F2 FT F4 FA F6 F7 F8
  go_upto_region 17 with fail
  go_wp2
  go_ret
  exact ⟨rfl, HB.out⟩
end Go.Proofs.Ythfhjcbgccnijaa.Q
