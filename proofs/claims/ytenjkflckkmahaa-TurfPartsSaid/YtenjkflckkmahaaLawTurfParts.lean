/- The row of the law TurfParts: for every input the call returns true and leaves its arguments as they were. No condition but the form's own. -/
import Derived.Test.YtenjkflckkmahaaRows
import Derived.Test.YtenjkflckkmahaaSayTurfParts
import Derived.Test.YtenjkflckkmahaaPureTurfParts
import Derived.WalkKit
import Derived.ProofKit
import Derived.OpenShut
import Derived.ShutString
import Derived.ChangeOld
import Derived.Below
import Derived.SizedLaws
namespace Go.Proofs.Ytenjkflckkmahaa.turfParts
open Go.ChangeShapes Go.WideShapes Go.ChangeAt Go.RowKit Go.Proofs.Ytenjkflckkmahaa.Q Go.Proofs.Ytenjkflckkmahaa.Opn Go.Proofs.YtenjkflckkmahaaW.PrintWords Go.Proofs.YtenjkflckkmahaaW.PrintLast
open Go.ChangeMaps (open_string shut_string)
set_option linter.unusedVariables false
theorem own : ownKnob Try.prog.godebug = none := by kernel_rfl
theorem laidOut : laidOutB Try.prog = true := by kernel_rfl
set_option maxRecDepth 100000 in
theorem lifted (os : Os) (started : os.Started) (H : Type) (enc : TypeId × Value → H) :
    ReturnsInHanded {} Try.checked os 13 .any (Rows.turfPartsSpec.pre6 enc Try.prog Try.f13 Rows.turfPartsRow.domain false) (Rows.turfPartsSpec.post enc Try.prog Try.f13 false true false false) := by
  refine returnsInHanded_of_change_sized (C := Try.checked) own started (by kernel_rfl) Try.func13
    (ChangeSpec.witness6 (enc := enc) (C := Try.checked) false ⟨#[], #[.agg #[(.string ⟨#[]⟩), (.string ⟨#[]⟩), (.int .i64 0), (.int .i64 0), (.int .i64 0), (.int .i64 0), (.int .i64 0)], .agg #[(.int .i64 0), (.int .i64 0)], .slice none 0 0, .slice none 0 0, .int .u16 0], []⟩ 8 (by kernel_rfl) (by kernel_rfl) (by kernel_rfl) (by kernel_rfl)) ?_
  intro W base args ds gs before hval0 hW hcnd hsz0 _
  have hsz : (DataW.weightsEach Try.prog (Try.f13.params.toList ++ Rows.turfPartsSpec.plain.varTypes Try.prog) (ds ++ gs)).all (· ≤ reachBytes) = true := hsz0
  have hval : ∀ (j : Nat) t v, Try.f13.params[j]? = some t → args[j]? = some v → Value.okWide Try.prog W .any base t v := hval0
  have hW' := hW
  obtain ⟨p, q, hA0, hV, rfl, hfz, hnd⟩ := hW
  have hA : DataW.TrodAll enc Try.prog W 0 (fun _ => true) true Try.f13.params.toList args.toList ds p := hA0
  rw [Try.params13] at hA hval hsz
  obtain ⟨v0, vs0, d0, ds0, p0, q0, hargs, rfl, rfl, h0, r0⟩ := trodAll_cons hA
  obtain ⟨v1, vs1, d1, ds1, p1, q1, rfl, rfl, rfl, h1, r1⟩ := trodAll_cons r0
  obtain ⟨v2, vs2, d2, ds2, p2, q2, rfl, rfl, rfl, h2, r2⟩ := trodAll_cons r1
  obtain ⟨v3, vs3, d3, ds3, p3, q3, rfl, rfl, rfl, h3, r3⟩ := trodAll_cons r2
  obtain ⟨v4, vs4, d4, ds4, p4, q4, rfl, rfl, rfl, h4, r4⟩ := trodAll_cons r3
  obtain ⟨rfl, rfl, rfl⟩ := trodAll_nil r4
  obtain rfl : args = #[v0, v1, v2, v3, v4] := by cases args; simp_all
  obtain ⟨rfl, rfl⟩ := trodVars_none hV
  have k0 := h0
  have lt0 : ∀ x ∈ p0, x.block < W.heap.size := by obtain ⟨m, hm⟩ := k0; exact DataW.trod_lt m _ _ _ hm
  obtain ⟨x0, hK0, hB0⟩ : ∃ a_ : S25, (k25).K W a_ v0.cells.toList ∧ B25 a_ := arg (j := 0) opn25 hsz rfl rfl h0
  obtain ⟨cs0, rfl, _⟩ := okWide_struct Try.underlying25 (hval 0 25 v0 rfl rfl)
  have ho0 := k25_open hK0
  have he0 := ho0
  obtain rfl := agg_of he0
  have k1 := h1
  have lt1 : ∀ x ∈ p1, x.block < W.heap.size := by obtain ⟨m, hm⟩ := k1; exact DataW.trod_lt m _ _ _ hm
  obtain ⟨x1, hK1, hB1⟩ : ∃ a_ : S27, (k27).K W a_ v1.cells.toList ∧ B27 a_ := arg (j := 1) opn27 hsz rfl rfl h1
  obtain ⟨cs1, rfl, _⟩ := okWide_struct Try.underlying27 (hval 1 27 v1 rfl rfl)
  have ho1 := k27_open hK1
  have he1 := ho1
  obtain rfl := agg_of he1
  have k2 := h2
  have lt2 : ∀ x ∈ p2, x.block < W.heap.size := by obtain ⟨m, hm⟩ := k2; exact DataW.trod_lt m _ _ _ hm
  obtain ⟨l2, hK2, hB2⟩ : ∃ a_ : List (S44), (Kd.slice 44 k44).K W a_ v2.cells.toList ∧ (fun l_ : List (S44) => l_.length * 32 ≤ 140737488351232 ∧ ∀ a, a ∈ l_ → B44 a) a_ := arg (j := 2) (opn_slice (sz := 4) Try.underlying49 (by kernel_rfl) rfl (by kernel_rfl) opn44) hsz rfl rfl h2
  obtain ⟨a2, len2, cap2, rfl⟩ := okWide_slice Try.underlying49 (hval 2 49 v2 rfl rfl)
  obtain ⟨A2, c2, he2, hc2, hr2⟩ := hK2
  obtain ⟨rfl, rfl, rfl⟩ : a2 = A2 ∧ len2 = l2.length ∧ cap2 = c2 := by have := List.cons.inj he2; simpa using this
  have k3 := h3
  have lt3 : ∀ x ∈ p3, x.block < W.heap.size := by obtain ⟨m, hm⟩ := k3; exact DataW.trod_lt m _ _ _ hm
  obtain ⟨l3, hK3, hB3⟩ : ∃ a_ : List Int, (Kd.slice 3 (Kd.int .i64)).K W a_ v3.cells.toList ∧ (fun l_ : List Int => l_.length * 8 ≤ 140737488351232 ∧ ∀ a, a ∈ l_ → (fun a_ : Int => (Lit.int .i64 a_).wf = true) a) a_ := arg (j := 3) (opn_slice (sz := 1) Try.underlying50 (by kernel_rfl) rfl (by kernel_rfl) (opn_int Try.underlying3)) hsz rfl rfl h3
  obtain ⟨a3, len3, cap3, rfl⟩ := okWide_slice Try.underlying50 (hval 3 50 v3 rfl rfl)
  obtain ⟨A3, c3, he3, hc3, hr3⟩ := hK3
  obtain ⟨rfl, rfl, rfl⟩ : a3 = A3 ∧ len3 = l3.length ∧ cap3 = c3 := by have := List.cons.inj he3; simpa using this
  have k4 := h4
  have lt4 : ∀ x ∈ p4, x.block < W.heap.size := by obtain ⟨m, hm⟩ := k4; exact DataW.trod_lt m _ _ _ hm
  obtain ⟨a4, hK4, hB4⟩ : ∃ a_ : Int, ((Kd.int .u16)).K W a_ v4.cells.toList ∧ (fun a_ : Int => (Lit.int .u16 a_).wf = true) a_ := arg (j := 4) (opn_int Try.underlying39) hsz rfl rfl h4
  obtain ⟨b4, rfl⟩ := okWide_int Try.underlying39 (hval 4 39 v4 rfl rfl)
  obtain rfl : b4 = a4 := by have := List.cons.inj (show [_] = [_] from hK4); simpa using this
  clear hA0 hval0 hsz0 hsz
  obtain ⟨k, h⟩ := Pure.TurfParts x0 x1 l2 l3 b4 hB0 hB1 hB2 hB3 hB4
  refine (fastilaw28_TurfParts.calls k x0.f0 x0.f1.f0 x0.f1.f1 x0.f2 x0.f3 x0.f4 x0.f5 x1.f0 x1.f1 _ _ l2 _ _ l3 b4 true W hr2 hc2 hr3 hc3 h).mono fun e W' he_ => ?_
  obtain ⟨he, bel0⟩ := he_
  subst he
  have bel : Below W.heap.size W W' := bel0
  exact ⟨_, rfl, _, _, _, [], _, [], hW', trodAll_mk1 (shut_bool Try.underlying4 _), (trodAll_cons_mk (Below.trod laidOut (by kernel_rfl) (of_decide_eq_true (by kernel_rfl)) k0 bel lt0) (trodAll_cons_mk (Below.trod laidOut (by kernel_rfl) (of_decide_eq_true (by kernel_rfl)) k1 bel lt1) (trodAll_cons_mk (Below.trod laidOut (by kernel_rfl) (of_decide_eq_true (by kernel_rfl)) k2 bel lt2) (trodAll_cons_mk (Below.trod laidOut (by kernel_rfl) (of_decide_eq_true (by kernel_rfl)) k3 bel lt3) (trodAll_cons_mk (Below.trod laidOut (by kernel_rfl) (of_decide_eq_true (by kernel_rfl)) k4 bel lt4) trodAll_mk0))))), rfl, bel.frame _, fun h => by cases h⟩
theorem over : Rows.turfPartsRow.holds Try.pinned (OpenSpec.ofChange Rows.turfPartsSpec) :=
  OpenClaim.holds_of_wide 13 Try.f13 rfl rfl rfl rfl rfl rfl rfl ⟨rfl, rfl, rfl, rfl, rfl⟩ rfl rfl rfl rfl rfl (by kernel_rfl) Try.func13 (by kernel_rfl)
    (of_decide_eq_true (by kernel_rfl)) (by unfold Func.isWrapper; first | (rw [if_pos (by decide +kernel)]; kernel_rfl) | (rw [if_neg (by decide +kernel)]; exact ⟨rfl, rfl⟩))
    (fun os started H enc _ => lifted os started H enc)
theorem proved : Rows.TurfPartsSaid := over
#print axioms proved
end Go.Proofs.Ytenjkflckkmahaa.turfParts
namespace Go.Proofs.Ytenjkflckkmahaa
theorem turfParts_holds : Rows.TurfPartsSaid := turfParts.proved
end Go.Proofs.Ytenjkflckkmahaa
