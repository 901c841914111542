/- The row of the law JournalRoom, for arguments that together hold at most 1048576 values and letters: for every such input the call returns true and leaves its arguments as they were. No condition but the form's own. -/
import Derived.Test.YtljmdkeeppikhaaRows
import Derived.Test.YtljmdkeeppikhaaSaUJournalRoom
import Derived.Test.YtljmdkeeppikhaaPuUJournalRoom
import Derived.Deep.CondSized
import Derived.WalkKit
import Derived.ProofKit
import Derived.OpenShut
import Derived.ShutString
import Derived.ChangeOld
import Derived.Below
import Derived.SizedLaws
namespace Go.Proofs.Ytljmdkeeppikhaa.journalRoom
open Go.ChangeShapes Go.WideShapes Go.ChangeAt Go.RowKit Go.Proofs.Ytljmdkeeppikhaa.Q Go.Proofs.Ytljmdkeeppikhaa.Opn Go.Proofs.YtljmdkeeppikhaaW.PrintWords Go.Proofs.YtljmdkeeppikhaaW.PrintLast
open Go.ChangeMaps (open_string shut_string)
set_option linter.unusedVariables false
theorem own : ownKnob Try.prog.godebug = none := by kernel_rfl
theorem laidOut : laidOutB Try.prog = true := by kernel_rfl
set_option maxRecDepth 100000 in
theorem lifted (os : Os) (started : os.Started) (H : Type) (enc : TypeId × Value → H) (F : Stop.Interp) :
    ReturnsInHanded {} Try.checked os 6 .any ((Rows.OpenSpec.upto Rows.journalRoomSpec).pre6 enc Try.prog Try.f6 Rows.journalRoomUptoRow.domain false) (((Rows.OpenSpec.upto Rows.journalRoomSpec).at F).post enc Try.prog Try.f6 false true false false) := by
  refine returnsInHanded_of_cond_sized (C := Try.checked) (s := (Rows.OpenSpec.upto Rows.journalRoomSpec)) (k := Rows.uptoSmall) rfl own started (by kernel_rfl) Try.func6
    (OpenSpec.witness (enc := enc) (C := Try.checked) (s := (Rows.OpenSpec.upto Rows.journalRoomSpec)) (k := Rows.uptoSmall) rfl false ⟨#[], #[.agg #[(.slice none 0 0), (.int .i64 0), (.int .i64 0)], .slice none 0 0], []⟩ 8 (by kernel_rfl) (by kernel_rfl) (by kernel_rfl)
      (x := ([.agg [.nil, .lit (.int .i64 0), .lit (.int .i64 0)], .nil], [], [])) (by kernel_rfl) rfl (by kernel_rfl)) ?_
  intro W base args ds gs before hval0 hW hcnd hk hsz0 _
  have hsz : (DataW.weightsEach Try.prog (Try.f6.params.toList ++ (Rows.OpenSpec.upto Rows.journalRoomSpec).bare.plain.varTypes Try.prog) (ds ++ gs)).all (· ≤ reachBytes) = true := hsz0
  have hval : ∀ (j : Nat) t v, Try.f6.params[j]? = some t → args[j]? = some v → Value.okWide Try.prog W .any base t v := hval0
  have hW' := hW
  obtain ⟨p, q, hA0, hV, rfl, hfz, hnd⟩ := hW
  have hA : DataW.TrodAll enc Try.prog W 0 (fun _ => true) true Try.f6.params.toList args.toList ds p := hA0
  rw [Try.params6] at hA hval hsz
  obtain ⟨v0, vs0, d0, ds0, p0, q0, hargs, rfl, rfl, h0, r0⟩ := trodAll_cons hA
  obtain ⟨v1, vs1, d1, ds1, p1, q1, rfl, rfl, rfl, h1, r1⟩ := trodAll_cons r0
  obtain ⟨rfl, rfl, rfl⟩ := trodAll_nil r1
  obtain rfl : args = #[v0, v1] := by cases args; simp_all
  obtain ⟨rfl, rfl⟩ := trodVars_none hV
  have k0 := h0
  have lt0 : ∀ x ∈ p0, x.block < W.heap.size := by obtain ⟨m, hm⟩ := k0; exact DataW.trod_lt m _ _ _ hm
  obtain ⟨x0, hK0, hB0, hM0⟩ : ∃ a_ : S29, (k29).K W a_ v0.cells.toList ∧ B29 a_ ∧ m29 a_ ≤ Rows.uptoBulk d0 := argM (j := 0) opnM29 hsz rfl rfl h0
  obtain ⟨cs0, rfl, _⟩ := okWide_struct Try.underlying29 (hval 0 29 v0 rfl rfl)
  have ho0 := k29_open hK0
  obtain ⟨A0_0, c0_0, he0, hc0_0, hr0_0⟩ := ho0
  obtain rfl := agg_of he0
  have k1 := h1
  have lt1 : ∀ x ∈ p1, x.block < W.heap.size := by obtain ⟨m, hm⟩ := k1; exact DataW.trod_lt m _ _ _ hm
  obtain ⟨l1, hK1, hB1, hM1⟩ : ∃ a_ : List Int, (Kd.slice 5 (Kd.int .u8)).K W a_ v1.cells.toList ∧ (fun l_ : List Int => l_.length * 1 ≤ 140737488351232 ∧ ∀ a, a ∈ l_ → (fun a_ : Int => (Lit.int .u8 a_).wf = true) a) a_ ∧ (fun l_ => (l_.map (fun _ => 1)).sum + 1) a_ ≤ Rows.uptoBulk d1 := argM (j := 1) (opnM_slice (sz := 1) Try.underlying35 (by kernel_rfl) rfl (by kernel_rfl) (opnM_one (opn_int Try.underlying5))) hsz rfl rfl h1
  obtain ⟨a1, len1, cap1, rfl⟩ := okWide_slice Try.underlying35 (hval 1 35 v1 rfl rfl)
  obtain ⟨A1, c1, he1, hc1, hr1⟩ := hK1
  obtain ⟨rfl, rfl, rfl⟩ : a1 = A1 ∧ len1 = l1.length ∧ cap1 = c1 := by have := List.cons.inj he1; simpa using this
  have hbk := of_decide_eq_true hk
  simp only [List.append_nil, Rows.uptoBulkAll, Nat.add_zero] at hbk
  clear hA0 hval0 hsz0 hsz
  obtain ⟨k, h⟩ := PureU.JournalRoom x0 l1 hB0 hB1 (by omega)
  refine (fastilaw05_JournalRoom.calls k _ _ x0.f0 x0.f1 x0.f2 _ _ l1 true W hr0_0 hc0_0 hr1 hc1 h).mono fun e W' he_ => ?_
  obtain ⟨he, bel0⟩ := he_
  subst he
  have bel : Below W.heap.size W W' := bel0
  exact ⟨_, rfl, _, _, _, [], _, [], hW', trodAll_mk1 (shut_bool Try.underlying4 _), (trodAll_cons_mk (Below.trod laidOut (by kernel_rfl) (of_decide_eq_true (by kernel_rfl)) k0 bel lt0) (trodAll_cons_mk (Below.trod laidOut (by kernel_rfl) (of_decide_eq_true (by kernel_rfl)) k1 bel lt1) trodAll_mk0)), rfl, bel.frame _, fun h => by cases h⟩
theorem over : Rows.journalRoomUptoRow.holds Try.pinned (Rows.OpenSpec.upto Rows.journalRoomSpec) :=
  OpenClaim.holds_of_cond 6 Try.f6 rfl rfl rfl rfl rfl rfl rfl ⟨rfl, rfl, rfl, rfl, rfl⟩ rfl rfl rfl rfl rfl (by kernel_rfl) Try.func6 (by kernel_rfl)
    (of_decide_eq_true (by kernel_rfl)) (by unfold Func.isWrapper; first | (rw [if_pos (by decide +kernel)]; kernel_rfl) | (rw [if_neg (by decide +kernel)]; exact ⟨rfl, rfl⟩))
    (fun os started H enc _ F => lifted os started H enc F)
theorem proved : Rows.JournalRoomUptoSaid := over
#print axioms proved
end Go.Proofs.Ytljmdkeeppikhaa.journalRoom
namespace Go.Proofs.Ytljmdkeeppikhaa
theorem journalRoom_holds : Rows.JournalRoomUptoSaid := journalRoom.proved
end Go.Proofs.Ytljmdkeeppikhaa
