/-
  No cell of these rows narrows 'for every input' (looked for: loops, veiled, ifaces, maps, wideKeys, modest, calm, conditions, laid).
  DERIVED. THE GIVEN ROWS OF THIS SEAT. 8 by the template 'for every input the law returns true; each argument reads behind the call as it read before'; 0 by the template 'total and deterministic' (their statements: YtgiinjfandeddaaTotals.lean).
  GIVEN WITH THE SEED: the statements are not yours to turn. If you find one false, say at which input.
  Laid BY PROGRAM, IN A SANDBOX (cutbox-rows.mjs): the forced cells as the released guide's own fill.sh prints them over the translation b703da7103f52e42… (all of the seat's roots in one cut). By AI agents, Wed Nov 11 2026. No macro, syntax, notation, axiom, sorry.
-/
import Derived.Test.YtgiinjfandeddaaChecked
import GoSem.Claim
import GoSem.ClaimJoined
import GoSem.ClaimMapViews
import Derived.JoinedTies
import Derived.KernelRfl
namespace Go.Proofs.Ytgiinjfandeddaa
/- THE CELL 'sum', in the pinned program and in every row, IS THE sha256 OF THE DUMP (.gsa) THAT YtgiinjfandeddaaProg.lean LOADS. Nothing in Lean hashes anything: it is a label: what it is worth is what the hold of that sum in a sandbox is worth. -/
noncomputable def Try.pinned : Pinned := { name := "ytgiinjfandeddaa", sum := "b703da7103f52e42b231d1e20260b1def23fd822af563cda4b833fd8c961bf1f", checked := Try.checked }
namespace Rows
def none {H : Type} : Left H := { results := [], args := [] }

/-- 'fastilaw14.AssignSpec': WHATEVER THE INPUT: true; the input reads as it did. -/
def assignSpecSpec : ChangeSpec := { name := "assignSpec", fn := fun _ => fun
  | [d1, d2] => { results := [.lit (.bool true)], args := [d1, d2] }
  | _ => none }
def assignSpecRow : OpenClaim := { program := "ytgiinjfandeddaa", sum := "b703da7103f52e42b231d1e20260b1def23fd822af563cda4b833fd8c961bf1f", func := "fasti/fastilaw14.AssignSpec", spec := "assignSpec", unfollowed := true, recurses := true, apart := false }
def AssignSpecSaid : Prop := assignSpecRow.holds Try.pinned (OpenSpec.ofChange assignSpecSpec)

/-- ITS FALSE NEIGHBOUR: 'it returns false'. Refute it at one input. -/
def assignSpecWrong : ChangeSpec := { name := "assignSpec", fn := fun _ => fun
  | [d1, d2] => { results := [.lit (.bool false)], args := [d1, d2] }
  | _ => none }
def AssignSpecWrongFalsely : Prop := assignSpecRow.holds Try.pinned (OpenSpec.ofChange assignSpecWrong)

/-- 'fastilaw14.AssignDenySpec': WHATEVER THE INPUT: true; the input reads as it did. -/
def assignDenySpecSpec : ChangeSpec := { name := "assignDenySpec", fn := fun _ => fun
  | [d1, d2, d3] => { results := [.lit (.bool true)], args := [d1, d2, d3] }
  | _ => none }
def assignDenySpecRow : OpenClaim := { program := "ytgiinjfandeddaa", sum := "b703da7103f52e42b231d1e20260b1def23fd822af563cda4b833fd8c961bf1f", func := "fasti/fastilaw14.AssignDenySpec", spec := "assignDenySpec", unfollowed := true, recurses := true, apart := false }
def AssignDenySpecSaid : Prop := assignDenySpecRow.holds Try.pinned (OpenSpec.ofChange assignDenySpecSpec)

/-- ITS FALSE NEIGHBOUR: 'it returns false'. Refute it at one input. -/
def assignDenySpecWrong : ChangeSpec := { name := "assignDenySpec", fn := fun _ => fun
  | [d1, d2, d3] => { results := [.lit (.bool false)], args := [d1, d2, d3] }
  | _ => none }
def AssignDenySpecWrongFalsely : Prop := assignDenySpecRow.holds Try.pinned (OpenSpec.ofChange assignDenySpecWrong)

/-- 'fastilaw14.AssignEither': WHATEVER THE INPUT: true; the input reads as it did. -/
def assignEitherSpec : ChangeSpec := { name := "assignEither", fn := fun _ => fun
  | [d1, d2] => { results := [.lit (.bool true)], args := [d1, d2] }
  | _ => none }
def assignEitherRow : OpenClaim := { program := "ytgiinjfandeddaa", sum := "b703da7103f52e42b231d1e20260b1def23fd822af563cda4b833fd8c961bf1f", func := "fasti/fastilaw14.AssignEither", spec := "assignEither", unfollowed := true, recurses := true, apart := false }
def AssignEitherSaid : Prop := assignEitherRow.holds Try.pinned (OpenSpec.ofChange assignEitherSpec)

/-- ITS FALSE NEIGHBOUR: 'it returns false'. Refute it at one input. -/
def assignEitherWrong : ChangeSpec := { name := "assignEither", fn := fun _ => fun
  | [d1, d2] => { results := [.lit (.bool false)], args := [d1, d2] }
  | _ => none }
def AssignEitherWrongFalsely : Prop := assignEitherRow.holds Try.pinned (OpenSpec.ofChange assignEitherWrong)

/-- 'fastilaw14.AssignBound': WHATEVER THE INPUT: true; the input reads as it did. -/
def assignBoundSpec : ChangeSpec := { name := "assignBound", fn := fun _ => fun
  | [d1, d2, d3, d4] => { results := [.lit (.bool true)], args := [d1, d2, d3, d4] }
  | _ => none }
def assignBoundRow : OpenClaim := { program := "ytgiinjfandeddaa", sum := "b703da7103f52e42b231d1e20260b1def23fd822af563cda4b833fd8c961bf1f", func := "fasti/fastilaw14.AssignBound", spec := "assignBound", unfollowed := true, recurses := true, apart := false }
def AssignBoundSaid : Prop := assignBoundRow.holds Try.pinned (OpenSpec.ofChange assignBoundSpec)

/-- ITS FALSE NEIGHBOUR: 'it returns false'. Refute it at one input. -/
def assignBoundWrong : ChangeSpec := { name := "assignBound", fn := fun _ => fun
  | [d1, d2, d3, d4] => { results := [.lit (.bool false)], args := [d1, d2, d3, d4] }
  | _ => none }
def AssignBoundWrongFalsely : Prop := assignBoundRow.holds Try.pinned (OpenSpec.ofChange assignBoundWrong)

/-- 'fastilaw14.AssignShift': WHATEVER THE INPUT: true; the input reads as it did. -/
def assignShiftSpec : ChangeSpec := { name := "assignShift", fn := fun _ => fun
  | [d1, d2, d3] => { results := [.lit (.bool true)], args := [d1, d2, d3] }
  | _ => none }
def assignShiftRow : OpenClaim := { program := "ytgiinjfandeddaa", sum := "b703da7103f52e42b231d1e20260b1def23fd822af563cda4b833fd8c961bf1f", func := "fasti/fastilaw14.AssignShift", spec := "assignShift", unfollowed := true, recurses := true, apart := false }
def AssignShiftSaid : Prop := assignShiftRow.holds Try.pinned (OpenSpec.ofChange assignShiftSpec)

/-- ITS FALSE NEIGHBOUR: 'it returns false'. Refute it at one input. -/
def assignShiftWrong : ChangeSpec := { name := "assignShift", fn := fun _ => fun
  | [d1, d2, d3] => { results := [.lit (.bool false)], args := [d1, d2, d3] }
  | _ => none }
def AssignShiftWrongFalsely : Prop := assignShiftRow.holds Try.pinned (OpenSpec.ofChange assignShiftWrong)

/-- 'fastilaw14.AssignUnused': WHATEVER THE INPUT: true; the input reads as it did. -/
def assignUnusedSpec : ChangeSpec := { name := "assignUnused", fn := fun _ => fun
  | [d1, d2, d3] => { results := [.lit (.bool true)], args := [d1, d2, d3] }
  | _ => none }
def assignUnusedRow : OpenClaim := { program := "ytgiinjfandeddaa", sum := "b703da7103f52e42b231d1e20260b1def23fd822af563cda4b833fd8c961bf1f", func := "fasti/fastilaw14.AssignUnused", spec := "assignUnused", unfollowed := true, recurses := true, apart := false }
def AssignUnusedSaid : Prop := assignUnusedRow.holds Try.pinned (OpenSpec.ofChange assignUnusedSpec)

/-- ITS FALSE NEIGHBOUR: 'it returns false'. Refute it at one input. -/
def assignUnusedWrong : ChangeSpec := { name := "assignUnused", fn := fun _ => fun
  | [d1, d2, d3] => { results := [.lit (.bool false)], args := [d1, d2, d3] }
  | _ => none }
def AssignUnusedWrongFalsely : Prop := assignUnusedRow.holds Try.pinned (OpenSpec.ofChange assignUnusedWrong)

/-- 'fastilaw14.AssignMore': WHATEVER THE INPUT: true; the input reads as it did. -/
def assignMoreSpec : ChangeSpec := { name := "assignMore", fn := fun _ => fun
  | [d1, d2, d3] => { results := [.lit (.bool true)], args := [d1, d2, d3] }
  | _ => none }
def assignMoreRow : OpenClaim := { program := "ytgiinjfandeddaa", sum := "b703da7103f52e42b231d1e20260b1def23fd822af563cda4b833fd8c961bf1f", func := "fasti/fastilaw14.AssignMore", spec := "assignMore", unfollowed := true, recurses := true, apart := false }
def AssignMoreSaid : Prop := assignMoreRow.holds Try.pinned (OpenSpec.ofChange assignMoreSpec)

/-- ITS FALSE NEIGHBOUR: 'it returns false'. Refute it at one input. -/
def assignMoreWrong : ChangeSpec := { name := "assignMore", fn := fun _ => fun
  | [d1, d2, d3] => { results := [.lit (.bool false)], args := [d1, d2, d3] }
  | _ => none }
def AssignMoreWrongFalsely : Prop := assignMoreRow.holds Try.pinned (OpenSpec.ofChange assignMoreWrong)

/-- 'fastilaw14.AssignTurned': WHATEVER THE INPUT: true; the input reads as it did. -/
def assignTurnedSpec : ChangeSpec := { name := "assignTurned", fn := fun _ => fun
  | [d] => { results := [.lit (.bool true)], args := [d] }
  | _ => none }
def assignTurnedRow : OpenClaim := { program := "ytgiinjfandeddaa", sum := "b703da7103f52e42b231d1e20260b1def23fd822af563cda4b833fd8c961bf1f", func := "fasti/fastilaw14.AssignTurned", spec := "assignTurned", unfollowed := true, recurses := true, apart := false }
def AssignTurnedSaid : Prop := assignTurnedRow.holds Try.pinned (OpenSpec.ofChange assignTurnedSpec)

/-- ITS FALSE NEIGHBOUR: 'it returns false'. Refute it at one input. -/
def assignTurnedWrong : ChangeSpec := { name := "assignTurned", fn := fun _ => fun
  | [d] => { results := [.lit (.bool false)], args := [d] }
  | _ => none }
def AssignTurnedWrongFalsely : Prop := assignTurnedRow.holds Try.pinned (OpenSpec.ofChange assignTurnedWrong)

/- THE SECOND FORM. 'bulk': how many values and letters a reading holds, each counted each time it is reached (what is shared counts as often as it is met; a slice's spare places count too). A statement '..UptoSaid' is the law's where the arguments, and the package variables that the reading takes, are together of bulk at most 1048576: NARROWER than '..Said'. Prove '..Said' where nothing that the law and all that it calls make is longer than what came in: it says more and counts as full. Else prove '..UptoSaid'. A law counts once. -/
mutual
def uptoBulk {H : Type} : DataW H → Nat
  | .lit (.string bytes) => bytes.length + 1
  | .lit _ => 1
  | .nil => 1
  | .ptr d => uptoBulk d + 1
  | .slice elems spare => uptoBulkAll elems + uptoBulkAll spare + 1
  | .agg parts => uptoBulkAll parts + 1
  | .iface _ d => uptoBulk d + 1
  | .map entries => uptoBulkEntries entries + 1
  | .held _ => 1
def uptoBulkAll {H : Type} : List (DataW H) → Nat
  | [] => 0
  | d :: r => uptoBulk d + uptoBulkAll r
def uptoBulkEntries {H : Type} : List (Lit × DataW H) → Nat
  | [] => 0
  | x :: r => uptoBulkEntry x + uptoBulkEntries r
def uptoBulkEntry {H : Type} : Lit × DataW H → Nat
  | (.string bytes, d) => bytes.length + uptoBulk d + 1
  | (_, d) => uptoBulk d + 1
 end
def uptoSmall : (H : Type) → List (DataW H) → Bool := fun _ ds => decide (uptoBulkAll ds ≤ 1048576)
def OpenSpec.upto (s : _root_.Go.ChangeSpec) : _root_.Go.OpenSpec := { _root_.Go.OpenSpec.ofChange s with cond := some uptoSmall }

/-- 'fastilaw14.AssignSpec', WHERE WHAT IT READS IS OF BULK AT MOST 1048576: true; the input reads as it did. -/
def assignSpecUptoRow : OpenClaim := { program := "ytgiinjfandeddaa", sum := "b703da7103f52e42b231d1e20260b1def23fd822af563cda4b833fd8c961bf1f", func := "fasti/fastilaw14.AssignSpec", spec := "assignSpec", unfollowed := true, recurses := true, apart := false, narrowed := true }
def AssignSpecUptoSaid : Prop := assignSpecUptoRow.holds Try.pinned (OpenSpec.upto assignSpecSpec)

/-- 'fastilaw14.AssignDenySpec', WHERE WHAT IT READS IS OF BULK AT MOST 1048576: true; the input reads as it did. -/
def assignDenySpecUptoRow : OpenClaim := { program := "ytgiinjfandeddaa", sum := "b703da7103f52e42b231d1e20260b1def23fd822af563cda4b833fd8c961bf1f", func := "fasti/fastilaw14.AssignDenySpec", spec := "assignDenySpec", unfollowed := true, recurses := true, apart := false, narrowed := true }
def AssignDenySpecUptoSaid : Prop := assignDenySpecUptoRow.holds Try.pinned (OpenSpec.upto assignDenySpecSpec)

/-- 'fastilaw14.AssignEither', WHERE WHAT IT READS IS OF BULK AT MOST 1048576: true; the input reads as it did. -/
def assignEitherUptoRow : OpenClaim := { program := "ytgiinjfandeddaa", sum := "b703da7103f52e42b231d1e20260b1def23fd822af563cda4b833fd8c961bf1f", func := "fasti/fastilaw14.AssignEither", spec := "assignEither", unfollowed := true, recurses := true, apart := false, narrowed := true }
def AssignEitherUptoSaid : Prop := assignEitherUptoRow.holds Try.pinned (OpenSpec.upto assignEitherSpec)

/-- 'fastilaw14.AssignBound', WHERE WHAT IT READS IS OF BULK AT MOST 1048576: true; the input reads as it did. -/
def assignBoundUptoRow : OpenClaim := { program := "ytgiinjfandeddaa", sum := "b703da7103f52e42b231d1e20260b1def23fd822af563cda4b833fd8c961bf1f", func := "fasti/fastilaw14.AssignBound", spec := "assignBound", unfollowed := true, recurses := true, apart := false, narrowed := true }
def AssignBoundUptoSaid : Prop := assignBoundUptoRow.holds Try.pinned (OpenSpec.upto assignBoundSpec)

/-- 'fastilaw14.AssignShift', WHERE WHAT IT READS IS OF BULK AT MOST 1048576: true; the input reads as it did. -/
def assignShiftUptoRow : OpenClaim := { program := "ytgiinjfandeddaa", sum := "b703da7103f52e42b231d1e20260b1def23fd822af563cda4b833fd8c961bf1f", func := "fasti/fastilaw14.AssignShift", spec := "assignShift", unfollowed := true, recurses := true, apart := false, narrowed := true }
def AssignShiftUptoSaid : Prop := assignShiftUptoRow.holds Try.pinned (OpenSpec.upto assignShiftSpec)

/-- 'fastilaw14.AssignUnused', WHERE WHAT IT READS IS OF BULK AT MOST 1048576: true; the input reads as it did. -/
def assignUnusedUptoRow : OpenClaim := { program := "ytgiinjfandeddaa", sum := "b703da7103f52e42b231d1e20260b1def23fd822af563cda4b833fd8c961bf1f", func := "fasti/fastilaw14.AssignUnused", spec := "assignUnused", unfollowed := true, recurses := true, apart := false, narrowed := true }
def AssignUnusedUptoSaid : Prop := assignUnusedUptoRow.holds Try.pinned (OpenSpec.upto assignUnusedSpec)

/-- 'fastilaw14.AssignMore', WHERE WHAT IT READS IS OF BULK AT MOST 1048576: true; the input reads as it did. -/
def assignMoreUptoRow : OpenClaim := { program := "ytgiinjfandeddaa", sum := "b703da7103f52e42b231d1e20260b1def23fd822af563cda4b833fd8c961bf1f", func := "fasti/fastilaw14.AssignMore", spec := "assignMore", unfollowed := true, recurses := true, apart := false, narrowed := true }
def AssignMoreUptoSaid : Prop := assignMoreUptoRow.holds Try.pinned (OpenSpec.upto assignMoreSpec)

/-- 'fastilaw14.AssignTurned', WHERE WHAT IT READS IS OF BULK AT MOST 1048576: true; the input reads as it did. -/
def assignTurnedUptoRow : OpenClaim := { program := "ytgiinjfandeddaa", sum := "b703da7103f52e42b231d1e20260b1def23fd822af563cda4b833fd8c961bf1f", func := "fasti/fastilaw14.AssignTurned", spec := "assignTurned", unfollowed := true, recurses := true, apart := false, narrowed := true }
def AssignTurnedUptoSaid : Prop := assignTurnedUptoRow.holds Try.pinned (OpenSpec.upto assignTurnedSpec)

end Rows
end Go.Proofs.Ytgiinjfandeddaa
