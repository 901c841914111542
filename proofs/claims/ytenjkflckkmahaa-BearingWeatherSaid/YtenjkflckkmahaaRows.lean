/-
  No cell of these rows narrows 'for every input' (looked for: loops, veiled, ifaces, maps, wideKeys, modest, calm, conditions, laid).
  DERIVED. THE GIVEN ROWS OF THIS SEAT. 12 by the template 'for every input the law returns true; each argument reads behind the call as it read before'; 0 by the template 'total and deterministic' (their statements: YtenjkflckkmahaaTotals.lean).
  GIVEN WITH THE SEED: the statements are not yours to turn. If you find one false, say at which input.
  Laid BY PROGRAM, IN A SANDBOX (cutbox-rows.mjs): the forced cells as the released guide's own fill.sh prints them over the translation 15d22cc3dd880df8… (all of the seat's roots in one cut). By AI agents, Wed Nov 11 2026. No macro, syntax, notation, axiom, sorry.
-/
import Derived.Test.YtenjkflckkmahaaChecked
import GoSem.Claim
import GoSem.ClaimJoined
import GoSem.ClaimMapViews
import Derived.JoinedTies
import Derived.KernelRfl
namespace Go.Proofs.Ytenjkflckkmahaa
/- THE CELL 'sum', in the pinned program and in every row, IS THE sha256 OF THE DUMP (.gsa) THAT YtenjkflckkmahaaProg.lean LOADS. Nothing in Lean hashes anything: it is a label: what it is worth is what the hold of that sum in a sandbox is worth. -/
noncomputable def Try.pinned : Pinned := { name := "ytenjkflckkmahaa", sum := "15d22cc3dd880df8048b1c6d4bb4504033d2c5dda8a79818937b589bd2a2edac", checked := Try.checked }
namespace Rows
def none {H : Type} : Left H := { results := [], args := [] }

/-- 'fastilaw29.BearingSpec': WHATEVER THE INPUT: true; the input reads as it did. -/
def bearingSpecSpec : ChangeSpec := { name := "bearingSpec", fn := fun _ => fun
  | [d1, d2] => { results := [.lit (.bool true)], args := [d1, d2] }
  | _ => none }
def bearingSpecRow : OpenClaim := { program := "ytenjkflckkmahaa", sum := "15d22cc3dd880df8048b1c6d4bb4504033d2c5dda8a79818937b589bd2a2edac", func := "fasti/fastilaw29.BearingSpec", spec := "bearingSpec", unfollowed := true, recurses := true, apart := false }
def BearingSpecSaid : Prop := bearingSpecRow.holds Try.pinned (OpenSpec.ofChange bearingSpecSpec)

/-- ITS FALSE NEIGHBOUR: 'it returns false'. Refute it at one input. -/
def bearingSpecWrong : ChangeSpec := { name := "bearingSpec", fn := fun _ => fun
  | [d1, d2] => { results := [.lit (.bool false)], args := [d1, d2] }
  | _ => none }
def BearingSpecWrongFalsely : Prop := bearingSpecRow.holds Try.pinned (OpenSpec.ofChange bearingSpecWrong)

/-- 'fastilaw29.BearingPermitSpec': WHATEVER THE INPUT: true; the input reads as it did. -/
def bearingPermitSpecSpec : ChangeSpec := { name := "bearingPermitSpec", fn := fun _ => fun
  | [d1, d2, d3, d4] => { results := [.lit (.bool true)], args := [d1, d2, d3, d4] }
  | _ => none }
def bearingPermitSpecRow : OpenClaim := { program := "ytenjkflckkmahaa", sum := "15d22cc3dd880df8048b1c6d4bb4504033d2c5dda8a79818937b589bd2a2edac", func := "fasti/fastilaw29.BearingPermitSpec", spec := "bearingPermitSpec", unfollowed := true, recurses := true, apart := false }
def BearingPermitSpecSaid : Prop := bearingPermitSpecRow.holds Try.pinned (OpenSpec.ofChange bearingPermitSpecSpec)

/-- ITS FALSE NEIGHBOUR: 'it returns false'. Refute it at one input. -/
def bearingPermitSpecWrong : ChangeSpec := { name := "bearingPermitSpec", fn := fun _ => fun
  | [d1, d2, d3, d4] => { results := [.lit (.bool false)], args := [d1, d2, d3, d4] }
  | _ => none }
def BearingPermitSpecWrongFalsely : Prop := bearingPermitSpecRow.holds Try.pinned (OpenSpec.ofChange bearingPermitSpecWrong)

/-- 'fastilaw29.BearingSure': WHATEVER THE INPUT: true; the input reads as it did. -/
def bearingSureSpec : ChangeSpec := { name := "bearingSure", fn := fun _ => fun
  | [d1, d2, d3] => { results := [.lit (.bool true)], args := [d1, d2, d3] }
  | _ => none }
def bearingSureRow : OpenClaim := { program := "ytenjkflckkmahaa", sum := "15d22cc3dd880df8048b1c6d4bb4504033d2c5dda8a79818937b589bd2a2edac", func := "fasti/fastilaw29.BearingSure", spec := "bearingSure", unfollowed := true, recurses := true, apart := false }
def BearingSureSaid : Prop := bearingSureRow.holds Try.pinned (OpenSpec.ofChange bearingSureSpec)

/-- ITS FALSE NEIGHBOUR: 'it returns false'. Refute it at one input. -/
def bearingSureWrong : ChangeSpec := { name := "bearingSure", fn := fun _ => fun
  | [d1, d2, d3] => { results := [.lit (.bool false)], args := [d1, d2, d3] }
  | _ => none }
def BearingSureWrongFalsely : Prop := bearingSureRow.holds Try.pinned (OpenSpec.ofChange bearingSureWrong)

/-- 'fastilaw29.BearingKnows': WHATEVER THE INPUT: true; the input reads as it did. -/
def bearingKnowsSpec : ChangeSpec := { name := "bearingKnows", fn := fun _ => fun
  | [d1, d2, d3, d4] => { results := [.lit (.bool true)], args := [d1, d2, d3, d4] }
  | _ => none }
def bearingKnowsRow : OpenClaim := { program := "ytenjkflckkmahaa", sum := "15d22cc3dd880df8048b1c6d4bb4504033d2c5dda8a79818937b589bd2a2edac", func := "fasti/fastilaw29.BearingKnows", spec := "bearingKnows", unfollowed := true, recurses := true, apart := false }
def BearingKnowsSaid : Prop := bearingKnowsRow.holds Try.pinned (OpenSpec.ofChange bearingKnowsSpec)

/-- ITS FALSE NEIGHBOUR: 'it returns false'. Refute it at one input. -/
def bearingKnowsWrong : ChangeSpec := { name := "bearingKnows", fn := fun _ => fun
  | [d1, d2, d3, d4] => { results := [.lit (.bool false)], args := [d1, d2, d3, d4] }
  | _ => none }
def BearingKnowsWrongFalsely : Prop := bearingKnowsRow.holds Try.pinned (OpenSpec.ofChange bearingKnowsWrong)

/-- 'fastilaw29.BearingMore': WHATEVER THE INPUT: true; the input reads as it did. -/
def bearingMoreSpec : ChangeSpec := { name := "bearingMore", fn := fun _ => fun
  | [d1, d2, d3, d4, d5] => { results := [.lit (.bool true)], args := [d1, d2, d3, d4, d5] }
  | _ => none }
def bearingMoreRow : OpenClaim := { program := "ytenjkflckkmahaa", sum := "15d22cc3dd880df8048b1c6d4bb4504033d2c5dda8a79818937b589bd2a2edac", func := "fasti/fastilaw29.BearingMore", spec := "bearingMore", unfollowed := true, recurses := true, apart := false }
def BearingMoreSaid : Prop := bearingMoreRow.holds Try.pinned (OpenSpec.ofChange bearingMoreSpec)

/-- ITS FALSE NEIGHBOUR: 'it returns false'. Refute it at one input. -/
def bearingMoreWrong : ChangeSpec := { name := "bearingMore", fn := fun _ => fun
  | [d1, d2, d3, d4, d5] => { results := [.lit (.bool false)], args := [d1, d2, d3, d4, d5] }
  | _ => none }
def BearingMoreWrongFalsely : Prop := bearingMoreRow.holds Try.pinned (OpenSpec.ofChange bearingMoreWrong)

/-- 'fastilaw28.TurfSpec': WHATEVER THE INPUT: true; the input reads as it did. -/
def turfSpecSpec : ChangeSpec := { name := "turfSpec", fn := fun _ => fun
  | [d1, d2, d3, d4] => { results := [.lit (.bool true)], args := [d1, d2, d3, d4] }
  | _ => none }
def turfSpecRow : OpenClaim := { program := "ytenjkflckkmahaa", sum := "15d22cc3dd880df8048b1c6d4bb4504033d2c5dda8a79818937b589bd2a2edac", func := "fasti/fastilaw28.TurfSpec", spec := "turfSpec", unfollowed := true, recurses := true, apart := false }
def TurfSpecSaid : Prop := turfSpecRow.holds Try.pinned (OpenSpec.ofChange turfSpecSpec)

/-- ITS FALSE NEIGHBOUR: 'it returns false'. Refute it at one input. -/
def turfSpecWrong : ChangeSpec := { name := "turfSpec", fn := fun _ => fun
  | [d1, d2, d3, d4] => { results := [.lit (.bool false)], args := [d1, d2, d3, d4] }
  | _ => none }
def TurfSpecWrongFalsely : Prop := turfSpecRow.holds Try.pinned (OpenSpec.ofChange turfSpecWrong)

/-- 'fastilaw28.TurfRunSpec': WHATEVER THE INPUT: true; the input reads as it did. -/
def turfRunSpecSpec : ChangeSpec := { name := "turfRunSpec", fn := fun _ => fun
  | [d1, d2, d3, d4] => { results := [.lit (.bool true)], args := [d1, d2, d3, d4] }
  | _ => none }
def turfRunSpecRow : OpenClaim := { program := "ytenjkflckkmahaa", sum := "15d22cc3dd880df8048b1c6d4bb4504033d2c5dda8a79818937b589bd2a2edac", func := "fasti/fastilaw28.TurfRunSpec", spec := "turfRunSpec", unfollowed := true, recurses := true, apart := false }
def TurfRunSpecSaid : Prop := turfRunSpecRow.holds Try.pinned (OpenSpec.ofChange turfRunSpecSpec)

/-- ITS FALSE NEIGHBOUR: 'it returns false'. Refute it at one input. -/
def turfRunSpecWrong : ChangeSpec := { name := "turfRunSpec", fn := fun _ => fun
  | [d1, d2, d3, d4] => { results := [.lit (.bool false)], args := [d1, d2, d3, d4] }
  | _ => none }
def TurfRunSpecWrongFalsely : Prop := turfRunSpecRow.holds Try.pinned (OpenSpec.ofChange turfRunSpecWrong)

/-- 'fastilaw28.TurfHull': WHATEVER THE INPUT: true; the input reads as it did. -/
def turfHullSpec : ChangeSpec := { name := "turfHull", fn := fun _ => fun
  | [d1, d2, d3, d4, d5] => { results := [.lit (.bool true)], args := [d1, d2, d3, d4, d5] }
  | _ => none }
def turfHullRow : OpenClaim := { program := "ytenjkflckkmahaa", sum := "15d22cc3dd880df8048b1c6d4bb4504033d2c5dda8a79818937b589bd2a2edac", func := "fasti/fastilaw28.TurfHull", spec := "turfHull", unfollowed := true, recurses := true, apart := false }
def TurfHullSaid : Prop := turfHullRow.holds Try.pinned (OpenSpec.ofChange turfHullSpec)

/-- ITS FALSE NEIGHBOUR: 'it returns false'. Refute it at one input. -/
def turfHullWrong : ChangeSpec := { name := "turfHull", fn := fun _ => fun
  | [d1, d2, d3, d4, d5] => { results := [.lit (.bool false)], args := [d1, d2, d3, d4, d5] }
  | _ => none }
def TurfHullWrongFalsely : Prop := turfHullRow.holds Try.pinned (OpenSpec.ofChange turfHullWrong)

/-- 'fastilaw28.TurfPath': WHATEVER THE INPUT: true; the input reads as it did. -/
def turfPathSpec : ChangeSpec := { name := "turfPath", fn := fun _ => fun
  | [d1, d2, d3, d4, d5, d6] => { results := [.lit (.bool true)], args := [d1, d2, d3, d4, d5, d6] }
  | _ => none }
def turfPathRow : OpenClaim := { program := "ytenjkflckkmahaa", sum := "15d22cc3dd880df8048b1c6d4bb4504033d2c5dda8a79818937b589bd2a2edac", func := "fasti/fastilaw28.TurfPath", spec := "turfPath", unfollowed := true, recurses := true, apart := false }
def TurfPathSaid : Prop := turfPathRow.holds Try.pinned (OpenSpec.ofChange turfPathSpec)

/-- ITS FALSE NEIGHBOUR: 'it returns false'. Refute it at one input. -/
def turfPathWrong : ChangeSpec := { name := "turfPath", fn := fun _ => fun
  | [d1, d2, d3, d4, d5, d6] => { results := [.lit (.bool false)], args := [d1, d2, d3, d4, d5, d6] }
  | _ => none }
def TurfPathWrongFalsely : Prop := turfPathRow.holds Try.pinned (OpenSpec.ofChange turfPathWrong)

/-- 'fastilaw28.TurfLess': WHATEVER THE INPUT: true; the input reads as it did. -/
def turfLessSpec : ChangeSpec := { name := "turfLess", fn := fun _ => fun
  | [d1, d2, d3, d4, d5] => { results := [.lit (.bool true)], args := [d1, d2, d3, d4, d5] }
  | _ => none }
def turfLessRow : OpenClaim := { program := "ytenjkflckkmahaa", sum := "15d22cc3dd880df8048b1c6d4bb4504033d2c5dda8a79818937b589bd2a2edac", func := "fasti/fastilaw28.TurfLess", spec := "turfLess", unfollowed := true, recurses := true, apart := false }
def TurfLessSaid : Prop := turfLessRow.holds Try.pinned (OpenSpec.ofChange turfLessSpec)

/-- ITS FALSE NEIGHBOUR: 'it returns false'. Refute it at one input. -/
def turfLessWrong : ChangeSpec := { name := "turfLess", fn := fun _ => fun
  | [d1, d2, d3, d4, d5] => { results := [.lit (.bool false)], args := [d1, d2, d3, d4, d5] }
  | _ => none }
def TurfLessWrongFalsely : Prop := turfLessRow.holds Try.pinned (OpenSpec.ofChange turfLessWrong)

/-- 'fastilaw28.TurfParts': WHATEVER THE INPUT: true; the input reads as it did. -/
def turfPartsSpec : ChangeSpec := { name := "turfParts", fn := fun _ => fun
  | [d1, d2, d3, d4, d5] => { results := [.lit (.bool true)], args := [d1, d2, d3, d4, d5] }
  | _ => none }
def turfPartsRow : OpenClaim := { program := "ytenjkflckkmahaa", sum := "15d22cc3dd880df8048b1c6d4bb4504033d2c5dda8a79818937b589bd2a2edac", func := "fasti/fastilaw28.TurfParts", spec := "turfParts", unfollowed := true, recurses := true, apart := false }
def TurfPartsSaid : Prop := turfPartsRow.holds Try.pinned (OpenSpec.ofChange turfPartsSpec)

/-- ITS FALSE NEIGHBOUR: 'it returns false'. Refute it at one input. -/
def turfPartsWrong : ChangeSpec := { name := "turfParts", fn := fun _ => fun
  | [d1, d2, d3, d4, d5] => { results := [.lit (.bool false)], args := [d1, d2, d3, d4, d5] }
  | _ => none }
def TurfPartsWrongFalsely : Prop := turfPartsRow.holds Try.pinned (OpenSpec.ofChange turfPartsWrong)

/-- 'fastilaw29.BearingWeather': WHATEVER THE INPUT: true; the input reads as it did. -/
def bearingWeatherSpec : ChangeSpec := { name := "bearingWeather", fn := fun _ => fun
  | [d1, d2] => { results := [.lit (.bool true)], args := [d1, d2] }
  | _ => none }
def bearingWeatherRow : OpenClaim := { program := "ytenjkflckkmahaa", sum := "15d22cc3dd880df8048b1c6d4bb4504033d2c5dda8a79818937b589bd2a2edac", func := "fasti/fastilaw29.BearingWeather", spec := "bearingWeather", unfollowed := true, recurses := true, apart := false }
def BearingWeatherSaid : Prop := bearingWeatherRow.holds Try.pinned (OpenSpec.ofChange bearingWeatherSpec)

/-- ITS FALSE NEIGHBOUR: 'it returns false'. Refute it at one input. -/
def bearingWeatherWrong : ChangeSpec := { name := "bearingWeather", fn := fun _ => fun
  | [d1, d2] => { results := [.lit (.bool false)], args := [d1, d2] }
  | _ => none }
def BearingWeatherWrongFalsely : Prop := bearingWeatherRow.holds Try.pinned (OpenSpec.ofChange bearingWeatherWrong)

/- THE SECOND FORM. 'bulk': how many values and letters a reading holds, each counted each time it is reached (what is shared counts as often as it is met; a slice's spare places count too). A statement '..UptoSaid' is the law's where the arguments, and the package variables that the reading takes, are together of bulk at most 1048576: NARROWER than '..Said'. Prove '..Said' where nothing that the law and all that it calls make is longer than what came in: it says more and counts as full. Else prove '..UptoSaid'. A law counts once. -/
mutual
def uptoBulk {H : Type} : DataW H → Nat
  | .lit (.string bytes) => bytes.length + 1
  | .lit _ => 1
  | .nil => 1
  | .ptr d => uptoBulk d + 1
  | .slice elems spare => uptoBulkAll elems + uptoBulkAll spare + 1
  | .agg parts => uptoBulkAll parts + 1
  | .iface _ d => uptoBulk d + 1
  | .map entries => uptoBulkEntries entries + 1
  | .held _ => 1
def uptoBulkAll {H : Type} : List (DataW H) → Nat
  | [] => 0
  | d :: r => uptoBulk d + uptoBulkAll r
def uptoBulkEntries {H : Type} : List (Lit × DataW H) → Nat
  | [] => 0
  | x :: r => uptoBulkEntry x + uptoBulkEntries r
def uptoBulkEntry {H : Type} : Lit × DataW H → Nat
  | (.string bytes, d) => bytes.length + uptoBulk d + 1
  | (_, d) => uptoBulk d + 1
 end
def uptoSmall : (H : Type) → List (DataW H) → Bool := fun _ ds => decide (uptoBulkAll ds ≤ 1048576)
def OpenSpec.upto (s : _root_.Go.ChangeSpec) : _root_.Go.OpenSpec := { _root_.Go.OpenSpec.ofChange s with cond := some uptoSmall }

/-- 'fastilaw29.BearingSpec', WHERE WHAT IT READS IS OF BULK AT MOST 1048576: true; the input reads as it did. -/
def bearingSpecUptoRow : OpenClaim := { program := "ytenjkflckkmahaa", sum := "15d22cc3dd880df8048b1c6d4bb4504033d2c5dda8a79818937b589bd2a2edac", func := "fasti/fastilaw29.BearingSpec", spec := "bearingSpec", unfollowed := true, recurses := true, apart := false, narrowed := true }
def BearingSpecUptoSaid : Prop := bearingSpecUptoRow.holds Try.pinned (OpenSpec.upto bearingSpecSpec)

/-- 'fastilaw29.BearingPermitSpec', WHERE WHAT IT READS IS OF BULK AT MOST 1048576: true; the input reads as it did. -/
def bearingPermitSpecUptoRow : OpenClaim := { program := "ytenjkflckkmahaa", sum := "15d22cc3dd880df8048b1c6d4bb4504033d2c5dda8a79818937b589bd2a2edac", func := "fasti/fastilaw29.BearingPermitSpec", spec := "bearingPermitSpec", unfollowed := true, recurses := true, apart := false, narrowed := true }
def BearingPermitSpecUptoSaid : Prop := bearingPermitSpecUptoRow.holds Try.pinned (OpenSpec.upto bearingPermitSpecSpec)

/-- 'fastilaw29.BearingSure', WHERE WHAT IT READS IS OF BULK AT MOST 1048576: true; the input reads as it did. -/
def bearingSureUptoRow : OpenClaim := { program := "ytenjkflckkmahaa", sum := "15d22cc3dd880df8048b1c6d4bb4504033d2c5dda8a79818937b589bd2a2edac", func := "fasti/fastilaw29.BearingSure", spec := "bearingSure", unfollowed := true, recurses := true, apart := false, narrowed := true }
def BearingSureUptoSaid : Prop := bearingSureUptoRow.holds Try.pinned (OpenSpec.upto bearingSureSpec)

/-- 'fastilaw29.BearingKnows', WHERE WHAT IT READS IS OF BULK AT MOST 1048576: true; the input reads as it did. -/
def bearingKnowsUptoRow : OpenClaim := { program := "ytenjkflckkmahaa", sum := "15d22cc3dd880df8048b1c6d4bb4504033d2c5dda8a79818937b589bd2a2edac", func := "fasti/fastilaw29.BearingKnows", spec := "bearingKnows", unfollowed := true, recurses := true, apart := false, narrowed := true }
def BearingKnowsUptoSaid : Prop := bearingKnowsUptoRow.holds Try.pinned (OpenSpec.upto bearingKnowsSpec)

/-- 'fastilaw29.BearingMore', WHERE WHAT IT READS IS OF BULK AT MOST 1048576: true; the input reads as it did. -/
def bearingMoreUptoRow : OpenClaim := { program := "ytenjkflckkmahaa", sum := "15d22cc3dd880df8048b1c6d4bb4504033d2c5dda8a79818937b589bd2a2edac", func := "fasti/fastilaw29.BearingMore", spec := "bearingMore", unfollowed := true, recurses := true, apart := false, narrowed := true }
def BearingMoreUptoSaid : Prop := bearingMoreUptoRow.holds Try.pinned (OpenSpec.upto bearingMoreSpec)

/-- 'fastilaw28.TurfSpec', WHERE WHAT IT READS IS OF BULK AT MOST 1048576: true; the input reads as it did. -/
def turfSpecUptoRow : OpenClaim := { program := "ytenjkflckkmahaa", sum := "15d22cc3dd880df8048b1c6d4bb4504033d2c5dda8a79818937b589bd2a2edac", func := "fasti/fastilaw28.TurfSpec", spec := "turfSpec", unfollowed := true, recurses := true, apart := false, narrowed := true }
def TurfSpecUptoSaid : Prop := turfSpecUptoRow.holds Try.pinned (OpenSpec.upto turfSpecSpec)

/-- 'fastilaw28.TurfRunSpec', WHERE WHAT IT READS IS OF BULK AT MOST 1048576: true; the input reads as it did. -/
def turfRunSpecUptoRow : OpenClaim := { program := "ytenjkflckkmahaa", sum := "15d22cc3dd880df8048b1c6d4bb4504033d2c5dda8a79818937b589bd2a2edac", func := "fasti/fastilaw28.TurfRunSpec", spec := "turfRunSpec", unfollowed := true, recurses := true, apart := false, narrowed := true }
def TurfRunSpecUptoSaid : Prop := turfRunSpecUptoRow.holds Try.pinned (OpenSpec.upto turfRunSpecSpec)

/-- 'fastilaw28.TurfHull', WHERE WHAT IT READS IS OF BULK AT MOST 1048576: true; the input reads as it did. -/
def turfHullUptoRow : OpenClaim := { program := "ytenjkflckkmahaa", sum := "15d22cc3dd880df8048b1c6d4bb4504033d2c5dda8a79818937b589bd2a2edac", func := "fasti/fastilaw28.TurfHull", spec := "turfHull", unfollowed := true, recurses := true, apart := false, narrowed := true }
def TurfHullUptoSaid : Prop := turfHullUptoRow.holds Try.pinned (OpenSpec.upto turfHullSpec)

/-- 'fastilaw28.TurfPath', WHERE WHAT IT READS IS OF BULK AT MOST 1048576: true; the input reads as it did. -/
def turfPathUptoRow : OpenClaim := { program := "ytenjkflckkmahaa", sum := "15d22cc3dd880df8048b1c6d4bb4504033d2c5dda8a79818937b589bd2a2edac", func := "fasti/fastilaw28.TurfPath", spec := "turfPath", unfollowed := true, recurses := true, apart := false, narrowed := true }
def TurfPathUptoSaid : Prop := turfPathUptoRow.holds Try.pinned (OpenSpec.upto turfPathSpec)

/-- 'fastilaw28.TurfLess', WHERE WHAT IT READS IS OF BULK AT MOST 1048576: true; the input reads as it did. -/
def turfLessUptoRow : OpenClaim := { program := "ytenjkflckkmahaa", sum := "15d22cc3dd880df8048b1c6d4bb4504033d2c5dda8a79818937b589bd2a2edac", func := "fasti/fastilaw28.TurfLess", spec := "turfLess", unfollowed := true, recurses := true, apart := false, narrowed := true }
def TurfLessUptoSaid : Prop := turfLessUptoRow.holds Try.pinned (OpenSpec.upto turfLessSpec)

/-- 'fastilaw28.TurfParts', WHERE WHAT IT READS IS OF BULK AT MOST 1048576: true; the input reads as it did. -/
def turfPartsUptoRow : OpenClaim := { program := "ytenjkflckkmahaa", sum := "15d22cc3dd880df8048b1c6d4bb4504033d2c5dda8a79818937b589bd2a2edac", func := "fasti/fastilaw28.TurfParts", spec := "turfParts", unfollowed := true, recurses := true, apart := false, narrowed := true }
def TurfPartsUptoSaid : Prop := turfPartsUptoRow.holds Try.pinned (OpenSpec.upto turfPartsSpec)

/-- 'fastilaw29.BearingWeather', WHERE WHAT IT READS IS OF BULK AT MOST 1048576: true; the input reads as it did. -/
def bearingWeatherUptoRow : OpenClaim := { program := "ytenjkflckkmahaa", sum := "15d22cc3dd880df8048b1c6d4bb4504033d2c5dda8a79818937b589bd2a2edac", func := "fasti/fastilaw29.BearingWeather", spec := "bearingWeather", unfollowed := true, recurses := true, apart := false, narrowed := true }
def BearingWeatherUptoSaid : Prop := bearingWeatherUptoRow.holds Try.pinned (OpenSpec.upto bearingWeatherSpec)

end Rows
end Go.Proofs.Ytenjkflckkmahaa
