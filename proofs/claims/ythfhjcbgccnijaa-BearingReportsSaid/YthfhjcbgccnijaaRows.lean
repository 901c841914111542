/-
  No cell of these rows narrows 'for every input' (looked for: loops, veiled, ifaces, maps, wideKeys, modest, calm, conditions, laid).
  DERIVED. THE GIVEN ROWS OF THIS SEAT. 8 by the template 'for every input the law returns true; each argument reads behind the call as it read before'; 0 by the template 'total and deterministic' (their statements: YthfhjcbgccnijaaTotals.lean).
  GIVEN WITH THE SEED: the statements are not yours to turn. If you find one false, say at which input.
  Laid BY PROGRAM, IN A SANDBOX (cutbox-rows.mjs): the forced cells as the released guide's own fill.sh prints them over the translation 017f64092369ee04… (all of the seat's roots in one cut). By AI agents, Wed Nov 11 2026. No macro, syntax, notation, axiom, sorry.
-/
import Derived.Test.YthfhjcbgccnijaaChecked
import GoSem.Claim
import GoSem.ClaimJoined
import GoSem.ClaimMapViews
import Derived.JoinedTies
import Derived.KernelRfl
namespace Go.Proofs.Ythfhjcbgccnijaa
/- THE CELL 'sum', in the pinned program and in every row, IS THE sha256 OF THE DUMP (.gsa) THAT YthfhjcbgccnijaaProg.lean LOADS. Nothing in Lean hashes anything: it is a label: what it is worth is what the hold of that sum in a sandbox is worth. -/
noncomputable def Try.pinned : Pinned := { name := "ythfhjcbgccnijaa", sum := "017f64092369ee04cc73ba087e97cc589cba282f93ee3d408b9a16c9924d53c7", checked := Try.checked }
namespace Rows
def none {H : Type} : Left H := { results := [], args := [] }

/-- 'fastitop.TopTurf': WHATEVER THE INPUT: true; the input reads as it did. -/
def topTurfSpec : ChangeSpec := { name := "topTurf", fn := fun _ => fun
  | [d1, d2, d3, d4, d5, d6, d7, d8, d9, d10] => { results := [.lit (.bool true)], args := [d1, d2, d3, d4, d5, d6, d7, d8, d9, d10] }
  | _ => none }
def topTurfRow : OpenClaim := { program := "ythfhjcbgccnijaa", sum := "017f64092369ee04cc73ba087e97cc589cba282f93ee3d408b9a16c9924d53c7", func := "fasti/fastitop.TopTurf", spec := "topTurf", unfollowed := true, recurses := true, apart := false }
def TopTurfSaid : Prop := topTurfRow.holds Try.pinned (OpenSpec.ofChange topTurfSpec)

/-- ITS FALSE NEIGHBOUR: 'it returns false'. Refute it at one input. -/
def topTurfWrong : ChangeSpec := { name := "topTurf", fn := fun _ => fun
  | [d1, d2, d3, d4, d5, d6, d7, d8, d9, d10] => { results := [.lit (.bool false)], args := [d1, d2, d3, d4, d5, d6, d7, d8, d9, d10] }
  | _ => none }
def TopTurfWrongFalsely : Prop := topTurfRow.holds Try.pinned (OpenSpec.ofChange topTurfWrong)

/-- 'fastilaw29.BearingReports': WHATEVER THE INPUT: true; the input reads as it did. -/
def bearingReportsSpec : ChangeSpec := { name := "bearingReports", fn := fun _ => fun
  | [d1, d2, d3] => { results := [.lit (.bool true)], args := [d1, d2, d3] }
  | _ => none }
def bearingReportsRow : OpenClaim := { program := "ythfhjcbgccnijaa", sum := "017f64092369ee04cc73ba087e97cc589cba282f93ee3d408b9a16c9924d53c7", func := "fasti/fastilaw29.BearingReports", spec := "bearingReports", unfollowed := true, recurses := true, apart := false }
def BearingReportsSaid : Prop := bearingReportsRow.holds Try.pinned (OpenSpec.ofChange bearingReportsSpec)

/-- ITS FALSE NEIGHBOUR: 'it returns false'. Refute it at one input. -/
def bearingReportsWrong : ChangeSpec := { name := "bearingReports", fn := fun _ => fun
  | [d1, d2, d3] => { results := [.lit (.bool false)], args := [d1, d2, d3] }
  | _ => none }
def BearingReportsWrongFalsely : Prop := bearingReportsRow.holds Try.pinned (OpenSpec.ofChange bearingReportsWrong)

/-- 'fastilaw27.WeatherSpec': WHATEVER THE INPUT: true; the input reads as it did. -/
def weatherSpecSpec : ChangeSpec := { name := "weatherSpec", fn := fun _ => fun
  | [d1, d2] => { results := [.lit (.bool true)], args := [d1, d2] }
  | _ => none }
def weatherSpecRow : OpenClaim := { program := "ythfhjcbgccnijaa", sum := "017f64092369ee04cc73ba087e97cc589cba282f93ee3d408b9a16c9924d53c7", func := "fasti/fastilaw27.WeatherSpec", spec := "weatherSpec", inPlace := ["slices.overlaps[fasti/api.Report]"], unfollowed := true, recurses := true, apart := false }
def WeatherSpecSaid : Prop := weatherSpecRow.holds Try.pinned (OpenSpec.ofChange weatherSpecSpec)

/-- ITS FALSE NEIGHBOUR: 'it returns false'. Refute it at one input. -/
def weatherSpecWrong : ChangeSpec := { name := "weatherSpec", fn := fun _ => fun
  | [d1, d2] => { results := [.lit (.bool false)], args := [d1, d2] }
  | _ => none }
def WeatherSpecWrongFalsely : Prop := weatherSpecRow.holds Try.pinned (OpenSpec.ofChange weatherSpecWrong)

/-- 'fastilaw27.WeatherOfSpec': WHATEVER THE INPUT: true; the input reads as it did. -/
def weatherOfSpecSpec : ChangeSpec := { name := "weatherOfSpec", fn := fun _ => fun
  | [d1, d2, d3, d4] => { results := [.lit (.bool true)], args := [d1, d2, d3, d4] }
  | _ => none }
def weatherOfSpecRow : OpenClaim := { program := "ythfhjcbgccnijaa", sum := "017f64092369ee04cc73ba087e97cc589cba282f93ee3d408b9a16c9924d53c7", func := "fasti/fastilaw27.WeatherOfSpec", spec := "weatherOfSpec", inPlace := ["slices.overlaps[fasti/api.Report]"], unfollowed := true, recurses := true, apart := false }
def WeatherOfSpecSaid : Prop := weatherOfSpecRow.holds Try.pinned (OpenSpec.ofChange weatherOfSpecSpec)

/-- ITS FALSE NEIGHBOUR: 'it returns false'. Refute it at one input. -/
def weatherOfSpecWrong : ChangeSpec := { name := "weatherOfSpec", fn := fun _ => fun
  | [d1, d2, d3, d4] => { results := [.lit (.bool false)], args := [d1, d2, d3, d4] }
  | _ => none }
def WeatherOfSpecWrongFalsely : Prop := weatherOfSpecRow.holds Try.pinned (OpenSpec.ofChange weatherOfSpecWrong)

/-- 'fastilaw27.WeatherTrue': WHATEVER THE INPUT: true; the input reads as it did. -/
def weatherTrueSpec : ChangeSpec := { name := "weatherTrue", fn := fun _ => fun
  | [d1, d2, d3, d4, d5] => { results := [.lit (.bool true)], args := [d1, d2, d3, d4, d5] }
  | _ => none }
def weatherTrueRow : OpenClaim := { program := "ythfhjcbgccnijaa", sum := "017f64092369ee04cc73ba087e97cc589cba282f93ee3d408b9a16c9924d53c7", func := "fasti/fastilaw27.WeatherTrue", spec := "weatherTrue", inPlace := ["slices.overlaps[fasti/api.Report]"], unfollowed := true, recurses := true, apart := false }
def WeatherTrueSaid : Prop := weatherTrueRow.holds Try.pinned (OpenSpec.ofChange weatherTrueSpec)

/-- ITS FALSE NEIGHBOUR: 'it returns false'. Refute it at one input. -/
def weatherTrueWrong : ChangeSpec := { name := "weatherTrue", fn := fun _ => fun
  | [d1, d2, d3, d4, d5] => { results := [.lit (.bool false)], args := [d1, d2, d3, d4, d5] }
  | _ => none }
def WeatherTrueWrongFalsely : Prop := weatherTrueRow.holds Try.pinned (OpenSpec.ofChange weatherTrueWrong)

/-- 'fastilaw27.WeatherTime': WHATEVER THE INPUT: true; the input reads as it did. -/
def weatherTimeSpec : ChangeSpec := { name := "weatherTime", fn := fun _ => fun
  | [d1, d2, d3, d4] => { results := [.lit (.bool true)], args := [d1, d2, d3, d4] }
  | _ => none }
def weatherTimeRow : OpenClaim := { program := "ythfhjcbgccnijaa", sum := "017f64092369ee04cc73ba087e97cc589cba282f93ee3d408b9a16c9924d53c7", func := "fasti/fastilaw27.WeatherTime", spec := "weatherTime", inPlace := ["slices.overlaps[fasti/api.Report]"], unfollowed := true, recurses := true, apart := false }
def WeatherTimeSaid : Prop := weatherTimeRow.holds Try.pinned (OpenSpec.ofChange weatherTimeSpec)

/-- ITS FALSE NEIGHBOUR: 'it returns false'. Refute it at one input. -/
def weatherTimeWrong : ChangeSpec := { name := "weatherTime", fn := fun _ => fun
  | [d1, d2, d3, d4] => { results := [.lit (.bool false)], args := [d1, d2, d3, d4] }
  | _ => none }
def WeatherTimeWrongFalsely : Prop := weatherTimeRow.holds Try.pinned (OpenSpec.ofChange weatherTimeWrong)

/-- 'fastilaw27.WeatherOrder': WHATEVER THE INPUT: true; the input reads as it did. -/
def weatherOrderSpec : ChangeSpec := { name := "weatherOrder", fn := fun _ => fun
  | [d1, d2, d3] => { results := [.lit (.bool true)], args := [d1, d2, d3] }
  | _ => none }
def weatherOrderRow : OpenClaim := { program := "ythfhjcbgccnijaa", sum := "017f64092369ee04cc73ba087e97cc589cba282f93ee3d408b9a16c9924d53c7", func := "fasti/fastilaw27.WeatherOrder", spec := "weatherOrder", inPlace := ["slices.overlaps[fasti/api.Report]"], unfollowed := true, recurses := true, apart := false }
def WeatherOrderSaid : Prop := weatherOrderRow.holds Try.pinned (OpenSpec.ofChange weatherOrderSpec)

/-- ITS FALSE NEIGHBOUR: 'it returns false'. Refute it at one input. -/
def weatherOrderWrong : ChangeSpec := { name := "weatherOrder", fn := fun _ => fun
  | [d1, d2, d3] => { results := [.lit (.bool false)], args := [d1, d2, d3] }
  | _ => none }
def WeatherOrderWrongFalsely : Prop := weatherOrderRow.holds Try.pinned (OpenSpec.ofChange weatherOrderWrong)

/-- 'fastilaw27.WeatherReplaced': WHATEVER THE INPUT: true; the input reads as it did. -/
def weatherReplacedSpec : ChangeSpec := { name := "weatherReplaced", fn := fun _ => fun
  | [d1, d2, d3] => { results := [.lit (.bool true)], args := [d1, d2, d3] }
  | _ => none }
def weatherReplacedRow : OpenClaim := { program := "ythfhjcbgccnijaa", sum := "017f64092369ee04cc73ba087e97cc589cba282f93ee3d408b9a16c9924d53c7", func := "fasti/fastilaw27.WeatherReplaced", spec := "weatherReplaced", inPlace := ["slices.overlaps[fasti/api.Report]"], unfollowed := true, recurses := true, apart := false }
def WeatherReplacedSaid : Prop := weatherReplacedRow.holds Try.pinned (OpenSpec.ofChange weatherReplacedSpec)

/-- ITS FALSE NEIGHBOUR: 'it returns false'. Refute it at one input. -/
def weatherReplacedWrong : ChangeSpec := { name := "weatherReplaced", fn := fun _ => fun
  | [d1, d2, d3] => { results := [.lit (.bool false)], args := [d1, d2, d3] }
  | _ => none }
def WeatherReplacedWrongFalsely : Prop := weatherReplacedRow.holds Try.pinned (OpenSpec.ofChange weatherReplacedWrong)

/- THE SECOND FORM. 'bulk': how many values and letters a reading holds, each counted each time it is reached (what is shared counts as often as it is met; a slice's spare places count too). A statement '..UptoSaid' is the law's where the arguments, and the package variables that the reading takes, are together of bulk at most 1048576: NARROWER than '..Said'. Prove '..Said' where nothing that the law and all that it calls make is longer than what came in: it says more and counts as full. Else prove '..UptoSaid'. A law counts once. -/
mutual
def uptoBulk {H : Type} : DataW H → Nat
  | .lit (.string bytes) => bytes.length + 1
  | .lit _ => 1
  | .nil => 1
  | .ptr d => uptoBulk d + 1
  | .slice elems spare => uptoBulkAll elems + uptoBulkAll spare + 1
  | .agg parts => uptoBulkAll parts + 1
  | .iface _ d => uptoBulk d + 1
  | .map entries => uptoBulkEntries entries + 1
  | .held _ => 1
def uptoBulkAll {H : Type} : List (DataW H) → Nat
  | [] => 0
  | d :: r => uptoBulk d + uptoBulkAll r
def uptoBulkEntries {H : Type} : List (Lit × DataW H) → Nat
  | [] => 0
  | x :: r => uptoBulkEntry x + uptoBulkEntries r
def uptoBulkEntry {H : Type} : Lit × DataW H → Nat
  | (.string bytes, d) => bytes.length + uptoBulk d + 1
  | (_, d) => uptoBulk d + 1
 end
def uptoSmall : (H : Type) → List (DataW H) → Bool := fun _ ds => decide (uptoBulkAll ds ≤ 1048576)
def OpenSpec.upto (s : _root_.Go.ChangeSpec) : _root_.Go.OpenSpec := { _root_.Go.OpenSpec.ofChange s with cond := some uptoSmall }

/-- 'fastitop.TopTurf', WHERE WHAT IT READS IS OF BULK AT MOST 1048576: true; the input reads as it did. -/
def topTurfUptoRow : OpenClaim := { program := "ythfhjcbgccnijaa", sum := "017f64092369ee04cc73ba087e97cc589cba282f93ee3d408b9a16c9924d53c7", func := "fasti/fastitop.TopTurf", spec := "topTurf", unfollowed := true, recurses := true, apart := false, narrowed := true }
def TopTurfUptoSaid : Prop := topTurfUptoRow.holds Try.pinned (OpenSpec.upto topTurfSpec)

/-- 'fastilaw29.BearingReports', WHERE WHAT IT READS IS OF BULK AT MOST 1048576: true; the input reads as it did. -/
def bearingReportsUptoRow : OpenClaim := { program := "ythfhjcbgccnijaa", sum := "017f64092369ee04cc73ba087e97cc589cba282f93ee3d408b9a16c9924d53c7", func := "fasti/fastilaw29.BearingReports", spec := "bearingReports", unfollowed := true, recurses := true, apart := false, narrowed := true }
def BearingReportsUptoSaid : Prop := bearingReportsUptoRow.holds Try.pinned (OpenSpec.upto bearingReportsSpec)

/-- 'fastilaw27.WeatherSpec', WHERE WHAT IT READS IS OF BULK AT MOST 1048576: true; the input reads as it did. -/
def weatherSpecUptoRow : OpenClaim := { program := "ythfhjcbgccnijaa", sum := "017f64092369ee04cc73ba087e97cc589cba282f93ee3d408b9a16c9924d53c7", func := "fasti/fastilaw27.WeatherSpec", spec := "weatherSpec", inPlace := ["slices.overlaps[fasti/api.Report]"], unfollowed := true, recurses := true, apart := false, narrowed := true }
def WeatherSpecUptoSaid : Prop := weatherSpecUptoRow.holds Try.pinned (OpenSpec.upto weatherSpecSpec)

/-- 'fastilaw27.WeatherOfSpec', WHERE WHAT IT READS IS OF BULK AT MOST 1048576: true; the input reads as it did. -/
def weatherOfSpecUptoRow : OpenClaim := { program := "ythfhjcbgccnijaa", sum := "017f64092369ee04cc73ba087e97cc589cba282f93ee3d408b9a16c9924d53c7", func := "fasti/fastilaw27.WeatherOfSpec", spec := "weatherOfSpec", inPlace := ["slices.overlaps[fasti/api.Report]"], unfollowed := true, recurses := true, apart := false, narrowed := true }
def WeatherOfSpecUptoSaid : Prop := weatherOfSpecUptoRow.holds Try.pinned (OpenSpec.upto weatherOfSpecSpec)

/-- 'fastilaw27.WeatherTrue', WHERE WHAT IT READS IS OF BULK AT MOST 1048576: true; the input reads as it did. -/
def weatherTrueUptoRow : OpenClaim := { program := "ythfhjcbgccnijaa", sum := "017f64092369ee04cc73ba087e97cc589cba282f93ee3d408b9a16c9924d53c7", func := "fasti/fastilaw27.WeatherTrue", spec := "weatherTrue", inPlace := ["slices.overlaps[fasti/api.Report]"], unfollowed := true, recurses := true, apart := false, narrowed := true }
def WeatherTrueUptoSaid : Prop := weatherTrueUptoRow.holds Try.pinned (OpenSpec.upto weatherTrueSpec)

/-- 'fastilaw27.WeatherTime', WHERE WHAT IT READS IS OF BULK AT MOST 1048576: true; the input reads as it did. -/
def weatherTimeUptoRow : OpenClaim := { program := "ythfhjcbgccnijaa", sum := "017f64092369ee04cc73ba087e97cc589cba282f93ee3d408b9a16c9924d53c7", func := "fasti/fastilaw27.WeatherTime", spec := "weatherTime", inPlace := ["slices.overlaps[fasti/api.Report]"], unfollowed := true, recurses := true, apart := false, narrowed := true }
def WeatherTimeUptoSaid : Prop := weatherTimeUptoRow.holds Try.pinned (OpenSpec.upto weatherTimeSpec)

/-- 'fastilaw27.WeatherOrder', WHERE WHAT IT READS IS OF BULK AT MOST 1048576: true; the input reads as it did. -/
def weatherOrderUptoRow : OpenClaim := { program := "ythfhjcbgccnijaa", sum := "017f64092369ee04cc73ba087e97cc589cba282f93ee3d408b9a16c9924d53c7", func := "fasti/fastilaw27.WeatherOrder", spec := "weatherOrder", inPlace := ["slices.overlaps[fasti/api.Report]"], unfollowed := true, recurses := true, apart := false, narrowed := true }
def WeatherOrderUptoSaid : Prop := weatherOrderUptoRow.holds Try.pinned (OpenSpec.upto weatherOrderSpec)

/-- 'fastilaw27.WeatherReplaced', WHERE WHAT IT READS IS OF BULK AT MOST 1048576: true; the input reads as it did. -/
def weatherReplacedUptoRow : OpenClaim := { program := "ythfhjcbgccnijaa", sum := "017f64092369ee04cc73ba087e97cc589cba282f93ee3d408b9a16c9924d53c7", func := "fasti/fastilaw27.WeatherReplaced", spec := "weatherReplaced", inPlace := ["slices.overlaps[fasti/api.Report]"], unfollowed := true, recurses := true, apart := false, narrowed := true }
def WeatherReplacedUptoSaid : Prop := weatherReplacedUptoRow.holds Try.pinned (OpenSpec.upto weatherReplacedSpec)

end Rows
end Go.Proofs.Ythfhjcbgccnijaa
