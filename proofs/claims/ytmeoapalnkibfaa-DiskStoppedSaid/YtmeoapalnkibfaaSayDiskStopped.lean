/- The plain statement that is left of the law DiskStopped. -/
import Derived.Test.YtmeoapalnkibfaaQ4
import Derived.Test.YtmeoapalnkibfaaBnd
namespace Go.Proofs.Ytmeoapalnkibfaa.Q
open Go.RowKit Go.Proofs.YtmeoapalnkibfaaW.PrintWords Go.Proofs.YtmeoapalnkibfaaW.PrintLast
def fastilaw04_DiskStopped.Pure : Prop := ∀ (x0 : S25) (a1 : Int) (a2 : Int) (l3 : List Int), B25 x0 → (fun a_ : Int => (Lit.int .i64 a_).wf = true) a1 → (fun a_ : Int => (Lit.int .i64 a_).wf = true) a2 → (fun l_ : List Int => l_.length * 1 ≤ 140737488351232 ∧ ∀ a, a ∈ l_ → (fun a_ : Int => (Lit.int .u8 a_).wf = true) a) l3 → ∃ k, fastilaw04_DiskStopped.f k x0.f0 x0.f1 x0.f2 x0.f3 a1 a2 l3 = some true
end Go.Proofs.Ytmeoapalnkibfaa.Q
