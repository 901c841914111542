/- The plain statement that is left of the law DiskHistory. -/
import Derived.Test.YtmeoapalnkibfaaQ3
import Derived.Test.YtmeoapalnkibfaaBnd
namespace Go.Proofs.Ytmeoapalnkibfaa.Q
open Go.RowKit Go.Proofs.YtmeoapalnkibfaaW.PrintWords Go.Proofs.YtmeoapalnkibfaaW.PrintLast
def fastilaw04_DiskHistory.Pure : Prop := ∀ (l0 : List (S46)) (a1 : Int), (fun l_ : List (S46) => l_.length * 3 ≤ 140737488351232 ∧ ∀ a, a ∈ l_ → B46 a) l0 → (fun a_ : Int => (Lit.int .u8 a_).wf = true) a1 → ∃ k, fastilaw04_DiskHistory.f k l0 a1 = some true
end Go.Proofs.Ytmeoapalnkibfaa.Q
