/- The plain statement that is left of the law DiskTogether. -/
import Derived.Test.YtmeoapalnkibfaaQ4
import Derived.Test.YtmeoapalnkibfaaBnd
namespace Go.Proofs.Ytmeoapalnkibfaa.Q
open Go.RowKit Go.Proofs.YtmeoapalnkibfaaW.PrintWords Go.Proofs.YtmeoapalnkibfaaW.PrintLast
def fastilaw04_DiskTogether.Pure : Prop := ∀ (x0 : S25) (l1 : List (S46)), B25 x0 → (fun l_ : List (S46) => l_.length * 3 ≤ 140737488351232 ∧ ∀ a, a ∈ l_ → B46 a) l1 → ∃ k, fastilaw04_DiskTogether.f k x0.f0 x0.f1 x0.f2 x0.f3 l1 = some true
end Go.Proofs.Ytmeoapalnkibfaa.Q
