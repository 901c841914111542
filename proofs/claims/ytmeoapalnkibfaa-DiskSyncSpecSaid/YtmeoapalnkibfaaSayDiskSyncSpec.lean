/- The plain statement that is left of the law DiskSyncSpec. -/
import Derived.Test.YtmeoapalnkibfaaQ4
import Derived.Test.YtmeoapalnkibfaaBnd
namespace Go.Proofs.Ytmeoapalnkibfaa.Q
open Go.RowKit Go.Proofs.YtmeoapalnkibfaaW.PrintWords Go.Proofs.YtmeoapalnkibfaaW.PrintLast
def fastilaw04_DiskSyncSpec.Pure : Prop := ∀ (x0 : S25) (a1 : Int), B25 x0 → (fun a_ : Int => (Lit.int .i64 a_).wf = true) a1 → ∃ k, fastilaw04_DiskSyncSpec.f k x0.f0 x0.f1 x0.f2 x0.f3 a1 = some true
end Go.Proofs.Ytmeoapalnkibfaa.Q
