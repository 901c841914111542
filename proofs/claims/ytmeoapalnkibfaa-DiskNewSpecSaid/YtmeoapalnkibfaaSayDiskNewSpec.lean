/- The plain statement that is left of the law DiskNewSpec. -/
import Derived.Test.YtmeoapalnkibfaaQ4
import Derived.Test.YtmeoapalnkibfaaBnd
namespace Go.Proofs.Ytmeoapalnkibfaa.Q
open Go.RowKit Go.Proofs.YtmeoapalnkibfaaW.PrintWords Go.Proofs.YtmeoapalnkibfaaW.PrintLast
def fastilaw04_DiskNewSpec.Pure : Prop := ∀ (a0 : Int) (x1 : S25), (fun a_ : Int => (Lit.int .i64 a_).wf = true) a0 → B25 x1 → ∃ k, fastilaw04_DiskNewSpec.f k a0 x1.f0 x1.f1 x1.f2 x1.f3 = some true
end Go.Proofs.Ytmeoapalnkibfaa.Q
