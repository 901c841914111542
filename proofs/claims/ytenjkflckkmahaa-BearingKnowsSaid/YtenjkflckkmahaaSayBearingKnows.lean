/- The plain statement that is left of the law BearingKnows. -/
import Derived.Test.YtenjkflckkmahaaQ6
import Derived.Test.YtenjkflckkmahaaBnd
namespace Go.Proofs.Ytenjkflckkmahaa.Q
open Go.RowKit Go.Proofs.YtenjkflckkmahaaW.PrintWords Go.Proofs.YtenjkflckkmahaaW.PrintLast
def fastilaw29_BearingKnows.Pure : Prop := ∀ (x0 : S25) (x1 : S27) (a2 : Int) (a3 : Int), B25 x0 → B27 x1 → (fun a_ : Int => (Lit.int .u16 a_).wf = true) a2 → (fun a_ : Int => (Lit.int .u16 a_).wf = true) a3 → ∃ k, fastilaw29_BearingKnows.f k x0.f0 x0.f1.f0 x0.f1.f1 x0.f2 x0.f3 x0.f4 x0.f5 x1.f0 x1.f1 a2 a3 = some true
end Go.Proofs.Ytenjkflckkmahaa.Q
