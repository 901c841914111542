/- The plain statement that is left of the law TurfHull. -/
import Derived.Test.YtenjkflckkmahaaQ8
import Derived.Test.YtenjkflckkmahaaBnd
namespace Go.Proofs.Ytenjkflckkmahaa.Q
open Go.RowKit Go.Proofs.YtenjkflckkmahaaW.PrintWords Go.Proofs.YtenjkflckkmahaaW.PrintLast
def fastilaw28_TurfHull.Pure : Prop := ∀ (x0 : S25) (x1 : S27) (x2 : S44) (a3 : Int) (x4 : S55), B25 x0 → B27 x1 → B44 x2 → (fun a_ : Int => (Lit.int .i64 a_).wf = true) a3 → B55 x4 → ∃ k, fastilaw28_TurfHull.f k x0.f0 x0.f1.f0 x0.f1.f1 x0.f2 x0.f3 x0.f4 x0.f5 x1.f0 x1.f1 x2.f0.f0 x2.f0.f1 x2.f1.f0 x2.f1.f1 a3 x4.f0 x4.f1 x4.f2 = some true
end Go.Proofs.Ytenjkflckkmahaa.Q
