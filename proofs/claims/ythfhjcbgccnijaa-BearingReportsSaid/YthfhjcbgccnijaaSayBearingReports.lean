/- The plain statement that is left of the law BearingReports. -/
import Derived.Test.YthfhjcbgccnijaaQ6
import Derived.Test.YthfhjcbgccnijaaBnd
namespace Go.Proofs.Ythfhjcbgccnijaa.Q
open Go.RowKit Go.Proofs.YthfhjcbgccnijaaW.PrintWords Go.Proofs.YthfhjcbgccnijaaW.PrintLast
def fastilaw29_BearingReports.Pure : Prop := ∀ (x0 : S25) (x1 : S57) (a2 : Int), B25 x0 → B57 x1 → (fun a_ : Int => (Lit.int .u16 a_).wf = true) a2 → ∃ k, fastilaw29_BearingReports.f k x0.f0 x0.f1.f0 x0.f1.f1 x0.f2 x0.f3 x0.f4 x0.f5 x1.f0 x1.f1 x1.f2 x1.f3 x1.f4 x1.f5 a2 = some true
end Go.Proofs.Ythfhjcbgccnijaa.Q
