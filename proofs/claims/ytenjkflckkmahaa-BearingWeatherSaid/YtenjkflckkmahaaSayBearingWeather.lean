/- The plain statement that is left of the law BearingWeather. -/
import Derived.Test.YtenjkflckkmahaaQ4
import Derived.Test.YtenjkflckkmahaaBnd
namespace Go.Proofs.Ytenjkflckkmahaa.Q
open Go.RowKit Go.Proofs.YtenjkflckkmahaaW.PrintWords Go.Proofs.YtenjkflckkmahaaW.PrintLast
def fastilaw29_BearingWeather.Pure : Prop := ∀ (x0 : S25) (x1 : S71), B25 x0 → B71 x1 → ∃ k, fastilaw29_BearingWeather.f k x0.f0 x0.f1.f0 x0.f1.f1 x0.f2 x0.f3 x0.f4 x0.f5 x1.f0 x1.f1 x1.f2 x1.f3 x1.f4 x1.f5 = some true
end Go.Proofs.Ytenjkflckkmahaa.Q
