/- The plain statement that is left of the law WeatherOrder. -/
import Derived.Test.YthfhjcbgccnijaaQ19
import Derived.Test.YthfhjcbgccnijaaBnd
namespace Go.Proofs.Ythfhjcbgccnijaa.Q
open Go.RowKit Go.Proofs.YthfhjcbgccnijaaW.PrintWords Go.Proofs.YthfhjcbgccnijaaW.PrintLast
def fastilaw27_WeatherOrder.Pure : Prop := ∀ (l0 : List (S41)) (x1 : S41) (x2 : S41), (fun l_ : List (S41) => l_.length * 72 ≤ 140737488351232 ∧ ∀ a, a ∈ l_ → B41 a) l0 → B41 x1 → B41 x2 → ∃ k, fastilaw27_WeatherOrder.f k l0 x1.f0 x1.f1 x1.f2 x1.f3 x1.f4 x1.f5.f0 x1.f5.f1 x1.f6.f0 x1.f6.f1 x2.f0 x2.f1 x2.f2 x2.f3 x2.f4 x2.f5.f0 x2.f5.f1 x2.f6.f0 x2.f6.f1 = some true
end Go.Proofs.Ythfhjcbgccnijaa.Q
