/- The plain statement that is left of the law WeatherTrue. -/
import Derived.Test.YthfhjcbgccnijaaQ17
import Derived.Test.YthfhjcbgccnijaaBnd
namespace Go.Proofs.Ythfhjcbgccnijaa.Q
open Go.RowKit Go.Proofs.YthfhjcbgccnijaaW.PrintWords Go.Proofs.YthfhjcbgccnijaaW.PrintLast
def fastilaw27_WeatherTrue.Pure : Prop := ∀ (l0 : List (S41)) (x1 : S41) (a2 : Int) (a3 : Int) (a4 : Int), (fun l_ : List (S41) => l_.length * 72 ≤ 140737488351232 ∧ ∀ a, a ∈ l_ → B41 a) l0 → B41 x1 → (fun a_ : Int => (Lit.int .i64 a_).wf = true) a2 → (fun a_ : Int => (Lit.int .i64 a_).wf = true) a3 → (fun a_ : Int => (Lit.int .i64 a_).wf = true) a4 → ∃ k, fastilaw27_WeatherTrue.f k l0 x1.f0 x1.f1 x1.f2 x1.f3 x1.f4 x1.f5.f0 x1.f5.f1 x1.f6.f0 x1.f6.f1 a2 a3 a4 = some true
end Go.Proofs.Ythfhjcbgccnijaa.Q
