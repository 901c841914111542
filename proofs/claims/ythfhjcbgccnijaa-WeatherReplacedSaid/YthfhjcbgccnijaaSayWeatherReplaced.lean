/- The plain statement that is left of the law WeatherReplaced. -/
import Derived.Test.YthfhjcbgccnijaaQ13
import Derived.Test.YthfhjcbgccnijaaBnd
namespace Go.Proofs.Ythfhjcbgccnijaa.Q
open Go.RowKit Go.Proofs.YthfhjcbgccnijaaW.PrintWords Go.Proofs.YthfhjcbgccnijaaW.PrintLast
def fastilaw27_WeatherReplaced.Pure : Prop := ∀ (l0 : List (S41)) (a1 : Int) (a2 : Int), (fun l_ : List (S41) => l_.length * 72 ≤ 140737488351232 ∧ ∀ a, a ∈ l_ → B41 a) l0 → (fun a_ : Int => (Lit.int .i64 a_).wf = true) a1 → (fun a_ : Int => (Lit.int .i64 a_).wf = true) a2 → ∃ k, fastilaw27_WeatherReplaced.f k l0 a1 a2 = some true
end Go.Proofs.Ythfhjcbgccnijaa.Q
