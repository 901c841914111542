/- The plain statement that is left of the law TurfParts. -/
import Derived.Test.YtenjkflckkmahaaQ11
import Derived.Test.YtenjkflckkmahaaBnd
namespace Go.Proofs.Ytenjkflckkmahaa.Q
open Go.RowKit Go.Proofs.YtenjkflckkmahaaW.PrintWords Go.Proofs.YtenjkflckkmahaaW.PrintLast
def fastilaw28_TurfParts.Pure : Prop := ∀ (x0 : S25) (x1 : S27) (l2 : List (S44)) (l3 : List Int) (a4 : Int), B25 x0 → B27 x1 → (fun l_ : List (S44) => l_.length * 32 ≤ 140737488351232 ∧ ∀ a, a ∈ l_ → B44 a) l2 → (fun l_ : List Int => l_.length * 8 ≤ 140737488351232 ∧ ∀ a, a ∈ l_ → (fun a_ : Int => (Lit.int .i64 a_).wf = true) a) l3 → (fun a_ : Int => (Lit.int .u16 a_).wf = true) a4 → ∃ k, fastilaw28_TurfParts.f k x0.f0 x0.f1.f0 x0.f1.f1 x0.f2 x0.f3 x0.f4 x0.f5 x1.f0 x1.f1 l2 l3 a4 = some true
end Go.Proofs.Ytenjkflckkmahaa.Q
