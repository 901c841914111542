/- By hand: what disk.Read computes: a range over the library's Backward. -/
import Derived.Test.YtljmdkeeppikhaaDWr
import Derived.Test.YtljmdkeeppikhaaRng
import Derived.Deep.RegionHeld3
import Derived.Shelf.Abstract
import Derived.OwnWalkIn
import Derived.TacticsInMore
import Derived.LoopNIn
import Derived.LoopIn
import Derived.Maps.AppendAt
namespace Go.Proofs.Ytljmdkeeppikhaa.Q
open Go.RowKit Go.Proofs.YtljmdkeeppikhaaW.PrintWords Go.Proofs.YtljmdkeeppikhaaW.PrintLast Go.Proofs.YtljmdkeeppikhaaW.PrintMore Go.Proofs.Ytljmdkeeppikhaa.Rng
attribute [local go_sem] Oper.semAt_some
attribute [local go_sem] max2_int min2_int max_two min_two
set_option linter.unusedVariables false
set_option linter.unusedSimpArgs false

/-- Two numbers or slices in boxes. -/
theorem results_c2 {P : Program} {fn : Func} {p p' : Tmp} {ty ty' : TypeId} (h : fn.results = #[.cell p ty, .cell p' ty']) (tmps : Array Value) (w : World) (a a' : Addr) (v v' : Value) (d d' : TypeDesc)
    (hp : tmps.getD p undef = .pointer (some a)) (hp' : tmps.getD p' undef = .pointer (some a')) (hv : w.cell? a = some v) (hv' : w.cell? a' = some v')
    (hu : P.underlying ty = some d) (hd : (match d with | .struct _ | .array _ _ => false | _ => true) = true) (hu' : P.underlying ty' = some d') (hd' : (match d' with | .struct _ | .array _ _ => false | _ => true) = true) :
    (results fn tmps).run P w = .ok (.tuple #[v, v']) w := by
  have h1 : tmps[p]?.getD undef = .pointer (some a) := by simpa using hp
  have h2 : tmps[p']?.getD undef = .pointer (some a') := by simpa using hp'
  have e1 : (isAgg ty).run P w = .ok false w := by
    simp [isAgg, go_sem, run_underlying hu]
    cases d <;> simp_all
  have e2 : (isAgg ty').run P w = .ok false w := by
    simp [isAgg, go_sem, run_underlying hu']
    cases d' <;> simp_all
  simp [results, h, h1, h2, asAddr, loadVar, go_sem, e1, e2, hv, hv']
end Go.Proofs.Ytljmdkeeppikhaa.Q
