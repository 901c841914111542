/- The bounds of the laws' arguments: what the form's reading of arguments gives. -/
import Derived.Test.YtmeoapalnkibfaaQ0
import Derived.Test.YtmeoapalnkibfaaOpn
namespace Go.Proofs.Ytmeoapalnkibfaa.Q
open Go.RowKit Go.Proofs.Ytmeoapalnkibfaa.Opn Go.Proofs.YtmeoapalnkibfaaW.PrintWords Go.Proofs.YtmeoapalnkibfaaW.PrintLast
set_option maxRecDepth 100000
def B46 (x : S46) : Prop := (fun _ : Bool => True) x.f0 ∧ (fun a_ : Int => (Lit.int .u8 a_).wf = true) x.f1 ∧ (fun a_ : Int => (Lit.int .u8 a_).wf = true) x.f2
theorem opn46 : Opn Try.prog 46 k46 B46 := opn_iso (fun a => ⟨a.1, a.2.1, a.2.2⟩) (fun _ => rfl) (opn_struct (sz := 3) Try.underlying46 (by kernel_rfl) rfl (opnF_cons (sz := 1) rfl (by kernel_rfl) rfl (opn_bool Try.underlying4) (opnF_cons (sz := 1) rfl (by kernel_rfl) rfl (opn_int Try.underlying5) (opnF_one (sz := 1) rfl (by kernel_rfl) rfl (opn_int Try.underlying5)))))

end Go.Proofs.Ytmeoapalnkibfaa.Q
