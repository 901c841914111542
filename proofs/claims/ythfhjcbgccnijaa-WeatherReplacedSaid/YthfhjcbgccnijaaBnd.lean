/- The bounds of the laws' arguments: what the form's reading of arguments gives. -/
import Derived.Test.YthfhjcbgccnijaaQ0
import Derived.Test.YthfhjcbgccnijaaOpn
namespace Go.Proofs.Ythfhjcbgccnijaa.Q
open Go.RowKit Go.Proofs.Ythfhjcbgccnijaa.Opn Go.Proofs.YthfhjcbgccnijaaW.PrintWords Go.Proofs.YthfhjcbgccnijaaW.PrintLast
set_option maxRecDepth 100000
def B27 (x : S27) : Prop := (fun a_ : Int => (Lit.int .i64 a_).wf = true) x.f0 ∧ (fun a_ : Int => (Lit.int .i64 a_).wf = true) x.f1
theorem opn27 : Opn Try.prog 27 k27 B27 := opn_iso (fun a => ⟨a.1, a.2⟩) (fun _ => rfl) (opn_struct (sz := 2) Try.underlying27 (by kernel_rfl) rfl (opnF_cons (sz := 1) rfl (by kernel_rfl) rfl (opn_int Try.underlying3) (opnF_one (sz := 1) rfl (by kernel_rfl) rfl (opn_int Try.underlying3))))

def B41 (x : S41) : Prop := (fun a_ : Int => (Lit.int .i64 a_).wf = true) x.f0 ∧ (fun a_ : Int => (Lit.int .i64 a_).wf = true) x.f1 ∧ (fun a_ : Int => (Lit.int .i64 a_).wf = true) x.f2 ∧ (fun a_ : Int => (Lit.int .i64 a_).wf = true) x.f3 ∧ (fun a_ : Int => (Lit.int .i64 a_).wf = true) x.f4 ∧ B27 x.f5 ∧ B27 x.f6
theorem opn41 : Opn Try.prog 41 k41 B41 := opn_iso (fun a => ⟨a.1, a.2.1, a.2.2.1, a.2.2.2.1, a.2.2.2.2.1, a.2.2.2.2.2.1, a.2.2.2.2.2.2⟩) (fun _ => rfl) (opn_struct (sz := 9) Try.underlying41 (by kernel_rfl) rfl (opnF_cons (sz := 1) rfl (by kernel_rfl) rfl (opn_int Try.underlying3) (opnF_cons (sz := 1) rfl (by kernel_rfl) rfl (opn_int Try.underlying3) (opnF_cons (sz := 1) rfl (by kernel_rfl) rfl (opn_int Try.underlying3) (opnF_cons (sz := 1) rfl (by kernel_rfl) rfl (opn_int Try.underlying3) (opnF_cons (sz := 1) rfl (by kernel_rfl) rfl (opn_int Try.underlying3) (opnF_cons (sz := 2) rfl (by kernel_rfl) rfl opn27 (opnF_one (sz := 2) rfl (by kernel_rfl) rfl opn27))))))))

end Go.Proofs.Ythfhjcbgccnijaa.Q
