/- The bounds of the laws' arguments: what the form's reading of arguments gives. -/
import Derived.Test.YtmeoapalnkibfaaQ0
import Derived.Test.YtmeoapalnkibfaaOpn
namespace Go.Proofs.Ytmeoapalnkibfaa.Q
open Go.RowKit Go.Proofs.Ytmeoapalnkibfaa.Opn Go.Proofs.YtmeoapalnkibfaaW.PrintWords Go.Proofs.YtmeoapalnkibfaaW.PrintLast
set_option maxRecDepth 100000
def B54 (x : S54) : Prop := (fun a_ : Int => (Lit.int .i64 a_).wf = true) x.f0 ∧ (fun l_ : List Int => l_.length * 1 ≤ 140737488351232 ∧ ∀ a, a ∈ l_ → (fun a_ : Int => (Lit.int .u8 a_).wf = true) a) x.f1
theorem opn54 : Opn Try.prog 54 k54 B54 := opn_iso (fun a => ⟨a.1, a.2⟩) (fun _ => rfl) (opn_struct (sz := 2) Try.underlying54 (by kernel_rfl) rfl (opnF_cons (sz := 1) rfl (by kernel_rfl) rfl (opn_int Try.underlying3) (opnF_one (sz := 1) rfl (by kernel_rfl) rfl (opn_slice (sz := 1) Try.underlying35 (by kernel_rfl) rfl (by kernel_rfl) (opn_int Try.underlying5)))))

def B25 (x : S25) : Prop := (fun l_ : List (List Int) => l_.length * 24 ≤ 140737488351232 ∧ ∀ a, a ∈ l_ → (fun l_ : List Int => l_.length * 1 ≤ 140737488351232 ∧ ∀ a, a ∈ l_ → (fun a_ : Int => (Lit.int .u8 a_).wf = true) a) a) x.f0 ∧ (fun l_ : List (S54) => l_.length * 32 ≤ 140737488351232 ∧ ∀ a, a ∈ l_ → B54 a) x.f1 ∧ (fun a_ : Int => (Lit.int .i64 a_).wf = true) x.f2 ∧ (fun _ : Bool => True) x.f3
theorem opn25 : Opn Try.prog 25 k25 B25 := opn_iso (fun a => ⟨a.1, a.2.1, a.2.2.1, a.2.2.2⟩) (fun _ => rfl) (opn_struct (sz := 4) Try.underlying25 (by kernel_rfl) rfl (opnF_cons (sz := 1) rfl (by kernel_rfl) rfl (opn_slice (sz := 1) Try.underlying22 (by kernel_rfl) rfl (by kernel_rfl) (opn_slice (sz := 1) Try.underlying35 (by kernel_rfl) rfl (by kernel_rfl) (opn_int Try.underlying5))) (opnF_cons (sz := 1) rfl (by kernel_rfl) rfl (opn_slice (sz := 2) Try.underlying23 (by kernel_rfl) rfl (by kernel_rfl) opn54) (opnF_cons (sz := 1) rfl (by kernel_rfl) rfl (opn_int Try.underlying3) (opnF_one (sz := 1) rfl (by kernel_rfl) rfl (opn_bool Try.underlying4))))))

def B46 (x : S46) : Prop := (fun _ : Bool => True) x.f0 ∧ (fun a_ : Int => (Lit.int .u8 a_).wf = true) x.f1 ∧ (fun a_ : Int => (Lit.int .u8 a_).wf = true) x.f2
theorem opn46 : Opn Try.prog 46 k46 B46 := opn_iso (fun a => ⟨a.1, a.2.1, a.2.2⟩) (fun _ => rfl) (opn_struct (sz := 3) Try.underlying46 (by kernel_rfl) rfl (opnF_cons (sz := 1) rfl (by kernel_rfl) rfl (opn_bool Try.underlying4) (opnF_cons (sz := 1) rfl (by kernel_rfl) rfl (opn_int Try.underlying5) (opnF_one (sz := 1) rfl (by kernel_rfl) rfl (opn_int Try.underlying5)))))

end Go.Proofs.Ytmeoapalnkibfaa.Q
