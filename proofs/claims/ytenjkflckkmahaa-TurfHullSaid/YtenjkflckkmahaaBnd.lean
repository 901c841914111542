/- The bounds of the laws' arguments: what the form's reading of arguments gives. -/
import Derived.Test.YtenjkflckkmahaaQ0
import Derived.Test.YtenjkflckkmahaaOpn
namespace Go.Proofs.Ytenjkflckkmahaa.Q
open Go.RowKit Go.Proofs.Ytenjkflckkmahaa.Opn Go.Proofs.YtenjkflckkmahaaW.PrintWords Go.Proofs.YtenjkflckkmahaaW.PrintLast
set_option maxRecDepth 100000
def B23 (x : S23) : Prop := (fun s_ : ByteArray => s_.size ≤ 140737488351232) x.f0 ∧ (fun a_ : Int => (Lit.int .i64 a_).wf = true) x.f1
theorem opn23 : Opn Try.prog 23 k23 B23 := opn_iso (fun a => ⟨a.1, a.2⟩) (fun _ => rfl) (opn_struct (sz := 2) Try.underlying23 (by kernel_rfl) rfl (opnF_cons (sz := 1) rfl (by kernel_rfl) rfl (opn_string Try.underlying9) (opnF_one (sz := 1) rfl (by kernel_rfl) rfl (opn_int Try.underlying3))))

def B25 (x : S25) : Prop := (fun s_ : ByteArray => s_.size ≤ 140737488351232) x.f0 ∧ B23 x.f1 ∧ (fun a_ : Int => (Lit.int .i64 a_).wf = true) x.f2 ∧ (fun a_ : Int => (Lit.int .i64 a_).wf = true) x.f3 ∧ (fun a_ : Int => (Lit.int .i64 a_).wf = true) x.f4 ∧ (fun a_ : Int => (Lit.int .i64 a_).wf = true) x.f5
theorem opn25 : Opn Try.prog 25 k25 B25 := opn_iso (fun a => ⟨a.1, a.2.1, a.2.2.1, a.2.2.2.1, a.2.2.2.2.1, a.2.2.2.2.2⟩) (fun _ => rfl) (opn_struct (sz := 7) Try.underlying25 (by kernel_rfl) rfl (opnF_cons (sz := 1) rfl (by kernel_rfl) rfl (opn_string Try.underlying9) (opnF_cons (sz := 2) rfl (by kernel_rfl) rfl opn23 (opnF_cons (sz := 1) rfl (by kernel_rfl) rfl (opn_int Try.underlying3) (opnF_cons (sz := 1) rfl (by kernel_rfl) rfl (opn_int Try.underlying3) (opnF_cons (sz := 1) rfl (by kernel_rfl) rfl (opn_int Try.underlying3) (opnF_one (sz := 1) rfl (by kernel_rfl) rfl (opn_int Try.underlying3))))))))

def B27 (x : S27) : Prop := (fun a_ : Int => (Lit.int .i64 a_).wf = true) x.f0 ∧ (fun a_ : Int => (Lit.int .i64 a_).wf = true) x.f1
theorem opn27 : Opn Try.prog 27 k27 B27 := opn_iso (fun a => ⟨a.1, a.2⟩) (fun _ => rfl) (opn_struct (sz := 2) Try.underlying27 (by kernel_rfl) rfl (opnF_cons (sz := 1) rfl (by kernel_rfl) rfl (opn_int Try.underlying3) (opnF_one (sz := 1) rfl (by kernel_rfl) rfl (opn_int Try.underlying3))))

def B44 (x : S44) : Prop := B27 x.f0 ∧ B27 x.f1
theorem opn44 : Opn Try.prog 44 k44 B44 := opn_iso (fun a => ⟨a.1, a.2⟩) (fun _ => rfl) (opn_struct (sz := 4) Try.underlying44 (by kernel_rfl) rfl (opnF_cons (sz := 2) rfl (by kernel_rfl) rfl opn27 (opnF_one (sz := 2) rfl (by kernel_rfl) rfl opn27)))

def B62 (x : S62) : Prop := (fun a_ : Int => (Lit.int .u16 a_).wf = true) x.f0 ∧ (fun a_ : Int => (Lit.int .u16 a_).wf = true) x.f1
theorem opn62 : Opn Try.prog 62 k62 B62 := opn_iso (fun a => ⟨a.1, a.2⟩) (fun _ => rfl) (opn_array (n := 2) (sz := 2) (esz := 1) Try.underlying62 (by kernel_rfl) rfl (by kernel_rfl) (opnF_cons (sz := 1) rfl (by kernel_rfl) rfl (opn_int Try.underlying39) (opnF_one (sz := 1) rfl (by kernel_rfl) rfl (opn_int Try.underlying39))))

def B55 (x : S55) : Prop := (fun a_ : Int => (Lit.int .u16 a_).wf = true) x.f0 ∧ (fun a_ : Int => (Lit.int .u16 a_).wf = true) x.f1 ∧ (fun a_ : Int => (Lit.int .u16 a_).wf = true) x.f2
theorem opn55 : Opn Try.prog 55 k55 B55 := opn_iso (fun a => ⟨a.1, a.2.1, a.2.2⟩) (fun _ => rfl) (opn_array (n := 3) (sz := 3) (esz := 1) Try.underlying55 (by kernel_rfl) rfl (by kernel_rfl) (opnF_cons (sz := 1) rfl (by kernel_rfl) rfl (opn_int Try.underlying39) (opnF_cons (sz := 1) rfl (by kernel_rfl) rfl (opn_int Try.underlying39) (opnF_one (sz := 1) rfl (by kernel_rfl) rfl (opn_int Try.underlying39)))))

def B64 (x : S64) : Prop := (fun a_ : Int => (Lit.int .u16 a_).wf = true) x.f0 ∧ (fun a_ : Int => (Lit.int .u16 a_).wf = true) x.f1 ∧ (fun a_ : Int => (Lit.int .u16 a_).wf = true) x.f2 ∧ (fun a_ : Int => (Lit.int .u16 a_).wf = true) x.f3 ∧ (fun a_ : Int => (Lit.int .u16 a_).wf = true) x.f4 ∧ (fun a_ : Int => (Lit.int .u16 a_).wf = true) x.f5
theorem opn64 : Opn Try.prog 64 k64 B64 := opn_iso (fun a => ⟨a.1, a.2.1, a.2.2.1, a.2.2.2.1, a.2.2.2.2.1, a.2.2.2.2.2⟩) (fun _ => rfl) (opn_array (n := 6) (sz := 6) (esz := 1) Try.underlying64 (by kernel_rfl) rfl (by kernel_rfl) (opnF_cons (sz := 1) rfl (by kernel_rfl) rfl (opn_int Try.underlying39) (opnF_cons (sz := 1) rfl (by kernel_rfl) rfl (opn_int Try.underlying39) (opnF_cons (sz := 1) rfl (by kernel_rfl) rfl (opn_int Try.underlying39) (opnF_cons (sz := 1) rfl (by kernel_rfl) rfl (opn_int Try.underlying39) (opnF_cons (sz := 1) rfl (by kernel_rfl) rfl (opn_int Try.underlying39) (opnF_one (sz := 1) rfl (by kernel_rfl) rfl (opn_int Try.underlying39))))))))

end Go.Proofs.Ytenjkflckkmahaa.Q
