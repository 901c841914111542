/- The plain law of DiskWriteSpec. -/
import Derived.Test.YtmeoapalnkibfaaSayDiskWriteSpec
import Derived.Test.YtmeoapalnkibfaaDkP
namespace Go.Proofs.Ytmeoapalnkibfaa.Pure
open Go.RowKit Go.Proofs.Ytmeoapalnkibfaa.Q Go.Proofs.YtmeoapalnkibfaaW.PrintWords Go.Proofs.YtmeoapalnkibfaaW.PrintLast

theorem write_core (k : Nat) (i : Int) (b : List Int) (l0 : List (List Int)) (l1 : List SW) (a : Int) (s : Bool) (h0 : l0.length ≤ 140737488351000) (h1 : l1.length ≤ 140737488351000) (hb : b.length ≤ 140737488351232) (hk : l0.length + l1.length + 9000 ≤ k) : fastilaw04_DiskWriteSpec.j0 (k + 2) i b false l0 l1 a s = some true := by
  have hn := writeV_len l0 l1 a s i b
  have hS := same_ev (writeV l0 l1 a s i b).1 (writeV l0 l1 a s i b).2.1 (writeV l0 l1 a s i b).2.2.1 (writeV l0 l1 a s i b).2.2.2.1 (by omega) (by omega) (k + 1) (by omega)
  simp only [fastilaw04_DiskWriteSpec.j0]
  rw [if_neg (by decide)]
  simp only [disk_Write.f, disk_Read.f, Option.bind_some, write_ev l0 l1 a s i b (by omega) (by omega) hb (k + 1) (by omega), read_ev l0 l1 a s i (by omega) (by omega) (k + 1) (by omega), hS, if_true, fastilaw04_DiskWriteSpec.j1]
  simp
theorem DiskWriteSpec : fastilaw04_DiskWriteSpec.Pure := by
  intro x i b hB _ hb
  obtain ⟨⟨h0, _⟩, ⟨h1, _⟩, _, _⟩ := hB
  have h0' : x.f0.length ≤ 140737488351000 := by omega
  have h1' : x.f1.length ≤ 140737488351000 := by omega
  have hb' : b.length ≤ 140737488351232 := by have := hb.1; omega
  obtain ⟨c, hc⟩ := few_ev x.f0 x.f1 x.f2 x.f3 (by omega) (by omega)
  refine ⟨x.f0.length + x.f1.length + 9000 + 2, ?_⟩
  have hj := write_core (x.f0.length + x.f1.length + 9000) i b x.f0 x.f1 x.f2 x.f3 h0' h1' hb' (by omega)
  have ht : fastilaw04_DiskWriteSpec.j0 (x.f0.length + x.f1.length + 9000 + 2) i b true x.f0 x.f1 x.f2 x.f3 = some true := by simp only [fastilaw04_DiskWriteSpec.j0, if_true]
  have hF := hc (x.f0.length + x.f1.length + 9000 + 2) (by omega)
  have hq : ∀ c, fastilaw04_DiskWriteSpec.j0 (x.f0.length + x.f1.length + 9000 + 2) i b c x.f0 x.f1 x.f2 x.f3 = some true := by
    intro c
    cases c
    · exact hj
    · exact ht
  unfold fastilaw04_DiskWriteSpec.f
  simp only [fastilaw04_sane.f, Option.bind_some, if_true, hF, hq]
  split <;> rfl
end Go.Proofs.Ytmeoapalnkibfaa.Pure
