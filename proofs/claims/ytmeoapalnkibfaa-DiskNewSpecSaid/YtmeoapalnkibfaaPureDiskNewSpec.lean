/- The plain law of DiskNewSpec. -/
import Derived.Test.YtmeoapalnkibfaaSayDiskNewSpec
import Derived.Test.YtmeoapalnkibfaaDkP
namespace Go.Proofs.Ytmeoapalnkibfaa.Pure
open Go.RowKit Go.Proofs.Ytmeoapalnkibfaa.Q Go.Proofs.YtmeoapalnkibfaaW.PrintWords Go.Proofs.YtmeoapalnkibfaaW.PrintLast

theorem new_core (k : Nat) (a0 : Int) (l0 : List (List Int)) (l1 : List SW) (a : Int) (s : Bool) (h0 : l0.length ≤ 140737488351232) (h1 : l1.length ≤ 140737488351232) (hk : l0.length + l1.length + 9000 ≤ k) : fastilaw04_DiskNewSpec.j0 (k + 2) a0 false l0 l1 a s = some true := by
  have hn := newV_len a0
  have hS := same_ev (newV a0).1 (newV a0).2.1 (newV a0).2.2.1 (newV a0).2.2.2.1 (by omega) (by omega) (k + 1) (by omega)
  have hR := same_ev l0 [] (-1) false h0 (by simp) (k + 1) (by simp; omega)
  simp only [fastilaw04_DiskNewSpec.j0]
  rw [if_neg (by decide)]
  simp only [disk_New.f, Option.bind_some, new_ev a0 (k + 1) (by omega), hS, disk_Check.f, chk_ev l0 l1 a s h0 h1 (k + 1) (by omega), disk_Restart.f, fastiref04_Restart.f, hR, if_true, fastilaw04_DiskNewSpec.j1]
theorem DiskNewSpec : fastilaw04_DiskNewSpec.Pure := by
  intro a0 x _ hB
  obtain ⟨⟨h0, _⟩, ⟨h1, _⟩, _, _⟩ := hB
  have h0' : x.f0.length ≤ 140737488351232 := by omega
  have h1' : x.f1.length ≤ 140737488351232 := by omega
  obtain ⟨b, hb⟩ := few_ev x.f0 x.f1 x.f2 x.f3 h0' h1'
  refine ⟨x.f0.length + x.f1.length + 9000 + 2, ?_⟩
  have hj := new_core (x.f0.length + x.f1.length + 9000) a0 x.f0 x.f1 x.f2 x.f3 h0' h1' (by omega)
  have ht : fastilaw04_DiskNewSpec.j0 (x.f0.length + x.f1.length + 9000 + 2) a0 true x.f0 x.f1 x.f2 x.f3 = some true := by simp only [fastilaw04_DiskNewSpec.j0, if_true]
  have hF := hb (x.f0.length + x.f1.length + 9000 + 2) (by omega)
  have hq : ∀ c, fastilaw04_DiskNewSpec.j0 (x.f0.length + x.f1.length + 9000 + 2) a0 c x.f0 x.f1 x.f2 x.f3 = some true := by
    intro c
    cases c
    · exact hj
    · exact ht
  unfold fastilaw04_DiskNewSpec.f
  simp only [fastilaw04_sane.f, Option.bind_some, if_true, hF, hq]
  split
  · split <;> rfl
  · rfl
end Go.Proofs.Ytmeoapalnkibfaa.Pure
