/- The plain law of DiskStopped. -/
import Derived.Test.YtmeoapalnkibfaaSayDiskStopped
import Derived.Test.YtmeoapalnkibfaaDkS
namespace Go.Proofs.Ytmeoapalnkibfaa.Pure
open Go.RowKit Go.Proofs.Ytmeoapalnkibfaa.Q Go.Proofs.YtmeoapalnkibfaaW.PrintWords Go.Proofs.YtmeoapalnkibfaaW.PrintLast
set_option linter.unusedSimpArgs false
set_option linter.unusedVariables false

theorem runs_no (l0 : List (List Int)) (l1 : List SW) (a : Int) : runsV l0 l1 a true = false := by
  unfold runsV
  simp
theorem st_end (l0 : List (List Int)) (l1 : List SW) (a : Int) (i left : Int) (b : List Int) (k : Nat) : ((disk_Read.f l0 l1 a true i).bind fun bt143 => ((disk_Write.f l0 l1 a true i b).bind fun bt147 => ((disk_Sync.f l0 l1 a true).bind fun bt157 => ((disk_Stop.f l0 l1 a true left).bind fun bt167 => (if bt143.2 = 40 then (if bt147.2.2.2.2 = 40 then (if bt157.2.2.2.2 = 40 then (fastilaw04_DiskStopped.j3 (k + 1) (bt167.2.2.2.2 == 40)) else (fastilaw04_DiskStopped.j3 (k + 1) false)) else (fastilaw04_DiskStopped.j3 (k + 1) false)) else (fastilaw04_DiskStopped.j3 (k + 1) false)))))) = some true := by
  have h1 : readV l0 l1 a true i = ([], 40) := by unfold readV; rw [runs_no]; rfl
  have h2 : writeV l0 l1 a true i b = ([], [], 0, false, 40) := by unfold writeV; rw [runs_no]; rfl
  have h3 : syncV l0 l1 a true = ([], [], 0, false, 40) := by unfold syncV; rw [runs_no]; rfl
  have h4 : disk_Stop.f l0 l1 a true left = some ([], [], 0, false, 40) := by
    unfold disk_Stop.f disk_runs.f
    simp only [disk_Check.f, Option.bind_some]
    split
    · rfl
    · rfl
  simp only [disk_Read.f, disk_Write.f, disk_Sync.f, h1, h2, h3, h4, Option.bind_some, if_true, fastilaw04_DiskStopped.j3]
  rfl
theorem st_loop (l0 : List (List Int)) (l1 : List SW) (a : Int) (s : Bool) (i left : Int) (b : List Int) (hl : l0.length ≤ 140737488351000) : ∀ m n : Nat, n + m = l0.length → ∀ k, m + 1 < k → fastilaw04_DiskStopped.l0 k i left b n l0 l1 a s l0 [] (-1) false = some true := by
  intro m
  induction m with
  | zero =>
    intro n hn k hk
    obtain ⟨k, rfl⟩ := Nat.exists_eq_succ_of_ne_zero (show k ≠ 0 by omega)
    obtain ⟨k, rfl⟩ := Nat.exists_eq_succ_of_ne_zero (show k ≠ 0 by omega)
    unfold fastilaw04_DiskStopped.l0
    rw [if_neg (by omega)]
    exact st_end l0 l1 a i left b k
  | succ m ih =>
    intro n hn k hk
    obtain ⟨k, rfl⟩ := Nat.exists_eq_succ_of_ne_zero (show k ≠ 0 by omega)
    unfold fastilaw04_DiskStopped.l0
    rw [if_pos (by omega), if_pos (by omega), if_pos (by omega), if_pos rfl, wr_up n (by omega)]
    exact ih (n + 1) (by omega) k (by omega)
theorem DiskStopped : fastilaw04_DiskStopped.Pure := by
  intro x i left b hB _ _ hb
  obtain ⟨⟨h0, _⟩, ⟨h1, _⟩, _, _⟩ := hB
  obtain ⟨r, hr⟩ := few_ev x.f0 x.f1 x.f2 x.f3 (by omega) (by omega)
  have hF := hr (x.f0.length + x.f1.length + 8 + 1 + 1) (by omega)
  refine ⟨x.f0.length + x.f1.length + 8 + 1 + 1, ?_⟩
  have hS := same_ev x.f0 [] (-1) false (by omega) (by simp) (x.f0.length + x.f1.length + 8 + 1) (by simp; omega)
  have hL := st_loop x.f0 x.f1 x.f2 x.f3 i left b (by omega) x.f0.length 0 (by omega) (x.f0.length + x.f1.length + 8) (by omega)
  generalize x.f0.length + x.f1.length + 8 = K at hF hS hL ⊢
  have hj : ∀ c, fastilaw04_DiskStopped.j0 (K + 1 + 1) i left b c x.f0 x.f1 x.f2 x.f3 = some true := by
    intro c
    simp only [fastilaw04_DiskStopped.j0]
    cases c
    · rw [if_neg (by decide)]
      simp only [disk_Restart.f, Option.bind_some, hS, if_true]
      rw [if_neg (by decide), if_pos (by rfl)]
      simp only [fastilaw04_DiskStopped.j1, bne_self_eq_false]
      rw [if_neg (by decide)]
      exact hL
    · rw [if_pos rfl]
  unfold fastilaw04_DiskStopped.f
  simp only [fastilaw04_sane.f, Option.bind_some, if_true, hF, hj]
  split <;> rfl
end Go.Proofs.Ytmeoapalnkibfaa.Pure
