/- The plain law of DiskSyncSpec. -/
import Derived.Test.YtmeoapalnkibfaaSayDiskSyncSpec
import Derived.Test.YtmeoapalnkibfaaDkA
namespace Go.Proofs.Ytmeoapalnkibfaa.Pure
open Go.RowKit Go.Proofs.Ytmeoapalnkibfaa.Q Go.Proofs.YtmeoapalnkibfaaW.PrintWords Go.Proofs.YtmeoapalnkibfaaW.PrintLast

theorem stop_ev (l0 : List (List Int)) (l1 : List SW) (a : Int) (s : Bool) (x : Int) : ∀ k, l0.length + l1.length + 4 ≤ k → fastiref04_Stop.f k l0 l1 a s x = some (stopV l0 l1 a s x) := by
  intro k hk
  obtain ⟨k, rfl⟩ := Nat.exists_eq_succ_of_ne_zero (show k ≠ 0 by omega)
  unfold fastiref04_Stop.f stopV
  rw [chk_evn l0 l1 a s (k + 1) (by omega), Option.bind_some]
  simp only [fastiref04_Stop.j0]
  by_cases c1 : dchk l0 l1 a = 0
  · rw [if_pos c1]
    by_cases c2 : s = true
    · rw [if_pos c2, if_neg (show ¬ runsV l0 l1 a s = true from by intro h; rw [runs_iff] at h; rw [h.2] at c2; cases c2)]
    · rw [if_neg c2, if_pos ((runs_iff l0 l1 a s).2 ⟨c1, by simpa using c2⟩)]
      by_cases c3 : x < 0
      · rw [if_pos c3, if_pos (Or.inl c3)]
      · rw [if_neg c3]
        by_cases c4 : x > 65536
        · rw [if_pos c4, if_pos (Or.inr c4)]
        · rw [if_neg c4, if_neg (by omega)]
  · rw [if_neg c1, if_neg (show ¬ runsV l0 l1 a s = true from by intro h; rw [runs_iff] at h; exact c1 h.1)]
    first | rfl | simp
theorem dstop_ev (l0 : List (List Int)) (l1 : List SW) (a : Int) (s : Bool) (x : Int) : disk_Stop.f l0 l1 a s x = some (stopV l0 l1 a s x) := by
  unfold disk_Stop.f disk_runs.f disk_Check.f stopV
  rw [Option.bind_some]
  by_cases c1 : dchk l0 l1 a = 0
  · rw [if_pos c1, Option.bind_some]
    by_cases c2 : s = true
    · rw [if_neg (by simp [c2]), if_neg (by intro h; rw [runs_iff] at h; rw [h.2] at c2; cases c2)]
    · rw [if_pos (by simp [c2]), if_pos ((runs_iff l0 l1 a s).2 ⟨c1, by simpa using c2⟩)]
      by_cases c3 : x < 0
      · rw [if_pos c3, if_pos (Or.inl c3)]
      · rw [if_neg c3]
        by_cases c4 : x > 65536
        · rw [if_pos c4, if_pos (Or.inr c4)]
        · rw [if_neg c4, if_neg (by omega)]
  · rw [if_neg c1, Option.bind_some, if_neg (by decide), if_neg (by intro h; rw [runs_iff] at h; exact c1 h.1)]
theorem stopV_len (l0 : List (List Int)) (l1 : List SW) (a : Int) (s : Bool) (x : Int) : (stopV l0 l1 a s x).1.length ≤ l0.length ∧ (stopV l0 l1 a s x).2.1.length ≤ l1.length := by
  unfold stopV
  split
  · split <;> simp
  · simp
theorem syncV_len (l0 : List (List Int)) (l1 : List SW) (a : Int) (s : Bool) : (syncV l0 l1 a s).1.length ≤ l0.length ∧ (syncV l0 l1 a s).2.1.length = 0 := by
  unfold syncV
  split
  · split
    · simp [tornV, perfV_length]
    · simp [perfV_length]
  · simp
theorem DiskSyncSpec : fastilaw04_DiskSyncSpec.Pure := by
  intro x i hB _
  obtain ⟨⟨h0, _⟩, ⟨h1, _⟩, _, _⟩ := hB
  have h0' : x.f0.length ≤ 140737488351232 := by omega
  have h1' : x.f1.length ≤ 140737488351232 := by omega
  obtain ⟨c, hc⟩ := few_ev x.f0 x.f1 x.f2 x.f3 h0' h1'
  refine ⟨x.f0.length + x.f1.length + 9000 + 1, ?_⟩
  have hs := syncV_len x.f0 x.f1 x.f2 x.f3
  have ht := stopV_len x.f0 x.f1 x.f2 x.f3 i
  have hS := same_ev (syncV x.f0 x.f1 x.f2 x.f3).1 (syncV x.f0 x.f1 x.f2 x.f3).2.1 (syncV x.f0 x.f1 x.f2 x.f3).2.2.1 (syncV x.f0 x.f1 x.f2 x.f3).2.2.2.1 (by omega) (by omega) (x.f0.length + x.f1.length + 9000 + 1) (by omega)
  have hT := same_ev (stopV x.f0 x.f1 x.f2 x.f3 i).1 (stopV x.f0 x.f1 x.f2 x.f3 i).2.1 (stopV x.f0 x.f1 x.f2 x.f3 i).2.2.1 (stopV x.f0 x.f1 x.f2 x.f3 i).2.2.2.1 (by omega) (by omega) (x.f0.length + x.f1.length + 9000 + 1) (by omega)
  unfold fastilaw04_DiskSyncSpec.f
  simp only [fastilaw04_sane.f, Option.bind_some, if_true, hc (x.f0.length + x.f1.length + 9000 + 1) (by omega), disk_Sync.f, fastiref04_Sync.f, dstop_ev, stop_ev x.f0 x.f1 x.f2 x.f3 i (x.f0.length + x.f1.length + 9000 + 1) (by omega), hS, hT, fastilaw04_DiskSyncSpec.j0]
  split <;> simp
end Go.Proofs.Ytmeoapalnkibfaa.Pure
