/- The plain law of DiskReads. -/
import Derived.Test.YtmeoapalnkibfaaSayDiskReads
import Derived.Test.YtmeoapalnkibfaaDkF
import Derived.Test.YtmeoapalnkibfaaDlP
namespace Go.Proofs.Ytmeoapalnkibfaa.Pure
open Go.RowKit Go.Proofs.Ytmeoapalnkibfaa.Q Go.Proofs.YtmeoapalnkibfaaW.PrintWords Go.Proofs.YtmeoapalnkibfaaW.PrintLast
set_option linter.unusedSimpArgs false
set_option linter.unusedVariables false

theorem reads_loop (l0 : List (List Int)) (l1 : List SW) (a : Int) (s : Bool) (ly : List (List Int)) (my : List SW) (ay : Int) (sy : Bool) (lz : List (List Int)) (az : Int) (sz : Bool) (hl : l0.length ≤ 100000) (h : ∀ n : Nat, n < l0.length → (readV ly my ay sy n).2 = 0 ∧ readV lz [] az sz n = readV ly my ay sy n) (hz : dchk lz [] az = 0) : ∀ m n : Nat, n + m = l0.length → ∀ k, 2 * m < k → fastilaw04_DiskReads.l0 k n l0 l1 a s ly my ay sy lz [] az sz = some true := by
  intro m
  induction m with
  | zero =>
    intro n hn k hk
    obtain ⟨k, rfl⟩ := Nat.exists_eq_succ_of_ne_zero (show k ≠ 0 by omega)
    simp only [fastilaw04_DiskReads.l0]
    rw [if_neg (by omega), if_pos (by rfl)]
    simp only [disk_Check.f, Option.bind_some, hz]
    rfl
  | succ m ih =>
    intro n hn k hk
    obtain ⟨k, rfl⟩ := Nat.exists_eq_succ_of_ne_zero (show k ≠ 0 by omega)
    obtain ⟨k, rfl⟩ := Nat.exists_eq_succ_of_ne_zero (show k ≠ 0 by omega)
    have h1 := h n (by omega)
    simp only [fastilaw04_DiskReads.l0]
    rw [if_pos (by omega)]
    simp only [disk_Read.f, Option.bind_some, h1.2]
    rw [if_pos h1.1, if_pos h1.1]
    simp only [fastilaw04_DiskReads.j4, bne_self_eq_false]
    rw [if_neg (by decide), wr_up n (by omega)]
    exact ih (n + 1) (by omega) k (by omega)

theorem read_of {l0 : List (List Int)} {l1 : List SW} {a : Int} {s : Bool} (h : runsV l0 l1 a s = true) {i : Int} (h0 : 0 ≤ i) (h1 : i < l0.length) : readV l0 l1 a s i = ((match lastW l1 i with | some x => x.f1 | none => rd_L1 l0 i), 0) := by
  unfold readV
  rw [if_pos ⟨h, h0, h1⟩]
  rfl

theorem reads_j2 (l0 : List (List Int)) (l1 : List SW) (a : Int) (s : Bool) (hr : runsV l0 l1 a s = true) (l1b : List SW) (i : Int) (h0 : 0 ≤ i) (h1 : i < l0.length) (c : List Int) (hc : c.length ≤ 128) (k : Nat) (hk : 2 * l0.length < k) : fastilaw04_DiskReads.j2 (k + 1) i c false l0 l1b a s l0 l1 a s = some true := by
  simp only [fastilaw04_DiskReads.j2]
  rw [if_neg (by decide)]
  simp only [disk_Write.f, disk_Sync.f, Option.bind_some]
  by_cases hn : l1.length = 4096
  · have hw : writeV l0 l1 a s i c = ([], [], 0, false, 2) := by
      unfold writeV
      rw [if_pos ⟨hr, h0, h1⟩, if_neg (by omega), if_pos hn]
    simp only [hw]
    rfl
  · have hw : writeV l0 l1 a s i c = (l0, l1 ++ [⟨i, padV c⟩], a, s, 0) := by
      unfold writeV
      rw [if_pos ⟨hr, h0, h1⟩, if_neg (by omega), if_neg hn]
    simp only [hw, if_true]
    have hr2 := runs_write hr h0 h1 hc hn
    obtain ⟨hb0, hb1, hb2, hb3, hb4, _⟩ := runs_ok hr2
    by_cases hs : 0 ≤ a ∧ a < (l1 ++ [(⟨i, padV c⟩ : SW)]).length
    · have hy : syncV l0 (l1 ++ [⟨i, padV c⟩]) a s = (tornV l0 (l1 ++ [⟨i, padV c⟩]) a.toNat, [], 0, true, 40) := by
        unfold syncV
        rw [if_pos hr2, if_pos hs]
      simp only [hy]
      rfl
    · have hy : syncV l0 (l1 ++ [⟨i, padV c⟩]) a s = (perfV l0 (l1 ++ [⟨i, padV c⟩]), [], (if 0 ≤ a then a - (l1 ++ [(⟨i, padV c⟩ : SW)]).length else a), false, 0) := by
        unfold syncV
        rw [if_pos hr2, if_neg hs]
      simp only [hy, if_true]
      have hz := runs_sync hr2 (c := (if 0 ≤ a then a - (l1 ++ [(⟨i, padV c⟩ : SW)]).length else a)) (by split <;> omega)
      refine reads_loop l0 _ a s _ _ _ _ _ _ _ (by omega) ?_ ((runs_two _ _ _ _).1 hz).1 l0.length 0 (by omega) k hk
      intro n hn
      have hp := perfV_length (l1 ++ [(⟨i, padV c⟩ : SW)]) l0
      rw [read_of hr2 (by omega) (by omega), read_of hz (by omega) (by omega)]
      refine ⟨rfl, ?_⟩
      rw [read_perf l0 n (by omega) (by omega) _ _ rfl (fun x hx => (hb2 x hx).1.1)]
      rfl

theorem reads_j1 (l0 : List (List Int)) (l1 : List SW) (a : Int) (s : Bool) (hr : runsV l0 l1 a s = true) (hn : l1.length ≠ 4096) (i j : Int) (h0 : 0 ≤ i) (h1 : i < l0.length) (h2 : 0 ≤ j) (h3 : j < l0.length) (b c : List Int) (hb : b.length ≤ 128) (hc : c.length ≤ 128) (k : Nat) (hk : 2 * l0.length < k) : fastilaw04_DiskReads.j1 (k + 2) i j b c (readV l0 l1 a s j).1 false l0 l1 a s l0 (l1 ++ [⟨i, padV b⟩]) a s = some true := by
  have hr2 := runs_write hr h0 h1 hb hn
  have hlen := padV_len128 b hb
  simp only [fastilaw04_DiskReads.j1]
  rw [if_neg (by decide)]
  have hi : readV l0 (l1 ++ [⟨i, padV b⟩]) a s i = (padV b, 0) := by
    rw [read_of hr2 h0 h1, lastW_app, if_pos rfl]
  have hj : (readV l0 (l1 ++ [⟨i, padV b⟩]) a s j).2 = 0 := by rw [read_of hr2 h2 h3]
  have ht : (padV b).take ((b.length : Int) : Int).toNat = b := by
    unfold padV
    simp
  simp only [disk_Read.f, Option.bind_some, hi, if_true]
  rw [if_pos hj, if_pos (by omega), if_pos (by omega), if_pos (by omega), ht, if_pos rfl]
  have key := reads_j2 l0 (l1 ++ [⟨i, padV b⟩]) a s hr2 l1 j h2 h3 c hc k hk
  by_cases hij : i = j
  · rw [if_pos hij]
    exact key
  · rw [if_neg hij]
    have hsame : (readV l0 l1 a s j).1 = (readV l0 (l1 ++ [⟨i, padV b⟩]) a s j).1 := by
      rw [read_of hr h2 h3, read_of hr2 h2 h3, lastW_app, if_neg hij]
    rw [hsame]
    simp only [bne_self_eq_false]
    exact key

theorem reads_j0 (l0 : List (List Int)) (l1 : List SW) (a : Int) (s : Bool) (i j : Int) (b c : List Int) (hb : b.length ≤ 128) (hc : c.length ≤ 128) (k : Nat) (hk : 2 * l0.length < k) : fastilaw04_DiskReads.j0 (k + 3) i j b c false l0 l1 a s = some true := by
  simp only [fastilaw04_DiskReads.j0]
  rw [if_neg (by decide)]
  simp only [disk_Read.f, disk_Write.f, Option.bind_some]
  have yes : ∀ x b' l0' l1' a' s', fastilaw04_DiskReads.j1 (k + 2) i j b c x true l0 l1 a s b' l0' l1' a' = s' → s' = some true := by
    intro x b' l0' l1' a' s' h
    subst h
    simp only [fastilaw04_DiskReads.j1, if_true]
  by_cases hj : runsV l0 l1 a s = true ∧ 0 ≤ j ∧ j < l0.length
  · rw [if_pos (by unfold readV; rw [if_pos hj])]
    by_cases hi : 0 ≤ i ∧ i < l0.length
    · by_cases hn : l1.length = 4096
      · have hw : writeV l0 l1 a s i b = ([], [], 0, false, 2) := by
          unfold writeV
          rw [if_pos ⟨hj.1, hi.1, hi.2⟩, if_neg (by omega), if_pos hn]
        simp only [hw]
        exact yes _ _ _ _ _ _ rfl
      · have hw : writeV l0 l1 a s i b = (l0, l1 ++ [⟨i, padV b⟩], a, s, 0) := by
          unfold writeV
          rw [if_pos ⟨hj.1, hi.1, hi.2⟩, if_neg (by omega), if_neg hn]
        simp only [hw]
        exact reads_j1 l0 l1 a s hj.1 hn i j hi.1 hi.2 hj.2.1 hj.2.2 b c hb hc k hk
    · have hw : writeV l0 l1 a s i b = ([], [], 0, false, 40) := by
        unfold writeV
        rw [if_neg (fun h => hi h.2)]
      simp only [hw]
      exact yes _ _ _ _ _ _ rfl
  · rw [if_neg (by unfold readV; rw [if_neg hj]; decide)]
    exact yes _ _ _ _ _ _ rfl

theorem DiskReads : fastilaw04_DiskReads.Pure := by
  intro x i j b c hB _ _ hb hc
  obtain ⟨⟨h0, _⟩, ⟨h1, _⟩, _, _⟩ := hB
  obtain ⟨r, hr⟩ := few_ev x.f0 x.f1 x.f2 x.f3 (by omega) (by omega)
  refine ⟨2 * x.f0.length + x.f1.length + 3 + 3, ?_⟩
  have hF := hr (2 * x.f0.length + x.f1.length + 3 + 3) (by omega)
  have ht : fastilaw04_DiskReads.j0 (2 * x.f0.length + x.f1.length + 3 + 3) i j b c true x.f0 x.f1 x.f2 x.f3 = some true := by simp only [fastilaw04_DiskReads.j0, if_true]
  unfold fastilaw04_DiskReads.f
  simp only [fastilaw04_sane.f, Option.bind_some, if_true, hF]
  by_cases h3 : (b.length : Int) > 128
  · rw [if_pos h3, ht]
    split <;> rfl
  · rw [if_neg h3]
    by_cases h4 : (c.length : Int) > 128
    · simp only [h4, decide_true, ht]
      split <;> rfl
    · simp only [h4, decide_false, ht, reads_j0 x.f0 x.f1 x.f2 x.f3 i j b c (by omega) (by omega) (2 * x.f0.length + x.f1.length + 3) (by omega)]
      split <;> rfl
end Go.Proofs.Ytmeoapalnkibfaa.Pure
