/- The plain law of DiskTogether. -/
import Derived.Test.YtmeoapalnkibfaaSayDiskTogether
import Derived.Test.YtmeoapalnkibfaaDkS
import Derived.Test.YtmeoapalnkibfaaDlP
import Derived.OpenShut
namespace Go.Proofs.Ytmeoapalnkibfaa.Pure
open Go.RowKit Go.Proofs.Ytmeoapalnkibfaa.Q Go.Proofs.YtmeoapalnkibfaaW.PrintWords Go.Proofs.YtmeoapalnkibfaaW.PrintLast
set_option linter.unusedSimpArgs false
set_option linter.unusedVariables false

/-- The write at i. -/
def wAt (n : Nat) (sc : List S46) (i : Nat) : SW := ⟨Int.tmod (wrap64 (rd_T46 sc i).f1) (n : Int), padV [(rd_T46 sc i).f2]⟩
def wsAt (n : Nat) (sc : List S46) (i : Nat) : List SW := (List.range i).map (wAt n sc)
theorem wsAt_succ (n : Nat) (sc : List S46) (i : Nat) : wsAt n sc (i + 1) = wsAt n sc i ++ [wAt n sc i] := by
  unfold wsAt
  rw [List.range_succ, List.map_append]
  rfl
theorem wsAt_len (n : Nat) (sc : List S46) (i : Nat) : (wsAt n sc i).length = i := by simp [wsAt]
theorem wsAt_take (n : Nat) (sc : List S46) (i m : Nat) (h : i ≤ m) : (wsAt n sc m).take i = wsAt n sc i := by
  unfold wsAt
  rw [← List.map_take, List.take_range, Nat.min_eq_left h]
theorem wsAt_rd (n : Nat) (sc : List S46) (i m : Nat) (h : i < m) : rd_T54 (wsAt n sc m) (i : Int) = wAt n sc i := by
  unfold rd_T54 wsAt
  rw [Int.toNat_natCast, List.getD_eq_getElem?_getD, List.getElem?_map, List.getElem?_range h]
  rfl
theorem wAt_in (n : Nat) (hn : 0 < n) (sc : List S46) (hb : ∀ x ∈ sc, 0 ≤ x.f1 ∧ x.f1 ≤ 255) (i : Nat) (hi : i < sc.length) : 0 ≤ (wAt n sc i).f0 ∧ (wAt n sc i).f0 < n := by
  have hm : rd_T46 sc (i : Int) ∈ sc := by
    unfold rd_T46
    rw [Int.toNat_natCast, List.getD_eq_getElem?_getD, List.getElem?_eq_getElem hi]
    exact List.getElem_mem _
  have h := hb _ hm
  unfold wAt
  simp only
  rw [wr_in (by omega), Int.tmod_eq_emod_of_nonneg h.1]
  exact ⟨Int.emod_nonneg _ (by omega), Int.emod_lt_of_pos _ (by omega)⟩
theorem runs_ws {l0 : List (List Int)} {a : Int} (h : runsV l0 [] a false = true) (sc : List S46) (hb : ∀ x ∈ sc, 0 ≤ x.f1 ∧ x.f1 ≤ 255) (hs : sc.length ≤ 20) : ∀ i, i ≤ sc.length → runsV l0 (wsAt l0.length sc i) a false = true := by
  intro i
  induction i with
  | zero => intro _; exact h
  | succ i ih =>
    intro hi
    rw [wsAt_succ]
    obtain ⟨⟨g0, _⟩, _⟩ := runs_ok h
    have hw := wAt_in l0.length (by omega) sc hb i (by omega)
    exact runs_write (ih (by omega)) hw.1 hw.2 (b := [(rd_T46 sc i).f2]) (by simp) (by rw [wsAt_len]; omega)
theorem write_at {l0 : List (List Int)} {l1 : List SW} {a : Int} (h : runsV l0 l1 a false = true) {i : Int} (h0 : 0 ≤ i) (h1 : i < l0.length) (c : Int) (hn : l1.length ≠ 4096) : writeV l0 l1 a false i [c] = (l0, l1 ++ [⟨i, padV [c]⟩], a, false, 0) := by
  unfold writeV
  rw [if_pos ⟨h, h0, h1⟩, if_neg (by simp), if_neg hn]

section
variable {l0 : List (List Int)} {a : Int} (h : runsV l0 [] a false = true) (sc : List S46) (hb : ∀ x ∈ sc, 0 ≤ x.f1 ∧ x.f1 ≤ 255) (hs : sc.length ≤ 20)
include h hb hs
theorem tog_two (x0 : List (List Int)) (x1 : List SW) (x2 : Int) (x3 : Bool) (e : Int) (hx : syncV l0 (wsAt l0.length sc sc.length) a false = (x0, x1, x2, x3, e)) (hx0 : x0.length ≤ 5000) (hx1 : x1.length ≤ 5000) :
    ∀ (m i : Nat), i + m = sc.length → ∀ k, m + 20000 < k → fastilaw04_DiskTogether.l1 k sc e i l0 [] a false x0 x1 x2 x3 l0 (wsAt l0.length sc i) a false = some true := by
  intro m
  obtain ⟨⟨g0, g1⟩, _⟩ := runs_ok h
  induction m with
  | zero =>
    intro i hi k hk
    obtain ⟨k, rfl⟩ := Nat.exists_eq_succ_of_ne_zero (show k ≠ 0 by omega)
    obtain rfl : i = sc.length := by omega
    simp only [fastilaw04_DiskTogether.l1]
    rw [if_neg (by omega)]
    simp only [disk_Sync.f, Option.bind_some, hx, if_true, same_ev x0 x1 x2 x3 (by omega) (by omega) k (by omega)]
  | succ m ih =>
    intro i hi k hk
    obtain ⟨k, rfl⟩ := Nat.exists_eq_succ_of_ne_zero (show k ≠ 0 by omega)
    have hw := wAt_in l0.length (by omega) sc hb i (by omega)
    have hW := write_at (runs_ws h sc hb hs i (by omega)) hw.1 hw.2 ((rd_T46 sc i).f2) (by rw [wsAt_len]; omega)
    simp only [fastilaw04_DiskTogether.l1]
    rw [if_pos (by omega), if_pos (by omega), if_neg (by omega)]
    simp only [disk_Write.f, Option.bind_some]
    have e1 : (Int.tmod (wrap64 (rd_T46 sc i).f1) (l0.length : Int)) = (wAt l0.length sc i).f0 := rfl
    rw [e1, hW]
    simp only [if_true]
    rw [wr_up i (by omega)]
    have e2 : wsAt l0.length sc i ++ [(⟨(wAt l0.length sc i).f0, padV [(rd_T46 sc i).f2]⟩ : SW)] = wsAt l0.length sc (i + 1) := (wsAt_succ _ _ _).symm
    rw [e2]
    exact ih (i + 1) (by omega) k (by omega)

theorem tog_one : ∀ (m i : Nat), i + m = sc.length → (0 ≤ a → (i : Int) ≤ a) → ∀ k, 2 * m + 20100 < k →
    fastilaw04_DiskTogether.l0 k sc 0 i l0 [] a false (perfV l0 (wsAt l0.length sc i)) [] (if 0 ≤ a then a - i else a) false l0 [] a false = some true := by
  intro m
  obtain ⟨⟨g0, g1⟩, _, _, g4, g5, _⟩ := runs_ok h
  induction m with
  | zero =>
    intro i hi ha k hk
    obtain ⟨k, rfl⟩ := Nat.exists_eq_succ_of_ne_zero (show k ≠ 0 by omega)
    obtain ⟨k, rfl⟩ := Nat.exists_eq_succ_of_ne_zero (show k ≠ 0 by omega)
    obtain rfl : i = sc.length := by omega
    have hp := perfV_length (wsAt l0.length sc sc.length) l0
    have hl := wsAt_len l0.length sc sc.length
    simp only [fastilaw04_DiskTogether.l0]
    rw [if_neg (by omega)]
    simp only [fastilaw04_DiskTogether.j2]
    rw [if_neg (by decide)]
    refine tog_two h sc hb hs _ _ _ _ _ ?_ (by omega) (by simp) sc.length 0 (by omega) k (by omega)
    unfold syncV
    rw [if_pos (runs_ws h sc hb hs sc.length (Nat.le_refl _)), if_neg (by omega), hl]
  | succ m ih =>
    intro i hi ha k hk
    obtain ⟨k, rfl⟩ := Nat.exists_eq_succ_of_ne_zero (show k ≠ 0 by omega)
    obtain ⟨k, rfl⟩ := Nat.exists_eq_succ_of_ne_zero (show k ≠ 0 by omega)
    have hw := wAt_in l0.length (by omega) sc hb i (by omega)
    have hR := runs_ws h sc hb hs i (by omega)
    have hp := perfV_length (wsAt l0.length sc i) l0
    have hR2 := runs_sync hR (c := (if 0 ≤ a then a - i else a)) (by split <;> omega)
    have hW := write_at hR2 hw.1 (by omega) ((rd_T46 sc i).f2) (by simp)
    have hR3 := runs_write hR2 hw.1 (by omega) (b := [(rd_T46 sc i).f2]) (by simp) (by simp)
    simp only [fastilaw04_DiskTogether.l0]
    rw [if_pos (by omega)]
    simp only [fastilaw04_DiskTogether.j2]
    rw [if_pos (by decide), if_pos (by omega), if_pos (by omega), if_neg (by omega)]
    simp only [disk_Write.f, disk_Sync.f, Option.bind_some]
    have e1 : (Int.tmod (wrap64 (rd_T46 sc i).f1) (l0.length : Int)) = (wAt l0.length sc i).f0 := rfl
    rw [e1, hW]
    simp only [if_true, List.nil_append] at hR3 ⊢
    rw [wr_up i (by omega)]
    have e3 : (⟨(wAt l0.length sc i).f0, padV [(rd_T46 sc i).f2]⟩ : SW) = wAt l0.length sc i := rfl
    rw [e3] at hR3 ⊢
    have hpa := perfV_app l0 (wsAt l0.length sc i) (wAt l0.length sc i)
    rw [← wsAt_succ] at hpa
    by_cases hst : 0 ≤ (if 0 ≤ a then a - (i : Int) else a) ∧ (if 0 ≤ a then a - (i : Int) else a) < ((1 : Nat) : Int)
    · have h0 : 0 ≤ a := by
        rcases Int.lt_or_le a 0 with hneg | hpos
        · rw [if_neg (by omega)] at hst
          omega
        · exact hpos
      rw [if_pos h0] at hst
      obtain rfl : a = (i : Int) := by omega
      have hy : syncV (perfV l0 (wsAt l0.length sc i)) [wAt l0.length sc i] (if 0 ≤ (i : Int) then (i : Int) - i else i) false = ((perfV l0 (wsAt l0.length sc i)).set (wAt l0.length sc i).f0.toNat (halfV (wAt l0.length sc i).f1 (rd_L1 (perfV l0 (wsAt l0.length sc i)) (wAt l0.length sc i).f0)), [], 0, true, 40) := by
        unfold syncV
        rw [if_pos hR3, if_pos (by rw [if_pos (by omega)]; simp)]
        rw [if_pos (by omega)]
        simp only [Int.sub_self]
        rfl
      rw [hy]
      simp only
      obtain ⟨k, rfl⟩ := Nat.exists_eq_succ_of_ne_zero (show k ≠ 0 by omega)
      have hgo2 : fastilaw04_DiskTogether.j2 k sc 40 ((i + 1 : Nat) : Int) false l0 [] (i : Int) false ((perfV l0 (wsAt l0.length sc i)).set (wAt l0.length sc i).f0.toNat (halfV (wAt l0.length sc i).f1 (rd_L1 (perfV l0 (wsAt l0.length sc i)) (wAt l0.length sc i).f0))) [] 0 true l0 [] (i : Int) false = some true := by
        obtain ⟨k, rfl⟩ := Nat.exists_eq_succ_of_ne_zero (show k ≠ 0 by omega)
        simp only [fastilaw04_DiskTogether.j2]
        rw [if_neg (by decide)]
        refine tog_two h sc hb hs _ _ _ _ _ ?_ (by simp; omega) (by simp) sc.length 0 (by omega) k (by omega)
        unfold syncV
        rw [if_pos (runs_ws h sc hb hs sc.length (Nat.le_refl _)), if_pos (by rw [wsAt_len]; omega)]
        unfold tornV
        rw [Int.toNat_natCast, wsAt_take _ _ _ _ (by omega), wsAt_rd _ _ _ _ (by omega)]
      simp only [fastilaw04_DiskTogether.l0]
      split
      · exact hgo2
      · exact hgo2
    · have hy : syncV (perfV l0 (wsAt l0.length sc i)) [wAt l0.length sc i] (if 0 ≤ a then a - i else a) false = (perfV l0 (wsAt l0.length sc (i + 1)), [], (if 0 ≤ a then a - ((i + 1 : Nat) : Int) else a), false, 0) := by
        have hst2 : ¬ (0 ≤ (if 0 ≤ a then a - (i : Int) else a) ∧ (if 0 ≤ a then a - (i : Int) else a) < (([wAt l0.length sc i] : List SW).length : Int)) := hst
        unfold syncV
        rw [if_pos hR3, if_neg hst2, hpa]
        have e4 : (if 0 ≤ (if 0 ≤ a then a - (i : Int) else a) then (if 0 ≤ a then a - (i : Int) else a) - (([wAt l0.length sc i] : List SW).length : Int) else (if 0 ≤ a then a - (i : Int) else a)) = (if 0 ≤ a then a - ((i + 1 : Nat) : Int) else a) := by
          have : (([wAt l0.length sc i] : List SW).length : Int) = 1 := rfl
          rw [this]
          by_cases h0 : 0 ≤ a
          · have := ha h0
            simp only [if_pos h0]
            rw [if_pos (by omega)]
            omega
          · simp only [if_neg h0]
        rw [e4]
        rfl
      rw [hy]
      simp only
      refine ih (i + 1) (by omega) ?_ k (by omega)
      intro h0
      rw [if_pos h0] at hst
      have := ha h0
      omega
end

theorem DiskTogether : fastilaw04_DiskTogether.Pure := by
  intro x sc hB hS
  obtain ⟨⟨h0, _⟩, ⟨h1, _⟩, _, _⟩ := hB
  have hb : ∀ y ∈ sc, 0 ≤ y.f1 ∧ y.f1 ≤ 255 := fun y hy => bounds_u8 (hS.2 y hy).2.1
  obtain ⟨r, hr⟩ := few_ev x.f0 x.f1 x.f2 x.f3 (by omega) (by omega)
  have hF := hr (x.f0.length + x.f1.length + 30000 + 1) (by omega)
  refine ⟨x.f0.length + x.f1.length + 30000 + 1, ?_⟩
  obtain ⟨K, hK⟩ : ∃ K, x.f0.length + x.f1.length + 30000 = K := ⟨_, rfl⟩
  rw [hK] at hF ⊢
  have ht : fastilaw04_DiskTogether.j0 (K + 1) sc true x.f0 x.f1 x.f2 x.f3 = some true := by simp only [fastilaw04_DiskTogether.j0, if_true]
  unfold fastilaw04_DiskTogether.f
  simp only [fastilaw04_sane.f, Option.bind_some, if_true, hF]
  cases r
  · rw [if_neg (by decide), ht]
  · rw [if_pos rfl]
    by_cases c1 : (sc.length : Int) > 20
    · rw [if_pos c1, ht]
    · rw [if_neg c1]
      by_cases c2 : (x.f1.length : Int) > 0
      · rw [if_pos c2, ht]
      · rw [if_neg c2]
        by_cases c3 : (x.f0.length : Int) = 0
        · rw [if_pos c3, ht]
        · rw [if_neg c3]
          simp only [disk_Check.f, Option.bind_some]
          by_cases c4 : dchk x.f0 x.f1 x.f2 = 0
          · rw [if_pos c4]
            cases hs : x.f3
            · have e1 : x.f1 = [] := List.eq_nil_of_length_eq_zero (by omega)
              rw [e1] at c4 ⊢
              have hR : runsV x.f0 [] x.f2 false = true := (runs_two _ _ _ _).2 ⟨c4, rfl⟩
              simp only [fastilaw04_DiskTogether.j0]
              rw [if_neg (by decide)]
              have key := tog_one hR sc hb (by omega) sc.length 0 (by omega) (fun h => h) K (by omega)
              have e2 : perfV x.f0 (wsAt x.f0.length sc 0) = x.f0 := rfl
              have e3 : (if 0 ≤ x.f2 then x.f2 - ((0 : Nat) : Int) else x.f2) = x.f2 := by split <;> omega
              rw [e2, e3] at key
              exact key
            · rw [hs] at ht
              exact ht
          · rw [if_neg c4, ht]
end Go.Proofs.Ytmeoapalnkibfaa.Pure
