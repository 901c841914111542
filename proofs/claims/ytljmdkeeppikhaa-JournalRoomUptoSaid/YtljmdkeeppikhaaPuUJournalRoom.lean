/- The plain law of JournalRoom, for arguments of bounded bulk. -/
import Derived.Test.YtljmdkeeppikhaaJUs
import Derived.Test.YtljmdkeeppikhaaJAp
import Derived.Test.YtljmdkeeppikhaaQ4
import Derived.Test.YtljmdkeeppikhaaQ8
import Derived.Test.YtljmdkeeppikhaaQ7
import Derived.Test.YtljmdkeeppikhaaSaUJournalRoom

namespace Go.Proofs.Ytljmdkeeppikhaa.Q
open Go.RowKit Go.Proofs.YtljmdkeeppikhaaW.PrintWords Go.Proofs.YtljmdkeeppikhaaW.PrintLast Go.Proofs.YtljmdkeeppikhaaW.PrintMore
set_option linter.unusedVariables false

/-- The bytes and the rows. -/
def bulkR (l : List (List Int)) : Nat := (l.map (fun b => b.length + 1)).sum
def secN (b : List Int) : Nat := max 1 ((b.length + 111) / 112)
def usedN (l : List (List Int)) : Nat := (l.map secN).sum
theorem map_one (b : List Int) : (b.map (fun _ => 1)).sum = b.length := by
  induction b with
  | nil => rfl
  | cons a b ih => simp only [List.map_cons, List.sum_cons, ih, List.length_cons]; omega
theorem bulk_map (l : List (List Int)) : (l.map (fun b => (b.map (fun _ => 1)).sum + 1)).sum = bulkR l := by
  unfold bulkR
  congr 1
  exact List.map_congr_left (fun b _ => by rw [map_one])
theorem bulk_len : ∀ (l : List (List Int)), l.length ≤ bulkR l
  | [] => Nat.le_refl _
  | b :: l => by have := bulk_len l; unfold bulkR at *; simp only [List.map_cons, List.sum_cons, List.length_cons]; omega
theorem sec_is (b : List Int) (h : b.length ≤ 2000000) : sectorsV b = (secN b : Int) := by
  unfold sectorsV secN mx
  rw [w64j ((b.length : Int) + 112) (by omega), w64j ((b.length : Int) + 112 - 1) (by omega), Int.tdiv_eq_ediv_of_nonneg (by omega), w64j _ (by omega)]
  split <;> omega
theorem sec_le (b : List Int) : secN b ≤ b.length + 1 := by unfold secN; omega
theorem sec_pos (b : List Int) : 1 ≤ secN b := by unfold secN; omega
theorem used_le : ∀ (l : List (List Int)), usedN l ≤ bulkR l
  | [] => Nat.le_refl _
  | b :: l => by have := used_le l; have := sec_le b; unfold usedN bulkR at *; simp only [List.map_cons, List.sum_cons]; omega
theorem len_used : ∀ (l : List (List Int)), l.length ≤ usedN l
  | [] => Nat.le_refl _
  | b :: l => by have := len_used l; have := sec_pos b; unfold usedN at *; simp only [List.map_cons, List.sum_cons, List.length_cons]; omega
theorem usedL_is : ∀ (l : List (List Int)) (x : Nat), x + bulkR l ≤ 2000000 → usedL (x : Int) l = ((x + usedN l : Nat) : Int)
  | [], x, h => rfl
  | b :: l, x, h => by
    have hb : bulkR (b :: l) = (b.length + 1) + bulkR l := by unfold bulkR; simp only [List.map_cons, List.sum_cons]
    have hs := sec_le b
    rw [usedL, sec_is b (by omega), w64j _ (by omega), show (x : Int) + (secN b : Int) = ((x + secN b : Nat) : Int) by omega, usedL_is l (x + secN b) (by omega)]
    have : usedN (b :: l) = secN b + usedN l := by unfold usedN; simp only [List.map_cons, List.sum_cons]
    rw [this, Nat.add_assoc]
theorem usedV_is (l : List (List Int)) (h : bulkR l ≤ 2000000) : usedV l = (usedN l : Int) := by
  have := usedL_is l 0 (by omega)
  rw [Nat.zero_add] at this
  exact this
theorem usedN_snoc (l : List (List Int)) (b : List Int) : usedN (l ++ [b]) = usedN l + secN b := by
  unfold usedN
  rw [List.map_append, List.sum_append]
  simp
theorem bulkR_snoc (l : List (List Int)) (b : List Int) : bulkR (l ++ [b]) = bulkR l + (b.length + 1) := by
  unfold bulkR
  rw [List.map_append, List.sum_append]
  simp
theorem few_l0 (l : List (List Int)) (K : Nat) (hl : l.length ≤ 2000000) : ∀ (r p : List (List Int)), p ++ r = l → ∀ x : Nat, x + bulkR r ≤ 4000000 → fastilaw05_few.l0 (K + r.length + 1) (x : Int) l (l.length : Int) (p.length : Int) [] [] 0 false = some (decide (x + bulkR r ≤ 4000))
  | [], p, e, x, h => by
    rw [List.append_nil] at e
    subst e
    rw [fastilaw05_few.l0, if_neg (by omega), if_pos (by simp), if_pos (by simp)]
    congr 1
    apply decide_eq_decide.2
    have : bulkR [] = 0 := rfl
    omega
  | b :: r, p, e, x, h => by
    have hlen : l.length = p.length + (r.length + 1) := by rw [← e, List.length_append, List.length_cons]
    have hr : rd_L1 l (p.length : Int) = b := by rw [← e]; simp [rd_L1]
    have hb : bulkR (b :: r) = (b.length + 1) + bulkR r := by unfold bulkR; simp only [List.map_cons, List.sum_cons]
    rw [hb] at h ⊢
    have h2 := few_l0 l K hl r (p ++ [b]) (by rw [List.append_assoc]; exact e) (x + (b.length + 1)) (by omega)
    rw [List.length_append, List.length_singleton] at h2
    rw [List.length_cons, fastilaw05_few.l0, if_pos (by omega), if_pos (by omega), if_pos (by omega), hr, w64j (1 + (b.length : Int)) (by omega), w64j ((x : Int) + (1 + (b.length : Int))) (by omega), w64j ((p.length : Int) + 1) (by omega),
      show (x : Int) + (1 + (b.length : Int)) = ((x + (b.length + 1) : Nat) : Int) by omega, show (p.length : Int) + 1 = ((p.length + 1 : Nat) : Int) by omega, show K + (r.length + 1) = K + r.length + 1 by omega, h2]
    congr 1
    apply decide_eq_decide.2
    omega
theorem few_is (l : List (List Int)) (K : Nat) (h : bulkR l ≤ 2000000) : fastilaw05_few.f (K + l.length + 1) [] [] 0 false l = some (decide (bulkR l ≤ 4000)) := by
  have h1 := bulk_len l
  have h2 := few_l0 l K (by omega) l [] rfl 0 (by omega)
  rw [Nat.zero_add] at h2
  exact h2
theorem same_l0 (l : List (List Int)) (K : Nat) (hl : l.length ≤ 2000000) : ∀ (r p : List (List Int)), p ++ r = l → fastiref05_SameRecords.l0 (K + r.length + 1) l l (p.length : Int) = some true
  | [], p, e => by
    rw [List.append_nil] at e
    subst e
    rw [fastiref05_SameRecords.l0, if_neg (by omega)]
  | b :: r, p, e => by
    have hlen : l.length = p.length + (r.length + 1) := by rw [← e, List.length_append, List.length_cons]
    have h2 := same_l0 l K hl r (p ++ [b]) (by rw [List.append_assoc]; exact e)
    rw [List.length_append, List.length_singleton] at h2
    rw [List.length_cons, fastiref05_SameRecords.l0, if_pos (by omega), if_pos (by omega), if_pos (by omega), if_pos rfl, w64j ((p.length : Int) + 1) (by omega), show (p.length : Int) + 1 = ((p.length + 1 : Nat) : Int) by omega, show K + (r.length + 1) = K + r.length + 1 by omega, h2]
theorem same_is (l : List (List Int)) (K : Nat) (hl : l.length ≤ 2000000) : fastiref05_SameRecords.f (K + l.length + 1) l l = some true := by
  unfold fastiref05_SameRecords.f
  rw [if_pos rfl]
  exact same_l0 l K hl l [] rfl
theorem room_is (l : List (List Int)) (h : bulkR l ≤ 2000000) (m s : Int) (K : Nat) (hc : checkV l m s = 0) : journal_Room.f (K + l.length + 1) l m s = some (112 * (m - usedN l)) ∧ 1 ≤ m ∧ m ≤ 4096 ∧ 0 ≤ s ∧ s ≤ l.length ∧ (usedN l : Int) ≤ m := by
  have hl := bulk_len l
  have hu := used_le l
  have e := hc
  unfold checkV at e
  rw [usedV_is l h] at e
  have f1 : ¬ m < 1 := fun z => by rw [if_pos z] at e; cases e
  rw [if_neg f1] at e
  have f2 : ¬ m > 4096 := fun z => by rw [if_pos z] at e; cases e
  rw [if_neg f2] at e
  have f3 : ¬ s < 0 := fun z => by rw [if_pos z] at e; cases e
  rw [if_neg f3] at e
  have f4 : ¬ s > (l.length : Int) := fun z => by rw [if_pos z] at e; cases e
  rw [if_neg f4] at e
  have f5 : ¬ (usedN l : Int) > m := fun z => by rw [if_pos z] at e; cases e
  refine ⟨?_, by omega, by omega, by omega, by omega, by omega⟩
  unfold journal_Room.f
  rw [check_is l (by omega) m s K, Option.bind_some, hc, if_pos rfl, used_is l (by omega) K, Option.bind_some, usedV_is l h, w64j (m - (usedN l : Int)) (by omega), w64j (112 * (m - (usedN l : Int))) (by omega)]
theorem check_snoc (l : List (List Int)) (b : List Int) (m s : Int) (h : bulkR l + (b.length + 1) ≤ 2000000) (h1 : 1 ≤ m) (h2 : m ≤ 4096) (h3 : 0 ≤ s) (h4 : s ≤ l.length) (h5 : (usedN l : Int) + secN b ≤ m) : checkV (l ++ [b]) m s = 0 := by
  unfold checkV
  rw [usedV_is _ (by rw [bulkR_snoc]; exact h), usedN_snoc, if_neg (by omega), if_neg (by omega), if_neg (by omega), if_neg (by simp only [List.length_append, List.length_singleton]; omega), if_neg (by omega)]

theorem sane_k : ∃ K, fastilaw05_sane.f K = some true := ⟨4000, by kernel_rfl⟩
theorem sane_add {K : Nat} (h : fastilaw05_sane.f K = some true) : ∀ d, fastilaw05_sane.f (K + d) = some true
  | 0 => h
  | d + 1 => fastilaw05_sane.mono (K + d) _ (sane_add h d)
end Go.Proofs.Ytljmdkeeppikhaa.Q

namespace Go.Proofs.Ytljmdkeeppikhaa.PureU
open Go.RowKit Go.Proofs.Ytljmdkeeppikhaa.Q Go.Proofs.YtljmdkeeppikhaaW.PrintWords Go.Proofs.YtljmdkeeppikhaaW.PrintLast
set_option linter.unusedVariables false

theorem j2_is (K : Nat) (v : Bool) : fastilaw05_JournalRoom.j2 (K + 1) v = some v := rfl
theorem JournalRoom : fastilaw05_JournalRoom.PureU := by
  rintro ⟨l0, m, s⟩ l1 hB0 hB1 hM
  have hbulk : bulkR l0 + l1.length ≤ 1048576 := by
    have h1 : m29 ⟨l0, m, s⟩ = (l0.map (fun b => (b.map (fun _ => 1)).sum + 1)).sum + 1 + (1 + 1) := rfl
    have h2 : (fun l_ : List Int => (l_.map (fun _ => 1)).sum + 1) l1 = l1.length + 1 := by show (l1.map (fun _ => 1)).sum + 1 = _; rw [map_one]
    rw [h1, h2, bulk_map] at hM
    omega
  clear hM hB0 hB1
  obtain ⟨K0, hs⟩ := sane_k
  refine ⟨K0 + (l0.length + 20), ?_⟩
  have hlen := bulk_len l0
  show fastilaw05_JournalRoom.f (K0 + (l0.length + 20)) l0 m s l1 = some true
  unfold fastilaw05_JournalRoom.f
  rw [sane_add hs, Option.bind_some, if_pos rfl, show K0 + (l0.length + 20) = (K0 + 19) + l0.length + 1 by omega, few_is l0 (K0 + 19) (by omega), Option.bind_some]
  by_cases hf : bulkR l0 ≤ 4000
  · rw [decide_eq_true hf, if_pos rfl]
    by_cases hl : (l1.length : Int) > 70000
    · rw [if_pos hl, fastilaw05_JournalRoom.j0, if_pos rfl]
    · rw [if_neg hl, check_is l0 (by omega) m s (K0 + 19), Option.bind_some]
      by_cases hc : checkV l0 m s = 0
      · obtain ⟨hroom, h1, h2, h3, h4, h5⟩ := room_is l0 (by omega) m s (K0 + 18) hc
        have hU := usedV_is l0 (by omega)
        have hS := sec_is l1 (by omega)
        have hw : wrap64 (m - (usedN l0 : Int)) = m - usedN l0 := w64j _ (by omega)
        rw [hc, show ((0 : Int) != 0) = false from rfl, fastilaw05_JournalRoom.j0, if_neg (by decide), show K0 + 19 + l0.length = (K0 + 18) + l0.length + 1 by omega, hroom]
        by_cases hsec : (secN l1 : Int) > m - usedN l0
        · have hA : journal_Append.f l0 m s l1 = some ([], 0, 0, 2) := by
            unfold journal_Append.f
            rw [if_neg (fun h => h hc), hU, hS, hw, if_pos hsec]
          rw [hA, Option.bind_some, Option.bind_some]
          dsimp only
          by_cases hr : 112 * (m - (usedN l0 : Int)) > 0
          · have hle : ¬ ((l1.length : Int) ≤ 112 * (m - (usedN l0 : Int))) := by
              unfold secN at hsec
              omega
            rw [if_pos hr, decide_eq_false hle, show (((2 : Int) == 0) != false) = false from rfl, show K0 + 18 + l0.length + 1 = (K0 + 18 + l0.length) + 1 by omega, fastilaw05_JournalRoom.j1, if_neg (by decide), if_neg (by decide), if_pos rfl]
            rfl
          · rw [if_neg hr, show (((2 : Int) == 0) != false) = false from rfl, show K0 + 18 + l0.length + 1 = (K0 + 18 + l0.length) + 1 by omega, fastilaw05_JournalRoom.j1, if_neg (by decide), if_neg (by decide), if_pos rfl]
            rfl
        · have hA : journal_Append.f l0 m s l1 = some (l0 ++ [l1], m, s, 0) := by
            unfold journal_Append.f
            rw [if_neg (fun h => h hc), hU, hS, hw, if_neg hsec, if_pos ⟨by omega, by omega⟩]
          have hp := sec_pos l1
          have hle : (l1.length : Int) ≤ 112 * (m - (usedN l0 : Int)) := by
            unfold secN at hsec
            omega
          have hck := check_snoc l0 l1 m s (by omega) h1 h2 h3 h4 (by omega)
          have hln : (l0 ++ [l1]).length = l0.length + 1 := by rw [List.length_append, List.length_singleton]
          obtain ⟨hroom2, _⟩ := room_is (l0 ++ [l1]) (by rw [bulkR_snoc]; omega) m s (K0 + 16) hck
          rw [hln, usedN_snoc] at hroom2
          rw [hA, Option.bind_some, Option.bind_some]
          dsimp only
          rw [if_pos (by omega), decide_eq_true hle, show (((0 : Int) == 0) != true) = false from rfl, show K0 + 18 + l0.length + 1 = (K0 + 18 + l0.length) + 1 by omega, fastilaw05_JournalRoom.j1, if_neg (by decide), if_pos rfl,
            show K0 + 18 + l0.length = (K0 + 16) + (l0 ++ [l1]).length + 1 by rw [hln]; omega, check_is (l0 ++ [l1]) (by rw [hln]; omega) m s (K0 + 16), Option.bind_some, hck, if_pos rfl, if_pos rfl, if_pos rfl, hln, w64j ((l0.length : Int) + 1) (by omega), if_pos (by omega), if_pos (by omega), if_pos (by omega)]
          rw [show ((l0.length : Int)).toNat = l0.length from Int.toNat_natCast _, List.take_left' rfl, show K0 + 16 + (l0.length + 1) + 1 = (K0 + 17) + l0.length + 1 by omega, same_is l0 (K0 + 17) (by omega), Option.bind_some, if_pos rfl, if_pos (by omega)]
          have hrd : rd_L1 (l0 ++ [l1]) (l0.length : Int) = l1 := by simp [rd_L1]
          rw [hrd, if_pos rfl, show K0 + 17 + l0.length + 1 = (K0 + 16) + (l0.length + 1) + 1 by omega, hroom2, Option.bind_some, decide_eq_true (by omega)]
          rfl
      · rw [show (checkV l0 m s != 0) = true from bne_iff_ne.mpr hc, fastilaw05_JournalRoom.j0, if_pos rfl]
  · rw [decide_eq_false hf, if_neg (by decide), fastilaw05_JournalRoom.j0, if_pos rfl]
end Go.Proofs.Ytljmdkeeppikhaa.PureU
