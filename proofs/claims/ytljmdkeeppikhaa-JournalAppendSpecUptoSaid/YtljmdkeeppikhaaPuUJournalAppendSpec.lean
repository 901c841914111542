/- The plain law of JournalAppendSpec, for arguments of bounded bulk. -/
import Derived.Test.YtljmdkeeppikhaaJUs
import Derived.Test.YtljmdkeeppikhaaJAp
import Derived.Test.YtljmdkeeppikhaaQ4
import Derived.Test.YtljmdkeeppikhaaR8
import Derived.Test.YtljmdkeeppikhaaQ7
import Derived.Test.YtljmdkeeppikhaaR10
import Derived.Test.YtljmdkeeppikhaaSaUJournalAppendSpec

namespace Go.Proofs.Ytljmdkeeppikhaa.Q
open Go.RowKit Go.Proofs.YtljmdkeeppikhaaW.PrintWords Go.Proofs.YtljmdkeeppikhaaW.PrintLast Go.Proofs.YtljmdkeeppikhaaW.PrintMore
set_option linter.unusedVariables false

/-- The bytes and the rows. -/
def bulkR (l : List (List Int)) : Nat := (l.map (fun b => b.length + 1)).sum
def secN (b : List Int) : Nat := max 1 ((b.length + 111) / 112)
def usedN (l : List (List Int)) : Nat := (l.map secN).sum
theorem map_one (b : List Int) : (b.map (fun _ => 1)).sum = b.length := by
  induction b with
  | nil => rfl
  | cons a b ih => simp only [List.map_cons, List.sum_cons, ih, List.length_cons]; omega
theorem bulk_map (l : List (List Int)) : (l.map (fun b => (b.map (fun _ => 1)).sum + 1)).sum = bulkR l := by
  unfold bulkR
  congr 1
  exact List.map_congr_left (fun b _ => by rw [map_one])
theorem bulk_len : ∀ (l : List (List Int)), l.length ≤ bulkR l
  | [] => Nat.le_refl _
  | b :: l => by have := bulk_len l; unfold bulkR at *; simp only [List.map_cons, List.sum_cons, List.length_cons]; omega
theorem sec_is (b : List Int) (h : b.length ≤ 2000000) : sectorsV b = (secN b : Int) := by
  unfold sectorsV secN mx
  rw [w64j ((b.length : Int) + 112) (by omega), w64j ((b.length : Int) + 112 - 1) (by omega), Int.tdiv_eq_ediv_of_nonneg (by omega), w64j _ (by omega)]
  split <;> omega
theorem sec_le (b : List Int) : secN b ≤ b.length + 1 := by unfold secN; omega
theorem sec_pos (b : List Int) : 1 ≤ secN b := by unfold secN; omega
theorem used_le : ∀ (l : List (List Int)), usedN l ≤ bulkR l
  | [] => Nat.le_refl _
  | b :: l => by have := used_le l; have := sec_le b; unfold usedN bulkR at *; simp only [List.map_cons, List.sum_cons]; omega
theorem len_used : ∀ (l : List (List Int)), l.length ≤ usedN l
  | [] => Nat.le_refl _
  | b :: l => by have := len_used l; have := sec_pos b; unfold usedN at *; simp only [List.map_cons, List.sum_cons, List.length_cons]; omega
theorem usedL_is : ∀ (l : List (List Int)) (x : Nat), x + bulkR l ≤ 2000000 → usedL (x : Int) l = ((x + usedN l : Nat) : Int)
  | [], x, h => rfl
  | b :: l, x, h => by
    have hb : bulkR (b :: l) = (b.length + 1) + bulkR l := by unfold bulkR; simp only [List.map_cons, List.sum_cons]
    have hs := sec_le b
    rw [usedL, sec_is b (by omega), w64j _ (by omega), show (x : Int) + (secN b : Int) = ((x + secN b : Nat) : Int) by omega, usedL_is l (x + secN b) (by omega)]
    have : usedN (b :: l) = secN b + usedN l := by unfold usedN; simp only [List.map_cons, List.sum_cons]
    rw [this, Nat.add_assoc]
theorem usedV_is (l : List (List Int)) (h : bulkR l ≤ 2000000) : usedV l = (usedN l : Int) := by
  have := usedL_is l 0 (by omega)
  rw [Nat.zero_add] at this
  exact this
theorem usedN_snoc (l : List (List Int)) (b : List Int) : usedN (l ++ [b]) = usedN l + secN b := by
  unfold usedN
  rw [List.map_append, List.sum_append]
  simp
theorem bulkR_snoc (l : List (List Int)) (b : List Int) : bulkR (l ++ [b]) = bulkR l + (b.length + 1) := by
  unfold bulkR
  rw [List.map_append, List.sum_append]
  simp
theorem few_l0 (l : List (List Int)) (K : Nat) (hl : l.length ≤ 2000000) : ∀ (r p : List (List Int)), p ++ r = l → ∀ x : Nat, x + bulkR r ≤ 4000000 → fastilaw05_few.l0 (K + r.length + 1) (x : Int) l (l.length : Int) (p.length : Int) [] [] 0 false = some (decide (x + bulkR r ≤ 4000))
  | [], p, e, x, h => by
    rw [List.append_nil] at e
    subst e
    rw [fastilaw05_few.l0, if_neg (by omega), if_pos (by simp), if_pos (by simp)]
    congr 1
    apply decide_eq_decide.2
    have : bulkR [] = 0 := rfl
    omega
  | b :: r, p, e, x, h => by
    have hlen : l.length = p.length + (r.length + 1) := by rw [← e, List.length_append, List.length_cons]
    have hr : rd_L1 l (p.length : Int) = b := by rw [← e]; simp [rd_L1]
    have hb : bulkR (b :: r) = (b.length + 1) + bulkR r := by unfold bulkR; simp only [List.map_cons, List.sum_cons]
    rw [hb] at h ⊢
    have h2 := few_l0 l K hl r (p ++ [b]) (by rw [List.append_assoc]; exact e) (x + (b.length + 1)) (by omega)
    rw [List.length_append, List.length_singleton] at h2
    rw [List.length_cons, fastilaw05_few.l0, if_pos (by omega), if_pos (by omega), if_pos (by omega), hr, w64j (1 + (b.length : Int)) (by omega), w64j ((x : Int) + (1 + (b.length : Int))) (by omega), w64j ((p.length : Int) + 1) (by omega),
      show (x : Int) + (1 + (b.length : Int)) = ((x + (b.length + 1) : Nat) : Int) by omega, show (p.length : Int) + 1 = ((p.length + 1 : Nat) : Int) by omega, show K + (r.length + 1) = K + r.length + 1 by omega, h2]
    congr 1
    apply decide_eq_decide.2
    omega
theorem few_is (l : List (List Int)) (K : Nat) (h : bulkR l ≤ 2000000) : fastilaw05_few.f (K + l.length + 1) [] [] 0 false l = some (decide (bulkR l ≤ 4000)) := by
  have h1 := bulk_len l
  have h2 := few_l0 l K (by omega) l [] rfl 0 (by omega)
  rw [Nat.zero_add] at h2
  exact h2
theorem same_l0 (l : List (List Int)) (K : Nat) (hl : l.length ≤ 2000000) : ∀ (r p : List (List Int)), p ++ r = l → fastiref05_SameRecords.l0 (K + r.length + 1) l l (p.length : Int) = some true
  | [], p, e => by
    rw [List.append_nil] at e
    subst e
    rw [fastiref05_SameRecords.l0, if_neg (by omega)]
  | b :: r, p, e => by
    have hlen : l.length = p.length + (r.length + 1) := by rw [← e, List.length_append, List.length_cons]
    have h2 := same_l0 l K hl r (p ++ [b]) (by rw [List.append_assoc]; exact e)
    rw [List.length_append, List.length_singleton] at h2
    rw [List.length_cons, fastiref05_SameRecords.l0, if_pos (by omega), if_pos (by omega), if_pos (by omega), if_pos rfl, w64j ((p.length : Int) + 1) (by omega), show (p.length : Int) + 1 = ((p.length + 1 : Nat) : Int) by omega, show K + (r.length + 1) = K + r.length + 1 by omega, h2]
theorem same_is (l : List (List Int)) (K : Nat) (hl : l.length ≤ 2000000) : fastiref05_SameRecords.f (K + l.length + 1) l l = some true := by
  unfold fastiref05_SameRecords.f
  rw [if_pos rfl]
  exact same_l0 l K hl l [] rfl
theorem room_is (l : List (List Int)) (h : bulkR l ≤ 2000000) (m s : Int) (K : Nat) (hc : checkV l m s = 0) : journal_Room.f (K + l.length + 1) l m s = some (112 * (m - usedN l)) ∧ 1 ≤ m ∧ m ≤ 4096 ∧ 0 ≤ s ∧ s ≤ l.length ∧ (usedN l : Int) ≤ m := by
  have hl := bulk_len l
  have hu := used_le l
  have e := hc
  unfold checkV at e
  rw [usedV_is l h] at e
  have f1 : ¬ m < 1 := fun z => by rw [if_pos z] at e; cases e
  rw [if_neg f1] at e
  have f2 : ¬ m > 4096 := fun z => by rw [if_pos z] at e; cases e
  rw [if_neg f2] at e
  have f3 : ¬ s < 0 := fun z => by rw [if_pos z] at e; cases e
  rw [if_neg f3] at e
  have f4 : ¬ s > (l.length : Int) := fun z => by rw [if_pos z] at e; cases e
  rw [if_neg f4] at e
  have f5 : ¬ (usedN l : Int) > m := fun z => by rw [if_pos z] at e; cases e
  refine ⟨?_, by omega, by omega, by omega, by omega, by omega⟩
  unfold journal_Room.f
  rw [check_is l (by omega) m s K, Option.bind_some, hc, if_pos rfl, used_is l (by omega) K, Option.bind_some, usedV_is l h, w64j (m - (usedN l : Int)) (by omega), w64j (112 * (m - (usedN l : Int))) (by omega)]
theorem check_snoc (l : List (List Int)) (b : List Int) (m s : Int) (h : bulkR l + (b.length + 1) ≤ 2000000) (h1 : 1 ≤ m) (h2 : m ≤ 4096) (h3 : 0 ≤ s) (h4 : s ≤ l.length) (h5 : (usedN l : Int) + secN b ≤ m) : checkV (l ++ [b]) m s = 0 := by
  unfold checkV
  rw [usedV_is _ (by rw [bulkR_snoc]; exact h), usedN_snoc, if_neg (by omega), if_neg (by omega), if_neg (by omega), if_neg (by simp only [List.length_append, List.length_singleton]; omega), if_neg (by omega)]

theorem sane_k : ∃ K, fastilaw05_sane.f K = some true := ⟨4000, by kernel_rfl⟩
theorem sane_add {K : Nat} (h : fastilaw05_sane.f K = some true) : ∀ d, fastilaw05_sane.f (K + d) = some true
  | 0 => h
  | d + 1 => fastilaw05_sane.mono (K + d) _ (sane_add h d)
end Go.Proofs.Ytljmdkeeppikhaa.Q

namespace Go.Proofs.Ytljmdkeeppikhaa.Q
open Go.RowKit Go.Proofs.YtljmdkeeppikhaaW.PrintWords Go.Proofs.YtljmdkeeppikhaaW.PrintLast Go.Proofs.YtljmdkeeppikhaaW.PrintMore
set_option linter.unusedVariables false

theorem rsec_is (b : List Int) : fastiref05_Sectors.f (b.length : Int) = some (sectorsV b) := rfl
theorem rused_l0 (l : List (List Int)) (hl : l.length ≤ 2000000) (K : Nat) : ∀ (r p : List (List Int)), p ++ r = l → ∀ x, fastiref05_Used.l0 (K + r.length + 1) l x (p.length : Int) = some (usedL x r)
  | [], p, e, x => by
    rw [List.append_nil] at e
    subst e
    rw [fastiref05_Used.l0, if_neg (by omega)]
    rfl
  | b :: r, p, e, x => by
    have hlen : l.length = p.length + (r.length + 1) := by rw [← e, List.length_append, List.length_cons]
    have hr : rd_L1 l (p.length : Int) = b := by rw [← e]; simp [rd_L1]
    have h := rused_l0 l hl K r (p ++ [b]) (by rw [List.append_assoc]; exact e) (wrap64 (x + sectorsV b))
    rw [List.length_append, List.length_singleton] at h
    rw [List.length_cons, fastiref05_Used.l0, if_pos (by omega), if_pos (by omega), hr, rsec_is, Option.bind_some, w64j ((p.length : Int) + 1) (by omega), show (p.length : Int) + 1 = ((p.length + 1 : Nat) : Int) by omega, show K + (r.length + 1) = K + r.length + 1 by omega, h]
    rfl
theorem rused_is (l : List (List Int)) (hl : l.length ≤ 2000000) (K : Nat) : fastiref05_Used.f (K + l.length + 1) l = some (usedV l) := rused_l0 l hl K l [] rfl 0
theorem rcheck_is (l : List (List Int)) (hl : l.length ≤ 2000000) (m s : Int) (K : Nat) : fastiref05_Check.f (K + l.length + 1) l m s = some (checkV l m s) := by
  unfold fastiref05_Check.f checkV
  rw [rused_is l hl K, Option.bind_some]
  repeat' split
  all_goals rfl
theorem rappend_is (l : List (List Int)) (b : List Int) (hl : l.length ≤ 100000) (hb : b.length ≤ 100000) (m s : Int) (K : Nat) : fastiref05_Append.f (K + l.length + 1) l m s b = journal_Append.f l m s b := by
  unfold fastiref05_Append.f journal_Append.f
  rw [rcheck_is l (by omega) m s K, Option.bind_some]
  by_cases hc : checkV l m s = 0
  · rw [if_pos hc, if_neg (fun h => h hc), rsec_is, Option.bind_some, rused_is l (by omega) K, Option.bind_some]
    by_cases hs : sectorsV b > wrap64 (m - usedV l)
    · rw [if_pos hs, if_pos hs]
    · rw [if_neg hs, if_neg hs, if_pos (⟨hb, hl⟩ : b.length ≤ 100000 ∧ l.length ≤ 100000), Option.bind_some, if_pos (by simp only [List.length_nil]; omega), Option.bind_some, if_pos (by simp only [List.nil_append]; omega)]
      rfl
  · rw [if_neg hc, if_pos hc]
theorem rroom_is (l : List (List Int)) (hl : l.length ≤ 2000000) (m s : Int) (K : Nat) : fastiref05_Room.f (K + l.length + 1) l m s = journal_Room.f (K + l.length + 1) l m s := by
  unfold fastiref05_Room.f journal_Room.f
  rw [rcheck_is l hl m s K, check_is l (by omega) m s K, rused_is l hl K, used_is l (by omega) K]
theorem jroom_some (l : List (List Int)) (hl : l.length ≤ 2000000) (m s : Int) (K : Nat) : ∃ r, journal_Room.f (K + l.length + 1) l m s = some r := by
  unfold journal_Room.f
  rw [check_is l (by omega) m s K, Option.bind_some, used_is l (by omega) K, Option.bind_some]
  split
  · exact ⟨_, rfl⟩
  · exact ⟨_, rfl⟩
theorem rsame_is (l : List (List Int)) (hl : l.length ≤ 2000000) (m s : Int) (K : Nat) : fastiref05_Same.f (K + l.length + 1) l m s l m s = some true := by
  unfold fastiref05_Same.f
  rw [if_pos rfl, if_pos rfl, same_is l K hl]
  rfl
theorem append_res (l : List (List Int)) (b : List Int) (hl : l.length ≤ 100000) (hb : b.length ≤ 100000) (m s : Int) : ∃ L m' s' e, journal_Append.f l m s b = some (L, m', s', e) ∧ L.length ≤ l.length + 1 := by
  unfold journal_Append.f
  split
  · exact ⟨_, _, _, _, rfl, by simp⟩
  · split
    · exact ⟨_, _, _, _, rfl, by simp⟩
    · rw [if_pos ⟨hb, hl⟩]
      exact ⟨_, _, _, _, rfl, by simp⟩
end Go.Proofs.Ytljmdkeeppikhaa.Q

namespace Go.Proofs.Ytljmdkeeppikhaa.PureU
open Go.RowKit Go.Proofs.Ytljmdkeeppikhaa.Q Go.Proofs.YtljmdkeeppikhaaW.PrintWords Go.Proofs.YtljmdkeeppikhaaW.PrintLast
set_option linter.unusedVariables false

theorem JournalAppendSpec : fastilaw05_JournalAppendSpec.PureU := by
  rintro ⟨l0, m, s⟩ l1 hB0 hB1 hM
  have hbulk : bulkR l0 + l1.length ≤ 1048576 := by
    have h1 : m29 ⟨l0, m, s⟩ = (l0.map (fun b => (b.map (fun _ => 1)).sum + 1)).sum + 1 + (1 + 1) := rfl
    have h2 : (fun l_ : List Int => (l_.map (fun _ => 1)).sum + 1) l1 = l1.length + 1 := by show (l1.map (fun _ => 1)).sum + 1 = _; rw [map_one]
    rw [h1, h2, bulk_map] at hM
    omega
  clear hM hB0 hB1
  obtain ⟨K0, hs⟩ := sane_k
  refine ⟨K0 + (l0.length + 20), ?_⟩
  have hlen := bulk_len l0
  show fastilaw05_JournalAppendSpec.f (K0 + (l0.length + 20)) l0 m s l1 = some true
  unfold fastilaw05_JournalAppendSpec.f
  rw [sane_add hs, Option.bind_some, if_pos rfl, show K0 + (l0.length + 20) = (K0 + 19) + l0.length + 1 by omega, few_is l0 (K0 + 19) (by omega), Option.bind_some]
  by_cases hf : bulkR l0 ≤ 4000
  · rw [decide_eq_true hf, if_pos rfl]
    by_cases hl : (l1.length : Int) > 70000
    · rw [decide_eq_true hl, fastilaw05_JournalAppendSpec.j0, if_pos rfl]
    · obtain ⟨L, m', s', e, hA, hL⟩ := append_res l0 l1 (by omega) (by omega) m s
      obtain ⟨r, hR⟩ := jroom_some l0 (by omega) m s (K0 + 18)
      rw [decide_eq_false hl, fastilaw05_JournalAppendSpec.j0, if_neg (by decide), hA, Option.bind_some, show K0 + 19 + l0.length = (K0 + 18) + l0.length + 1 by omega, rappend_is l0 l1 (by omega) (by omega) m s (K0 + 18), hA, Option.bind_some,
        check_is l0 (by omega) m s (K0 + 18), Option.bind_some, rcheck_is l0 (by omega) m s (K0 + 18), Option.bind_some, if_pos rfl, rroom_is l0 (by omega) m s (K0 + 18), hR, Option.bind_some, Option.bind_some, if_pos rfl]
      dsimp only
      rw [show K0 + 18 + l0.length + 1 = (K0 + 18 + l0.length - L.length) + L.length + 1 by omega, rsame_is L (by omega) m' s' (K0 + 18 + l0.length - L.length), Option.bind_some, if_pos rfl, show (e == e) = true from beq_self_eq_true e]
      rfl
  · rw [decide_eq_false hf, if_neg (by decide), fastilaw05_JournalAppendSpec.j0, if_pos rfl]
end Go.Proofs.Ytljmdkeeppikhaa.PureU
