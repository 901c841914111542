/- The plain laws of bearing that the statement on the weather needs: what Risk, Bears and Permit of the program come to, as closed forms. -/
import Derived.Test.YthfhjcbgccnijaaQ5
import Derived.Test.YthfhjcbgccnijaaQ4
import Derived.Test.YthfhjcbgccnijaaQ3
import Derived.OpenShut
namespace Go.Proofs.Ythfhjcbgccnijaa.Q
open Go.RowKit Go.Proofs.YthfhjcbgccnijaaW.PrintWords Go.Proofs.YthfhjcbgccnijaaW.PrintLast Go.Proofs.YthfhjcbgccnijaaW.PrintMore

theorem wrap_in {x : Int} (h : -9223372036854775808 ≤ x ∧ x ≤ 9223372036854775807) : wrap64 x = x := by
  unfold wrap64
  omega

theorem rightB_iff (bear wear grow uses lo hi : Int) : rightB bear wear grow uses lo hi = true ↔ (0 ≤ bear ∧ bear ≤ 1000) ∧ (0 ≤ wear ∧ wear ≤ 1000) ∧ (0 ≤ grow ∧ grow ≤ 1000) ∧ (1 ≤ uses ∧ uses ≤ 4) ∧ 0 ≤ lo ∧ lo ≤ hi ∧ hi ≤ 1000 := by
  simp only [rightB, okState, List.all_cons, List.all_nil, Bool.and_eq_true, decide_eq_true_eq]
  constructor
  · rintro ⟨⟨h1, h2, h3, h4, h5, _⟩, h6, h7, h8⟩
    omega
  · rintro ⟨h1, h2, h3, h4, h5, h6, h7⟩
    refine ⟨⟨by omega, by omega, by omega, by omega, by omega, trivial⟩, by omega, by omega, by omega⟩

/-- In how many states from lo to hi a pitch that bears games from bear on bears none. -/
def badN (bear lo hi : Int) : Int := if bear ≤ lo then 0 else if hi < bear then hi - lo + 1 else bear - lo

theorem risk_yes {n m : ByteArray} {t bear wear grow uses lo hi : Int} (h : rightB bear wear grow uses lo hi = true) : bearing_Risk.f n m t bear wear grow uses lo hi = some (badN bear lo hi, hi - lo + 1, 0) := by
  have b := (rightB_iff ..).1 h
  unfold bearing_Risk.f
  rw [if_pos h, wrap_in (x := bear - 1) (by omega), wrap_in (x := hi - lo) (by omega), wrap_in (x := hi - lo + 1) (by omega)]
  have e1 : mx 0 (hi - lo + 1) = hi - lo + 1 := by unfold mx; omega
  have e2 : -1 ≤ mn hi (bear - 1) ∧ mn hi (bear - 1) ≤ 1000 := by unfold mn; omega
  rw [wrap_in (x := mn hi (bear - 1) - lo) (by omega), wrap_in (x := mn hi (bear - 1) - lo + 1) (by omega), e1]
  have e3 : mx 0 (mn hi (bear - 1) - lo + 1) = badN bear lo hi := by
    unfold mx mn badN
    omega
  rw [e3]
theorem risk_no {n m : ByteArray} {t bear wear grow uses lo hi : Int} (h : rightB bear wear grow uses lo hi = false) : bearing_Risk.f n m t bear wear grow uses lo hi = some (0, 0, 290) := by
  unfold bearing_Risk.f
  rw [if_neg (by rw [h]; decide)]

/-- The kind of bearing: 2 surely, 0 never, 1 possibly. -/
def kindN (bear lo hi : Int) : Int := if bear ≤ lo then 2 else if hi < bear then 0 else 1

theorem bad_zero {bear lo hi : Int} (h : lo ≤ hi) : badN bear lo hi = 0 ↔ bear ≤ lo := by
  unfold badN
  omega
theorem bad_all {bear lo hi : Int} (h : lo ≤ hi) : badN bear lo hi = hi - lo + 1 ↔ hi < bear := by
  unfold badN
  omega
theorem bad_in {bear lo hi : Int} (h : lo ≤ hi) : 0 ≤ badN bear lo hi ∧ badN bear lo hi ≤ hi - lo + 1 := by
  unfold badN
  omega

theorem bears_yes {n m : ByteArray} {t bear wear grow uses lo hi : Int} (h : rightB bear wear grow uses lo hi = true) : bearing_Bears.f n m t bear wear grow uses lo hi = some (kindN bear lo hi, 0) := by
  have b := (rightB_iff ..).1 h
  unfold bearing_Bears.f
  rw [risk_yes h, Option.bind_some, if_pos rfl]
  unfold kindN
  by_cases h1 : bear ≤ lo
  · rw [if_pos ((bad_zero (by omega)).2 h1), if_pos h1]
  · rw [if_neg (fun e => h1 ((bad_zero (by omega)).1 e)), if_neg h1]
    by_cases h2 : hi < bear
    · rw [if_pos ((bad_all (by omega)).2 h2), if_pos h2]
    · rw [if_neg (fun e => h2 ((bad_all (by omega)).1 e)), if_neg h2]
theorem bears_no {n m : ByteArray} {t bear wear grow uses lo hi : Int} (h : rightB bear wear grow uses lo hi = false) : bearing_Bears.f n m t bear wear grow uses lo hi = some (0, 290) := by
  unfold bearing_Bears.f
  rw [risk_no h, Option.bind_some, if_neg (by decide)]

/-- What Permit answers. -/
def permitB (bear lo hi limit : Int) (acc : Bool) : Bool := if bear ≤ lo then true else if hi < bear then false else acc && decide (1000 * badN bear lo hi ≤ limit * (hi - lo + 1))

theorem mul_bounds {a b : Int} (ha : 0 ≤ a ∧ a ≤ 1000) (hb : 0 ≤ b ∧ b ≤ 1001) : 0 ≤ a * b ∧ a * b ≤ 1001000 := by
  constructor
  · exact Int.mul_nonneg ha.1 hb.1
  · calc a * b ≤ 1000 * b := Int.mul_le_mul_of_nonneg_right ha.2 hb.1
      _ ≤ 1001000 := by omega

theorem permit_yes {n m : ByteArray} {t bear wear grow uses lo hi limit : Int} {acc : Bool} (k : Nat) (h : rightB bear wear grow uses lo hi = true) (hl : 0 ≤ limit ∧ limit ≤ 1000) :
    bearing_Permit.f (k + 1) n m t bear wear grow uses lo hi limit acc = some (permitB bear lo hi limit acc, 0) := by
  have b := (rightB_iff ..).1 h
  have bi := bad_in (bear := bear) (lo := lo) (hi := hi) (by omega)
  unfold bearing_Permit.f
  rw [bears_yes h, Option.bind_some, if_pos rfl, if_neg (by omega)]
  simp only [bearing_Permit.j0]
  rw [if_neg (by simp; omega), risk_yes h, Option.bind_some]
  unfold permitB kindN
  by_cases h1 : bear ≤ lo
  · rw [if_pos h1, if_pos h1, if_pos rfl]
  · rw [if_neg h1, if_neg h1]
    by_cases h2 : hi < bear
    · rw [if_pos h2, if_pos h2, if_neg (by decide), if_neg (by decide)]
    · rw [if_neg h2, if_neg h2, if_neg (by decide), if_pos rfl]
      have mb := mul_bounds hl (b := hi - lo + 1) (by omega)
      rw [wrap_in (x := 1000 * badN bear lo hi) (by omega), wrap_in (x := limit * (hi - lo + 1)) (by omega)]
      cases acc <;> simp
theorem permit_no {n m : ByteArray} {t bear wear grow uses lo hi limit : Int} {acc : Bool} (k : Nat) (h : rightB bear wear grow uses lo hi = false ∨ ¬ (0 ≤ limit ∧ limit ≤ 1000)) :
    bearing_Permit.f (k + 1) n m t bear wear grow uses lo hi limit acc = some (false, 290) := by
  unfold bearing_Permit.f
  by_cases hr : rightB bear wear grow uses lo hi = true
  · rw [bears_yes hr, Option.bind_some, if_pos rfl]
    replace h : ¬ (0 ≤ limit ∧ limit ≤ 1000) := by rcases h with h | h; exact absurd (hr.symm.trans h) (by decide); exact h
    by_cases h1 : limit < 0
    · rw [if_pos h1]
      simp only [bearing_Permit.j0, if_true]
    · rw [if_neg h1]
      simp only [bearing_Permit.j0]
      rw [if_pos (by simp; omega)]
  · rw [bears_no (by simpa using hr), Option.bind_some, if_neg (by decide)]
    simp only [bearing_Permit.j0, if_true]

/-! the reference -/
theorem pitch_val (n m : ByteArray) (t bear wear grow uses : Int) : fastiref29_Pitch.f n m t bear wear grow uses = some (decide ((0 ≤ bear ∧ bear ≤ 1000) ∧ (0 ≤ wear ∧ wear ≤ 1000) ∧ (0 ≤ grow ∧ grow ≤ 1000) ∧ (1 ≤ uses ∧ uses ≤ 4))) := by
  unfold fastiref29_Pitch.f
  repeat' split
  all_goals (congr 1; first | (rw [decide_eq_decide]; omega) | (symm; rw [decide_eq_false_iff_not]; omega))
theorem sane29 (k : Nat) (hk : 2000 ≤ k) : fastilaw29_sane.f k = some true := by
  have h : fastilaw29_sane.f 60 = some true := by kernel_rfl
  have up : ∀ d : Nat, fastilaw29_sane.f (60 + d) = some true := by
    intro d
    induction d with
    | zero => exact h
    | succ d ih => exact fastilaw29_sane.mono (60 + d) true ih
  have := up (k - 60)
  rwa [show 60 + (k - 60) = k by omega] at this

end Go.Proofs.Ythfhjcbgccnijaa.Q
