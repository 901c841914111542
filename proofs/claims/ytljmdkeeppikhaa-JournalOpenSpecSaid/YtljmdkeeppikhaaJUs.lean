/- Closed forms of the journal's used and Check, for contracts by hand. -/
import Derived.Test.YtljmdkeeppikhaaJEn
import Derived.Test.YtljmdkeeppikhaaQ3
namespace Go.Proofs.Ytljmdkeeppikhaa.Q
open Go.RowKit Go.Proofs.YtljmdkeeppikhaaW.PrintWords Go.Proofs.YtljmdkeeppikhaaW.PrintLast Go.Proofs.YtljmdkeeppikhaaW.PrintMore
set_option linter.unusedVariables false
set_option linter.unusedSimpArgs false

def sectorsV (b : List Int) : Int := mx 1 (wrap64 (Int.tdiv (wrap64 ((wrap64 ((b.length : Int) + 112)) - 1)) 112))
theorem sectors_is (b : List Int) : journal_sectors.f b = some (sectorsV b) := rfl
def usedL (x : Int) : List (List Int) → Int
  | [] => x
  | b :: l => usedL (wrap64 (x + sectorsV b)) l
def usedV (l : List (List Int)) : Int := usedL 0 l
theorem used_l0 (l : List (List Int)) (hl : l.length ≤ 9223372036854775807) (K : Nat) : ∀ (r : List (List Int)) (p : List (List Int)), p ++ r = l → ∀ x, journal_used.l0 (K + r.length + 1) x l (l.length : Int) (p.length : Int) = some (usedL x r)
  | [], p, e, x => by
    rw [List.append_nil] at e
    subst e
    rw [journal_used.l0, if_neg (by omega)]
    rfl
  | b :: r, p, e, x => by
    have hlen : l.length = p.length + (r.length + 1) := by rw [← e, List.length_append, List.length_cons]
    have hr : rd_L1 l (p.length : Int) = b := by
      rw [← e]; simp [rd_L1]
    rw [List.length_cons, journal_used.l0, if_pos (by omega), if_pos (by omega), if_pos (by omega), hr, sectors_is, Option.bind_some]
    have h := used_l0 l hl K r (p ++ [b]) (by rw [List.append_assoc]; exact e) (wrap64 (x + sectorsV b))
    rw [List.length_append, List.length_singleton] at h
    rw [w64j ((p.length : Int) + 1) (by omega), show (p.length : Int) + 1 = ((p.length + 1 : Nat) : Int) by omega, show K + (r.length + 1) = K + r.length + 1 by omega, h]
    rfl
theorem used_is (l : List (List Int)) (hl : l.length ≤ 9223372036854775807) (K : Nat) : journal_used.f (K + l.length + 1) l = some (usedV l) := used_l0 l hl K l [] rfl 0
def checkV (l : List (List Int)) (m s : Int) : Int := if m < 1 then 1 else if m > 4096 then 1 else if s < 0 then 1 else if s > (l.length : Int) then 1 else if usedV l > m then 1 else 0
theorem check_is (l : List (List Int)) (hl : l.length ≤ 9223372036854775807) (m s : Int) (K : Nat) : journal_Check.f (K + l.length + 1) l m s = some (checkV l m s) := by
  unfold journal_Check.f checkV
  rw [used_is l hl K, Option.bind_some]
  repeat' split
  all_goals rfl
end Go.Proofs.Ytljmdkeeppikhaa.Q
