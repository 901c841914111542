/- By hand: what journal.put does: the bytes of a number into a part of a block, the most significant byte first. -/
import Derived.Test.YtljmdkeeppikhaaDWr
namespace Go.Proofs.Ytljmdkeeppikhaa.Q
open Go.RowKit Go.Proofs.YtljmdkeeppikhaaW.PrintWords Go.Proofs.YtljmdkeeppikhaaW.PrintLast Go.Proofs.YtljmdkeeppikhaaW.PrintMore
set_option linter.unusedVariables false
set_option linter.unusedSimpArgs false

/-- The byte at j of a number of m bytes. -/
def dg (m : Nat) (n : Int) (j : Nat) : Int := n / 2 ^ (8 * (m - 1 - j)) % 256
/-- The cells behind k rounds. -/
def PutK (cs : Array Value) (off m : Nat) (n : Int) (k : Nat) (X : Array Value) : Prop := X.size = cs.size ∧ ∀ j, X[j]? = if off + (m - k) ≤ j ∧ j < off + m then some (.int .u8 (dg m n (j - off))) else cs[j]?

theorem set_block {w : World} {g o : Nat} {X : Array Value} {t : TypeId} {f : Nat × Nat} (h : w.heap[g]? = some (.cells X t f)) (v : Value) (_u : Unit := ()) : (w.setCell ⟨g, o, none⟩ v).heap[g]? = some (.cells (X.setIfInBounds o v) t f) := by
  simp [World.setCell, Array.getElem?_modify, h]
theorem PutK_step {cs X : Array Value} {off m k : Nat} {n : Int} (h : PutK cs off m n k X) (hk : k < m) (hf : off + m ≤ cs.size) : PutK cs off m n (k + 1) (X.setIfInBounds (off + (m - 1 - k)) (.int .u8 (n / 2 ^ (8 * k) % 256))) := by
  refine ⟨by rw [Array.size_setIfInBounds]; exact h.1, fun j => ?_⟩
  rw [Array.getElem?_setIfInBounds]
  by_cases hj : off + (m - 1 - k) = j
  · rw [if_pos hj]
    subst hj
    have e1 : m - 1 - (off + (m - 1 - k) - off) = k := by omega
    rw [if_pos (show off + (m - (k + 1)) ≤ off + (m - 1 - k) ∧ off + (m - 1 - k) < off + m by omega)]
    unfold dg
    rw [e1]
    rw [if_pos (show off + (m - 1 - k) < X.size by have := h.1; omega)]
  · rw [if_neg hj, h.2 j]
    by_cases hc : off + (m - k) ≤ j ∧ j < off + m
    · rw [if_pos hc, if_pos (by omega)]
    · rw [if_neg hc, if_neg (by omega)]

set_option maxHeartbeats 1000000 in
theorem put_ (g off m c : Nat) (n : Int) (cs : Array Value) (t : TypeId) (w : World) (hm : m ≤ 8) (hc : m ≤ c) (hn : 0 ≤ n ∧ n ≤ 18446744073709551615) (hb : w.heap[g]? = some (.cells cs t (0, 0))) (hf : off + m ≤ cs.size) :
    Calls Try.prog 64 #[.slice (some ⟨g, off, none⟩) m c, .int .u64 n] w fun e w' => e = .returned (.tuple #[]) ∧ (∃ X, w'.heap[g]? = some (.cells X t (0, 0)) ∧ PutK cs off m n m X) ∧ ∀ b, b ≤ g → Below b w w' := by
  have HB := Aside0.mk hb
  have HF := Aside0.mk hf
  clear hb hf
  go_enter Try.func64, Try.ntmps64
  go_wp2
  go_loopw [4, 7] (fun _ i wr => ∃ k : Nat, k ≤ m ∧ i = .int .i64 k ∧ (∃ X, wr.heap[g]? = some (.cells X t (0, 0)) ∧ PutK cs off m n k X) ∧ ∀ b, b ≤ g → Below b w wr) (fun _ i _ => m - (intOf i).toNat)
  case atStart => exact ⟨0, Nat.zero_le _, rfl, ⟨cs, HB.out, rfl, fun j => by rw [if_neg (by omega)]⟩, fun b _ => Below.refl b w⟩
  case round =>
    obtain ⟨k, hk, rfl, ⟨X, hX, hP⟩, hBl⟩ := hrel
    have HX := Aside0.mk hX
    have HP := Aside0.mk hP
    have HBl := Aside0.mk hBl
    clear hX hP hBl
    by_cases hlt : k < m
    · have hcell : ∃ v, wr.cell? ⟨g, off + (m - 1 - k), none⟩ = some v := by
        have h1 := HP.out.1
        have h2 := HF.out
        have hs : off + (m - 1 - k) < X.size := by omega
        exact ⟨X[off + (m - 1 - k)], (blk_cell HX.out _).trans (Array.getElem?_eq_getElem hs)⟩
      obtain ⟨v0, hv0⟩ := hcell
      have hfz := blk_frozen HX.out (off + (m - 1 - k))
      go_wp2
      refine ⟨⟨k + 1, hlt, by go_num, ⟨_, set_block HX.out _, PutK_step HP.out hlt HF.out⟩, fun b hb => below_setCell (HBl.out b hb) hb _ _⟩, ?_⟩
      simp only [intOf]
      omega
    · go_wp2
      go_end0
      have e : k = m := by omega
      subst e
      exact ⟨rfl, ⟨X, HX.out, HP.out⟩, HBl.out⟩
end Go.Proofs.Ytljmdkeeppikhaa.Q
