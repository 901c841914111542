/- The row of the law JournalOpenSpec: for every input the call returns true and leaves its arguments as they were. No condition but the form's own. -/
import Derived.Test.YtljmdkeeppikhaaJEn
import Derived.Test.YtljmdkeeppikhaaQ1
import Derived.Laws.BitsLemmas
import Derived.Test.YtljmdkeeppikhaaQ2
import Derived.Laws.Strings
import Derived.Test.YtljmdkeeppikhaaP8
import Derived.Test.YtljmdkeeppikhaaP9
import Derived.Test.YtljmdkeeppikhaaP10
import Derived.Test.YtljmdkeeppikhaaJRe
import Derived.Test.YtljmdkeeppikhaaP12
import Derived.Test.YtljmdkeeppikhaaDCk
import Derived.Test.YtljmdkeeppikhaaJOq
import Derived.Test.YtljmdkeeppikhaaQ7
import Derived.Test.YtljmdkeeppikhaaQ0
import Derived.Test.YtljmdkeeppikhaaOpn
import Derived.OpenShut
import Derived.Test.YtljmdkeeppikhaaRows
import Derived.WalkKit
import Derived.ProofKit
import Derived.ShutString
import Derived.ChangeOld
import Derived.Below
import Derived.SizedLaws

namespace Go.Proofs.Ytljmdkeeppikhaa.Q
open Go.RowKit Go.Proofs.YtljmdkeeppikhaaW.PrintWords Go.Proofs.YtljmdkeeppikhaaW.PrintLast Go.Proofs.YtljmdkeeppikhaaW.PrintMore
set_option linter.unusedVariables false

def Byt (l : List Int) : Prop := ∀ x, x ∈ l → 0 ≤ x ∧ x ≤ 255
theorem Byt.tail {a : Int} {l : List Int} (h : Byt (a :: l)) : Byt l := fun x hx => h x (List.mem_cons_of_mem _ hx)
theorem Byt.take {l : List Int} (h : Byt l) (n : Nat) : Byt (l.take n) := fun x hx => h x (List.mem_of_mem_take hx)
theorem Byt.drop {l : List Int} (h : Byt l) (n : Nat) : Byt (l.drop n) := fun x hx => h x (List.mem_of_mem_drop hx)
/-- The number that bytes say behind x. -/
def numL (x : Int) : List Int → Int
  | [] => x
  | b :: l => numL (256 * x + b) l
def numV (l : List Int) : Int := numL 0 l
theorem wraps_u64 (n : Int) (h₀ : 0 ≤ n) (h₁ : n < 2 ^ 64) : IntKind.u64.wrap n = n := by
  have : IntKind.u64.wrap n = n % 18446744073709551616 := by simp [IntKind.wrap, IntKind.bits, IntKind.signed]
  rw [this]; omega
theorem or_byte (x b : Int) (hx : 0 ≤ x) (hx2 : x < 72057594037927936) (hb : 0 ≤ b) (hb2 : b ≤ 255) : Go.bits .or .u64 (IntKind.u64.wrap (x * 256)) (IntKind.u64.wrap b) = 256 * x + b := by
  rw [wraps_u64 (x * 256) (by omega) (by omega), wraps_u64 b hb (by omega)]
  rw [bits_join .u64 64 (by decide) (fun n h0 h1 => wraps_u64 n h0 h1) 8 (x * 256) b (by omega) (by omega) (by omega) hb (by omega) (by omega)]
  omega
theorem numL_lt : ∀ (l : List Int) (x : Int) (m : Nat), Byt l → 0 ≤ x → x < 256 ^ m → 0 ≤ numL x l ∧ numL x l < 256 ^ (m + l.length)
  | [], x, m, _, h0, h1 => ⟨h0, h1⟩
  | b :: l, x, m, hb, h0, h1 => by
    have h2 := hb b List.mem_cons_self
    have h3 := numL_lt l (256 * x + b) (m + 1) hb.tail (by omega) (by rw [Int.pow_succ]; omega)
    rw [numL, List.length_cons, show m + (l.length + 1) = m + 1 + l.length by omega]
    exact h3
theorem get_l0 (l : List Int) (hl : l.length ≤ 7) (hB : Byt l) (K : Nat) : ∀ (r p : List Int), p ++ r = l → ∀ x : Int, 0 ≤ x → x < 256 ^ p.length → journal_get.l0 (K + r.length + 1) x l (l.length : Int) (p.length : Int) = some (numL x r)
  | [], p, e, x, _, _ => by
    rw [List.append_nil] at e
    subst e
    rw [journal_get.l0, if_neg (by omega)]
    rfl
  | b :: r, p, e, x, h0, h1 => by
    have hlen : l.length = p.length + (r.length + 1) := by rw [← e, List.length_append, List.length_cons]
    have hr : rd l (p.length : Int) = b := by rw [← e]; simp [rd]
    have hb : 0 ≤ b ∧ b ≤ 255 := hB b (by rw [← e]; simp)
    have hp : p.length ≤ 6 := by omega
    have hx : x < 72057594037927936 := Int.lt_of_lt_of_le h1 (by
      have : (256 : Int) ^ p.length ≤ 256 ^ 6 := by
        have h := Nat.pow_le_pow_right (n := 256) (by decide) hp
        have h2 : ((256 ^ p.length : Nat) : Int) ≤ ((256 ^ 6 : Nat) : Int) := Int.ofNat_le.2 h
        rw [Int.natCast_pow, Int.natCast_pow] at h2
        exact h2
      have h6 : (256 : Int) ^ 6 = 281474976710656 := rfl
      omega)
    have h := get_l0 l hl hB K r (p ++ [b]) (by rw [List.append_assoc]; exact e) (256 * x + b) (by omega) (by rw [List.length_append, List.length_singleton, Int.pow_succ]; omega)
    rw [List.length_append, List.length_singleton] at h
    rw [List.length_cons, journal_get.l0, if_pos (by omega), if_pos (by omega), if_pos (by omega), hr, or_byte x b h0 hx hb.1 hb.2, w64j ((p.length : Int) + 1) (by omega), show (p.length : Int) + 1 = ((p.length + 1 : Nat) : Int) by omega, show K + (r.length + 1) = K + r.length + 1 by omega, h]
    rfl
theorem get_is (l : List Int) (hl : l.length ≤ 7) (hB : Byt l) (K : Nat) : journal_get.f (K + l.length + 1) l = some (numV l) := get_l0 l hl hB K l [] rfl 0 (Int.le_refl _) (by decide)
theorem wraps_u32 (n : Int) (h₀ : 0 ≤ n) (h₁ : n < 2 ^ 32) : IntKind.u32.wrap n = n := by rw [IntKind.wrap_u32]; omega
theorem xor32 (a b : Nat) (ha : a < 2 ^ 32) (hb : b < 2 ^ 32) : Go.bits .xor .u32 a b = ((a ^^^ b : Nat) : Int) := by
  have ha' : a % 2 ^ IntKind.u32.bits = a := Nat.mod_eq_of_lt ha
  have hb' : b % 2 ^ IntKind.u32.bits = b := Nat.mod_eq_of_lt hb
  simp only [Go.bits, BitVec.ofInt_natCast, BitVec.toNat_xor, BitVec.toNat_ofNat, ha', hb']
  exact wraps_u32 _ (Int.natCast_nonneg _) (by exact_mod_cast Nat.xor_lt_two_pow ha hb)
theorem xor_range (x y : Int) (h0 : 0 ≤ x) (h1 : x < 4294967296) (h2 : 0 ≤ y) (h3 : y < 4294967296) : 0 ≤ Go.bits .xor .u32 x y ∧ Go.bits .xor .u32 x y < 4294967296 := by
  obtain ⟨a, rfl⟩ := Int.eq_ofNat_of_zero_le h0
  obtain ⟨b, rfl⟩ := Int.eq_ofNat_of_zero_le h2
  rw [xor32 a b (by omega) (by omega)]
  have := Nat.xor_lt_two_pow (x := a) (y := b) (n := 32) (by omega) (by omega)
  omega
theorem xor_comm32 (x y : Int) (h0 : 0 ≤ x) (h1 : x < 4294967296) (h2 : 0 ≤ y) (h3 : y < 4294967296) : Go.bits .xor .u32 x y = Go.bits .xor .u32 y x := by
  obtain ⟨a, rfl⟩ := Int.eq_ofNat_of_zero_le h0
  obtain ⟨b, rfl⟩ := Int.eq_ofNat_of_zero_le h2
  rw [xor32 a b (by omega) (by omega), xor32 b a (by omega) (by omega), Nat.xor_comm]
theorem xor_zero32 (x : Int) (h0 : 0 ≤ x) (h1 : x < 4294967296) : Go.bits .xor .u32 x 0 = x := by
  obtain ⟨a, rfl⟩ := Int.eq_ofNat_of_zero_le h0
  have := xor32 a 0 (by omega) (by decide)
  rw [Nat.xor_zero] at this
  exact this
theorem and_one (x : Int) (h0 : 0 ≤ x) (h1 : x < 4294967296) : Go.bits .and .u32 x 1 = x % 2 := bits_mask .u32 32 (by decide) wraps_u32 1 (by decide) x h0 (by omega)
theorem stepV_is (x : Int) (h0 : 0 ≤ x) (h1 : x < 4294967296) : stepV x = if Int.tmod x 2 = 1 then Go.bits .xor .u32 (x / 2) 3988292384 else x / 2 := by
  unfold stepV
  rw [and_one x h0 h1, Int.tmod_eq_emod_of_nonneg h0]
  by_cases h : x % 2 = 1
  · rw [if_pos h, h]
    rfl
  · have h2 : x % 2 = 0 := by omega
    rw [if_neg h, h2]
    exact xor_zero32 _ (by omega) (by omega)
theorem stepV_range (x : Int) (h0 : 0 ≤ x) (h1 : x < 4294967296) : 0 ≤ stepV x ∧ stepV x < 4294967296 := by
  rw [stepV_is x h0 h1]
  split
  · exact xor_range _ _ (by omega) (by omega) (by decide) (by decide)
  · omega
theorem stepsV_range : ∀ (m : Nat) (x : Int), 0 ≤ x → x < 4294967296 → 0 ≤ stepsV m x ∧ stepsV m x < 4294967296
  | 0, x, h0, h1 => ⟨h0, h1⟩
  | m + 1, x, h0, h1 => by
    have h := stepV_range x h0 h1
    exact stepsV_range m (stepV x) h.1 h.2
theorem sumL_range : ∀ (l : List Int) (x : Int), 0 ≤ x → x < 4294967296 → 0 ≤ sumL x l ∧ sumL x l < 4294967296
  | [], x, h0, h1 => ⟨h0, h1⟩
  | b :: l, x, h0, h1 => by
    have h := xor_range x (b % 4294967296) h0 h1 (by omega) (by omega)
    have h2 := stepsV_range 8 _ h.1 h.2
    exact sumL_range l _ h2.1 h2.2
theorem sumV_range (l : List Int) : 0 ≤ sumV l ∧ sumV l < 4294967296 := by
  have h := sumL_range l 4294967295 (by decide) (by decide)
  exact xor_range _ _ (by decide) (by decide) h.1 h.2
/-- Four bytes and their number. -/
theorem dg4 (g : Int) : dg 4 g 0 = g / 16777216 % 256 ∧ dg 4 g 1 = g / 65536 % 256 ∧ dg 4 g 2 = g / 256 % 256 ∧ dg 4 g 3 = g / 1 % 256 := ⟨rfl, rfl, rfl, rfl⟩
theorem dg2 (g : Int) : dg 2 g 0 = g / 256 % 256 ∧ dg 2 g 1 = g / 1 % 256 := ⟨rfl, rfl⟩
theorem num4 (a b c d : Int) : numV [a, b, c, d] = 256 * (256 * (256 * a + b) + c) + d := by simp [numV, numL]
theorem num2 (a b : Int) : numV [a, b] = 256 * a + b := by simp [numV, numL]
theorem num_dg4 (g : Int) (h0 : 0 ≤ g) (h1 : g < 4294967296) : numV [dg 4 g 0, dg 4 g 1, dg 4 g 2, dg 4 g 3] = g := by
  obtain ⟨e0, e1, e2, e3⟩ := dg4 g
  rw [num4, e0, e1, e2, e3]
  omega
theorem dg4_num (a b c d : Int) (ha : 0 ≤ a ∧ a ≤ 255) (hb : 0 ≤ b ∧ b ≤ 255) (hc : 0 ≤ c ∧ c ≤ 255) (hd : 0 ≤ d ∧ d ≤ 255) : dg 4 (numV [a, b, c, d]) 0 = a ∧ dg 4 (numV [a, b, c, d]) 1 = b ∧ dg 4 (numV [a, b, c, d]) 2 = c ∧ dg 4 (numV [a, b, c, d]) 3 = d := by
  obtain ⟨e0, e1, e2, e3⟩ := dg4 (numV [a, b, c, d])
  rw [e0, e1, e2, e3, num4]
  omega
theorem num_dg2 (g : Int) (h0 : 0 ≤ g) (h1 : g < 65536) : numV [dg 2 g 0, dg 2 g 1] = g := by
  obtain ⟨e0, e1⟩ := dg2 g
  rw [num2, e0, e1]
  omega
theorem dg2_num (a b : Int) (ha : 0 ≤ a ∧ a ≤ 255) (hb : 0 ≤ b ∧ b ≤ 255) : dg 2 (numV [a, b]) 0 = a ∧ dg 2 (numV [a, b]) 1 = b := by
  obtain ⟨e0, e1⟩ := dg2 (numV [a, b])
  rw [e0, e1, num2]
  omega
end Go.Proofs.Ytljmdkeeppikhaa.Q

namespace Go.Proofs.Ytljmdkeeppikhaa.Q
open Go.RowKit Go.Proofs.YtljmdkeeppikhaaW.PrintWords Go.Proofs.YtljmdkeeppikhaaW.PrintLast Go.Proofs.YtljmdkeeppikhaaW.PrintMore
set_option linter.unusedVariables false

theorem byt_rd {l : List Int} (h : Byt l) (i : Int) : 0 ≤ rd l i ∧ rd l i ≤ 255 := by
  show 0 ≤ l.getD i.toNat 0 ∧ l.getD i.toNat 0 ≤ 255
  rw [List.getD_eq_getElem?_getD]
  cases hc : l[i.toNat]? with
  | none => simp
  | some x => exact h x (List.mem_of_getElem? hc)
theorem back_map (a : List Int) (ha : Byt a) : (a.map (fun n => UInt8.ofNat n.toNat)).map (fun u => (u.toNat : Int)) = a := by
  rw [List.map_map]
  have : a.map ((fun u : UInt8 => (u.toNat : Int)) ∘ (fun n : Int => UInt8.ofNat n.toNat)) = a.map id := List.map_congr_left (fun x hx => by
    have h := ha x hx
    show ((UInt8.ofNat x.toNat).toNat : Int) = x
    rw [UInt8.toNat_ofNat']
    omega)
  rw [this, List.map_id]
theorem strs_eq (a b : List Int) (ha : Byt a) (hb : Byt b) : ((strOfNums a).toList = (strOfNums b).toList) ↔ a = b := by
  rw [ByteArray.toList_eq, ByteArray.toList_eq, strOfNums_data, strOfNums_data]
  constructor
  · intro h
    rw [← back_map a ha, h, back_map b hb]
  · rintro rfl; rfl
theorem dg_range (m : Nat) (n : Int) (j : Nat) : 0 ≤ dg m n j ∧ dg m n j ≤ 255 := by
  unfold dg; omega
theorem encAt_range (s g n kd : Int) (l : List Int) (hl : l.length ≤ 112) (hB : Byt l) (hk : 0 ≤ kd ∧ kd ≤ 255) (j : Nat) : 0 ≤ encAt s g n kd l j ∧ encAt s g n kd l j ≤ 255 := by
  unfold encAt
  split
  · exact dg_range _ _ _
  split
  · exact dg_range _ _ _
  split
  · exact dg_range _ _ _
  split
  · exact hk
  split
  · omega
  split
  · have := byt_rd hB ((j - 12 : Nat) : Int)
    unfold rd at this
    rwa [Int.toNat_natCast] at this
  split
  · omega
  · exact dg_range _ _ _
theorem encV_byt (s g n kd : Int) (l : List Int) (hl : l.length ≤ 112) (hB : Byt l) (hk : 0 ≤ kd ∧ kd ≤ 255) : Byt (encV s g n kd l) := by
  intro x hx
  obtain ⟨j, _, rfl⟩ := List.mem_map.1 hx
  exact encAt_range s g n kd l hl hB hk j
/-- The record's piece in a sector. -/
def bodyV (s : List Int) : List Int := (s.take (12 + (rd s 11).toNat)).drop 12
/-- A sector has the form of one with the number n. -/
def gd (s : List Int) (n : Int) : Prop := rd s 11 ≤ 112 ∧ rd s 10 ≤ 3 ∧ (rd s 10 < 2 → rd s 11 = 112) ∧ (rd s 10 % 2 = 0 → rd s 11 ≠ 0) ∧ 0 < numV (s.take 4) ∧ s = encV (sumV (encT (numV (s.take 4)) n (rd s 10) (bodyV s))) (numV (s.take 4)) n (rd s 10) (bodyV s)
instance gdDec (s : List Int) (n : Int) : Decidable (gd s n) := by unfold gd; infer_instance
theorem num_range (l : List Int) (hB : Byt l) : 0 ≤ numV l ∧ numV l < 256 ^ l.length := by
  have := numL_lt l 0 0 hB (Int.le_refl _) (by decide)
  rwa [Nat.zero_add] at this
theorem and2 (x : Int) (h0 : 0 ≤ x) (h1 : x ≤ 3) : Go.bits .and .u8 x 2 = 0 ↔ x < 2 := by
  have h : x = 0 ∨ x = 1 ∨ x = 2 ∨ x = 3 := by omega
  rcases h with rfl | rfl | rfl | rfl <;> decide
theorem and1 (x : Int) (h0 : 0 ≤ x) (h1 : x ≤ 3) : Go.bits .and .u8 x 1 = 0 ↔ x % 2 = 0 := by
  have h : x = 0 ∨ x = 1 ∨ x = 2 ∨ x = 3 := by omega
  rcases h with rfl | rfl | rfl | rfl <;> decide
theorem j0_true (k : Nat) (s : List Int) (n m : Int) : journal_good.j0 (k + 1) s n m true = some false := by rw [journal_good.j0, if_pos rfl]
theorem j0_false (k : Nat) (s : List Int) (n : Int) (hs : s.length = 128) (hB : Byt s) (hn : 0 ≤ n ∧ n ≤ 4096) (hm : rd s 11 ≤ 112) : journal_good.j0 (k + 6) s n (rd s 11) false = some (decide (0 < numV (s.take 4) ∧ s = encV (sumV (encT (numV (s.take 4)) n (rd s 10) (bodyV s))) (numV (s.take 4)) n (rd s 10) (bodyV s))) := by
  have hm0 := (byt_rd hB 11).1
  have h4 : (s.take 4).length = 4 := by rw [List.length_take]; omega
  have hg := num_range (s.take 4) (hB.take 4)
  rw [h4] at hg
  have hg2 : numV (s.take 4) < 4294967296 := hg.2
  have hget := get_is (s.take 4) (by omega) (hB.take 4) k
  rw [h4] at hget
  rw [show k + 6 = (k + 5) + 1 by omega, journal_good.j0, if_neg (by decide), if_pos (by omega), show k + 5 = k + 4 + 1 by omega, hget, Option.bind_some]
  by_cases hp : numV (s.take 4) > 0
  · rw [if_pos hp, if_pos (by omega), w64j (12 + rd s 11) (by omega), if_pos (by omega), if_pos (by omega)]
    have hb : (s.take ((12 + rd s 11 : Int)).toNat).drop 12 = bodyV s := by unfold bodyV; rw [show (12 + rd s 11).toNat = 12 + (rd s 11).toNat by omega]
    rw [hb]
    have hbl : (bodyV s).length ≤ 112 := by unfold bodyV; rw [List.length_drop, List.length_take]; omega
    have hbB : Byt (bodyV s) := (hB.take _).drop _
    have hsr := sumV_range (encT (numV (s.take 4)) n (rd s 10) (bodyV s))
    unfold journal_encode.f
    rw [if_pos ⟨hbl, ⟨by omega, by omega⟩, hn, ⟨hsr.1, by omega⟩⟩, Option.bind_some]
    unfold bytes_Equal.f
    rw [Option.bind_some]
    congr 1
    rw [Bool.eq_iff_iff, beq_iff_eq, decide_eq_true_iff, strs_eq _ _ hB (encV_byt _ _ _ _ _ hbl hbB (byt_rd hB 10))]
    exact ⟨fun h => ⟨by omega, h⟩, fun h => h.2⟩
  · rw [if_neg hp]
    congr 1
    exact (decide_eq_false (fun h => hp (by omega))).symm
theorem jgood_is (k : Nat) (s : List Int) (n : Int) (hs : s.length = 128) (hB : Byt s) (hn : 0 ≤ n ∧ n ≤ 4096) : journal_good.f (k + 6) s n = some (decide (gd s n)) := by
  have hm := byt_rd hB 11
  have hk := byt_rd hB 10
  have hF := fun hm2 => j0_false k s n hs hB hn hm2
  have hT := fun m => j0_true (k + 5) s n m
  unfold journal_good.f
  rw [w64j (rd s 11) (by omega), if_pos (by omega)]
  by_cases c1 : rd s 11 > 112
  · rw [if_pos c1, show k + 6 = k + 5 + 1 by omega, hT, decide_eq_false (fun h : gd s n => absurd h.1 (by omega))]
  · rw [if_neg c1, if_pos (by omega)]
    by_cases c2 : rd s 10 > 3
    · rw [if_pos c2, show k + 6 = k + 5 + 1 by omega, hT, decide_eq_false (fun h : gd s n => absurd h.2.1 (by omega))]
    · rw [if_neg c2]
      have e2 := and2 (rd s 10) (by omega) (by omega)
      have e1 := and1 (rd s 10) (by omega) (by omega)
      by_cases c3 : rd s 10 < 2 ∧ rd s 11 < 112
      · rw [if_pos (e2.2 c3.1), if_pos c3.2, show k + 6 = k + 5 + 1 by omega, hT, decide_eq_false (fun h : gd s n => by have := h.2.2.1 c3.1; omega)]
      · have hside : ∀ b : Bool, (b = true ↔ (rd s 10 % 2 = 0 ∧ rd s 11 = 0)) → journal_good.j0 (k + 6) s n (rd s 11) b = some (decide (gd s n)) := by
          intro b hb
          cases b with
          | true =>
            have h0 := hb.1 rfl
            rw [show k + 6 = k + 5 + 1 by omega, hT, decide_eq_false (fun h : gd s n => h.2.2.2.1 h0.1 h0.2)]
          | false =>
            rw [hF (by omega)]
            congr 1
            apply decide_eq_decide.2
            constructor
            · rintro ⟨h1, h2⟩
              refine ⟨by omega, by omega, fun h => by omega, fun h h' => ?_, h1, h2⟩
              have := hb.2 ⟨h, h'⟩
              cases this
            · rintro ⟨_, _, _, _, h1, h2⟩
              exact ⟨h1, h2⟩
        by_cases c4 : rd s 10 < 2
        · rw [if_pos (e2.2 c4), if_neg (by omega)]
          by_cases c5 : rd s 10 % 2 = 0
          · rw [if_pos (e1.2 c5)]
            exact hside _ (by rw [beq_iff_eq]; exact ⟨fun h => ⟨c5, h⟩, fun h => h.2⟩)
          · rw [if_neg (fun h => c5 (e1.1 h))]
            exact hside _ ⟨fun h => (nomatch h), fun h => absurd h.1 c5⟩
        · rw [if_neg (fun h => c4 (e2.1 h))]
          by_cases c5 : rd s 10 % 2 = 0
          · rw [if_pos (e1.2 c5)]
            exact hside _ (by rw [beq_iff_eq]; exact ⟨fun h => ⟨c5, h⟩, fun h => h.2⟩)
          · rw [if_neg (fun h => c5 (e1.1 h))]
            exact hside _ ⟨fun h => (nomatch h), fun h => absurd h.1 c5⟩
end Go.Proofs.Ytljmdkeeppikhaa.Q

namespace Go.Proofs.Ytljmdkeeppikhaa.Q
open Go.RowKit Go.Proofs.YtljmdkeeppikhaaW.PrintWords Go.Proofs.YtljmdkeeppikhaaW.PrintLast Go.Proofs.YtljmdkeeppikhaaW.PrintMore
set_option linter.unusedVariables false

theorem rd_get {l : List Int} {j : Nat} (h : j < l.length) : rd l (j : Int) = l[j] := by
  unfold rd
  rw [Int.toNat_natCast, List.getD_eq_getElem?_getD, List.getElem?_eq_getElem h, Option.getD_some]
theorem ext_rd {a b : List Int} (hl : a.length = b.length) (h : ∀ j, j < a.length → rd a (j : Int) = rd b (j : Int)) : a = b := by
  apply List.ext_getElem hl
  intro j h1 h2
  have := h j h1
  rwa [rd_get h1, rd_get h2] at this
theorem rd_drop (l : List Int) (i j : Nat) (h : i + j < l.length) : rd (l.drop i) (j : Int) = rd l ((i + j : Nat) : Int) := by
  rw [rd_get (by rw [List.length_drop]; omega), rd_get h, List.getElem_drop]
theorem rd_take (l : List Int) (i j : Nat) (h : j < i) (h2 : j < l.length) : rd (l.take i) (j : Int) = rd l (j : Int) := by
  rw [rd_get (by rw [List.length_take]; omega), rd_get h2, List.getElem_take]
theorem four (l : List Int) (h : l.length = 4) : l = [rd l 0, rd l 1, rd l 2, rd l 3] := by
  match l, h with
  | [a, b, c, d], _ => rfl
theorem two (l : List Int) (h : l.length = 2) : l = [rd l 0, rd l 1] := by
  match l, h with
  | [a, b], _ => rfl
theorem rd_encV (s g n kd : Int) (l : List Int) (j : Nat) (hj : j < 128) : rd (encV s g n kd l) (j : Int) = encAt s g n kd l j := by
  rw [rd_get (by rw [encV_len]; exact hj)]
  simp [encV]
theorem rd_encT (g n kd : Int) (l : List Int) (j : Nat) (hj : j < 116) : rd (encT g n kd l) (j : Int) = encAt 0 g n kd l (8 + j) := by
  rw [rd_get (by simp [encT]; exact hj)]
  simp [encT]
theorem encAt_S (s s' g n kd : Int) (l : List Int) (j : Nat) (h : 8 ≤ j) : encAt s g n kd l j = encAt s' g n kd l j := by
  unfold encAt
  simp only [if_neg (show ¬ j < 4 by omega), if_neg (show ¬ j < 8 by omega)]

/-- The parts of the form. -/
def gp (s : List Int) (n : Int) : Prop := numV (s.take 4) = numV (s.drop 124) ∧ numV ((s.take 8).drop 4) = sumV ((s.take 124).drop 8) ∧ numV ((s.take 10).drop 8) = n ∧ ∀ j : Nat, 12 + (rd s 11).toNat ≤ j → j < 124 → rd s (j : Int) = 0
theorem rd_mid (s : List Int) (a b j : Nat) (h : a + j < b) (hb : b ≤ s.length) : rd ((s.take b).drop a) (j : Int) = rd s ((a + j : Nat) : Int) := by
  rw [rd_drop _ _ _ (by rw [List.length_take]; omega), rd_take _ _ _ h (by omega)]
theorem gp_iff (s : List Int) (n : Int) (hs : s.length = 128) (hB : Byt s) (hn : 0 ≤ n ∧ n ≤ 4096) (hm : rd s 11 ≤ 112) :
    s = encV (sumV (encT (numV (s.take 4)) n (rd s 10) (bodyV s))) (numV (s.take 4)) n (rd s 10) (bodyV s) ↔ gp s n := by
  have hm0 := (byt_rd hB 11).1
  have l4 : (s.take 4).length = 4 := by rw [List.length_take]; omega
  have ld : (s.drop 124).length = 4 := by rw [List.length_drop]; omega
  have l8 : ((s.take 8).drop 4).length = 4 := by rw [List.length_drop, List.length_take]; omega
  have l10 : ((s.take 10).drop 8).length = 2 := by rw [List.length_drop, List.length_take]; omega
  have lb : (bodyV s).length = (rd s 11).toNat := by unfold bodyV; rw [List.length_drop, List.length_take]; omega
  have hg := num_range (s.take 4) (hB.take 4)
  rw [l4] at hg
  have hg2 : numV (s.take 4) < 4294967296 := hg.2
  have hbody : ∀ j : Nat, j < (rd s 11).toNat → (bodyV s).getD j 0 = rd s ((12 + j : Nat) : Int) := fun j hj => by
    have h := rd_mid s 12 (12 + (rd s 11).toNat) j (by omega) (by omega)
    unfold rd at h
    rw [Int.toNat_natCast] at h
    exact h
  constructor
  · intro h
    have hat : ∀ j : Nat, j < 128 → rd s (j : Int) = encAt (sumV (encT (numV (s.take 4)) n (rd s 10) (bodyV s))) (numV (s.take 4)) n (rd s 10) (bodyV s) j := fun j hj => by
      have h2 := congrArg (fun z => rd z (j : Int)) h
      have h3 := rd_encV (sumV (encT (numV (s.take 4)) n (rd s 10) (bodyV s))) (numV (s.take 4)) n (rd s 10) (bodyV s) j hj
      exact h2.trans h3
    generalize hS : sumV (encT (numV (s.take 4)) n (rd s 10) (bodyV s)) = S at hat
    have hSr := sumV_range (encT (numV (s.take 4)) n (rd s 10) (bodyV s))
    rw [hS] at hSr
    refine ⟨?_, ?_, ?_, ?_⟩
    · rw [four (s.drop 124) ld]
      have e : ∀ j : Nat, j < 4 → rd (s.drop 124) (j : Int) = dg 4 (numV (s.take 4)) j := fun j hj => by
        rw [rd_drop _ _ _ (by omega), hat (124 + j) (by omega)]
        unfold encAt
        rw [if_neg (by omega), if_neg (by omega), if_neg (by omega), if_neg (by omega), if_neg (by omega), if_neg (by omega), if_neg (by omega), show 124 + j - 124 = j by omega]
      have e0 := e 0 (by decide)
      have e1 := e 1 (by decide)
      have e2 := e 2 (by decide)
      have e3 := e 3 (by decide)
      rw [show rd (s.drop 124) 0 = _ from e0, show rd (s.drop 124) 1 = _ from e1, show rd (s.drop 124) 2 = _ from e2, show rd (s.drop 124) 3 = _ from e3, num_dg4 _ hg.1 hg2]
    · have e : ∀ j : Nat, j < 4 → rd ((s.take 8).drop 4) (j : Int) = dg 4 S j := fun j hj => by
        rw [rd_mid _ _ _ _ (by omega) (by omega), hat (4 + j) (by omega)]
        unfold encAt
        rw [if_neg (by omega), if_pos (by omega), show 4 + j - 4 = j by omega]
      have e0 := e 0 (by decide)
      have e1 := e 1 (by decide)
      have e2 := e 2 (by decide)
      have e3 := e 3 (by decide)
      rw [four _ l8, show rd ((s.take 8).drop 4) 0 = _ from e0, show rd ((s.take 8).drop 4) 1 = _ from e1, show rd ((s.take 8).drop 4) 2 = _ from e2, show rd ((s.take 8).drop 4) 3 = _ from e3, num_dg4 _ hSr.1 hSr.2, ← hS]
      congr 1
      apply ext_rd
      · rw [encT_len, List.length_drop, List.length_take]; omega
      · intro j hj
        rw [encT_len] at hj
        rw [rd_encT _ _ _ _ j hj, rd_mid _ _ _ _ (by omega) (by omega), hat (8 + j) (by omega), encAt_S 0 S _ _ _ _ _ (by omega)]
    · have e : ∀ j : Nat, j < 2 → rd ((s.take 10).drop 8) (j : Int) = dg 2 n j := fun j hj => by
        rw [rd_mid _ _ _ _ (by omega) (by omega), hat (8 + j) (by omega)]
        unfold encAt
        rw [if_neg (by omega), if_neg (by omega), if_pos (by omega), show 8 + j - 8 = j by omega]
      have e0 := e 0 (by decide)
      have e1 := e 1 (by decide)
      rw [two _ l10, show rd ((s.take 10).drop 8) 0 = _ from e0, show rd ((s.take 10).drop 8) 1 = _ from e1, num_dg2 _ hn.1 (by omega)]
    · intro j h1 h2
      rw [hat j (by omega)]
      unfold encAt
      rw [lb, if_neg (by omega), if_neg (by omega), if_neg (by omega), if_neg (by omega), if_neg (by omega), if_neg (by omega), if_pos h2]
  · rintro ⟨h1, h2, h3, h4⟩
    have f4 := four (s.take 4) l4
    have b := fun i => byt_rd hB i
    have d0 := dg4_num (rd (s.take 4) 0) (rd (s.take 4) 1) (rd (s.take 4) 2) (rd (s.take 4) 3) (byt_rd (hB.take 4) 0) (byt_rd (hB.take 4) 1) (byt_rd (hB.take 4) 2) (byt_rd (hB.take 4) 3)
    rw [← f4] at d0
    have f124 := four (s.drop 124) ld
    have d1 := dg4_num (rd (s.drop 124) 0) (rd (s.drop 124) 1) (rd (s.drop 124) 2) (rd (s.drop 124) 3) (byt_rd (hB.drop 124) 0) (byt_rd (hB.drop 124) 1) (byt_rd (hB.drop 124) 2) (byt_rd (hB.drop 124) 3)
    rw [← f124, ← h1] at d1
    have f10 := two _ l10
    have hB10 : Byt ((s.take 10).drop 8) := (hB.take 10).drop 8
    have d2 := dg2_num (rd ((s.take 10).drop 8) 0) (rd ((s.take 10).drop 8) 1) (byt_rd hB10 0) (byt_rd hB10 1)
    rw [← f10, h3] at d2
    -- what the checksum is over
    have hT : encT (numV (s.take 4)) n (rd s 10) (bodyV s) = (s.take 124).drop 8 := by
      apply ext_rd
      · rw [encT_len, List.length_drop, List.length_take]; omega
      · intro j hj
        rw [encT_len] at hj
        rw [rd_encT _ _ _ _ j hj, rd_mid _ _ _ _ (by omega) (by omega)]
        unfold encAt
        rw [if_neg (by omega), if_neg (by omega)]
        by_cases c1 : j < 2
        · rw [if_pos (by omega), show 8 + j - 8 = j by omega]
          have hj2 : j = 0 ∨ j = 1 := by omega
          rcases hj2 with rfl | rfl
          · rw [d2.1]; exact rd_mid s 8 10 0 (by omega) (by omega)
          · rw [d2.2]; exact rd_mid s 8 10 1 (by omega) (by omega)
        · rw [if_neg (by omega)]
          by_cases c2 : j = 2
          · subst c2; rw [if_pos rfl]; rfl
          · rw [if_neg (by omega)]
            by_cases c3 : j = 3
            · subst c3
              rw [if_pos rfl, lb]
              show _ = rd s 11
              omega
            · rw [if_neg (by omega), lb]
              by_cases c4 : 8 + j < 12 + (rd s 11).toNat
              · rw [if_pos c4, hbody _ (by omega), show 12 + (8 + j - 12) = 8 + j by omega]
              · rw [if_neg c4, if_pos (by omega), h4 (8 + j) (by omega) (by omega)]
    rw [hT, ← h2]
    have f8 := four _ l8
    have hB8 : Byt ((s.take 8).drop 4) := (hB.take 8).drop 4
    have d3 := dg4_num (rd ((s.take 8).drop 4) 0) (rd ((s.take 8).drop 4) 1) (rd ((s.take 8).drop 4) 2) (rd ((s.take 8).drop 4) 3) (byt_rd hB8 0) (byt_rd hB8 1) (byt_rd hB8 2) (byt_rd hB8 3)
    rw [← f8] at d3
    apply ext_rd
    · rw [encV_len, hs]
    · intro j hj
      rw [hs] at hj
      rw [rd_encV _ _ _ _ _ j hj]
      by_cases c8 : 8 ≤ j ∧ j < 124
      · have e := congrArg (fun z => rd z ((j - 8 : Nat) : Int)) hT
        have e2 : rd (encT (numV (s.take 4)) n (rd s 10) (bodyV s)) ((j - 8 : Nat) : Int) = rd ((s.take 124).drop 8) ((j - 8 : Nat) : Int) := e
        rw [rd_encT _ _ _ _ _ (by omega), rd_mid _ _ _ _ (by omega) (by omega), show 8 + (j - 8) = j by omega] at e2
        rw [encAt_S _ 0 _ _ _ _ _ c8.1]
        exact e2.symm
      · unfold encAt
        by_cases c4 : j < 4
        · rw [if_pos c4]
          have hj4 : j = 0 ∨ j = 1 ∨ j = 2 ∨ j = 3 := by omega
          rcases hj4 with rfl | rfl | rfl | rfl
          · rw [d0.1]; exact (rd_take s 4 0 (by omega) (by omega)).symm
          · rw [d0.2.1]; exact (rd_take s 4 1 (by omega) (by omega)).symm
          · rw [d0.2.2.1]; exact (rd_take s 4 2 (by omega) (by omega)).symm
          · rw [d0.2.2.2]; exact (rd_take s 4 3 (by omega) (by omega)).symm
        · rw [if_neg c4]
          by_cases c7 : j < 8
          · rw [if_pos c7]
            have hj4 : j = 4 ∨ j = 5 ∨ j = 6 ∨ j = 7 := by omega
            rcases hj4 with rfl | rfl | rfl | rfl
            · rw [show 4 - 4 = 0 from rfl, d3.1]; exact (rd_mid s 4 8 0 (by omega) (by omega)).symm
            · rw [show 5 - 4 = 1 from rfl, d3.2.1]; exact (rd_mid s 4 8 1 (by omega) (by omega)).symm
            · rw [show 6 - 4 = 2 from rfl, d3.2.2.1]; exact (rd_mid s 4 8 2 (by omega) (by omega)).symm
            · rw [show 7 - 4 = 3 from rfl, d3.2.2.2]; exact (rd_mid s 4 8 3 (by omega) (by omega)).symm
          · rw [if_neg c7, if_neg (by omega), if_neg (by omega), if_neg (by omega), lb, if_neg (by omega), if_neg (by omega)]
            have hj4 : j = 124 ∨ j = 125 ∨ j = 126 ∨ j = 127 := by omega
            rcases hj4 with rfl | rfl | rfl | rfl
            · rw [show 124 - 124 = 0 from rfl, d1.1]; exact (rd_drop s 124 0 (by omega)).symm
            · rw [show 125 - 124 = 1 from rfl, d1.2.1]; exact (rd_drop s 124 1 (by omega)).symm
            · rw [show 126 - 124 = 2 from rfl, d1.2.2.1]; exact (rd_drop s 124 2 (by omega)).symm
            · rw [show 127 - 124 = 3 from rfl, d1.2.2.2]; exact (rd_drop s 124 3 (by omega)).symm
end Go.Proofs.Ytljmdkeeppikhaa.Q

namespace Go.Proofs.Ytljmdkeeppikhaa.Q
open Go.RowKit Go.Proofs.YtljmdkeeppikhaaW.PrintWords Go.Proofs.YtljmdkeeppikhaaW.PrintLast Go.Proofs.YtljmdkeeppikhaaW.PrintMore
set_option linter.unusedVariables false

theorem num_l0 (l : List Int) (hl : l.length ≤ 7) (hB : Byt l) (K : Nat) : ∀ (r p : List Int), p ++ r = l → ∀ x : Int, 0 ≤ x → x < 256 ^ p.length → fastiref05_number.l0 (K + r.length + 1) l x (p.length : Int) = some (numL x r)
  | [], p, e, x, _, _ => by
    rw [List.append_nil] at e
    subst e
    rw [fastiref05_number.l0, if_neg (by omega)]
    rfl
  | b :: r, p, e, x, h0, h1 => by
    have hlen : l.length = p.length + (r.length + 1) := by rw [← e, List.length_append, List.length_cons]
    have hr : rd l (p.length : Int) = b := by rw [← e]; simp [rd]
    have hb : 0 ≤ b ∧ b ≤ 255 := hB b (by rw [← e]; simp)
    have hp : p.length ≤ 6 := by omega
    have hx : x < 72057594037927936 := Int.lt_of_lt_of_le h1 (by
      have : (256 : Int) ^ p.length ≤ 256 ^ 6 := by
        have h := Nat.pow_le_pow_right (n := 256) (by decide) hp
        have h2 : ((256 ^ p.length : Nat) : Int) ≤ ((256 ^ 6 : Nat) : Int) := Int.ofNat_le.2 h
        rw [Int.natCast_pow, Int.natCast_pow] at h2
        exact h2
      have h6 : (256 : Int) ^ 6 = 281474976710656 := rfl
      omega)
    have h := num_l0 l hl hB K r (p ++ [b]) (by rw [List.append_assoc]; exact e) (256 * x + b) (by omega) (by rw [List.length_append, List.length_singleton, Int.pow_succ]; omega)
    rw [List.length_append, List.length_singleton] at h
    rw [List.length_cons, fastiref05_number.l0, if_pos (by omega), if_pos (by omega), hr, wraps_u64 (256 * x) (by omega) (by omega), wraps_u64 b hb.1 (by omega), wraps_u64 (256 * x + b) (by omega) (by omega), w64j ((p.length : Int) + 1) (by omega), show (p.length : Int) + 1 = ((p.length + 1 : Nat) : Int) by omega, show K + (r.length + 1) = K + r.length + 1 by omega, h]
    rfl
theorem number_is (l : List Int) (hl : l.length ≤ 7) (hB : Byt l) (K : Nat) : fastiref05_number.f (K + l.length + 1) l = some (numV l) := num_l0 l hl hB K l [] rfl 0 (Int.le_refl _) (by decide)
theorem csm_l1 (l : List Int) (i : Int) (K : Nat) : ∀ (m : Nat), m ≤ 8 → ∀ x, 0 ≤ x → x < 4294967296 → fastiref05_checksum.l1 (K + m + 1) l x i (8 - (m : Int)) = fastiref05_checksum.l0 K l (stepsV m x) (wrap64 (i + 1))
  | 0, _, x, _, _ => by
    rw [fastiref05_checksum.l1, if_neg (by omega)]
    rfl
  | m + 1, hm, x, h0, h1 => by
    have hs := stepV_is x h0 h1
    have hr := stepV_range x h0 h1
    rw [show K + (m + 1) + 1 = (K + m + 1) + 1 by omega, fastiref05_checksum.l1, if_pos (by omega), show wrap64 (8 - ((m + 1 : Nat) : Int) + 1) = 8 - (m : Int) by rw [w64j _ (by omega)]; omega]
    have h := csm_l1 l i K m (by omega) (stepV x) hr.1 hr.2
    by_cases c : Int.tmod x 2 = 1
    · rw [if_pos c] at hs
      rw [if_pos c, ← hs, h]
      rfl
    · rw [if_neg c] at hs
      rw [if_neg c, ← hs, h]
      rfl
theorem csm_l0 (l : List Int) (hl : l.length ≤ 4096) (K : Nat) : ∀ (r : List Int) (p : List Int), p ++ r = l → ∀ x, 0 ≤ x → x < 4294967296 → fastiref05_checksum.l0 (K + 10 * r.length + 1) l x (p.length : Int) = some (Go.bits .xor .u32 (sumL x r) 4294967295)
  | [], p, e, x, _, _ => by
    rw [List.append_nil] at e
    subst e
    rw [fastiref05_checksum.l0, if_neg (by omega)]
    rfl
  | b :: r, p, e, x, h0, h1 => by
    have hlen : l.length = p.length + (r.length + 1) := by rw [← e, List.length_append, List.length_cons]
    have hr : rd l (p.length : Int) = b := by
      rw [← e]; simp [rd]
    have hx := xor_range x (b % 4294967296) h0 h1 (by omega) (by omega)
    have hx2 := stepsV_range 8 _ hx.1 hx.2
    rw [List.length_cons, fastiref05_checksum.l0, if_pos (by omega), if_pos (by omega), hr]
    rw [show K + 10 * (r.length + 1) = (K + 10 * r.length + 1) + 8 + 1 by omega]
    have h8 := csm_l1 l (p.length : Int) (K + 10 * r.length + 1) 8 (Nat.le_refl _) (Go.bits .xor .u32 x (b % 4294967296)) hx.1 hx.2
    rw [show (8 : Int) - ((8 : Nat) : Int) = 0 by decide] at h8
    rw [h8]
    have h := csm_l0 l hl K r (p ++ [b]) (by rw [List.append_assoc]; exact e) (stepsV 8 (Go.bits .xor .u32 x (b % 4294967296))) hx2.1 hx2.2
    rw [List.length_append, List.length_singleton] at h
    rw [w64j _ (by omega), show (p.length : Int) + 1 = ((p.length + 1 : Nat) : Int) by omega, h]
    rfl
theorem checksum_is (l : List Int) (hl : l.length ≤ 4096) (K : Nat) : fastiref05_checksum.f (K + 10 * l.length + 1) l = some (sumV l) := by
  have h := csm_l0 l hl K l [] rfl 4294967295 (by decide) (by decide)
  have hr := sumL_range l 4294967295 (by decide) (by decide)
  unfold sumV
  rw [xor_comm32 _ _ (by decide) (by decide) hr.1 hr.2]
  exact h
end Go.Proofs.Ytljmdkeeppikhaa.Q

namespace Go.Proofs.Ytljmdkeeppikhaa.Q
open Go.RowKit Go.Proofs.YtljmdkeeppikhaaW.PrintWords Go.Proofs.YtljmdkeeppikhaaW.PrintLast Go.Proofs.YtljmdkeeppikhaaW.PrintMore
set_option linter.unusedVariables false

def zerosP (s : List Int) (i : Nat) : Prop := ∀ j : Nat, i ≤ j → j < 124 → rd s (j : Int) = 0
theorem zeros_iff (s : List Int) (i : Nat) (hi : i < 124) : zerosP s i ↔ rd s (i : Int) = 0 ∧ zerosP s (i + 1) := by
  constructor
  · intro h
    exact ⟨h i (Nat.le_refl _) hi, fun j h1 h2 => h j (by omega) h2⟩
  · rintro ⟨h1, h2⟩ j h3 h4
    by_cases c : j = i
    · subst c; exact h1
    · exact h2 j (by omega) h4
open Classical in
theorem zer_l0 (s : List Int) (hs : s.length = 128) (K : Nat) : ∀ (m i : Nat), i + m = 124 → fastiref05_good.l0 (K + m + 1) s (i : Int) = some (decide (zerosP s i))
  | 0, i, e => by
    rw [fastiref05_good.l0, if_neg (by omega)]
    refine congrArg some ?_
    exact (decide_eq_true (fun j h1 h2 => by omega)).symm
  | m + 1, i, e => by
    have h := zer_l0 s hs K m (i + 1) (by omega)
    rw [show K + (m + 1) + 1 = (K + m + 1) + 1 by omega, fastiref05_good.l0, if_pos (by omega), if_pos (by omega), if_pos (by omega)]
    by_cases c : rd s (i : Int) = 0
    · rw [if_pos c, w64j ((i : Int) + 1) (by omega), show (i : Int) + 1 = ((i + 1 : Nat) : Int) by omega, h]
      refine congrArg some ?_
      apply decide_eq_decide.2
      rw [zeros_iff s i (by omega)]
      exact ⟨fun h => ⟨c, h⟩, fun h => h.2⟩
    · rw [if_neg c]
      refine congrArg some ?_
      exact (decide_eq_false (fun h => c ((zeros_iff s i (by omega)).1 h).1)).symm
open Classical in
theorem rgood_is (K : Nat) (s : List Int) (n : Int) (hs : s.length = 128) (hB : Byt s) (hn : 0 ≤ n ∧ n ≤ 4096) : fastiref05_good.f (K + 1200) s n = some (decide (gd s n)) := by
  have hm := byt_rd hB 11
  have hk := byt_rd hB 10
  have hmw := w64j (rd s 11) (by omega)
  have l4 : (s.take 4).length = 4 := by rw [List.length_take]; omega
  have ld : (s.drop 124).length = 4 := by rw [List.length_drop]; omega
  have l8 : ((s.take 8).drop 4).length = 4 := by rw [List.length_drop, List.length_take]; omega
  have l10 : ((s.take 10).drop 8).length = 2 := by rw [List.length_drop, List.length_take]; omega
  have lt : ((s.take 124).drop 8).length = 116 := by rw [List.length_drop, List.length_take]; omega
  have n1 := number_is (s.take 4) (by omega) (hB.take 4) (K + 1195)
  have n2 := number_is (s.drop 124) (by omega) (hB.drop 124) (K + 1195)
  have n3 := number_is ((s.take 8).drop 4) (by omega) ((hB.take 8).drop 4) (K + 1195)
  have n4 := number_is ((s.take 10).drop 8) (by omega) ((hB.take 10).drop 8) (K + 1197)
  have n5 := checksum_is ((s.take 124).drop 8) (by omega) (K + 39)
  rw [l4, show K + 1195 + 4 + 1 = K + 1200 by omega] at n1
  rw [ld, show K + 1195 + 4 + 1 = K + 1200 by omega] at n2
  rw [l8, show K + 1195 + 4 + 1 = K + 1200 by omega] at n3
  rw [l10, show K + 1197 + 2 + 1 = K + 1200 by omega] at n4
  rw [lt, show K + 39 + 10 * 116 + 1 = K + 1200 by omega] at n5
  have r1 := num_range (s.take 4) (hB.take 4)
  have r3 := num_range ((s.take 8).drop 4) ((hB.take 8).drop 4)
  rw [l8] at r3
  have r3' : numV ((s.take 8).drop 4) < 4294967296 := r3.2
  have jT : ∀ m, fastiref05_good.j0 (K + 1200) s m true = some false := fun m => by rw [show K + 1200 = K + 1199 + 1 by omega, fastiref05_good.j0, if_pos rfl]
  have no : ∀ (h : ¬ gd s n), some false = some (decide (gd s n)) := fun h => by rw [decide_eq_false h]
  unfold fastiref05_good.f
  rw [if_pos (by omega), if_pos (by omega), n1, Option.bind_some, hmw]
  by_cases c1 : numV (s.take 4) = 0
  · rw [if_pos c1, jT]
    exact no (fun h => by have := h.2.2.2.2.1; omega)
  · rw [if_neg c1, Option.bind_some, if_pos (by omega), n2, Option.bind_some]
    by_cases c0 : rd s 11 ≤ 112
    · have hgp := gp_iff s n hs hB hn c0
      by_cases c2 : numV (s.take 4) = numV (s.drop 124)
      · rw [if_pos c2, if_pos (by omega), n3, Option.bind_some, n5, Option.bind_some, show numV ((s.take 8).drop 4) % 4294967296 = numV ((s.take 8).drop 4) by omega]
        by_cases c3 : numV ((s.take 8).drop 4) = sumV ((s.take 124).drop 8)
        · rw [if_pos c3, if_pos (by omega), n4, Option.bind_some, wraps_u64 n hn.1 (by omega)]
          by_cases c4 : numV ((s.take 10).drop 8) = n
          · rw [if_pos c4, if_pos (by omega)]
            by_cases c5 : rd s 10 > 3
            · rw [if_pos c5, jT]
              exact no (fun h => by have := h.2.1; omega)
            · rw [if_neg c5, if_neg (show ¬ rd s 11 > 112 by omega)]
              have hz := zer_l0 s hs (K + 1198 - (124 - (12 + (rd s 11).toNat))) (124 - (12 + (rd s 11).toNat)) (12 + (rd s 11).toNat) (by omega)
              have hside : ∀ b : Bool, (b = true ↔ (rd s 10 % 2 = 0 ∧ rd s 11 = 0)) → (rd s 10 < 2 → rd s 11 = 112) → fastiref05_good.j0 (K + 1200) s (rd s 11) b = some (decide (gd s n)) := by
                intro b hb h2
                cases b with
                | true =>
                  have h0 := hb.1 rfl
                  rw [jT]
                  exact no (fun h => h.2.2.2.1 h0.1 h0.2)
                | false =>
                  rw [show K + 1200 = K + 1199 + 1 by omega, fastiref05_good.j0, if_neg (by decide), w64j (12 + rd s 11) (by omega), show 12 + rd s 11 = ((12 + (rd s 11).toNat : Nat) : Int) by omega, show K + 1199 = K + 1198 - (124 - (12 + (rd s 11).toNat)) + (124 - (12 + (rd s 11).toNat)) + 1 by omega, hz]
                  refine congrArg some ?_
                  apply decide_eq_decide.2
                  constructor
                  · intro h
                    refine ⟨c0, by omega, h2, fun h1 h1' => ?_, by omega, hgp.2 ⟨c2, c3, c4, h⟩⟩
                    have := hb.2 ⟨h1, h1'⟩
                    cases this
                  · intro h
                    exact (hgp.1 h.2.2.2.2.2).2.2.2
              rw [Int.tmod_eq_emod_of_nonneg hk.1]
              by_cases c6 : rd s 10 < 2
              · rw [if_pos c6]
                by_cases c7 : rd s 11 = 112
                · rw [if_pos c7]
                  by_cases c8 : rd s 10 % 2 = 0
                  · rw [if_pos c8]
                    exact hside _ (by rw [beq_iff_eq]; exact ⟨fun h => ⟨c8, h⟩, fun h => h.2⟩) (fun _ => c7)
                  · rw [if_neg c8]
                    exact hside _ ⟨fun h => (nomatch h), fun h => absurd h.1 c8⟩ (fun _ => c7)
                · rw [if_neg c7, jT]
                  exact no (fun h => c7 (h.2.2.1 c6))
              · rw [if_neg c6]
                by_cases c8 : rd s 10 % 2 = 0
                · rw [if_pos c8]
                  exact hside _ (by rw [beq_iff_eq]; exact ⟨fun h => ⟨c8, h⟩, fun h => h.2⟩) (fun h => absurd h c6)
                · rw [if_neg c8]
                  exact hside _ ⟨fun h => (nomatch h), fun h => absurd h.1 c8⟩ (fun h => absurd h c6)
          · rw [if_neg c4, jT]
            exact no (fun h => c4 (hgp.1 h.2.2.2.2.2).2.2.1)
        · rw [if_neg c3, jT]
          exact no (fun h => c3 (hgp.1 h.2.2.2.2.2).2.1)
      · rw [if_neg c2, jT]
        exact no (fun h => c2 (hgp.1 h.2.2.2.2.2).1)
    · -- too long a piece: every way says no
      have hno : ¬ gd s n := fun h => c0 h.1
      by_cases c2 : numV (s.take 4) = numV (s.drop 124)
      · rw [if_pos c2, if_pos (by omega), n3, Option.bind_some, n5, Option.bind_some, show numV ((s.take 8).drop 4) % 4294967296 = numV ((s.take 8).drop 4) by omega]
        by_cases c3 : numV ((s.take 8).drop 4) = sumV ((s.take 124).drop 8)
        · rw [if_pos c3, if_pos (by omega), n4, Option.bind_some, wraps_u64 n hn.1 (by omega)]
          by_cases c4 : numV ((s.take 10).drop 8) = n
          · rw [if_pos c4, if_pos (by omega)]
            by_cases c5 : rd s 10 > 3
            · rw [if_pos c5, jT]; exact no hno
            · rw [if_neg c5, if_pos (show rd s 11 > 112 by omega), jT]; exact no hno
          · rw [if_neg c4, jT]; exact no hno
        · rw [if_neg c3, jT]; exact no hno
      · rw [if_neg c2, jT]; exact no hno
end Go.Proofs.Ytljmdkeeppikhaa.Q

namespace Go.Proofs.Ytljmdkeeppikhaa.Q
open Go.RowKit Go.Proofs.YtljmdkeeppikhaaW.PrintWords Go.Proofs.YtljmdkeeppikhaaW.PrintLast Go.Proofs.YtljmdkeeppikhaaW.PrintMore
set_option linter.unusedVariables false

/-- The generation that a sector bears. -/
def genV (s : List Int) : Int := numV (s.take 4)
def secAt (l : List (List Int)) (n : Nat) : List Int := l.getD n []
/-- May the sector n stand in a record that begins at at? -/
def okAt (l : List (List Int)) (st n : Nat) : Prop := gd (secAt l n) n ∧ (rd (secAt l n) 10 % 2 = 1 ↔ n = st) ∧ genV (secAt l n) = genV (secAt l st)
instance okDec (l : List (List Int)) (st n : Nat) : Decidable (okAt l st n) := by unfold okAt; infer_instance
/-- The rest of a record from sector n on, m sectors being left: where it ends, and its bytes. -/
def pieceV (l : List (List Int)) (st : Nat) : Nat → Nat → List Int → Option (Nat × List Int)
  | 0, _, _ => none
  | m + 1, n, acc => if okAt l st n then (if rd (secAt l n) 10 < 2 then pieceV l st m (n + 1) (acc ++ bodyV (secAt l n)) else some (n + 1, acc ++ bodyV (secAt l n))) else none
/-- The records from sector st on. -/
def recV (l : List (List Int)) : Nat → Nat → Int → List (Nat × List Int)
  | 0, _, _ => []
  | M + 1, st, last => match pieceV l st (l.length - st) st [] with
    | none => []
    | some r => if genV (secAt l st) < last then [] else r :: recV l M r.1 (genV (secAt l st))
theorem rd_sec (l : List (List Int)) (n : Nat) : rd_L1 l (n : Int) = secAt l n := by
  unfold rd_L1 secAt
  rw [Int.toNat_natCast]
/-- All are sectors of bytes. -/
def Sec (l : List (List Int)) : Prop := ∀ s, s ∈ l → s.length = 128 ∧ Byt s
theorem Sec.at {l : List (List Int)} (h : Sec l) {n : Nat} (hn : n < l.length) : (secAt l n).length = 128 ∧ Byt (secAt l n) := by
  have : secAt l n = l[n] := by unfold secAt; rw [List.getD_eq_getElem?_getD, List.getElem?_eq_getElem hn, Option.getD_some]
  rw [this]
  exact h _ (List.getElem_mem hn)
theorem get4 (s : List Int) (hs : s.length = 128) (hB : Byt s) (k : Nat) : journal_get.f (k + 5) (s.take 4) = some (genV s) := by
  have l4 : (s.take 4).length = 4 := by rw [List.length_take]; omega
  have h := get_is (s.take 4) (by omega) (hB.take 4) k
  rwa [l4] at h
theorem bodyV_is (s : List Int) (hs : s.length = 128) (hB : Byt s) (hm : rd s 11 ≤ 112) : (s.take ((wrap64 (12 + (wrap64 (rd s 11)))) : Int).toNat).drop 12 = bodyV s := by
  have h0 := (byt_rd hB 11).1
  unfold bodyV
  rw [w64j (rd s 11) (by omega), w64j (12 + rd s 11) (by omega), show (12 + rd s 11).toNat = 12 + (rd s 11).toNat by omega]
theorem bodyV_len (s : List Int) (hs : s.length = 128) (hB : Byt s) (hm : rd s 11 ≤ 112) : (bodyV s).length ≤ 112 := by
  unfold bodyV; rw [List.length_drop, List.length_take]; omega
/-- What l1 finds. -/
def resV (l : List (List Int)) (M : Nat) (st : Nat) (last : Int) (p : Option (Nat × List Int)) : List (Int × List Int) :=
  match p with
  | none => []
  | some r => if genV (secAt l st) < last then [] else ((r.1 : Int), r.2) :: (recV l M r.1 (genV (secAt l st))).map (fun x => ((x.1 : Int), x.2))
theorem recV_res (l : List (List Int)) (M st : Nat) (last : Int) : (recV l (M + 1) st last).map (fun x => ((x.1 : Int), x.2)) = resV l M st last (pieceV l st (l.length - st) st []) := by
  rw [recV]
  cases pieceV l st (l.length - st) st [] with
  | none => rfl
  | some r =>
    show List.map _ (if _ then _ else _) = (if _ then _ else _)
    split <;> rfl
theorem kind_eq (x : Int) (h0 : 0 ≤ x) (h1 : x ≤ 3) (n st : Nat) : (((Go.bits .and .u8 x 1) != 0) != ((n : Int) == (st : Int))) = true ↔ ¬ (x % 2 = 1 ↔ n = st) := by
  have e1 := and1 x h0 h1
  by_cases c : n = st
  · subst c
    rw [show ((n : Int) == (n : Int)) = true from beq_self_eq_true _]
    by_cases d : x % 2 = 0
    · rw [e1.2 d]
      exact ⟨fun _ h => by have := h.2 rfl; omega, fun _ => rfl⟩
    · rw [show (Go.bits .and .u8 x 1 != 0) = true from bne_iff_ne.2 (fun h => d (e1.1 h))]
      exact ⟨fun h => (nomatch h), fun h => absurd ⟨fun _ => rfl, fun _ => by omega⟩ h⟩
  · rw [show ((n : Int) == (st : Int)) = false from beq_false_of_ne (by omega)]
    by_cases d : x % 2 = 0
    · rw [e1.2 d]
      exact ⟨fun h => (nomatch h), fun h => absurd ⟨fun h => by omega, fun h => absurd h c⟩ h⟩
    · rw [show (Go.bits .and .u8 x 1 != 0) = true from bne_iff_ne.2 (fun h => d (e1.1 h))]
      exact ⟨fun _ h => c (h.1 (by omega)), fun _ => rfl⟩
theorem recs_l1 (l : List (List Int)) (hS : Sec l) (hl : l.length ≤ 4096) : ∀ (m n st : Nat) (acc : List Int) (last : Int) (F M : Nat), n + m = l.length → st ≤ n → (m = 0 → st < n) → 3 * m + 10 ≤ F → m ≤ M + 1 → acc.length ≤ 112 * n →
    recs.l1 F l (st : Int) last acc (n : Int) = some (resV l M st last (pieceV l st m n acc))
  | 0, n, st, acc, last, F, M, e, h1, h0, hF, hM, ha => by
    obtain ⟨F, rfl⟩ : ∃ f, F = f + 1 := ⟨F - 1, by omega⟩
    rw [recs.l1, if_neg (by omega)]
    rfl
  | m + 1, n, st, acc, last, F, M, e, h1, _, hF, hM, ha => by
    have hn : n < l.length := by omega
    have hst : st < l.length := by omega
    have sn := hS.at hn
    have ss := hS.at hst
    obtain ⟨f, rfl⟩ : ∃ f, F = f + 8 := ⟨F - 8, by omega⟩
    have hgood := jgood_is (f + 1) (secAt l n) (n : Int) sn.1 sn.2 (by omega)
    have g1 := get4 (secAt l n) sn.1 sn.2 (f + 2)
    have g2 := get4 (secAt l st) ss.1 ss.2 (f + 2)
    have g3 := get4 (secAt l n) sn.1 sn.2 (f + 1)
    have jT : recs.j2 (f + 7) l (st : Int) last acc (n : Int) (secAt l n) true = some [] := by rw [show f + 7 = f + 6 + 1 by omega, recs.j2, if_pos rfl]
    rw [show f + 8 = (f + 7) + 1 by omega, recs.l1, if_pos (by omega), if_pos (by omega), rd_sec, rd_sec, show f + 7 = f + 1 + 6 by omega, hgood, Option.bind_some, show f + 1 + 6 = f + 7 by omega]
    rw [pieceV]
    by_cases cg : gd (secAt l n) n
    · have hk := byt_rd sn.2 10
      have hk3 : rd (secAt l n) 10 ≤ 3 := cg.2.1
      have hm11 : rd (secAt l n) 11 ≤ 112 := cg.1
      rw [decide_eq_true cg, if_pos rfl, if_pos (by omega)]
      have hkind := kind_eq (rd (secAt l n) 10) hk.1 hk3 n st
      by_cases ck : (rd (secAt l n) 10 % 2 = 1 ↔ n = st)
      · rw [if_neg (fun h => hkind.1 h ck), if_pos (by omega), show f + 7 = f + 2 + 5 by omega, g1, Option.bind_some, if_pos (by omega), if_pos (by omega), if_pos (by omega), g2, Option.bind_some]
        by_cases cn : genV (secAt l n) = genV (secAt l st)
        · rw [if_pos cn, Option.bind_some, if_pos (show okAt l st n from ⟨cg, ck, cn⟩), show f + 2 + 5 = f + 7 by omega]
          by_cases cl : genV (secAt l n) < last
          · rw [decide_eq_true cl, jT]
            refine congrArg some ?_
            have cl2 : genV (secAt l st) < last := by rw [← cn]; exact cl
            split
            · cases hp : pieceV l st m (n + 1) (acc ++ bodyV (secAt l n)) with
              | none => rfl
              | some r => exact (if_pos cl2).symm
            · exact (if_pos cl2).symm
          · rw [decide_eq_false cl, show f + 7 = (f + 6) + 1 by omega, recs.j2, if_neg (by decide), if_pos (by omega)]
            have hb := bodyV_is (secAt l n) sn.1 sn.2 hm11
            have hbl := bodyV_len (secAt l n) sn.1 sn.2 hm11
            have h11 := (byt_rd sn.2 11).1
            have w1 : wrap64 (12 + (wrap64 (rd (secAt l n) 11))) = 12 + rd (secAt l n) 11 := by rw [w64j (rd (secAt l n) 11) (by omega), w64j (12 + rd (secAt l n) 11) (by omega)]
            rw [hb, w1, if_pos (by omega), if_pos (by omega), if_pos (by omega), Option.bind_some, if_pos (by omega)]
            have e2 := and2 (rd (secAt l n) 10) hk.1 hk3
            by_cases c2 : rd (secAt l n) 10 < 2
            · rw [if_pos (e2.2 c2), if_pos c2, w64j ((n : Int) + 1) (by omega), show (n : Int) + 1 = ((n + 1 : Nat) : Int) by omega]
              exact recs_l1 l hS hl m (n + 1) st (acc ++ bodyV (secAt l n)) last (f + 6) M (by omega) (by omega) (fun _ => by omega) (by omega) (by omega) (by rw [List.length_append]; omega)
            · rw [if_neg (fun h => c2 (e2.1 h)), if_neg c2, if_pos (by omega), show f + 6 = f + 1 + 5 by omega, g3, Option.bind_some, show f + 1 + 5 = (f + 5) + 1 by omega, w64j ((n : Int) + 1) (by omega), show (n : Int) + 1 = ((n + 1 : Nat) : Int) by omega, recs.l0]
              have cl2 : ¬ genV (secAt l st) < last := by rw [← cn]; exact cl
              have hres : resV l M st last (some (n + 1, acc ++ bodyV (secAt l n))) = (((n + 1 : Nat) : Int), acc ++ bodyV (secAt l n)) :: (recV l M (n + 1) (genV (secAt l st))).map (fun x => ((x.1 : Int), x.2)) := if_neg cl2
              rw [hres, ← cn]
              by_cases hm0 : m = 0
              · subst hm0
                have hr : recs.l1 (f + 5) l ((n + 1 : Nat) : Int) (genV (secAt l n)) [] ((n + 1 : Nat) : Int) = some [] := by
                  rw [show f + 5 = f + 4 + 1 by omega, recs.l1, if_neg (by omega)]
                have hv : recV l M (n + 1) (genV (secAt l n)) = [] := by
                  cases M with
                  | zero => rfl
                  | succ M =>
                    rw [recV, show l.length - (n + 1) = 0 by omega, pieceV]
                rw [hr, hv]
                rfl
              · obtain ⟨M, rfl⟩ : ∃ z, M = z + 1 := ⟨M - 1, by omega⟩
                have h := recs_l1 l hS hl m (n + 1) (n + 1) [] (genV (secAt l n)) (f + 5) M (by omega) (by omega) (fun h => absurd h hm0) (by omega) (by omega) (by simp)
                rw [h, recV_res, show l.length - (n + 1) = m by omega]
                rfl
        · rw [if_neg cn, show f + 2 + 5 = f + 7 by omega, jT, if_neg (fun h : okAt l st n => cn h.2.2)]
          rfl
      · rw [if_pos (hkind.2 ck), jT, if_neg (fun h : okAt l st n => ck h.2.1)]
        rfl
    · rw [decide_eq_false cg, if_neg (by decide), jT, if_neg (fun h : okAt l st n => cg h.1)]
      rfl
theorem recs_is (l : List (List Int)) (hS : Sec l) (hl : l.length ≤ 4096) (F M : Nat) (hF : 3 * l.length + 11 ≤ F) (hM : l.length ≤ M) : recs.l0 F l 0 0 = some ((recV l M 0 0).map (fun x => ((x.1 : Int), x.2))) := by
  obtain ⟨f, rfl⟩ : ∃ f, F = f + 1 := ⟨F - 1, by omega⟩
  rw [recs.l0]
  by_cases h0 : l.length = 0
  · have : recs.l1 f l 0 0 [] 0 = some [] := by
      obtain ⟨g, rfl⟩ : ∃ g, f = g + 1 := ⟨f - 1, by omega⟩
      rw [recs.l1, if_neg (by omega)]
    rw [this]
    cases M with
    | zero => rfl
    | succ M => rw [recV, h0, pieceV]; rfl
  · obtain ⟨M, rfl⟩ : ∃ z, M = z + 1 := ⟨M - 1, by omega⟩
    have h := recs_l1 l hS hl l.length 0 0 [] 0 f M (by omega) (by omega) (fun h => absurd h h0) (by omega) (by omega) (by simp)
    rw [recV_res]
    exact h
end Go.Proofs.Ytljmdkeeppikhaa.Q

namespace Go.Proofs.Ytljmdkeeppikhaa.Q
open Go.RowKit Go.Proofs.YtljmdkeeppikhaaW.PrintWords Go.Proofs.YtljmdkeeppikhaaW.PrintLast Go.Proofs.YtljmdkeeppikhaaW.PrintMore
set_option linter.unusedVariables false

theorem piece_bounds (l : List (List Int)) (st : Nat) : ∀ (m n : Nat) (acc : List Int) (r : Nat × List Int), pieceV l st m n acc = some r → n < r.1 ∧ r.1 ≤ n + m
  | 0, n, acc, r, h => by cases h
  | m + 1, n, acc, r, h => by
    rw [pieceV] at h
    by_cases c : okAt l st n
    · rw [if_pos c] at h
      by_cases c2 : rd (secAt l n) 10 < 2
      · rw [if_pos c2] at h
        have := piece_bounds l st m (n + 1) _ r h
        omega
      · rw [if_neg c2] at h
        obtain rfl := Option.some.inj h
        exact ⟨Nat.lt_succ_self _, by show n + 1 ≤ _; omega⟩
    · rw [if_neg c] at h
      cases h
/-- What record answers. -/
def ansV (st : Nat) (p : Option (Nat × List Int)) : List Int × Int := match p with
  | none => ([], 0)
  | some r => (r.2, (r.1 : Int) - (st : Int))
theorem num4g (s : List Int) (hs : s.length = 128) (hB : Byt s) (k : Nat) : fastiref05_number.f (k + 5) (s.take 4) = some (genV s) := by
  have l4 : (s.take 4).length = 4 := by rw [List.length_take]; omega
  have h := number_is (s.take 4) (by omega) (hB.take 4) k
  rwa [l4] at h
theorem rkind_eq (x : Int) (h0 : 0 ≤ x) (j : Nat) : (((Int.tmod x 2) == 1) != ((j : Int) == 0)) = true ↔ ¬ (x % 2 = 1 ↔ j = 0) := by
  rw [Int.tmod_eq_emod_of_nonneg h0, bne_iff_ne]
  constructor
  · intro h hi
    apply h
    rw [Bool.eq_iff_iff, beq_iff_eq, beq_iff_eq]
    exact ⟨fun a => by have := hi.1 a; omega, fun a => hi.2 (by omega)⟩
  · intro h hi
    apply h
    rw [Bool.eq_iff_iff, beq_iff_eq, beq_iff_eq] at hi
    exact ⟨fun a => by have := hi.1 a; omega, fun a => hi.2 (by omega)⟩
theorem record_l0 (l : List (List Int)) (hS : Sec l) (hl : l.length ≤ 4096) : ∀ (m n st : Nat) (acc : List Int) (F : Nat), n + m = l.length → st ≤ n → (m = 0 → st ≤ n) → 2 * m + 1210 ≤ F → acc.length ≤ 112 * n →
    fastiref05_record.l0 F l (st : Int) acc ((n : Int) - (st : Int)) = some (ansV st (pieceV l st m n acc))
  | 0, n, st, acc, F, e, h1, _, hF, ha => by
    obtain ⟨F, rfl⟩ : ∃ f, F = f + 1 := ⟨F - 1, by omega⟩
    rw [fastiref05_record.l0, w64j ((st : Int) + ((n : Int) - (st : Int))) (by omega), if_neg (by omega)]
    rfl
  | m + 1, n, st, acc, F, e, h1, _, hF, ha => by
    have hn : n < l.length := by omega
    have hst : st < l.length := by omega
    have sn := hS.at hn
    have ss := hS.at hst
    obtain ⟨f, rfl⟩ : ∃ f, F = f + 1201 := ⟨F - 1201, by omega⟩
    have hgood := rgood_is f (secAt l n) (n : Int) sn.1 sn.2 (by omega)
    have g1 := num4g (secAt l n) sn.1 sn.2 (f + 1195)
    have g2 := num4g (secAt l st) ss.1 ss.2 (f + 1195)
    rw [show f + 1195 + 5 = f + 1200 by omega] at g1 g2
    have jT : fastiref05_record.j1 (f + 1200) l (st : Int) acc ((n : Int) - (st : Int)) (secAt l n) true = some ([], 0) := by rw [show f + 1200 = f + 1199 + 1 by omega, fastiref05_record.j1, if_pos rfl]
    have wn : wrap64 ((st : Int) + ((n : Int) - (st : Int))) = (n : Int) := by rw [w64j _ (by omega)]; omega
    rw [show f + 1201 = (f + 1200) + 1 by omega, fastiref05_record.l0, wn, if_pos (by omega), if_pos (by omega), rd_sec, rd_sec, hgood, Option.bind_some, pieceV]
    by_cases cg : gd (secAt l n) n
    · have hk := byt_rd sn.2 10
      have hk3 : rd (secAt l n) 10 ≤ 3 := cg.2.1
      have hm11 : rd (secAt l n) 11 ≤ 112 := cg.1
      rw [decide_eq_true cg, if_pos rfl, if_pos (by omega)]
      have hkind := rkind_eq (rd (secAt l n) 10) hk.1 (n - st)
      rw [show ((n - st : Nat) : Int) = (n : Int) - (st : Int) by omega] at hkind
      -- the rest, once a sector stands in the record
      have rest : okAt l st n → fastiref05_record.j1 (f + 1200) l (st : Int) acc ((n : Int) - (st : Int)) (secAt l n) false = some (ansV st (if okAt l st n then (if rd (secAt l n) 10 < 2 then pieceV l st m (n + 1) (acc ++ bodyV (secAt l n)) else some (n + 1, acc ++ bodyV (secAt l n))) else none)) := by
        intro cok
        have hb := bodyV_is (secAt l n) sn.1 sn.2 hm11
        have hbl := bodyV_len (secAt l n) sn.1 sn.2 hm11
        have h11 := (byt_rd sn.2 11).1
        have w1 : wrap64 (12 + (wrap64 (rd (secAt l n) 11))) = 12 + rd (secAt l n) 11 := by rw [w64j (rd (secAt l n) 11) (by omega), w64j (12 + rd (secAt l n) 11) (by omega)]
        rw [if_pos cok, show f + 1200 = (f + 1199) + 1 by omega, fastiref05_record.j1, if_neg (by decide), if_pos (by omega), hb, w1, if_pos (by omega), if_pos (by omega), if_pos (by omega), Option.bind_some, if_pos (by omega), w64j ((n : Int) - (st : Int) + 1) (by omega)]
        by_cases c2 : rd (secAt l n) 10 < 2
        · rw [if_neg (by omega), if_pos c2, show (n : Int) - (st : Int) + 1 = ((n + 1 : Nat) : Int) - (st : Int) by omega]
          exact record_l0 l hS hl m (n + 1) st (acc ++ bodyV (secAt l n)) (f + 1199) (by omega) (by omega) (fun _ => by omega) (by omega) (by rw [List.length_append]; omega)
        · rw [if_pos (by omega), if_neg c2]
          refine congrArg some ?_
          show (_, _) = (_, _)
          rw [show (n : Int) - (st : Int) + 1 = ((n + 1 : Nat) : Int) - (st : Int) by omega]
      by_cases ck : (rd (secAt l n) 10 % 2 = 1 ↔ n = st)
      · have ck2 : (rd (secAt l n) 10 % 2 = 1 ↔ n - st = 0) := ⟨fun h => by have := ck.1 h; omega, fun h => ck.2 (by omega)⟩
        rw [if_neg (fun h => hkind.1 h ck2)]
        by_cases c0 : n = st
        · subst c0
          rw [if_neg (by omega)]
          exact rest ⟨cg, ck, rfl⟩
        · rw [if_pos (by omega), if_pos (by omega), g1, Option.bind_some, if_pos (by omega), if_pos (by omega), if_pos (by omega), g2, Option.bind_some]
          by_cases cn : genV (secAt l n) = genV (secAt l st)
          · rw [show (genV (secAt l n) != genV (secAt l st)) = false from bne_eq_false_iff_eq.2 cn]
            exact rest ⟨cg, ck, cn⟩
          · rw [show (genV (secAt l n) != genV (secAt l st)) = true from bne_iff_ne.2 cn, jT, if_neg (fun h : okAt l st n => cn h.2.2)]
            rfl
      · have ck2 : ¬ (rd (secAt l n) 10 % 2 = 1 ↔ n - st = 0) := fun h => ck ⟨fun a => by have := h.1 a; omega, fun a => h.2 (by omega)⟩
        rw [if_pos (hkind.2 ck2), jT, if_neg (fun h : okAt l st n => ck h.2.1)]
        rfl
    · rw [decide_eq_false cg, if_neg (by decide), jT, if_neg (fun h : okAt l st n => cg h.1)]
      rfl
theorem records_l0 (l : List (List Int)) (hS : Sec l) (hl : l.length ≤ 4096) : ∀ (M st : Nat) (out : List (List Int)) (last : Int) (F : Nat), st ≤ l.length → l.length + 1 ≤ M + st → 2 * l.length + 1300 + M ≤ F → out.length ≤ st →
    fastiref05_Records.l0 F l out (st : Int) last = some (out ++ (recV l M st last).map (fun x => x.2))
  | 0, st, out, last, F, h1, h2, hF, ho => by omega
  | M + 1, st, out, last, F, h1, h2, hF, ho => by
    obtain ⟨f, rfl⟩ : ∃ f, F = f + 1 := ⟨F - 1, by omega⟩
    have hr := record_l0 l hS hl (l.length - st) st st [] f (by omega) (Nat.le_refl _) (fun _ => Nat.le_refl _) (by omega) (by simp)
    rw [Int.sub_self] at hr
    rw [fastiref05_Records.l0]
    unfold fastiref05_record.f
    rw [hr, Option.bind_some, recV]
    cases hp : pieceV l st (l.length - st) st [] with
    | none =>
      rw [if_pos (show (ansV st none).2 = 0 from rfl)]
      simp
    | some r =>
      have hb := piece_bounds l st _ _ _ _ hp
      have hst : st < l.length := by omega
      have ss := hS.at hst
      obtain ⟨g, rfl⟩ : ∃ g, f = g + 5 := ⟨f - 5, by omega⟩
      have g2 := num4g (secAt l st) ss.1 ss.2 g
      have ha : (ansV st (some r)).2 = (r.1 : Int) - (st : Int) := rfl
      have ha1 : (ansV st (some r)).1 = r.2 := rfl
      rw [ha, ha1, if_neg (by omega), if_pos (by omega), if_pos (by omega), rd_sec, if_pos (by omega), g2, Option.bind_some]
      by_cases cl : genV (secAt l st) < last
      · rw [if_pos cl]
        show some out = some (out ++ List.map _ (if _ then _ else _))
        rw [if_pos cl]
        simp
      · rw [if_neg cl, Option.bind_some, if_pos (by omega), show wrap64 ((st : Int) + ((r.1 : Int) - (st : Int))) = (r.1 : Int) by rw [w64j _ (by omega)]; omega]
        show _ = some (out ++ List.map _ (if _ then _ else _))
        rw [if_neg cl, records_l0 l hS hl M r.1 (out ++ [r.2]) (genV (secAt l st)) (g + 5) (by omega) (by omega) (by omega) (by rw [List.length_append, List.length_singleton]; omega)]
        simp
theorem records_is (l : List (List Int)) (hS : Sec l) (hl : l.length ≤ 4096) (F : Nat) (hF : 3 * l.length + 1400 ≤ F) : fastiref05_Records.f F l = some ((recV l (l.length + 1) 0 0).map (fun x => x.2)) := by
  unfold fastiref05_Records.f
  have h := records_l0 l hS hl (l.length + 1) 0 [] 0 F (by omega) (by omega) (by omega) (by simp)
  rw [List.nil_append] at h
  exact h
end Go.Proofs.Ytljmdkeeppikhaa.Q

namespace Go.Proofs.Ytljmdkeeppikhaa.Q
open Go.RowKit Go.Proofs.YtljmdkeeppikhaaW.PrintWords Go.Proofs.YtljmdkeeppikhaaW.PrintLast Go.Proofs.YtljmdkeeppikhaaW.PrintMore
set_option linter.unusedVariables false
set_option linter.unusedSimpArgs false

theorem wr_in {x : Int} (h : -9223372036854775808 ≤ x ∧ x ≤ 9223372036854775807) : wrap64 x = x := by
  unfold wrap64
  omega
theorem wr_up (n : Nat) (h : n ≤ 140737488351232) : wrap64 ((n : Int) + 1) = ((n + 1 : Nat) : Int) := by rw [wr_in (by omega)]; omega
theorem rdT_get (l : List SW) (n : Nat) (h : n < l.length) : rd_T76 l (n : Int) = l[n] := by simp [rd_T76, List.getD, h]
theorem rdL_get (l : List (List Int)) (n : Nat) (h : n < l.length) : rd_L1 l (n : Int) = l[n] := by simp [rd_L1, List.getD, h]
theorem chk_l1 (l0 : List (List Int)) (l1 : List SW) (a : Int) (s : Bool) (n0 : Int) (hl : l1.length ≤ 140737488351232) : ∀ (m n : Nat), n + m = l1.length → ∀ k, m < k → fastiref04_Check.l1 k n0 n l0 l1 a s = some (if (l1.drop n).all (okP n0) = true then 0 else 40) := by
  intro m
  induction m with
  | zero =>
    intro n hn k hk
    obtain ⟨k, rfl⟩ := Nat.exists_eq_succ_of_ne_zero (show k ≠ 0 by omega)
    simp only [fastiref04_Check.l1]
    rw [if_neg (by omega), List.drop_of_length_le (by omega)]
    rfl
  | succ m ih =>
    intro n hn k hk
    obtain ⟨k, rfl⟩ := Nat.exists_eq_succ_of_ne_zero (show k ≠ 0 by omega)
    have hlt : n < l1.length := by omega
    have ih' := ih (n + 1) (by omega) k (by omega)
    simp only [fastiref04_Check.l1]
    rw [if_pos (by omega), if_pos (by omega), rdT_get l1 n hlt, wr_up n (by omega), ih', List.drop_eq_getElem_cons hlt, List.all_cons]
    generalize (List.drop (n + 1) l1).all (okP n0) = r
    by_cases c1 : l1[n].f0 < 0
    · rw [if_pos c1, show okP n0 l1[n] = false from by simp [okP, c1]]
      rfl
    · rw [if_neg c1]
      by_cases c2 : l1[n].f0 ≥ n0
      · rw [if_pos c2, show okP n0 l1[n] = false from by simp [okP, c2]]
        rfl
      · rw [if_neg c2]
        by_cases c3 : (l1[n].f1.length : Int) = 128
        · rw [if_pos c3, show okP n0 l1[n] = true from by simp only [okP, okS, c1, c3]; simp; omega, Bool.true_and]
        · rw [if_neg c3, show okP n0 l1[n] = false from by simp only [okP, okS, c3]; simp]
          rfl
theorem chk_l0 (l0 : List (List Int)) (l1 : List SW) (a : Int) (s : Bool) (hl0 : l0.length ≤ 140737488351232) (hl : l1.length ≤ 140737488351232) : ∀ (m n : Nat), n + m = l0.length → ∀ k, m + l1.length + 1 < k → fastiref04_Check.l0 k l0.length n l0 l1 a s = some (if l1.all (okP l0.length) = true then (if (l0.drop n).all okS = true then 0 else 40) else 40) := by
  intro m
  induction m with
  | zero =>
    intro n hn k hk
    obtain ⟨k, rfl⟩ := Nat.exists_eq_succ_of_ne_zero (show k ≠ 0 by omega)
    have := chk_l1 l0 l1 a s l0.length hl l1.length 0 (by omega) k (by omega)
    rw [List.drop_zero] at this
    simp only [fastiref04_Check.l0]
    rw [if_neg (by omega), List.drop_of_length_le (by omega)]
    exact this
  | succ m ih =>
    intro n hn k hk
    obtain ⟨k, rfl⟩ := Nat.exists_eq_succ_of_ne_zero (show k ≠ 0 by omega)
    have hlt : n < l0.length := by omega
    have ih' := ih (n + 1) (by omega) k (by omega)
    simp only [fastiref04_Check.l0]
    rw [if_pos (by omega), if_pos (by omega), if_pos (by omega), rdL_get l0 n hlt, wr_up n (by omega), ih', List.drop_eq_getElem_cons hlt, List.all_cons]
    generalize (List.drop (n + 1) l0).all okS = r
    by_cases c3 : (l0[n].length : Int) = 128
    · rw [if_pos c3, show okS l0[n] = true from by simp [okS, c3], Bool.true_and]
    · rw [if_neg c3, show okS l0[n] = false from by simp [okS, c3], Bool.false_and]
      simp
theorem chk_evn (l0 : List (List Int)) (l1 : List SW) (a : Int) (s : Bool) : ∀ k, l0.length + l1.length + 3 ≤ k → fastiref04_Check.f k l0 l1 a s = some (dchk l0 l1 a) := by
  intro k hk
  obtain ⟨k, rfl⟩ := Nat.exists_eq_succ_of_ne_zero (show k ≠ 0 by omega)
  unfold fastiref04_Check.f dchk
  have ht : ∀ x, fastiref04_Check.j0 (k + 1) x true l0 l1 a s = some 40 := fun x => by simp only [fastiref04_Check.j0, if_true]
  by_cases c1 : (l0.length : Int) < 1
  · rw [if_pos c1, if_pos (Or.inl c1), ht]
  · rw [if_neg c1]
    by_cases c2 : (l0.length : Int) > 4096
    · rw [if_pos c2, if_pos (by simp [c2]), ht]
    · rw [if_neg c2]
      by_cases c3 : (l1.length : Int) > 4096
      · rw [if_pos c3, if_pos (by simp [c3]), ht]
      · rw [if_neg c3]
        by_cases c4 : a < -1
        · rw [if_pos c4, if_pos (by simp [c4]), ht]
        · rw [if_neg c4]
          by_cases c5 : a > 65536
          · rw [decide_eq_true c5, if_pos (by simp [c5]), ht]
          · rw [decide_eq_false c5, if_neg (by omega)]
            simp only [fastiref04_Check.j0]
            rw [if_neg (by decide)]
            have hb := chk_l0 l0 l1 a s (by omega) (by omega) l0.length 0 (by omega) k (by omega)
            rw [List.drop_zero] at hb
            exact hb

theorem dchk_len {l0 : List (List Int)} {l1 : List SW} {a : Int} (h : dchk l0 l1 a = 0) : l0.length ≤ 4096 ∧ l1.length ≤ 4096 := by
  unfold dchk at h
  split at h
  · exact absurd h (by decide)
  · omega
end Go.Proofs.Ytljmdkeeppikhaa.Q

namespace Go.Proofs.Ytljmdkeeppikhaa.Q
open Go.RowKit Go.Proofs.YtljmdkeeppikhaaW.PrintWords Go.Proofs.YtljmdkeeppikhaaW.PrintLast Go.Proofs.YtljmdkeeppikhaaW.PrintMore
set_option linter.unusedVariables false

theorem osame_l0 (l : List (List Int)) (K : Nat) (hl : l.length ≤ 2000000) : ∀ (r p : List (List Int)), p ++ r = l → fastiref05_SameRecords.l0 (K + r.length + 1) l l (p.length : Int) = some true
  | [], p, e => by
    rw [List.append_nil] at e
    subst e
    rw [fastiref05_SameRecords.l0, if_neg (by omega)]
  | b :: r, p, e => by
    have hlen : l.length = p.length + (r.length + 1) := by rw [← e, List.length_append, List.length_cons]
    have h2 := osame_l0 l K hl r (p ++ [b]) (by rw [List.append_assoc]; exact e)
    rw [List.length_append, List.length_singleton] at h2
    rw [List.length_cons, fastiref05_SameRecords.l0, if_pos (by omega), if_pos (by omega), if_pos (by omega), if_pos rfl, w64j ((p.length : Int) + 1) (by omega), show (p.length : Int) + 1 = ((p.length + 1 : Nat) : Int) by omega, show K + (r.length + 1) = K + r.length + 1 by omega, h2]
theorem osame_is (l : List (List Int)) (hl : l.length ≤ 2000000) (m s : Int) (F : Nat) (hF : l.length + 1 ≤ F) : fastiref05_Same.f F l m s l m s = some true := by
  obtain ⟨K, rfl⟩ : ∃ K, F = K + l.length + 1 := ⟨F - l.length - 1, by omega⟩
  unfold fastiref05_Same.f
  rw [if_pos rfl, if_pos rfl]
  unfold fastiref05_SameRecords.f
  rw [if_pos rfl, show fastiref05_SameRecords.l0 (K + l.length + 1) l l 0 = some true from osame_l0 l K hl l [] rfl]
  rfl
theorem recV_len (l : List (List Int)) : ∀ (M st : Nat) (last : Int), (recV l M st last).length ≤ M
  | 0, _, _ => Nat.le_refl _
  | M + 1, st, last => by
    rw [recV]
    cases pieceV l st (l.length - st) st [] with
    | none => exact Nat.zero_le _
    | some r =>
      show (if _ then _ else _ : List (Nat × List Int)).length ≤ _
      split
      · exact Nat.zero_le _
      · have := recV_len l M r.1 (genV (secAt l st))
        rw [List.length_cons]; omega
/-- Open of the program and of the reference. -/
theorem open_eq (l0 : List (List Int)) (l1 : List SW) (a : Int) (s : Bool) (hB : ∀ b, b ∈ l0 → Byt b) (F : Nat) (hF : 3 * l0.length + l1.length + 1400 ≤ F) :
    ∃ r m z e, journal_Open.f l0 l1 a s = some (r, m, z, e) ∧ fastiref05_Open.f F l0 l1 a s = some (r, m, z, e) ∧ r.length ≤ l0.length + 1 := by
  have hc := chk_evn l0 l1 a s F (by omega)
  unfold journal_Open.f fastiref05_Open.f
  rw [hc, Option.bind_some]
  by_cases c0 : dchk l0 l1 a = 0
  · rw [if_neg (fun h => h c0), if_pos c0]
    cases s with
    | true => exact ⟨[], 0, 0, 40, rfl, rfl, Nat.zero_le _⟩
    | false =>
      simp only [Bool.false_eq_true, if_false]
      by_cases c1 : 0 < l1.length
      · rw [if_pos c1, if_pos (by omega)]
        exact ⟨[], 0, 0, 1, rfl, rfl, Nat.zero_le _⟩
      · rw [if_neg c1, if_neg (by omega)]
        have hl := dchk_len c0
        have hS : Sec l0 := by
          intro b hb
          refine ⟨?_, hB b hb⟩
          unfold dchk at c0
          split at c0
          · cases c0
          · split at c0
            · split at c0
              · rename_i h
                have := List.all_eq_true.1 h b hb
                have h2 := of_decide_eq_true this
                omega
              · cases c0
            · cases c0
        have h1 := recs_is l0 hS hl.1 (recK l0) (l0.length + 1) (by unfold recK; omega) (by omega)
        have h2 := records_is l0 hS hl.1 F (by omega)
        have hlen := recV_len l0 (l0.length + 1) 0 0
        rw [h1, h2, Option.bind_some, Option.bind_some, if_pos (by rw [List.length_map]; omega)]
        refine ⟨(recV l0 (l0.length + 1) 0 0).map (fun x => x.2), l0.length, (recV l0 (l0.length + 1) 0 0).length, 0, ?_, ?_, ?_⟩
        · rw [List.map_map, List.length_map]
          rfl
        · rw [List.length_map]
        · rw [List.length_map]; exact hlen
  · rw [if_pos c0, if_neg c0]
    exact ⟨[], 0, 0, dchk l0 l1 a, rfl, rfl, Nat.zero_le _⟩
theorem osane_k : ∃ K, fastilaw05_sane.f K = some true := ⟨4000, by kernel_rfl⟩
theorem osane_add {K : Nat} (h : fastilaw05_sane.f K = some true) : ∀ d, fastilaw05_sane.f (K + d) = some true
  | 0 => h
  | d + 1 => fastilaw05_sane.mono (K + d) _ (osane_add h d)
theorem ofew (l0 : List (List Int)) (l1 : List SW) (a : Int) (s : Bool) (k : Nat) : fastilaw05_few.f (k + 1) l0 l1 a s [] = some (decide (l0.length ≤ 40 ∧ l1.length ≤ 40)) := by
  unfold fastilaw05_few.f
  rw [fastilaw05_few.l0, if_neg (by simp)]
  by_cases c0 : l0.length ≤ 40
  · rw [if_pos (by omega)]
    by_cases c1 : l1.length ≤ 40
    · rw [if_pos (by omega), decide_eq_true (⟨c0, c1⟩ : l0.length ≤ 40 ∧ l1.length ≤ 40)]
      rfl
    · rw [if_neg (by omega), decide_eq_false (fun h : l0.length ≤ 40 ∧ l1.length ≤ 40 => c1 h.2)]
  · rw [if_neg (by omega), decide_eq_false (fun h : l0.length ≤ 40 ∧ l1.length ≤ 40 => c0 h.1)]
theorem openLaw (l0 : List (List Int)) (l1 : List SW) (a : Int) (s : Bool) (hB : ∀ b, b ∈ l0 → Byt b) : ∃ k, fastilaw05_JournalOpenSpec.f k l0 l1 a s = some true := by
  obtain ⟨K0, hs⟩ := osane_k
  refine ⟨K0 + (3 * l0.length + l1.length + 1401), ?_⟩
  unfold fastilaw05_JournalOpenSpec.f
  rw [osane_add hs, Option.bind_some, if_pos rfl, show K0 + (3 * l0.length + l1.length + 1401) = (K0 + (3 * l0.length + l1.length + 1400)) + 1 by omega, ofew, Option.bind_some]
  by_cases hf : l0.length ≤ 40 ∧ l1.length ≤ 40
  · rw [decide_eq_true hf, if_pos rfl]
    obtain ⟨r, m, z, e, h1, h2, h3⟩ := open_eq l0 l1 a s hB (K0 + (3 * l0.length + l1.length + 1400) + 1) (by omega)
    rw [h1, Option.bind_some, h2, Option.bind_some]
    dsimp only
    rw [osame_is r (by omega) m z _ (by omega), Option.bind_some, if_pos rfl, show (e == e) = true from beq_self_eq_true e]
  · rw [decide_eq_false hf, if_neg (by decide)]
end Go.Proofs.Ytljmdkeeppikhaa.Q

namespace Go.Proofs.Ytljmdkeeppikhaa.Q
open Go.RowKit Go.Proofs.YtljmdkeeppikhaaW.PrintWords Go.Proofs.YtljmdkeeppikhaaW.PrintLast Go.Proofs.YtljmdkeeppikhaaW.PrintMore
set_option linter.unusedVariables false

/-! #### struct type 25 -/
structure S25 where
  f0 : (List (List Int))
  f1 : (List S76)
  f2 : Int
  f3 : Bool
def z25 : S25 := ⟨([] : List (List Int)), ([] : List S76), (0 : Int), false⟩
def k25 : Kd S25 := Kd.iso (Kd.pair (Kd.slice 35 (Kd.slice 5 (Kd.int .u8))) (Kd.pair (Kd.slice 76 k76) (Kd.pair (Kd.int .i64) Kd.bool))) (fun x : S25 => (x.f0, x.f1, x.f2, x.f3))
theorem k25_heap : Kd.Heap k25 := Kd.heap_iso _ (Kd.heap_pair (Kd.heap_slice 35 (Kd.heap_slice 5 (Kd.heap_int .u8))) (Kd.heap_pair (Kd.heap_slice 76 k76_heap) (Kd.heap_pair (Kd.heap_int .i64) Kd.heap_bool)))
theorem k25_open {w : World} {x : S25} {cs : List Value} (h : k25.K w x cs) : ∃ A0 c0 A1 c1, cs = [.slice A0 x.f0.length c0, .slice A1 x.f1.length c1, .int .i64 x.f2, .bool x.f3] ∧ x.f0.length ≤ c0 ∧ (Kd.slice 5 (Kd.int .u8)).C w A0 x.f0.length x.f0 ∧ x.f1.length ≤ c1 ∧ k76.C w A1 x.f1.length x.f1 := by
  obtain ⟨_, _, rfl, ⟨A0, c0, rfl, l0, g0⟩, ⟨_, _, rfl, ⟨A1, c1, rfl, l1, g1⟩, ⟨_, _, rfl, rfl, rfl⟩⟩⟩ := h
  exact ⟨A0, c0, A1, c1, rfl, l0, g0, l1, g1⟩
end Go.Proofs.Ytljmdkeeppikhaa.Q

namespace Go.Proofs.Ytljmdkeeppikhaa.Q
open Go.RowKit Go.Proofs.Ytljmdkeeppikhaa.Opn Go.Proofs.YtljmdkeeppikhaaW.PrintWords Go.Proofs.YtljmdkeeppikhaaW.PrintLast
set_option maxRecDepth 100000
def B76 (x : S76) : Prop := (fun a_ : Int => (Lit.int .i64 a_).wf = true) x.f0 ∧ (fun l_ : List Int => l_.length * 1 ≤ 140737488351232 ∧ ∀ a, a ∈ l_ → (fun a_ : Int => (Lit.int .u8 a_).wf = true) a) x.f1
theorem opn76 : Opn Try.prog 76 k76 B76 := opn_iso (fun a => ⟨a.1, a.2⟩) (fun _ => rfl) (opn_struct (sz := 2) Try.underlying76 (by kernel_rfl) rfl (opnF_cons (sz := 1) rfl (by kernel_rfl) rfl (opn_int Try.underlying3) (opnF_one (sz := 1) rfl (by kernel_rfl) rfl (opn_slice (sz := 1) Try.underlying35 (by kernel_rfl) rfl (by kernel_rfl) (opn_int Try.underlying5)))))

def B25 (x : S25) : Prop := (fun l_ : List (List Int) => l_.length * 24 ≤ 140737488351232 ∧ ∀ a, a ∈ l_ → (fun l_ : List Int => l_.length * 1 ≤ 140737488351232 ∧ ∀ a, a ∈ l_ → (fun a_ : Int => (Lit.int .u8 a_).wf = true) a) a) x.f0 ∧ (fun l_ : List (S76) => l_.length * 32 ≤ 140737488351232 ∧ ∀ a, a ∈ l_ → B76 a) x.f1 ∧ (fun a_ : Int => (Lit.int .i64 a_).wf = true) x.f2 ∧ (fun _ : Bool => True) x.f3
theorem opn25 : Opn Try.prog 25 k25 B25 := opn_iso (fun a => ⟨a.1, a.2.1, a.2.2.1, a.2.2.2⟩) (fun _ => rfl) (opn_struct (sz := 4) Try.underlying25 (by kernel_rfl) rfl (opnF_cons (sz := 1) rfl (by kernel_rfl) rfl (opn_slice (sz := 1) Try.underlying22 (by kernel_rfl) rfl (by kernel_rfl) (opn_slice (sz := 1) Try.underlying35 (by kernel_rfl) rfl (by kernel_rfl) (opn_int Try.underlying5))) (opnF_cons (sz := 1) rfl (by kernel_rfl) rfl (opn_slice (sz := 2) Try.underlying23 (by kernel_rfl) rfl (by kernel_rfl) opn76) (opnF_cons (sz := 1) rfl (by kernel_rfl) rfl (opn_int Try.underlying3) (opnF_one (sz := 1) rfl (by kernel_rfl) rfl (opn_bool Try.underlying4))))))

end Go.Proofs.Ytljmdkeeppikhaa.Q

namespace Go.Proofs.Ytljmdkeeppikhaa.Q
open Go.RowKit Go.Proofs.YtljmdkeeppikhaaW.PrintWords Go.Proofs.YtljmdkeeppikhaaW.PrintLast
def fastilaw05_JournalOpenSpec.Pure : Prop := ∀ (x0 : S25), B25 x0 → ∃ k, fastilaw05_JournalOpenSpec.f k x0.f0 x0.f1 x0.f2 x0.f3 = some true
end Go.Proofs.Ytljmdkeeppikhaa.Q

namespace Go.Proofs.Ytljmdkeeppikhaa.Pure
open Go.RowKit Go.Proofs.Ytljmdkeeppikhaa.Q Go.Proofs.YtljmdkeeppikhaaW.PrintWords Go.Proofs.YtljmdkeeppikhaaW.PrintLast

theorem JournalOpenSpec : fastilaw05_JournalOpenSpec.Pure := fun x h =>
  openLaw x.f0 x.f1 x.f2 x.f3 (fun b hb a ha => bounds_u8 ((h.1.2 b hb).2 a ha))

end Go.Proofs.Ytljmdkeeppikhaa.Pure

namespace Go.Proofs.Ytljmdkeeppikhaa.journalOpenSpec
open Go.ChangeShapes Go.WideShapes Go.ChangeAt Go.RowKit Go.Proofs.Ytljmdkeeppikhaa.Q Go.Proofs.Ytljmdkeeppikhaa.Opn Go.Proofs.YtljmdkeeppikhaaW.PrintWords Go.Proofs.YtljmdkeeppikhaaW.PrintLast
open Go.ChangeMaps (open_string shut_string)
set_option linter.unusedVariables false
theorem own : ownKnob Try.prog.godebug = none := by kernel_rfl
theorem laidOut : laidOutB Try.prog = true := by kernel_rfl
set_option maxRecDepth 100000 in
theorem lifted (os : Os) (started : os.Started) (H : Type) (enc : TypeId × Value → H) :
    ReturnsInHanded {} Try.checked os 3 .any (Rows.journalOpenSpecSpec.pre6 enc Try.prog Try.f3 Rows.journalOpenSpecRow.domain false) (Rows.journalOpenSpecSpec.post enc Try.prog Try.f3 false true false false) := by
  refine returnsInHanded_of_change_sized (C := Try.checked) own started (by kernel_rfl) Try.func3
    (ChangeSpec.witness6 (enc := enc) (C := Try.checked) false ⟨#[], #[.agg #[(.slice none 0 0), (.slice none 0 0), (.int .i64 0), (.bool false)]], []⟩ 8 (by kernel_rfl) (by kernel_rfl) (by kernel_rfl) (by kernel_rfl)) ?_
  intro W base args ds gs before hval0 hW hcnd hsz0 _
  have hsz : (DataW.weightsEach Try.prog (Try.f3.params.toList ++ Rows.journalOpenSpecSpec.plain.varTypes Try.prog) (ds ++ gs)).all (· ≤ reachBytes) = true := hsz0
  have hval : ∀ (j : Nat) t v, Try.f3.params[j]? = some t → args[j]? = some v → Value.okWide Try.prog W .any base t v := hval0
  have hW' := hW
  obtain ⟨p, q, hA0, hV, rfl, hfz, hnd⟩ := hW
  have hA : DataW.TrodAll enc Try.prog W 0 (fun _ => true) true Try.f3.params.toList args.toList ds p := hA0
  rw [Try.params3] at hA hval hsz
  obtain ⟨v0, vs0, d0, ds0, p0, q0, hargs, rfl, rfl, h0, r0⟩ := trodAll_cons hA
  obtain ⟨rfl, rfl, rfl⟩ := trodAll_nil r0
  obtain rfl : args = #[v0] := by cases args; simp_all
  obtain ⟨rfl, rfl⟩ := trodVars_none hV
  have k0 := h0
  have lt0 : ∀ x ∈ p0, x.block < W.heap.size := by obtain ⟨m, hm⟩ := k0; exact DataW.trod_lt m _ _ _ hm
  obtain ⟨x0, hK0, hB0⟩ : ∃ a_ : S25, (k25).K W a_ v0.cells.toList ∧ B25 a_ := arg (j := 0) opn25 hsz rfl rfl h0
  obtain ⟨cs0, rfl, _⟩ := okWide_struct Try.underlying25 (hval 0 25 v0 rfl rfl)
  have ho0 := k25_open hK0
  obtain ⟨A0_0, c0_0, A0_1, c0_1, he0, hc0_0, hr0_0, hc0_1, hr0_1⟩ := ho0
  obtain rfl := agg_of he0
  clear hA0 hval0 hsz0 hsz
  obtain ⟨k, h⟩ := Pure.JournalOpenSpec x0 hB0
  refine (fastilaw05_JournalOpenSpec.calls k _ _ x0.f0 _ _ x0.f1 x0.f2 x0.f3 true W hr0_0 hc0_0 hr0_1 hc0_1 h).mono fun e W' he_ => ?_
  obtain ⟨he, bel0⟩ := he_
  subst he
  have bel : Below W.heap.size W W' := bel0
  exact ⟨_, rfl, _, _, _, [], _, [], hW', trodAll_mk1 (shut_bool Try.underlying4 _), (trodAll_cons_mk (Below.trod laidOut (by kernel_rfl) (of_decide_eq_true (by kernel_rfl)) k0 bel lt0) trodAll_mk0), rfl, bel.frame _, fun h => by cases h⟩
theorem over : Rows.journalOpenSpecRow.holds Try.pinned (OpenSpec.ofChange Rows.journalOpenSpecSpec) :=
  OpenClaim.holds_of_wide 3 Try.f3 rfl rfl rfl rfl rfl rfl rfl ⟨rfl, rfl, rfl, rfl, rfl⟩ rfl rfl rfl rfl rfl (by kernel_rfl) Try.func3 (by kernel_rfl)
    (of_decide_eq_true (by kernel_rfl)) (by unfold Func.isWrapper; first | (rw [if_pos (by decide +kernel)]; kernel_rfl) | (rw [if_neg (by decide +kernel)]; exact ⟨rfl, rfl⟩))
    (fun os started H enc _ => lifted os started H enc)
theorem proved : Rows.JournalOpenSpecSaid := over
#print axioms proved
end Go.Proofs.Ytljmdkeeppikhaa.journalOpenSpec
namespace Go.Proofs.Ytljmdkeeppikhaa
theorem journalOpenSpec_holds : Rows.JournalOpenSpecSaid := journalOpenSpec.proved
end Go.Proofs.Ytljmdkeeppikhaa
