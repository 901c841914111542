/- The row of the law AssignTurned: for every input the call returns true and leaves its arguments as they were. No condition but the form's own. -/
import Derived.Test.YtgiinjfandeddaaQ2
import Derived.Test.YtgiinjfandeddaaGRe
import Derived.Test.YtgiinjfandeddaaGBe
import Derived.Test.YtgiinjfandeddaaQ4
import Derived.Test.YtgiinjfandeddaaQ5
import Derived.Test.YtgiinjfandeddaaQ13H
import Derived.Test.YtgiinjfandeddaaQ3
import Derived.Test.YtgiinjfandeddaaGDe
import Derived.Test.YtgiinjfandeddaaQ0
import Derived.Test.YtgiinjfandeddaaOpn
import Derived.Test.YtgiinjfandeddaaQ17
import Derived.Test.YtgiinjfandeddaaRows
import Derived.WalkKit
import Derived.ProofKit
import Derived.OpenShut
import Derived.ShutString
import Derived.ChangeOld
import Derived.Below
import Derived.SizedLaws

namespace Go.Proofs.Ytgiinjfandeddaa.As

/-- the sum of the first n values -/
def sm : Nat → (Nat → Int) → Int
  | 0, _ => 0
  | n + 1, g => sm n g + g n

theorem sm_congr {g h : Nat → Int} : ∀ n, (∀ r, r < n → g r = h r) → sm n g = sm n h
  | 0, _ => rfl
  | n + 1, H => by simp only [sm]; rw [sm_congr n (fun r hr => H r (by omega)), H n (by omega)]

theorem sm_add (g h : Nat → Int) : ∀ n, sm n (fun r => g r + h r) = sm n g + sm n h
  | 0 => rfl
  | n + 1 => by simp only [sm]; rw [sm_add g h n]; omega

theorem sm_le {g h : Nat → Int} : ∀ n, (∀ r, r < n → g r ≤ h r) → sm n g ≤ sm n h
  | 0, _ => Int.le_refl _
  | n + 1, H => by simp only [sm]; have := sm_le n (fun r hr => H r (by omega)); have := H n (by omega); omega

theorem sm_split (g : Nat → Int) (a : Nat) : ∀ b, sm (a + b) g = sm a g + sm b (fun r => g (a + r))
  | 0 => by simp [sm]
  | b + 1 => by rw [show a + (b + 1) = (a + b) + 1 from rfl]; simp only [sm]; rw [sm_split g a b]; omega

/-- one value put to 0 -/
theorem sm_put (v : Nat → Int) (j : Nat) : ∀ n, j < n → sm n v = v j + sm n (fun k => if k = j then 0 else v k)
  | 0, h => by omega
  | n + 1, h => by
    simp only [sm]
    by_cases e : n = j
    · subst e
      rw [if_pos rfl, sm_congr n (g := v) (h := fun k => if k = n then 0 else v k) (fun r hr => by rw [if_neg (by omega)])]
      omega
    · rw [if_neg e, sm_put v j n (by omega)]; omega

theorem sm_zero {v : Nat → Int} : ∀ n, (∀ r, r < n → v r = 0) → sm n v = 0
  | 0, _ => rfl
  | n + 1, H => by simp only [sm]; rw [sm_zero n (fun r hr => H r (by omega)), H n (by omega)]; rfl

theorem sm_nonpos {v : Nat → Int} : ∀ n, (∀ r, r < n → v r ≤ 0) → sm n v ≤ 0
  | 0, _ => Int.le_refl _
  | n + 1, H => by simp only [sm]; have := sm_nonpos n (fun r hr => H r (by omega)); have := H n (by omega); omega

theorem sm_bound {v : Nat → Int} {a b : Int} : ∀ n : Nat, (∀ r, r < n → a ≤ v r ∧ v r ≤ b) → a * n ≤ sm n v ∧ sm n v ≤ b * n
  | 0, _ => by simp [sm]
  | n + 1, H => by
    simp only [sm]; have h1 := sm_bound n (fun r hr => H r (by omega)); have h2 := H n (by omega)
    have e1 : a * ((n + 1 : Nat) : Int) = a * n + a := by rw [Int.natCast_succ, Int.mul_add, Int.mul_one]
    have e2 : b * ((n + 1 : Nat) : Int) = b * n + b := by rw [Int.natCast_succ, Int.mul_add, Int.mul_one]
    rw [e1, e2]; omega

theorem sm_inj_le : ∀ (m n : Nat) (f : Nat → Nat) (v : Nat → Int), (∀ r, r < m → f r < n) → (∀ r, r < m → ∀ s, s < m → f r = f s → r = s) → (∀ j, j < n → v j ≤ 0) → sm n v ≤ sm m (fun r => v (f r))
  | 0, n, _, _, _, _, hv => sm_nonpos n hv
  | m + 1, n, f, v, hl, hi, hv => by
    simp only [sm]
    have h := sm_inj_le m n f (fun k => if k = f m then 0 else v k) (fun r hr => hl r (by omega)) (fun r hr s hs => hi r (by omega) s (by omega)) (fun j hj => by have := hv j hj; show (if j = f m then (0 : Int) else v j) ≤ 0; split <;> omega)
    rw [sm_put v (f m) n (hl m (by omega))]
    have e : sm m (fun r => v (f r)) = sm m (fun r => if f r = f m then 0 else v (f r)) := sm_congr m (fun r hr => by rw [if_neg (fun e => by have := hi r (by omega) m (by omega) e; omega)])
    rw [e]; omega

theorem sm_inj_eq : ∀ (m n : Nat) (f : Nat → Nat) (v : Nat → Int), (∀ r, r < m → f r < n) → (∀ r, r < m → ∀ s, s < m → f r = f s → r = s) → (∀ j, j < n → (∀ r, r < m → f r ≠ j) → v j = 0) → sm n v = sm m (fun r => v (f r))
  | 0, n, _, _, _, _, hv => sm_zero n (fun j hj => hv j hj (fun r hr => by omega))
  | m + 1, n, f, v, hl, hi, hv => by
    simp only [sm]
    have h := sm_inj_eq m n f (fun k => if k = f m then 0 else v k) (fun r hr => hl r (by omega)) (fun r hr s hs => hi r (by omega) s (by omega)) (fun j hj hn => by
      show (if j = f m then (0 : Int) else v j) = 0
      by_cases e : j = f m
      · rw [if_pos e]
      · rw [if_neg e]; exact hv j hj (fun r hr => by by_cases e' : r = m; · subst e'; exact fun h => e h.symm
                                                     · exact hn r (by omega)))
    rw [sm_put v (f m) n (hl m (by omega))]
    have e : sm m (fun r => v (f r)) = sm m (fun r => if f r = f m then 0 else v (f r)) := sm_congr m (fun r hr => by rw [if_neg (fun e => by have := hi r (by omega) m (by omega) e; omega)])
    rw [e]; omega

/-- the rows below m have columns below n, permitted and different -/
structure Asg (c : Nat → Nat → Int) (m n : Nat) (f : Nat → Nat) : Prop where
  lt : ∀ r, r < m → f r < n
  ok : ∀ r, r < m → 0 ≤ c r (f r)
  inj : ∀ r, r < m → ∀ s, s < m → f r = f s → r = s

def cst (c : Nat → Nat → Int) (m : Nat) (f : Nat → Nat) : Int := sm m (fun r => c r (f r))

/-- prices that fit -/
structure Fit (c : Nat → Nat → Int) (m n : Nat) (u v : Nat → Int) : Prop where
  fit : ∀ r, r < m → ∀ j, j < n → 0 ≤ c r j → u r + v j ≤ c r j
  neg : ∀ j, j < n → v j ≤ 0

theorem Fit.least {c : Nat → Nat → Int} {m n : Nat} {u v : Nat → Int} {f : Nat → Nat} (h : Fit c m n u v) (a : Asg c m n f) : sm m u + sm n v ≤ cst c m f := by
  have h1 := sm_inj_le m n f v a.lt a.inj h.neg
  have h2 : sm m (fun r => u r + v (f r)) ≤ cst c m f := sm_le m (fun r hr => h.fit r hr _ (a.lt r hr) (a.ok r hr))
  rw [sm_add u (fun r => v (f r)) m] at h2
  omega

theorem Fit.tight {c : Nat → Nat → Int} {m n : Nat} {u v : Nat → Int} {f : Nat → Nat} (a : Asg c m n f) (ht : ∀ r, r < m → u r + v (f r) = c r (f r)) (hz : ∀ j, j < n → (∀ r, r < m → f r ≠ j) → v j = 0) : sm m u + sm n v = cst c m f := by
  rw [sm_inj_eq m n f v a.lt a.inj hz, ← sm_add u (fun r => v (f r)) m]
  exact sm_congr m ht

theorem len_le : ∀ (l t : List Nat), l.Nodup → (∀ x, x ∈ l → x ∈ t) → l.length ≤ t.length
  | [], _, _, _ => Nat.zero_le _
  | a :: l, t, hn, hs => by
    have ha : a ∈ t := hs a (by simp)
    rw [List.nodup_cons] at hn
    have h := len_le l (t.erase a) hn.2 (fun x hx => by
      have h1 : x ≠ a := fun e => hn.1 (e ▸ hx)
      exact (List.mem_erase_of_ne h1).2 (hs x (by simp [hx])))
    rw [List.length_erase_of_mem ha] at h
    have : 0 < t.length := List.length_pos_of_mem ha
    simp only [List.length_cons]; omega

theorem no_asg {c : Nat → Nat → Int} {m n : Nat} {f : Nat → Nat} (a : Asg c m n f) (S T : List Nat) (hn : S.Nodup) (hm : ∀ r, r ∈ S → r < m) (hT : ∀ r, r ∈ S → ∀ j, j < n → 0 ≤ c r j → j ∈ T) : S.length ≤ T.length := by
  have h := len_le (S.map f) T (by
    rw [List.nodup_iff_pairwise_ne, List.pairwise_map]
    refine List.Pairwise.imp_of_mem ?_ hn
    intro x y hx hy hne e
    exact hne (a.inj x (hm x hx) y (hm y hy) e)) (fun x hx => by
    obtain ⟨r, hr, rfl⟩ := List.mem_map.1 hx
    exact hT r hr _ (a.lt r (hm r hr)) (a.ok r (hm r hr)))
  simpa using h

/-- t is the first of the assignments that cost least, and C is what it costs -/
structure IsBest (c : Nat → Nat → Int) (m n : Nat) (C : Int) (t : Nat → Nat) : Prop where
  asg : Asg c m n t
  cst : cst c m t = C
  least : ∀ f, Asg c m n f → C ≤ As.cst c m f
  first : ∀ i, i < m → ∀ f, Asg c m n f → As.cst c m f = C → (∀ r, r < i → f r = t r) → t i ≤ f i

theorem IsBest.cost_eq {c : Nat → Nat → Int} {m n : Nat} {C D : Int} {t s : Nat → Nat} (h : IsBest c m n C t) (g : IsBest c m n D s) : C = D := by
  have h1 := h.least s g.asg; have h2 := g.least t h.asg; rw [h.cst] at h2; rw [g.cst] at h1; omega

theorem IsBest.unique {c : Nat → Nat → Int} {m n : Nat} {C D : Int} {t s : Nat → Nat} (h : IsBest c m n C t) (g : IsBest c m n D s) : ∀ r, r < m → t r = s r := by
  have e := h.cost_eq g; subst e
  intro r
  induction r using Nat.strongRecOn with
  | ind r ih =>
    intro hr
    have h1 := h.first r hr s g.asg g.cst (fun k hk => (ih k hk (by omega)).symm)
    have h2 := g.first r hr t h.asg h.cst (fun k hk => ih k hk (by omega))
    omega

theorem Asg.congr {c d : Nat → Nat → Int} {m n : Nat} {f g : Nat → Nat} (a : Asg c m n f) (hf : ∀ r, r < m → g r = f r) (hc : ∀ r, r < m → ∀ j, j < n → 0 ≤ c r j → 0 ≤ d r j) : Asg d m n g where
  lt := fun r hr => by rw [hf r hr]; exact a.lt r hr
  ok := fun r hr => by rw [hf r hr]; exact hc r hr _ (a.lt r hr) (a.ok r hr)
  inj := fun r hr s hs => by rw [hf r hr, hf s hs]; exact a.inj r hr s hs

theorem cst_congr {c d : Nat → Nat → Int} {m : Nat} {f g : Nat → Nat} (h : ∀ r, r < m → c r (f r) = d r (g r)) : cst c m f = cst d m g := sm_congr m h

end Go.Proofs.Ytgiinjfandeddaa.As

namespace Go.Proofs.Ytgiinjfandeddaa.As

/-- costs that are few and right -/
structure Par (c : Nat → Nat → Int) (m n : Nat) : Prop where
  hm : m ≤ 16
  hn : n ≤ 16
  hc : ∀ r, r < m → ∀ j, j < n → c r j ≤ 1073741824

/-- the owners of the columns and the prices: i rows have columns, or i + 1 -/
structure Mt (c : Nat → Nat → Int) (m n i : Nat) (u v ow : Nat → Int) : Prop where
  own : ∀ j, j < n → -1 ≤ ow j ∧ ow j < (i : Int)
  inj : ∀ j, j < n → ∀ k, k < n → 0 ≤ ow j → ow j = ow k → j = k
  sur : ∀ r : Nat, r < i → ∃ j, j < n ∧ ow j = (r : Int)
  tight : ∀ j, j < n → ∀ r : Nat, ow j = (r : Int) → 0 ≤ c r j ∧ u r + v j = c r j
  fit : ∀ r, r < m → ∀ j, j < n → 0 ≤ c r j → u r + v j ≤ c r j
  neg : ∀ j, j < n → v j ≤ 0
  free : ∀ j, j < n → ow j < 0 → v j = 0
  later : ∀ r, i < r → r < m → u r = 0

/-- a row that the search has reached -/
def Tr (n i : Nat) (ow : Nat → Int) (dn : Nat → Bool) (r : Nat) : Prop := r = i ∨ ∃ k, k < n ∧ dn k = true ∧ ow k = (r : Int)
/-- an edge of the search from the column a (or from the row i) to the column j, that costs s -/
def Ed (c : Nat → Nat → Int) (n i : Nat) (u v ow : Nat → Int) (dn : Nat → Bool) (j : Nat) (a s : Int) : Prop :=
  (a = -1 ∧ 0 ≤ c i j ∧ c i j - u i - v j = s) ∨ ∃ k r : Nat, k < n ∧ dn k = true ∧ a = (k : Int) ∧ ow k = (r : Int) ∧ 0 ≤ c r j ∧ c r j - u r - v j = s

def cntB (dn : Nat → Bool) : Nat → Nat
  | 0 => 0
  | n + 1 => cntB dn n + (if dn n = true then 1 else 0)

structure Sc (c : Nat → Nat → Int) (m n i : Nat) (u v ow nr fr : Nat → Int) (dn : Nat → Bool) (ρ : Nat → Nat) (K row : Nat) : Prop where
  par : Par c m n
  im : i < m
  mt : Mt c m n i u v ow
  dno : ∀ j, j < n → dn j = true → 0 ≤ ow j
  ui : 0 ≤ u i ∧ u i ≤ 50 * 1073741824
  vlow : ∀ j, j < n → dn j = false → -(33 * 1073741824) ≤ v j
  ub : ∀ j, j < n → dn j = true → ∀ r : Nat, ow j = (r : Int) → u i - K * 1073741824 ≤ u r ∧ u r ≤ u i + K * 1073741824
  rk : ∀ j, j < n → dn j = true → ρ j < K
  tree : ∀ j, j < n → dn j = true → (fr j = -1 ∧ 0 ≤ c i j ∧ c i j - u i - v j = 0) ∨ ∃ k r : Nat, k < n ∧ dn k = true ∧ ρ k < ρ j ∧ fr j = (k : Int) ∧ ow k = (r : Int) ∧ 0 ≤ c r j ∧ c r j - u r - v j = 0
  cnt : cntB dn n = K
  trow : Tr n i ow dn row
  nlow : ∀ j, j < n → dn j = false → ∀ r, Tr n i ow dn r → r ≠ row → 0 ≤ c r j → nr j ≤ c r j - u r - v j
  natt : ∀ j, j < n → dn j = false → nr j = 1152921504606846976 ∨ (0 ≤ nr j ∧ nr j < 1152921504606846976 ∧ Ed c n i u v ow dn j (fr j) (nr j))

theorem cntB_succ (dn : Nat → Bool) (n : Nat) : cntB dn (n + 1) = cntB dn n + (if dn n = true then 1 else 0) := rfl
theorem cntB_le (dn : Nat → Bool) : ∀ n, cntB dn n ≤ n
  | 0 => Nat.le_refl _
  | n + 1 => by have := cntB_le dn n; unfold cntB; split <;> omega
theorem cntB_set (dn dn' : Nat → Bool) (x : Nat) : ∀ n, x < n → dn x = false → dn' x = true → (∀ j, j ≠ x → dn' j = dn j) → cntB dn' n = cntB dn n + 1
  | 0, h, _, _, _ => by omega
  | n + 1, h, h1, h2, h3 => by
    unfold cntB
    by_cases e : n = x
    · subst e
      have : ∀ k, k ≤ n → cntB dn' k = cntB dn k := fun k => by
        induction k with
        | zero => intro _; rfl
        | succ k ih => intro hk; unfold cntB; rw [ih (by omega), h3 k (by omega)]
      rw [this n (Nat.le_refl _), h1, h2]
      simp
    · rw [cntB_set dn dn' x n (by omega) h1 h2 h3, h3 n e]
      omega
theorem cntB_filter (dn : Nat → Bool) : ∀ n, ((List.range n).filter dn).length = cntB dn n
  | 0 => rfl
  | n + 1 => by
    rw [List.range_succ, List.filter_append, List.length_append, cntB_filter dn n, cntB_succ]
    cases h : dn n <;> simp [h]

namespace Sc
variable {c : Nat → Nat → Int} {m n i : Nat} {u v ow nr fr : Nat → Int} {dn : Nat → Bool} {ρ : Nat → Nat} {K row : Nat}

theorem tr_lt (h : Sc c m n i u v ow nr fr dn ρ K row) {r : Nat} (ht : Tr n i ow dn r) : r < m ∧ r ≤ i := by
  rcases ht with rfl | ⟨k, hk, _, he⟩
  · exact ⟨h.im, Nat.le_refl _⟩
  · have := (h.mt.own k hk).2
    have := h.im
    omega
theorem Kn (h : Sc c m n i u v ow nr fr dn ρ K row) : K ≤ 16 := by have := cntB_le dn n; have := h.cnt; have := h.par.hn; omega
/-- the prices' bounds -/
theorem bd (h : Sc c m n i u v ow nr fr dn ρ K row) {r : Nat} (ht : Tr n i ow dn r) : -(66 * 1073741824) ≤ u r ∧ u r ≤ 66 * 1073741824 := by
  have hK := h.Kn
  have hu := h.ui
  rcases ht with rfl | ⟨k, hk, hd, he⟩
  · omega
  · have := h.ub k hk hd r he
    omega
theorem bv (h : Sc c m n i u v ow nr fr dn ρ K row) {j : Nat} (hj : j < n) : -(100 * 1073741824) ≤ v j ∧ v j ≤ 0 := by
  refine ⟨?_, h.mt.neg j hj⟩
  cases hd : dn j with
  | false => have := h.vlow j hj hd; omega
  | true =>
    have h0 := h.dno j hj hd
    obtain ⟨r, hr⟩ := Int.eq_ofNat_of_zero_le h0
    have h1 := h.bd (r := r) (.inr ⟨j, hj, hd, hr⟩)
    have h2 := h.mt.tight j hj r hr
    omega

/-- The rows that were reached have too few columns. -/
theorem hall (h : Sc c m n i u v ow nr fr dn ρ K row) (hrow : ∀ j, j < n → dn j = false → 0 ≤ c row j → nr j ≤ c row j - u row - v j) (hall : ∀ j, j < n → dn j = false → nr j = 1152921504606846976) :
    ∃ S T : List Nat, S.Nodup ∧ (∀ r, r ∈ S → r < m) ∧ (∀ r, r ∈ S → ∀ j, j < n → 0 ≤ c r j → j ∈ T) ∧ T.length < S.length := by
  refine ⟨i :: ((List.range n).filter dn).map (fun j => (ow j).toNat), (List.range n).filter dn, ?_, ?_, ?_, by simp⟩
  · rw [List.nodup_cons]
    refine ⟨fun hm => ?_, ?_⟩
    · obtain ⟨k, hk, he⟩ := List.mem_map.1 hm
      rw [List.mem_filter, List.mem_range] at hk
      have := h.mt.own k hk.1
      have := h.dno k hk.1 hk.2
      omega
    · rw [List.nodup_iff_pairwise_ne, List.pairwise_map]
      have hn : ((List.range n).filter dn).Pairwise (· ≠ ·) := (List.nodup_iff_pairwise_ne.1 (List.nodup_range (n := n))).filter _
      refine List.Pairwise.imp_of_mem ?_ hn
      intro a b ha hb hne e
      rw [List.mem_filter, List.mem_range] at ha hb
      have h1 := h.dno a ha.1 ha.2
      have h2 := h.dno b hb.1 hb.2
      exact hne (h.mt.inj a ha.1 b hb.1 h1 (by omega))
  · intro r hr
    rcases List.mem_cons.1 hr with rfl | hr
    · exact h.im
    · obtain ⟨k, hk, he⟩ := List.mem_map.1 hr
      rw [List.mem_filter, List.mem_range] at hk
      have := h.mt.own k hk.1
      have := h.im
      omega
  · intro r hr j hj hc
    rw [List.mem_filter, List.mem_range]
    refine ⟨hj, ?_⟩
    cases hd : dn j with
    | true => rfl
    | false =>
      exfalso
      have htr : Tr n i ow dn r := by
        rcases List.mem_cons.1 hr with rfl | hr
        · exact .inl rfl
        · obtain ⟨k, hk, he⟩ := List.mem_map.1 hr
          rw [List.mem_filter, List.mem_range] at hk
          have := h.dno k hk.1 hk.2
          exact .inr ⟨k, hk.1, hk.2, by omega⟩
      have h1 := hall j hj hd
      have h2 := h.bd htr
      have h3 := h.bv hj
      have h4 := h.par.hc r (h.tr_lt htr).1 j hj
      have h5 : nr j ≤ c r j - u r - v j := by
        by_cases e : r = row
        · subst e; exact hrow j hj hd hc
        · exact h.nlow j hj hd r htr e hc
      omega

/-- What the prices are, once the reached rows pay s more. -/
structure Tn (m n i : Nat) (u v ow nr u' v' nr' : Nat → Int) (dn : Nat → Bool) (s : Int) : Prop where
  uy : ∀ r, r < m → Tr n i ow dn r → u' r = u r + s
  un : ∀ r, r < m → ¬ Tr n i ow dn r → u' r = u r
  vy : ∀ j, j < n → dn j = true → v' j = v j - s
  vn : ∀ j, j < n → dn j = false → v' j = v j
  ny : ∀ j, j < n → dn j = false → nr j < 1152921504606846976 → nr' j = nr j - s
  nn : ∀ j, j < n → dn j = false → nr j = 1152921504606846976 → nr' j = nr j

/-- What is chosen: the nearest column. -/
structure Nx (n : Nat) (nr : Nat → Int) (dn : Nat → Bool) (s : Int) (x : Nat) : Prop where
  lt : x < n
  nd : dn x = false
  eq : nr x = s
  low : s < 1152921504606846976
  least : ∀ j, j < n → dn j = false → s ≤ nr j

variable {u' v' nr' : Nat → Int} {s : Int} {x : Nat}

theorem s0 (h : Sc c m n i u v ow nr fr dn ρ K row) (x0 : Nx n nr dn s x) : 0 ≤ s := by
  have := h.natt x x0.lt x0.nd
  have := x0.eq
  have := x0.low
  rcases h.natt x x0.lt x0.nd with h1 | h1 <;> omega

theorem tr_ow (h : Sc c m n i u v ow nr fr dn ρ K row) {j r : Nat} (hj : j < n) (hr : ow j = (r : Int)) : Tr n i ow dn r ↔ dn j = true := by
  constructor
  · rintro (rfl | ⟨k, hk, hd, he⟩)
    · have := (h.mt.own j hj).2; omega
    · have := h.mt.inj j hj k hk (by omega) (by omega)
      rwa [this]
  · intro hd; exact .inr ⟨j, hj, hd, hr⟩

theorem mt' (h : Sc c m n i u v ow nr fr dn ρ K row) (hrow : ∀ j, j < n → dn j = false → 0 ≤ c row j → nr j ≤ c row j - u row - v j) (t : Tn m n i u v ow nr u' v' nr' dn s) (x0 : Nx n nr dn s x) : Mt c m n i u' v' ow where
  own := h.mt.own
  inj := h.mt.inj
  sur := h.mt.sur
  tight := fun j hj r hr => by
    have h1 := h.mt.tight j hj r hr
    have hrm : r < m := by have := (h.mt.own j hj).2; have := h.im; omega
    have hi := h.tr_ow hj hr
    cases hd : dn j with
    | true => rw [t.uy r hrm (hi.2 hd), t.vy j hj hd]; omega
    | false => rw [t.un r hrm (fun e => by rw [hi.1 e] at hd; cases hd), t.vn j hj hd]; exact h1
  fit := fun r hr j hj hc => by
    have h1 := h.mt.fit r hr j hj hc
    have hs := h.s0 x0
    by_cases ht : Tr n i ow dn r
    · rw [t.uy r hr ht]
      cases hd : dn j with
      | true => rw [t.vy j hj hd]; omega
      | false =>
        rw [t.vn j hj hd]
        have h2 := x0.least j hj hd
        have h3 : nr j ≤ c r j - u r - v j := by
          by_cases e : r = row
          · subst e; exact hrow j hj hd hc
          · exact h.nlow j hj hd r ht e hc
        omega
    · rw [t.un r hr ht]
      cases hd : dn j with
      | true => rw [t.vy j hj hd]; omega
      | false => rw [t.vn j hj hd]; exact h1
  neg := fun j hj => by
    have h1 := h.mt.neg j hj
    have hs := h.s0 x0
    cases hd : dn j with
    | true => rw [t.vy j hj hd]; omega
    | false => rw [t.vn j hj hd]; exact h1
  free := fun j hj ho => by
    have h1 := h.mt.free j hj ho
    cases hd : dn j with
    | true => have := h.dno j hj hd; omega
    | false => rw [t.vn j hj hd]; exact h1
  later := fun r h1 h2 => by
    rw [t.un r h2 (fun e => by have := (h.tr_lt e).2; omega)]
    exact h.mt.later r h1 h2

/-- The edge to the nearest column has become tight. -/
theorem edge (h : Sc c m n i u v ow nr fr dn ρ K row) (t : Tn m n i u v ow nr u' v' nr' dn s) (x0 : Nx n nr dn s x) :
    ∃ r : Nat, Tr n i ow dn r ∧ 0 ≤ c r x ∧ c r x - u' r - v' x = 0 ∧ ((fr x = -1 ∧ r = i) ∨ ∃ k : Nat, k < n ∧ dn k = true ∧ fr x = (k : Int) ∧ ow k = (r : Int)) := by
  rcases h.natt x x0.lt x0.nd with h1 | ⟨_, _, h1⟩
  · have := x0.eq; have := x0.low; omega
  · have he := x0.eq
    rcases h1 with ⟨ha, hc, hs⟩ | ⟨k, r, hk, hd, ha, ho, hc, hs⟩
    · refine ⟨i, .inl rfl, hc, ?_, .inl ⟨ha, rfl⟩⟩
      rw [t.uy i h.im (.inl rfl), t.vn x x0.lt x0.nd]; omega
    · have htr : Tr n i ow dn r := .inr ⟨k, hk, hd, ho⟩
      refine ⟨r, htr, hc, ?_, .inr ⟨k, hk, hd, ha, ho⟩⟩
      rw [t.uy r (h.tr_lt htr).1 htr, t.vn x x0.lt x0.nd]; omega
/-- u' of the reached rows against that of the row i -/
theorem ub' (h : Sc c m n i u v ow nr fr dn ρ K row) (t : Tn m n i u v ow nr u' v' nr' dn s) {r : Nat} (ht : Tr n i ow dn r) : u' i - K * 1073741824 ≤ u' r ∧ u' r ≤ u' i + K * 1073741824 := by
  rw [t.uy r (h.tr_lt ht).1 ht, t.uy i h.im (.inl rfl)]
  rcases ht with rfl | ⟨k, hk, hd, he⟩
  · omega
  · have := h.ub k hk hd r he
    omega
theorem ui' (h : Sc c m n i u v ow nr fr dn ρ K row) (t : Tn m n i u v ow nr u' v' nr' dn s) (x0 : Nx n nr dn s x) : 0 ≤ u' i ∧ u' i ≤ 50 * 1073741824 ∧ (ow x < 0 → u' i ≤ 17 * 1073741824) := by
  obtain ⟨r, ht, hc, he, _⟩ := h.edge t x0
  have h1 := h.ub' t ht
  have hK := h.Kn
  have h2 := h.par.hc r (h.tr_lt ht).1 x x0.lt
  have h3 := h.vlow x x0.lt x0.nd
  have h4 := t.vn x x0.lt x0.nd
  have h5 := h.s0 x0
  have h6 := t.uy i h.im (.inl rfl)
  have h7 := h.ui
  refine ⟨by omega, by omega, fun ho => ?_⟩
  have := h.mt.free x x0.lt ho
  omega

/-- On: the nearest column has an owner, whose row is looked at next. -/
theorem on (h : Sc c m n i u v ow nr fr dn ρ K row) (hrow : ∀ j, j < n → dn j = false → 0 ≤ c row j → nr j ≤ c row j - u row - v j) (t : Tn m n i u v ow nr u' v' nr' dn s) (x0 : Nx n nr dn s x) {dn' : Nat → Bool} (hd1 : dn' x = true) (hd2 : ∀ j, j ≠ x → dn' j = dn j)
    {row' : Nat} (ho : ow x = (row' : Int)) : Sc c m n i u' v' ow nr' fr dn' (fun j => if j = x then K else ρ j) (K + 1) row' := by
  have hm := h.mt' hrow t x0
  have hs := h.s0 x0
  have hdn : ∀ j, dn' j = false → dn j = false ∧ j ≠ x := fun j hj => by
    have : j ≠ x := fun e => by subst e; rw [hd1] at hj; cases hj
    exact ⟨by rw [← hd2 j this]; exact hj, this⟩
  have htr : ∀ r, Tr n i ow dn r → Tr n i ow dn' r := fun r hr => by
    rcases hr with rfl | ⟨k, hk, hd, he⟩
    · exact .inl rfl
    · exact .inr ⟨k, hk, by rw [hd2 k (fun e => by rw [e, x0.nd] at hd; cases hd)]; exact hd, he⟩
  have htr' : ∀ r, Tr n i ow dn' r → r ≠ row' → Tr n i ow dn r := fun r hr hne => by
    rcases hr with rfl | ⟨k, hk, hd, he⟩
    · exact .inl rfl
    · by_cases e : k = x
      · subst e; exfalso; omega
      · exact .inr ⟨k, hk, by rw [← hd2 k e]; exact hd, he⟩
  have hdx : ∀ k, dn k = true → k ≠ x := fun k hk e => by rw [e, x0.nd] at hk; cases hk
  have hub := fun r hr => h.ub' t (r := r) hr
  obtain ⟨re, hte, hce, hee, hed⟩ := h.edge t x0
  have hKn := h.Kn
  refine { par := h.par, im := h.im, mt := hm, dno := ?_, ui := ⟨(h.ui' t x0).1, (h.ui' t x0).2.1⟩, vlow := ?_, ub := ?_, rk := ?_, tree := ?_, cnt := ?_, trow := .inr ⟨x, x0.lt, hd1, ho⟩, nlow := ?_, natt := ?_ }
  · intro j hj hd
    by_cases e : j = x
    · subst e; omega
    · exact h.dno j hj (by rw [← hd2 j e]; exact hd)
  · intro j hj hd
    obtain ⟨h1, _⟩ := hdn j hd
    rw [t.vn j hj h1]; exact h.vlow j hj h1
  · intro j hj hd r hr
    by_cases e : j = x
    · subst e
      have h1 := hm.tight j hj r hr
      have h2 := hub re hte
      have h3 := h.par.hc re (h.tr_lt hte).1 j hj
      have hrm : r < m := by have := (hm.own j hj).2; have := h.im; omega
      have h4 := h.par.hc r hrm j hj
      omega
    · have := hub r (.inr ⟨j, hj, by rw [← hd2 j e]; exact hd, hr⟩)
      omega
  · intro j hj hd
    show (if j = x then K else ρ j) < K + 1
    by_cases e : j = x
    · rw [if_pos e]; omega
    · rw [if_neg e]; have := h.rk j hj (by rw [← hd2 j e]; exact hd); omega
  · intro j hj hd
    by_cases e : j = x
    · subst e
      rcases hed with ⟨ha, rfl⟩ | ⟨k, hk, hdk, ha, hok⟩
      · exact .inl ⟨ha, hce, hee⟩
      · refine .inr ⟨k, re, hk, by rw [hd2 k (hdx k hdk)]; exact hdk, ?_, ha, hok, hce, hee⟩
        show (if k = j then K else ρ k) < (if j = j then K else ρ j)
        rw [if_neg (hdx k hdk), if_pos rfl]; exact h.rk k hk hdk
    · have hdj : dn j = true := by rw [← hd2 j e]; exact hd
      rcases h.tree j hj hdj with ⟨ha, hc, hs0⟩ | ⟨k, r, hk, hdk, hρ, ha, hok, hc, hs0⟩
      · exact .inl ⟨ha, hc, by rw [t.uy i h.im (.inl rfl), t.vy j hj hdj]; omega⟩
      · have htk : Tr n i ow dn r := .inr ⟨k, hk, hdk, hok⟩
        refine .inr ⟨k, r, hk, by rw [hd2 k (hdx k hdk)]; exact hdk, ?_, ha, hok, hc, by rw [t.uy r (h.tr_lt htk).1 htk, t.vy j hj hdj]; omega⟩
        show (if k = x then K else ρ k) < (if j = x then K else ρ j)
        rw [if_neg (hdx k hdk), if_neg e]; exact hρ
  · rw [cntB_set dn dn' x n x0.lt x0.nd hd1 hd2, h.cnt]
  · intro j hj hd r hr hne hc
    obtain ⟨h1, _⟩ := hdn j hd
    have ht := htr' r hr hne
    rw [t.uy r (h.tr_lt ht).1 ht, t.vn j hj h1]
    have h2 : nr j ≤ c r j - u r - v j := by
      by_cases e : r = row
      · subst e; exact hrow j hj h1 hc
      · exact h.nlow j hj h1 r ht e hc
    rcases h.natt j hj h1 with h3 | ⟨h3, h4, _⟩
    · exfalso
      have h5 := h.bd ht
      have h6 := h.bv hj
      have h7 := h.par.hc r (h.tr_lt ht).1 j hj
      omega
    · rw [t.ny j hj h1 h4]; omega
  · intro j hj hd
    obtain ⟨h1, _⟩ := hdn j hd
    have hl := x0.least j hj h1
    rcases h.natt j hj h1 with h3 | ⟨h3, h4, h5⟩
    · exact .inl ((t.nn j hj h1 h3).trans h3)
    · refine .inr ⟨by rw [t.ny j hj h1 h4]; omega, by rw [t.ny j hj h1 h4]; omega, ?_⟩
      rw [t.ny j hj h1 h4]
      rcases h5 with ⟨ha, hc, hs0⟩ | ⟨k, r, hk, hdk, ha, hok, hc, hs0⟩
      · exact .inl ⟨ha, hc, by rw [t.uy i h.im (.inl rfl), t.vn j hj h1]; omega⟩
      · have htk : Tr n i ow dn r := .inr ⟨k, hk, hdk, hok⟩
        exact .inr ⟨k, r, hk, by rw [hd2 k (hdx k hdk)]; exact hdk, ha, hok, hc, by rw [t.uy r (h.tr_lt htk).1 htk, t.vn j hj h1]; omega⟩
end Sc

/-- Between the rows: i rows have columns. -/
structure Ro (c : Nat → Nat → Int) (m n i : Nat) (u v ow : Nat → Int) : Prop where
  par : Par c m n
  im : i ≤ m
  mt : Mt c m n i u v ow
  zero : i < m → u i = 0
  low : ∀ j, j < n → -(33 * 1073741824) ≤ v j

theorem Ro.first {c : Nat → Nat → Int} {m n : Nat} {u v ow : Nat → Int} (hp : Par c m n) (hu : ∀ r, r < m → u r = 0) (hv : ∀ j, j < n → v j = 0) (ho : ∀ j, j < n → ow j = -1) : Ro c m n 0 u v ow where
  par := hp
  im := Nat.zero_le _
  zero := fun h => hu 0 h
  low := fun j hj => by rw [hv j hj]; decide
  mt := {
    own := fun j hj => by rw [ho j hj]; decide
    inj := fun j hj k hk h => by rw [ho j hj] at h; exact absurd h (by decide)
    sur := fun r hr => by omega
    tight := fun j hj r hr => by rw [ho j hj] at hr; omega
    fit := fun r hr j hj hc => by rw [hu r hr, hv j hj]; omega
    neg := fun j hj => by rw [hv j hj]; decide
    free := fun j hj _ => hv j hj
    later := fun r _ hr => hu r hr }

/-- The search begins. -/
theorem Ro.search {c : Nat → Nat → Int} {m n i : Nat} {u v ow nr fr : Nat → Int} {dn : Nat → Bool} (h : Ro c m n i u v ow) (hi : i < m) (hn : ∀ j, j < n → nr j = 1152921504606846976) (hd : ∀ j, j < n → dn j = false) : Sc c m n i u v ow nr fr dn (fun _ => 0) 0 i where
  par := h.par
  im := hi
  mt := h.mt
  dno := fun j hj hx => by rw [hd j hj] at hx; cases hx
  ui := by rw [h.zero hi]; decide
  vlow := fun j hj _ => h.low j hj
  ub := fun j hj hx => by rw [hd j hj] at hx; cases hx
  rk := fun j hj hx => by rw [hd j hj] at hx; cases hx
  tree := fun j hj hx => by rw [hd j hj] at hx; cases hx
  cnt := by
    have : ∀ k, k ≤ n → cntB dn k = 0 := fun k => by
      induction k with
      | zero => intro _; rfl
      | succ k ih => intro hk; rw [cntB_succ, ih (by omega), hd k (by omega)]; rfl
    exact this n (Nat.le_refl _)
  trow := .inl rfl
  nlow := fun j hj _ r hr hne hc => by
    rcases hr with rfl | ⟨k, hk, hx, _⟩
    · exact absurd rfl hne
    · rw [hd k hk] at hx; cases hx
  natt := fun j hj _ => .inl (hn j hj)

/-- On the way back: the column x gets its owner next. -/
structure Fp (c : Nat → Nat → Int) (m n i : Nat) (u v ow ow0 fr : Nat → Int) (dn : Nat → Bool) (ρ : Nat → Nat) (x : Nat) : Prop where
  par : Par c m n
  im : i < m
  xn : x < n
  xd : dn x = true
  own : ∀ j, j < n → j ≠ x → -1 ≤ ow j ∧ ow j < (i : Int)
  inj : ∀ j, j < n → j ≠ x → ∀ k, k < n → k ≠ x → 0 ≤ ow j → ow j = ow k → j = k
  sur : ∀ r : Nat, r < i → ∃ j, j < n ∧ j ≠ x ∧ ow j = (r : Int)
  tight : ∀ j, j < n → j ≠ x → ∀ r : Nat, ow j = (r : Int) → 0 ≤ c r j ∧ u r + v j = c r j
  free : ∀ j, j < n → j ≠ x → ow j < 0 → v j = 0
  fit : ∀ r, r < m → ∀ j, j < n → 0 ≤ c r j → u r + v j ≤ c r j
  neg : ∀ j, j < n → v j ≤ 0
  later : ∀ r, i < r → r < m → u r = 0
  low : ∀ j, j < n → -(33 * 1073741824) ≤ v j
  old : ∀ k, k < n → dn k = true → ρ k < ρ x → ow k = ow0 k
  tree : ∀ j, j < n → dn j = true → (fr j = -1 ∧ 0 ≤ c i j ∧ u i + v j = c i j) ∨ ∃ k r : Nat, k < n ∧ dn k = true ∧ ρ k < ρ j ∧ fr j = (k : Int) ∧ ow0 k = (r : Int) ∧ 0 ≤ c r j ∧ u r + v j = c r j

namespace Fp
variable {c : Nat → Nat → Int} {m n i : Nat} {u v ow ow0 fr : Nat → Int} {dn : Nat → Bool} {ρ : Nat → Nat} {x : Nat}

/-- One column back. -/
theorem back (h : Fp c m n i u v ow ow0 fr dn ρ x) {k : Nat} (hk : fr x = (k : Int)) {ow' : Nat → Int} (h1 : ow' x = ow k) (h2 : ∀ j, j ≠ x → ow' j = ow j) : k < n ∧ ρ k < ρ x ∧ Fp c m n i u v ow' ow0 fr dn ρ k := by
  rcases h.tree x h.xn h.xd with ⟨ha, _⟩ | ⟨k', r, hkn, hkd, hρ, ha, hor, hc, ht⟩
  · omega
  · have hkk : k' = k := by omega
    subst hkk
    have hkx : k' ≠ x := fun e => by subst e; omega
    have hok : ow k' = (r : Int) := (h.old k' hkn hkd hρ).trans hor
    refine ⟨hkn, hρ, { par := h.par, im := h.im, xn := hkn, xd := hkd, own := ?_, inj := ?_, sur := ?_, tight := ?_, free := ?_, fit := h.fit, neg := h.neg, later := h.later, low := h.low, old := ?_, tree := h.tree }⟩
    · intro j hj hjk
      by_cases e : j = x
      · subst e; rw [h1]; exact h.own k' hkn hkx
      · rw [h2 j e]; exact h.own j hj e
    · intro j hj hjk k hk2 hkk2 h0 he
      by_cases e : j = x
      · by_cases e2 : k = x
        · rw [e, e2]
        · subst e
          rw [h1] at h0 he
          rw [h2 k e2] at he
          exact absurd (h.inj k' hkn hkx k hk2 e2 h0 he).symm hkk2
      · by_cases e2 : k = x
        · subst e2
          rw [h2 j e] at h0 he
          rw [h1] at he
          exact absurd (h.inj j hj e k' hkn hkx h0 he) hjk
        · rw [h2 j e] at h0 he
          rw [h2 k e2] at he
          exact h.inj j hj e k hk2 e2 h0 he
    · intro r' hr'
      obtain ⟨j, hj, hjx, hjr⟩ := h.sur r' hr'
      by_cases e : j = k'
      · subst e
        exact ⟨x, h.xn, fun e => hkx e.symm, by rw [h1]; exact hjr⟩
      · exact ⟨j, hj, e, by rw [h2 j hjx]; exact hjr⟩
    · intro j hj hjk r' hr'
      by_cases e : j = x
      · subst e
        rw [h1, hok] at hr'
        have : r = r' := by omega
        subst this
        exact ⟨hc, ht⟩
      · rw [h2 j e] at hr'; exact h.tight j hj e r' hr'
    · intro j hj hjk h0
      by_cases e : j = x
      · subst e; rw [h1, hok] at h0; omega
      · rw [h2 j e] at h0; exact h.free j hj e h0
    · intro k hk2 hkd2 hρ2
      have : k ≠ x := fun e => by subst e; omega
      rw [h2 k this]; exact h.old k hk2 hkd2 (by omega)

/-- The first column of the way belongs to the new row. -/
theorem last (h : Fp c m n i u v ow ow0 fr dn ρ x) (hk : fr x = -1) {ow' : Nat → Int} (h1 : ow' x = (i : Int)) (h2 : ∀ j, j ≠ x → ow' j = ow j) : Ro c m n (i + 1) u v ow' := by
  have hx : 0 ≤ c i x ∧ u i + v x = c i x := by
    rcases h.tree x h.xn h.xd with ⟨_, hc, ht⟩ | ⟨k', r, _, _, _, ha, _⟩
    · exact ⟨hc, ht⟩
    · omega
  refine { par := h.par, im := h.im, zero := fun hi => h.later (i + 1) (by omega) hi, low := h.low, mt := { own := ?_, inj := ?_, sur := ?_, tight := ?_, fit := h.fit, neg := h.neg, free := ?_, later := fun r hr hm => h.later r (by omega) hm } }
  · intro j hj
    by_cases e : j = x
    · subst e; rw [h1]; omega
    · rw [h2 j e]; have := h.own j hj e; omega
  · intro j hj k hk2 h0 he
    by_cases e : j = x
    · by_cases e2 : k = x
      · rw [e, e2]
      · subst e
        rw [h1, h2 k e2] at he
        have := h.own k hk2 e2; omega
    · by_cases e2 : k = x
      · subst e2
        rw [h2 j e, h1] at he
        have := h.own j hj e; omega
      · rw [h2 j e] at h0 he
        rw [h2 k e2] at he
        exact h.inj j hj e k hk2 e2 h0 he
  · intro r hr
    by_cases e : r = i
    · subst e; exact ⟨x, h.xn, h1⟩
    · obtain ⟨j, hj, hjx, hjr⟩ := h.sur r (by omega)
      exact ⟨j, hj, by rw [h2 j hjx]; exact hjr⟩
  · intro j hj r hr
    by_cases e : j = x
    · subst e
      have : r = i := by omega
      subst this
      exact hx
    · rw [h2 j e] at hr; exact h.tight j hj e r hr
  · intro j hj h0
    by_cases e : j = x
    · subst e; omega
    · rw [h2 j e] at h0; exact h.free j hj e h0
end Fp

/-- The nearest column has no owner: the way back begins. -/
theorem Sc.flip {c : Nat → Nat → Int} {m n i : Nat} {u v ow nr fr u' v' nr' : Nat → Int} {dn dn' : Nat → Bool} {ρ : Nat → Nat} {K row x : Nat} {s : Int} (h : Sc c m n i u v ow nr fr dn ρ K row) (hrow : ∀ j, j < n → dn j = false → 0 ≤ c row j → nr j ≤ c row j - u row - v j) (t : Tn m n i u v ow nr u' v' nr' dn s) (x0 : Nx n nr dn s x) (hd1 : dn' x = true) (hd2 : ∀ j, j ≠ x → dn' j = dn j)
    (ho : ow x < 0) : Fp c m n i u' v' ow ow fr dn' (fun j => if j = x then K else ρ j) x := by
  have hm := h.mt' hrow t x0
  have hdx : ∀ k, dn k = true → k ≠ x := fun k hk e => by rw [e, x0.nd] at hk; cases hk
  obtain ⟨re, hte, hce, hee, hed⟩ := h.edge t x0
  have hui := (h.ui' t x0).2.2 ho
  refine { par := h.par, im := h.im, xn := x0.lt, xd := hd1, own := fun j hj _ => hm.own j hj, inj := fun j hj _ k hk _ => hm.inj j hj k hk, sur := ?_, tight := fun j hj _ => hm.tight j hj, free := fun j hj _ => hm.free j hj, fit := hm.fit, neg := hm.neg, later := hm.later, low := ?_, old := fun _ _ _ _ => rfl, tree := ?_ }
  · intro r hr
    obtain ⟨j, hj, hjr⟩ := hm.sur r hr
    exact ⟨j, hj, fun e => by subst e; omega, hjr⟩
  · intro j hj
    cases hd : dn j with
    | false => rw [t.vn j hj hd]; exact h.vlow j hj hd
    | true =>
      obtain ⟨r, hr⟩ := Int.eq_ofNat_of_zero_le (h.dno j hj hd)
      have h1 := hm.tight j hj r hr
      have h2 := h.ub' t (.inr ⟨j, hj, hd, hr⟩)
      have h3 := h.Kn
      omega
  · intro j hj hd
    by_cases e : j = x
    · subst e
      rcases hed with ⟨ha, rfl⟩ | ⟨k, hk, hdk, ha, hok⟩
      · exact .inl ⟨ha, hce, by omega⟩
      · refine .inr ⟨k, re, hk, by rw [hd2 k (hdx k hdk)]; exact hdk, ?_, ha, hok, hce, by omega⟩
        show (if k = j then K else ρ k) < (if j = j then K else ρ j)
        rw [if_neg (hdx k hdk), if_pos rfl]; exact h.rk k hk hdk
    · have hdj : dn j = true := by rw [← hd2 j e]; exact hd
      rcases h.tree j hj hdj with ⟨ha, hc, hs0⟩ | ⟨k, r, hk, hdk, hρ, ha, hok, hc, hs0⟩
      · exact .inl ⟨ha, hc, by rw [t.uy i h.im (.inl rfl), t.vy j hj hdj]; omega⟩
      · have htk : Tr n i ow dn r := .inr ⟨k, hk, hdk, hok⟩
        refine .inr ⟨k, r, hk, by rw [hd2 k (hdx k hdk)]; exact hdk, ?_, ha, hok, hc, by rw [t.uy r (h.tr_lt htk).1 htk, t.vy j hj hdj]; omega⟩
        show (if k = x then K else ρ k) < (if j = x then K else ρ j)
        rw [if_neg (hdx k hdk), if_neg e]; exact hρ

/-- The columns seen from the row that was reached last: the first j of them. -/
structure Pa (c : Nat → Nat → Int) (n : Nat) (u v nr0 fr0 nr fr : Nat → Int) (dn : Nat → Bool) (row : Nat) (a : Int) (jj : Nat) (step next : Int) : Prop where
  rest : ∀ j, j < n → jj ≤ j → nr j = nr0 j ∧ fr j = fr0 j
  done : ∀ j, j < n → dn j = true → fr j = fr0 j
  le : ∀ j, j < jj → dn j = false → nr j ≤ nr0 j
  low : ∀ j, j < jj → dn j = false → 0 ≤ c row j → nr j ≤ c row j - u row - v j
  at_ : ∀ j, j < jj → dn j = false → (nr j = nr0 j ∧ fr j = fr0 j) ∨ (0 ≤ c row j ∧ nr j = c row j - u row - v j ∧ fr j = a)
  next : (next = -1 ∧ step = 1152921504606846976 ∧ ∀ j, j < jj → dn j = false → 1152921504606846976 ≤ nr j) ∨ (∃ x : Nat, x < jj ∧ next = (x : Int) ∧ dn x = false ∧ step = nr x ∧ nr x < 1152921504606846976 ∧ ∀ j, j < jj → dn j = false → step ≤ nr j)

theorem Pa.zero (c : Nat → Nat → Int) (n : Nat) (u v nr fr : Nat → Int) (dn : Nat → Bool) (row : Nat) (a : Int) : Pa c n u v nr fr nr fr dn row a 0 1152921504606846976 (-1) where
  rest := fun _ _ _ => ⟨rfl, rfl⟩
  done := fun _ _ _ => rfl
  le := fun j h => by omega
  low := fun j h => by omega
  at_ := fun j h => by omega
  next := .inl ⟨rfl, rfl, fun j h => by omega⟩

/-- A column that is done is passed by. -/
theorem Pa.skip {c : Nat → Nat → Int} {n : Nat} {u v nr0 fr0 nr fr : Nat → Int} {dn : Nat → Bool} {row jj : Nat} {a step next : Int} (h : Pa c n u v nr0 fr0 nr fr dn row a jj step next) (hd : dn jj = true) : Pa c n u v nr0 fr0 nr fr dn row a (jj + 1) step next := by
  have key : ∀ j, j < jj + 1 → dn j = false → j < jj := fun j hj hd' => by
    by_cases e : j = jj
    · subst e; rw [hd] at hd'; cases hd'
    · omega
  refine ⟨fun j hj hjj => h.rest j hj (by omega), h.done, fun j hj hd' => h.le j (key j hj hd') hd', fun j hj hd' => h.low j (key j hj hd') hd', fun j hj hd' => h.at_ j (key j hj hd') hd', ?_⟩
  rcases h.next with ⟨h1, h2, h3⟩ | ⟨x, h1, h2, h3, h4, h5, h6⟩
  · exact .inl ⟨h1, h2, fun j hj hd' => h3 j (key j hj hd') hd'⟩
  · exact .inr ⟨x, by omega, h2, h3, h4, h5, fun j hj hd' => h6 j (key j hj hd') hd'⟩

/-- A column that is not done is looked at: its number near may fall, and it may be the nearest so far. -/
theorem Pa.look {c : Nat → Nat → Int} {n : Nat} {u v nr0 fr0 nr fr nr' fr' : Nat → Int} {dn : Nat → Bool} {row jj : Nat} {a step next step' next' : Int} (h : Pa c n u v nr0 fr0 nr fr dn row a jj step next) (hj : jj < n) (hd : dn jj = false)
    (hn : ∀ j, j ≠ jj → nr' j = nr j ∧ fr' j = fr j) (hx : (0 ≤ c row jj ∧ c row jj - u row - v jj < nr jj ∧ nr' jj = c row jj - u row - v jj ∧ fr' jj = a) ∨ (¬ (0 ≤ c row jj ∧ c row jj - u row - v jj < nr jj) ∧ nr' jj = nr jj ∧ fr' jj = fr jj))
    (hs : (nr' jj < step ∧ step' = nr' jj ∧ next' = (jj : Int)) ∨ (¬ nr' jj < step ∧ step' = step ∧ next' = next)) : Pa c n u v nr0 fr0 nr' fr' dn row a (jj + 1) step' next' := by
  have hr := h.rest jj hj (Nat.le_refl _)
  refine ⟨?_, ?_, ?_, ?_, ?_, ?_⟩
  · intro j hj2 hjj
    have := hn j (by omega)
    rw [this.1, this.2]; exact h.rest j hj2 (by omega)
  · intro j hj2 hd2
    have : j ≠ jj := fun e => by subst e; rw [hd] at hd2; cases hd2
    rw [(hn j this).2]; exact h.done j hj2 hd2
  · intro j hj2 hd2
    by_cases e : j = jj
    · subst e
      rcases hx with ⟨_, h2, h3, _⟩ | ⟨_, h3, _⟩
      · rw [h3]; have := hr.1; omega
      · rw [h3]; have := hr.1; omega
    · rw [(hn j e).1]; exact h.le j (by omega) hd2
  · intro j hj2 hd2 hc
    by_cases e : j = jj
    · subst e
      rcases hx with ⟨_, h2, h3, _⟩ | ⟨h2, h3, _⟩
      · omega
      · omega
    · rw [(hn j e).1]; exact h.low j (by omega) hd2 hc
  · intro j hj2 hd2
    by_cases e : j = jj
    · subst e
      rcases hx with ⟨h1, h2, h3, h4⟩ | ⟨h2, h3, h4⟩
      · exact .inr ⟨h1, h3, h4⟩
      · exact .inl ⟨h3.trans hr.1, h4.trans hr.2⟩
    · rw [(hn j e).1, (hn j e).2]; exact h.at_ j (by omega) hd2
  · rcases hs with ⟨h1, h2, h3⟩ | ⟨h1, h2, h3⟩
    · refine .inr ⟨jj, by omega, h3, hd, h2, ?_, ?_⟩
      · rcases h.next with ⟨_, h5, _⟩ | ⟨x, _, _, _, h5, h6, _⟩ <;> omega
      · intro j hj2 hd2
        by_cases e : j = jj
        · subst e; omega
        · rw [(hn j e).1]
          rcases h.next with ⟨_, h5, h6⟩ | ⟨x, _, _, _, h5, h6, h7⟩
          · have := h6 j (by omega) hd2; omega
          · have := h7 j (by omega) hd2; omega
    · subst h2 h3
      rcases h.next with ⟨h4, h5, h6⟩ | ⟨x, h3, h4, h5, h6, h7, h8⟩
      · refine .inl ⟨h4, h5, fun j hj2 hd2 => ?_⟩
        by_cases e : j = jj
        · subst e; omega
        · rw [(hn j e).1]; exact h6 j (by omega) hd2
      · refine .inr ⟨x, by omega, h4, h5, by rw [(hn x (by omega)).1]; exact h6, by rw [(hn x (by omega)).1]; exact h7, fun j hj2 hd2 => ?_⟩
        by_cases e : j = jj
        · subst e; omega
        · rw [(hn j e).1]; exact h8 j (by omega) hd2

/-- All columns were looked at. -/
theorem Sc.pass {c : Nat → Nat → Int} {m n i : Nat} {u v ow nr0 fr0 nr fr : Nat → Int} {dn : Nat → Bool} {ρ : Nat → Nat} {K row : Nat} {a step next : Int} (h : Sc c m n i u v ow nr0 fr0 dn ρ K row) (p : Pa c n u v nr0 fr0 nr fr dn row a n step next)
    (ha : (a = -1 ∧ row = i) ∨ ∃ k : Nat, k < n ∧ dn k = true ∧ a = (k : Int) ∧ ow k = (row : Int)) : Sc c m n i u v ow nr fr dn ρ K row ∧ (∀ j, j < n → dn j = false → 0 ≤ c row j → nr j ≤ c row j - u row - v j) := by
  refine ⟨{ h with tree := ?_, nlow := ?_, natt := ?_ }, fun j hj hd hc => p.low j hj hd hc⟩
  · intro j hj hd
    rw [p.done j hj hd]; exact h.tree j hj hd
  · intro j hj hd r ht hne hc
    have := h.nlow j hj hd r ht hne hc
    have := p.le j hj hd
    omega
  · intro j hj hd
    rcases p.at_ j hj hd with ⟨h1, h2⟩ | ⟨h1, h2, h3⟩
    · rw [h1, h2]; exact h.natt j hj hd
    · have hb := h.bd h.trow
      have hv := h.bv hj
      have hc := h.par.hc row (h.tr_lt h.trow).1 j hj
      have hf := h.mt.fit row (h.tr_lt h.trow).1 j hj h1
      refine .inr ⟨by omega, by omega, ?_⟩
      rw [h3]
      rcases ha with ⟨ha, rfl⟩ | ⟨k, hk, hdk, ha, hok⟩
      · exact .inl ⟨ha, h1, h2.symm⟩
      · exact .inr ⟨k, row, hk, hdk, ha, hok, h1, h2.symm⟩

/-- What the prices are, once the first jj columns were gone through. -/
structure Pb (n m i : Nat) (u0 v0 nr0 u v nr ow : Nat → Int) (dn : Nat → Bool) (s : Int) (jj : Nat) : Prop where
  uy : ∀ r, r < m → (r = i ∨ ∃ k, k < jj ∧ dn k = true ∧ ow k = (r : Int)) → u r = u0 r + s
  un : ∀ r, r < m → ¬ (r = i ∨ ∃ k, k < jj ∧ dn k = true ∧ ow k = (r : Int)) → u r = u0 r
  vy : ∀ j, j < jj → dn j = true → v j = v0 j - s
  vn : ∀ j, j < n → dn j = false → v j = v0 j
  vr : ∀ j, j < n → jj ≤ j → v j = v0 j
  ny : ∀ j, j < jj → dn j = false → nr0 j < 1152921504606846976 → nr j = nr0 j - s
  nn : ∀ j, j < n → dn j = false → nr0 j = 1152921504606846976 → nr j = nr0 j
  nd : ∀ j, j < n → jj ≤ j → nr j = nr0 j

theorem Pb.tn {n m i : Nat} {u0 v0 nr0 u v nr ow : Nat → Int} {dn : Nat → Bool} {s : Int} (h : Pb n m i u0 v0 nr0 u v nr ow dn s n) : Sc.Tn m n i u0 v0 ow nr0 u v nr dn s :=
  ⟨h.uy, h.un, h.vy, h.vn, h.ny, h.nn⟩
theorem Pb.zero {n m i : Nat} {u0 v0 nr0 u ow : Nat → Int} {dn : Nat → Bool} {s : Int} (h1 : u i = u0 i + s) (h2 : ∀ r, r ≠ i → u r = u0 r) : Pb n m i u0 v0 nr0 u v0 nr0 ow dn s 0 :=
  ⟨fun r _ h => by rcases h with rfl | ⟨k, hk, _⟩; exact h1; omega, fun r _ h => h2 r (fun e => h (.inl e)), fun j h => by omega, fun _ _ _ => rfl, fun _ _ _ => rfl, fun j h => by omega, fun _ _ _ _ => rfl, fun _ _ _ => rfl⟩
theorem Pb.yes {n m i : Nat} {u0 v0 nr0 u v nr ow u' v' : Nat → Int} {dn : Nat → Bool} {s : Int} {jj r : Nat} (h : Pb n m i u0 v0 nr0 u v nr ow dn s jj) (hj : jj < n) (hd : dn jj = true) (ho : ow jj = (r : Int)) (hri : r ≠ i) (hinj : ∀ k, k < jj → dn k = true → ow k ≠ (r : Int))
    (hu1 : u' r = u r + s) (hu2 : ∀ x, x ≠ r → u' x = u x) (hv1 : v' jj = v jj - s) (hv2 : ∀ j, j ≠ jj → v' j = v j) (hr : r < m) : Pb n m i u0 v0 nr0 u' v' nr ow dn s (jj + 1) := by
  have hur : u r = u0 r := h.un r hr (fun e => by
    rcases e with e | ⟨k, hk, hdk, hok⟩
    · exact hri e
    · exact hinj k hk hdk hok)
  refine ⟨?_, ?_, ?_, ?_, ?_, ?_, h.nn, fun j hj2 hjj => h.nd j hj2 (by omega)⟩
  · intro x hx hh
    by_cases e : x = r
    · subst e; rw [hu1, hur]
    · rw [hu2 x e]
      refine h.uy x hx ?_
      rcases hh with hh | ⟨k, hk, hdk, hok⟩
      · exact .inl hh
      · refine .inr ⟨k, ?_, hdk, hok⟩
        by_cases e2 : k = jj
        · subst e2; omega
        · omega
  · intro x hx hh
    have e : x ≠ r := fun e => hh (.inr ⟨jj, by omega, hd, by rw [e]; exact ho⟩)
    rw [hu2 x e]
    exact h.un x hx (fun hh2 => hh (by rcases hh2 with hh2 | ⟨k, hk, hdk, hok⟩; exact .inl hh2; exact .inr ⟨k, by omega, hdk, hok⟩))
  · intro j hj2 hd2
    by_cases e : j = jj
    · subst e; rw [hv1, h.vr j hj (Nat.le_refl _)]
    · rw [hv2 j e]; exact h.vy j (by omega) hd2
  · intro j hj2 hd2
    rw [hv2 j (fun e => by subst e; rw [hd] at hd2; cases hd2)]; exact h.vn j hj2 hd2
  · intro j hj2 hjj
    rw [hv2 j (by omega)]; exact h.vr j hj2 (by omega)
  · intro j hj2 hd2
    exact h.ny j (by have : j ≠ jj := fun e => by subst e; rw [hd] at hd2; cases hd2
                     omega) hd2
theorem Pb.no {n m i : Nat} {u0 v0 nr0 u v nr ow nr' : Nat → Int} {dn : Nat → Bool} {s : Int} {jj : Nat} (h : Pb n m i u0 v0 nr0 u v nr ow dn s jj) (hj : jj < n) (hd : dn jj = false)
    (hx : (nr jj < 1152921504606846976 ∧ nr' jj = nr jj - s) ∨ (¬ nr jj < 1152921504606846976 ∧ nr' jj = nr jj)) (hn : ∀ j, j ≠ jj → nr' j = nr j) : Pb n m i u0 v0 nr0 u v nr' ow dn s (jj + 1) := by
  have hr := h.nd jj hj (Nat.le_refl _)
  refine ⟨?_, ?_, ?_, h.vn, fun j hj2 hjj => h.vr j hj2 (by omega), ?_, ?_, ?_⟩
  · intro x hx2 hh
    refine h.uy x hx2 ?_
    rcases hh with hh | ⟨k, hk, hdk, hok⟩
    · exact .inl hh
    · exact .inr ⟨k, by have : k ≠ jj := fun e => by subst e; rw [hd] at hdk; cases hdk
                        omega, hdk, hok⟩
  · intro x hx2 hh
    exact h.un x hx2 (fun hh2 => hh (by rcases hh2 with hh2 | ⟨k, hk, hdk, hok⟩; exact .inl hh2; exact .inr ⟨k, by omega, hdk, hok⟩))
  · intro j hj2 hd2
    exact h.vy j (by have : j ≠ jj := fun e => by subst e; rw [hd] at hd2; cases hd2
                     omega) hd2
  · intro j hj2 hd2 hl
    by_cases e : j = jj
    · subst e
      rcases hx with ⟨h1, h2⟩ | ⟨h1, h2⟩
      · rw [h2, hr]
      · omega
    · rw [hn j e]; exact h.ny j (by omega) hd2 hl
  · intro j hj2 hd2 hl
    by_cases e : j = jj
    · subst e
      rcases hx with ⟨h1, h2⟩ | ⟨h1, h2⟩
      · omega
      · rw [h2, hr]
    · rw [hn j e]; exact h.nn j hj2 hd2 hl
  · intro j hj2 hjj
    rw [hn j (by omega)]; exact h.nd j hj2 (by omega)
end Go.Proofs.Ytgiinjfandeddaa.As

namespace Go.Proofs.Ytgiinjfandeddaa.Q
open Go.RowKit Go.Proofs.YtgiinjfandeddaaW.PrintWords Go.Proofs.YtgiinjfandeddaaW.PrintLast Go.Proofs.YtgiinjfandeddaaW.PrintMore Go.Proofs.Ytgiinjfandeddaa.As
set_option linter.unusedVariables false
set_option linter.unusedSimpArgs false

def cc (C : List (List Int)) (r j : Nat) : Int := rd (rd_L1 C (r : Int)) (j : Int)
def fl (l : List Int) (j : Nat) : Int := rd l (j : Int)
def fb (l : List Bool) (j : Nat) : Bool := rdOf false l (j : Int)
theorem fl_set {l : List Int} {i : Nat} (h : i < l.length) (x : Int) (j : Nat) : fl (l.set i x) j = if j = i then x else fl l j := by
  unfold fl rd
  rw [Int.toNat_natCast, List.getD_eq_getElem?_getD, List.getD_eq_getElem?_getD, List.getElem?_set]
  by_cases e : i = j
  · subst e; rw [if_pos rfl, if_pos rfl, if_pos h]; rfl
  · rw [if_neg e, if_neg (fun h => e h.symm)]
theorem fl_same {l : List Int} {i : Nat} (h : i < l.length) (x : Int) : fl (l.set i x) i = x := by rw [fl_set h, if_pos rfl]
theorem fl_other {l : List Int} {i : Nat} (h : i < l.length) (x : Int) (j : Nat) (e : j ≠ i) : fl (l.set i x) j = fl l j := by rw [fl_set h, if_neg e]
theorem fb_set {l : List Bool} {i : Nat} (h : i < l.length) (x : Bool) (j : Nat) : fb (l.set i x) j = if j = i then x else fb l j := by
  unfold fb rdOf
  rw [Int.toNat_natCast, List.getD_eq_getElem?_getD, List.getD_eq_getElem?_getD, List.getElem?_set]
  by_cases e : i = j
  · subst e; rw [if_pos rfl, if_pos rfl, if_pos h]; rfl
  · rw [if_neg e, if_neg (fun h => e h.symm)]
theorem fl_rep (n : Nat) (x : Int) (j : Nat) (h : j < n) : fl (List.replicate n x) j = x := by
  unfold fl rd
  rw [Int.toNat_natCast, List.getD_eq_getElem?_getD, List.getElem?_replicate, if_pos h]; rfl
theorem fb_rep (n : Nat) (j : Nat) : fb (List.replicate n false) j = false := by
  unfold fb rdOf
  rw [Int.toNat_natCast, List.getD_eq_getElem?_getD, List.getElem?_replicate]
  split <;> rfl
theorem w64 {x : Int} (h : -4611686018427387904 < x ∧ x < 4611686018427387904) : wrap64 x = x := by unfold wrap64; omega
theorem w1 (j : Nat) (h : j ≤ 1000) : wrap64 ((j : Int) + 1) = ((j + 1 : Nat) : Int) := by unfold wrap64; omega

/-- rows with too few columns -/
def HallP (c : Nat → Nat → Int) (m n : Nat) : Prop := ∃ S T : List Nat, S.Nodup ∧ (∀ r, r ∈ S → r < m) ∧ (∀ r, r ∈ S → ∀ j, j < n → 0 ≤ c r j → j ∈ T) ∧ T.length < S.length
/-- an assignment and prices that prove it -/
structure Sol (c : Nat → Nat → Int) (m n : Nat) (tt u v : List Int) : Prop where
  lt : tt.length = m
  lu : u.length = m
  lv : v.length = n
  nn : ∀ r, r < m → 0 ≤ fl tt r
  asg : Asg c m n (fun r => (fl tt r).toNat)
  tight : ∀ r, r < m → fl u r + fl v (fl tt r).toNat = c r (fl tt r).toNat
  fit : Fit c m n (fl u) (fl v)
  free : ∀ j, j < n → (∀ r, r < m → (fl tt r).toNat ≠ j) → fl v j = 0
  low : ∀ j, j < n → -(33 * 1073741824) ≤ fl v j
def Out (c : Nat → Nat → Int) (m n : Nat) (o : Option (List Int × List Int × List Int × Bool)) : Prop :=
  (∃ tt u v, o = some (tt, u, v, true) ∧ Sol c m n tt u v) ∨ (o = some ([], [], [], false) ∧ HallP c m n)
/-- The rows are m rows of n numbers. -/
structure Rw (C : List (List Int)) (m n : Nat) : Prop where
  len : C.length = m
  row : ∀ r, r < m → (rd_L1 C (r : Int)).length = n
  par : Par (cc C) m n

section
variable {C : List (List Int)} {m n : Nat}

theorem l5_out {u v ow : List Int} (hlu : u.length = m) (hlv : v.length = n) (hlo : ow.length = n) (h : Ro (cc C) m n m (fl u) (fl v) (fl ow)) : ∀ (d j : Nat) (tt : List Int), j + d = n → tt.length = m → (∀ k, k < j → ∀ r : Nat, fl ow k = (r : Int) → fl tt r = (k : Int)) →
    ∀ k, d < k → Out (cc C) m n (assign_solve.l5 k tt u v ow (n : Int) (j : Int))
  | d, j, tt, hd, hl, hi, 0, hk => by omega
  | 0, j, tt, hd, hl, hi, k + 1, hk => by
    rw [assign_solve.l5, if_neg (by omega)]
    have key : ∀ r, r < m → ∃ x : Nat, x < n ∧ fl ow x = (r : Int) ∧ fl tt r = (x : Int) := fun r hr => by
      obtain ⟨x, hx, hxr⟩ := h.mt.sur r hr
      exact ⟨x, hx, hxr, hi x (by omega) r hxr⟩
    refine .inl ⟨tt, u, v, rfl, { lt := hl, lu := hlu, lv := hlv, nn := ?_, asg := ⟨?_, ?_, ?_⟩, tight := ?_, fit := ⟨h.mt.fit, h.mt.neg⟩, free := ?_, low := h.low }⟩
    · intro r hr; obtain ⟨x, _, _, hx⟩ := key r hr; omega
    · intro r hr; obtain ⟨x, h1, _, hx⟩ := key r hr; show (fl tt r).toNat < n; omega
    · intro r hr; obtain ⟨x, h1, h2, hx⟩ := key r hr; show 0 ≤ cc C r (fl tt r).toNat; rw [hx, Int.toNat_natCast]; exact (h.mt.tight x h1 r h2).1
    · intro r hr s hs he
      obtain ⟨x, h1, h2, hx⟩ := key r hr
      obtain ⟨y, h3, h4, hy⟩ := key s hs
      have he : (fl tt r).toNat = (fl tt s).toNat := he
      have : x = y := by omega
      subst this
      omega
    · intro r hr; obtain ⟨x, h1, h2, hx⟩ := key r hr; rw [hx, Int.toNat_natCast]; exact (h.mt.tight x h1 r h2).2
    · intro j hj hn
      refine h.mt.free j hj ?_
      by_cases h0 : fl ow j < 0
      · exact h0
      · exfalso
        obtain ⟨r, hr⟩ := Int.eq_ofNat_of_zero_le (show 0 ≤ fl ow j by omega)
        have hrm : r < m := by have := (h.mt.own j hj).2; omega
        exact hn r hrm (by rw [hi j (by omega) r hr, Int.toNat_natCast])
  | d + 1, j, tt, hd, hl, hi, k + 1, hk => by
    have hj16 := h.par.hn
    have ho := h.mt.own j (by omega)
    rw [assign_solve.l5, if_pos (by omega), if_pos (by omega), if_pos (by omega)]
    by_cases h0 : rd ow (j : Int) ≥ 0
    · obtain ⟨r, hr⟩ := Int.eq_ofNat_of_zero_le h0
      have hf : fl ow j = (r : Int) := hr
      have hrm : r < m := by omega
      rw [if_pos h0, if_pos h0, if_pos (by omega), hr, Int.toNat_natCast, w1 j (by omega)]
      refine l5_out hlu hlv hlo h d (j + 1) _ (by omega) (by rw [List.length_set]; exact hl) (fun x hx r' hr' => ?_) k (by omega)
      rw [fl_set (by omega)]
      by_cases e : x = j
      · subst e; rw [if_pos (by omega)]
      · rw [if_neg (fun e2 => e (h.mt.inj x (by omega) j (by omega) (by omega) (by omega)))]
        exact hi x (by omega) r' hr'
    · rw [if_neg h0, w1 j (by omega)]
      refine l5_out hlu hlv hlo h d (j + 1) tt (by omega) hl (fun x hx r hr => ?_) k (by omega)
      by_cases e : x = j
      · subst e; have : fl ow x = rd ow (x : Int) := rfl; omega
      · exact hi x (by omega) r hr

theorem l4_out {i Nz : Nat} {tt u v fr : List Int} {ow0 : Nat → Int} {dn : Nat → Bool} {ρ : Nat → Nat} (hf : fr.length = n) (him : i < m)
    (H0 : ∀ ow' : List Int, ow'.length = n → Ro (cc C) m n (i + 1) (fl u) (fl v) (fl ow') → ∀ k, Nz ≤ k → Out (cc C) m n (assign_solve.l0 k C (n : Int) tt u v ow' (m : Int) ((i + 1 : Nat) : Int))) :
    ∀ (d x : Nat) (ow : List Int), ρ x < d → ow.length = n → Fp (cc C) m n i (fl u) (fl v) (fl ow) ow0 (fl fr) dn ρ x → ∀ k, d + 2 + Nz ≤ k → Out (cc C) m n (assign_solve.l4 k C (n : Int) tt u v ow (i : Int) fr (x : Int) (m : Int) (i : Int))
  | 0, x, ow, hd, _, _, k, hk => by omega
  | d + 1, x, ow, hd, ho, h, k, hk => by
    have hm16 := h.par.hm
    have hxn := h.xn
    obtain ⟨k, rfl⟩ : ∃ a, k = a + 1 := ⟨k - 1, by omega⟩
    rw [assign_solve.l4, if_pos (by omega), if_pos (by omega), if_pos (by omega), if_pos (by omega), Option.bind_some, Int.toNat_natCast]
    rcases h.tree x h.xn h.xd with ⟨ha, _⟩ | ⟨x', r, hkn, hkd, hρ, ha, hor, hc, ht⟩
    · have ha' : rd fr (x : Int) = -1 := ha
      rw [if_neg (by omega), ha']
      obtain ⟨k, rfl⟩ : ∃ a, k = a + 1 := ⟨k - 1, by omega⟩
      rw [assign_solve.l4, if_neg (by decide), w1 i (by omega)]
      refine H0 _ (by rw [List.length_set]; exact ho) (h.last ha (fl_same (by omega) _) (fun j hj => fl_other (by omega) _ j hj)) k (by omega)
    · have ha' : rd fr (x : Int) = (x' : Int) := ha
      have hne : x' ≠ x := fun e => by subst e; omega
      rw [if_pos (by omega), if_pos (by omega), ha', if_pos (by omega)]
      have hrd : rd (ow.set x (i : Int)) (x' : Int) = fl ow x' := fl_other (l := ow) (by omega) (i : Int) x' hne
      rw [hrd]
      have hb := h.back ha (ow' := fl ((ow.set x (i : Int)).set x (fl ow x'))) (fl_same (by rw [List.length_set]; omega) _) (fun j hj => by
        rw [fl_other (by rw [List.length_set]; omega) _ j hj, fl_other (by omega) _ j hj])
      exact l4_out hf him H0 d x' _ (by omega) (by rw [List.length_set, List.length_set]; exact ho) hb.2.2 k (by omega)

/-- What is asked of the prices' lists. -/
structure Ls (m n : Nat) (u v nr fr : List Int) : Prop where
  u : u.length = m
  v : v.length = n
  nr : nr.length = n
  fr : fr.length = n

theorem s_le {i : Nat} {u v ow nr fr : Nat → Int} {dn : Nat → Bool} {ρ : Nat → Nat} {K row x : Nat} {c : Nat → Nat → Int} {s : Int} (h : Sc c m n i u v ow nr fr dn ρ K row) (x0 : Sc.Nx n nr dn s x) : 0 ≤ s ∧ s ≤ 300 * 1073741824 := by
  refine ⟨h.s0 x0, ?_⟩
  have he := x0.eq
  have hl := x0.low
  rcases h.natt x x0.lt x0.nd with h1 | ⟨_, _, h1⟩
  · omega
  · have hv := h.bv x0.lt
    rcases h1 with ⟨ha, hc, hs⟩ | ⟨k, r, hk, hd, ha, ho, hc, hs⟩
    · have := h.bd (r := i) (.inl rfl)
      have := h.par.hc i h.im x x0.lt
      omega
    · have htr : Tr n i ow dn r := .inr ⟨k, hk, hd, ho⟩
      have := h.bd htr
      have := h.par.hc r (h.tr_lt htr).1 x x0.lt
      omega

theorem l3_out {i Nz K row x N1 : Nat} {tt u0 v0 ow nr0 fr : List Int} {dn : List Bool} {ρ : Nat → Nat} {s : Int} (hC : Rw C m n) (hlo : ow.length = n) (hld : dn.length = n) (hlf : fr.length = n)
    (h : Sc (cc C) m n i (fl u0) (fl v0) (fl ow) (fl nr0) (fl fr) (fb dn) ρ K row) (hrow : ∀ j, j < n → fb dn j = false → 0 ≤ cc C row j → fl nr0 j ≤ cc C row j - fl u0 row - fl v0 j) (x0 : Sc.Nx n (fl nr0) (fb dn) s x)
    (H0 : ∀ u v ow' : List Int, u.length = m → v.length = n → ow'.length = n → Ro (cc C) m n (i + 1) (fl u) (fl v) (fl ow') → ∀ k, Nz ≤ k → Out (cc C) m n (assign_solve.l0 k C (n : Int) tt u v ow' (m : Int) ((i + 1 : Nat) : Int)))
    (H1 : ∀ (u v nr : List Int) (dn' : List Bool) (ρ' : Nat → Nat) (row' : Nat), Ls m n u v nr fr → dn'.length = n → Sc (cc C) m n i (fl u) (fl v) (fl ow) (fl nr) (fl fr) (fb dn') ρ' (K + 1) row' → (fb dn' x = true ∧ fl ow x = (row' : Int)) → ∀ k, N1 ≤ k → Out (cc C) m n (assign_solve.l1 k C (n : Int) tt u v ow (i : Int) nr fr dn' (x : Int) (row' : Int) (m : Int) (i : Int))) :
    ∀ (d jj : Nat) (u v nr : List Int), jj + d = n → Ls m n u v nr fr → Pb n m i (fl u0) (fl v0) (fl nr0) (fl u) (fl v) (fl nr) (fl ow) (fb dn) s jj → ∀ k, d + 1 + N1 ≤ k → d + 1 + 20 + Nz ≤ k →
      Out (cc C) m n (assign_solve.l3 k C (n : Int) tt u v ow (i : Int) nr fr dn s (x : Int) (m : Int) (i : Int) (n : Int) (jj : Int))
  | 0, jj, u, v, nr, hd, L, p, k, hk, hk2 => by
    obtain ⟨k, rfl⟩ : ∃ a, k = a + 1 := ⟨k - 1, by omega⟩
    have hjn : jj = n := by omega
    subst hjn
    have hxn := x0.lt
    have hKn := h.Kn
    rw [assign_solve.l3, if_neg (by omega), if_pos (by omega), if_pos (by omega), if_pos (by omega), Int.toNat_natCast]
    have hd1 : fb (dn.set x true) x = true := by rw [fb_set (by omega), if_pos rfl]
    have hd2 : ∀ j, j ≠ x → fb (dn.set x true) j = fb dn j := fun j e => by rw [fb_set (by omega), if_neg e]
    by_cases ho : rd ow (x : Int) < 0
    · rw [if_pos ho]
      have hfp := h.flip hrow p.tn x0 hd1 hd2 ho
      refine l4_out hlf h.im (fun ow' hl hR k hk => H0 u v ow' L.u L.v hl hR k hk) (K + 1) x ow (by show (if x = x then K else ρ x) < K + 1; rw [if_pos rfl]; omega) hlo hfp k (by omega)
    · rw [if_neg ho]
      obtain ⟨row', hr⟩ := Int.eq_ofNat_of_zero_le (show 0 ≤ rd ow (x : Int) by omega)
      rw [hr]
      exact H1 u v nr _ _ row' L (by rw [List.length_set]; exact hld) (h.on hrow p.tn x0 hd1 hd2 hr) ⟨hd1, hr⟩ k (by omega)
  | d + 1, jj, u, v, nr, hd, L, p, k, hk, hk2 => by
    obtain ⟨k, rfl⟩ : ∃ a, k = a + 1 := ⟨k - 1, by omega⟩
    have hn16 := h.par.hn
    have hs := s_le h x0
    have hjn : jj < n := by omega
    rw [assign_solve.l3, if_pos (by omega), if_pos (by omega), if_pos (by omega)]
    by_cases hdj : rdOf false dn (jj : Int) = true
    · have h0 := h.dno jj hjn hdj
      obtain ⟨r, hr⟩ := Int.eq_ofNat_of_zero_le h0
      have hr' : rd ow (jj : Int) = (r : Int) := hr
      have hown := (h.mt.own jj hjn).2
      have hrm : r < m := by have := h.im; omega
      have hLu := L.u
      have hLv := L.v
      rw [if_pos hdj, if_pos (by omega), hr', if_pos (by omega), if_pos (by omega), if_pos (by omega), Int.toNat_natCast, Int.toNat_natCast, w1 jj (by omega)]
      have htr : Tr n i (fl ow) (fb dn) r := .inr ⟨jj, hjn, hdj, hr⟩
      have hinj : ∀ k, k < jj → fb dn k = true → fl ow k ≠ (r : Int) := fun k hk hkd e => by
        have := h.mt.inj jj hjn k (by omega) h0 (by omega); omega
      have hu : fl u r = fl u0 r := p.un r hrm (fun e => by
        rcases e with e | ⟨k, hk, hkd, hok⟩
        · omega
        · exact hinj k hk hkd hok)
      have hv : fl v jj = fl v0 jj := p.vr jj hjn (Nat.le_refl _)
      have hbd := h.bd htr
      have hbv := h.bv hjn
      have e1 : wrap64 (rd u (r : Int) + s) = fl u r + s := w64 (by have : rd u (r : Int) = fl u r := rfl; omega)
      have e2 : wrap64 (rd v (jj : Int) - s) = fl v jj - s := w64 (by have : rd v (jj : Int) = fl v jj := rfl; omega)
      rw [e1, e2]
      exact l3_out hC hlo hld hlf h hrow x0 H0 H1 d (jj + 1) _ _ nr (by omega) ⟨by rw [List.length_set]; exact L.u, by rw [List.length_set]; exact L.v, L.nr, L.fr⟩
        (p.yes hjn hdj hr (by omega) hinj (fl_same (by omega) _) (fun y hy => fl_other (by omega) _ y hy) (fl_same (by omega) _) (fun y hy => fl_other (by omega) _ y hy) hrm) k (by omega) (by omega)
    · have hdj' : fb dn jj = false := by
        have : fb dn jj ≠ true := hdj
        simpa using this
      have hLn := L.nr
      rw [if_neg hdj, if_pos (by omega)]
      have hnr : fl nr jj = fl nr0 jj := p.nd jj hjn (Nat.le_refl _)
      by_cases hlt : rd nr (jj : Int) < 1152921504606846976
      · rw [if_pos hlt, Int.toNat_natCast, w1 jj (by omega)]
        have hnat := h.natt jj hjn hdj'
        have e1 : wrap64 (rd nr (jj : Int) - s) = fl nr jj - s := w64 (by have : rd nr (jj : Int) = fl nr jj := rfl; omega)
        rw [e1]
        exact l3_out hC hlo hld hlf h hrow x0 H0 H1 d (jj + 1) u v _ (by omega) ⟨L.u, L.v, by rw [List.length_set]; exact L.nr, L.fr⟩
          (p.no hjn hdj' (.inl ⟨hlt, fl_same (by omega) _⟩) (fun y hy => fl_other (by omega) _ y hy)) k (by omega) (by omega)
      · rw [if_neg hlt, w1 jj (by omega)]
        exact l3_out hC hlo hld hlf h hrow x0 H0 H1 d (jj + 1) u v nr (by omega) L (p.no hjn hdj' (.inr ⟨hlt, rfl⟩) (fun y hy => rfl)) k (by omega) (by omega)

theorem l2_out {i Nz K row N1 : Nat} {a : Int} {tt u v ow nr0 fr0 : List Int} {dn : List Bool} {ρ : Nat → Nat} (hC : Rw C m n) (hlo : ow.length = n) (hld : dn.length = n) (hlu : u.length = m) (hlv : v.length = n)
    (h : Sc (cc C) m n i (fl u) (fl v) (fl ow) (fl nr0) (fl fr0) (fb dn) ρ K row) (ha : (a = -1 ∧ row = i) ∨ ∃ k : Nat, k < n ∧ fb dn k = true ∧ a = (k : Int) ∧ fl ow k = (row : Int))
    (H0 : ∀ u v ow' : List Int, u.length = m → v.length = n → ow'.length = n → Ro (cc C) m n (i + 1) (fl u) (fl v) (fl ow') → ∀ k, Nz ≤ k → Out (cc C) m n (assign_solve.l0 k C (n : Int) tt u v ow' (m : Int) ((i + 1 : Nat) : Int)))
    (H1 : ∀ (x : Nat) (u v nr fr : List Int) (dn' : List Bool) (ρ' : Nat → Nat) (row' : Nat), x < n → Ls m n u v nr fr → dn'.length = n → Sc (cc C) m n i (fl u) (fl v) (fl ow) (fl nr) (fl fr) (fb dn') ρ' (K + 1) row' → (fb dn' x = true ∧ fl ow x = (row' : Int)) → ∀ k, N1 ≤ k → Out (cc C) m n (assign_solve.l1 k C (n : Int) tt u v ow (i : Int) nr fr dn' (x : Int) (row' : Int) (m : Int) (i : Int))) :
    ∀ (d jj : Nat) (nr fr : List Int) (step next : Int), jj + d = n → nr.length = n → fr.length = n → Pa (cc C) n (fl u) (fl v) (fl nr0) (fl fr0) (fl nr) (fl fr) (fb dn) row a jj step next → ∀ k, 2 * d + 1 + (n + 1 + N1) ≤ k → 2 * d + 1 + (n + 1 + 20 + Nz) ≤ k →
      Out (cc C) m n (assign_solve.l2 k C (n : Int) tt u v ow (i : Int) nr fr dn a (row : Int) step next (m : Int) (i : Int) (n : Int) (jj : Int))
  | 0, jj, nr, fr, step, next, hd, hln, hlf, p, k, hk, hk2 => by
    obtain ⟨k, rfl⟩ : ∃ a, k = a + 1 := ⟨k - 1, by omega⟩
    have hjn : jj = n := by omega
    subst hjn
    have him := h.im
    rw [assign_solve.l2, if_neg (by omega)]
    obtain ⟨hS, hrow⟩ := h.pass p ha
    rcases p.next with ⟨h1, h2, h3⟩ | ⟨x, h1, h2, h3, h4, h5, h6⟩
    · rw [if_pos (by omega)]
      refine .inr ⟨rfl, hS.hall hrow (fun j hj hdj => ?_)⟩
      rcases hS.natt j hj hdj with h4 | ⟨_, h4, _⟩
      · exact h4
      · have := h3 j hj hdj; omega
    · have hxi : Sc.Nx jj (fl nr) (fb dn) step x := ⟨h1, h3, h4.symm, by omega, h6⟩
      have hs := s_le hS hxi
      have hui := hS.ui
      rw [if_neg (by omega), if_pos (by omega), if_pos (by omega), Int.toNat_natCast, h2]
      have e1 : wrap64 (rd u (i : Int) + step) = fl u i + step := w64 (by have : rd u (i : Int) = fl u i := rfl; omega)
      rw [e1]
      exact l3_out hC hlo hld hlf hS hrow hxi H0 (fun u v nr dn' ρ' row' => H1 x u v nr fr dn' ρ' row' h1) jj 0 _ v nr (by omega) ⟨by rw [List.length_set]; exact hlu, hlv, hln, hlf⟩
        (Pb.zero (fl_same (by omega) _) (fun y hy => fl_other (by omega) _ y hy)) k (by omega) (by omega)
  | d + 1, jj, nr, fr, step, next, hd, hln, hlf, p, k, hk, hk2 => by
    obtain ⟨k, rfl⟩ : ∃ a, k = a + 1 := ⟨k - 1, by omega⟩
    have hn16 := h.par.hn
    have hjn : jj < n := by omega
    have htl := (h.tr_lt h.trow).1
    have hCl := hC.len
    have hCr := hC.row row htl
    rw [assign_solve.l2, if_pos (by omega), if_pos (by omega), if_pos (by omega)]
    by_cases hdj : rdOf false dn (jj : Int) = true
    · rw [if_pos hdj, w1 jj (by omega)]
      exact l2_out hC hlo hld hlu hlv h ha H0 H1 d (jj + 1) nr fr step next (by omega) hln hlf (p.skip hdj) k (by omega) (by omega)
    · have hdj' : fb dn jj = false := by
        have : fb dn jj ≠ true := hdj
        simpa using this
      rw [if_neg hdj, if_pos (by omega), if_pos (by omega), if_pos (by omega)]
      have hbd := h.bd h.trow
      have hbv := h.bv hjn
      have hcc := h.par.hc row htl jj hjn
      have hr0 := p.rest jj hjn (Nat.le_refl _)
      obtain ⟨k, rfl⟩ : ∃ a, k = a + 1 := ⟨k - 1, by omega⟩
      by_cases hc0 : rd (rd_L1 C (row : Int)) (jj : Int) ≥ 0
      · have hc0' : 0 ≤ cc C row jj := hc0
        have ew : wrap64 (wrap64 (rd (rd_L1 C (row : Int)) (jj : Int) - rd u (row : Int)) - rd v (jj : Int)) = cc C row jj - fl u row - fl v jj := by
          have e0 : rd (rd_L1 C (row : Int)) (jj : Int) = cc C row jj := rfl
          have e1 : rd u (row : Int) = fl u row := rfl
          have e2 : rd v (jj : Int) = fl v jj := rfl
          rw [e0, e1, e2, w64 (x := cc C row jj - fl u row) (by omega), w64 (by omega)]
        rw [if_pos hc0, if_pos (by omega), if_pos (by omega), if_pos (by omega), ew]
        by_cases hlt : cc C row jj - fl u row - fl v jj < rd nr (jj : Int)
        · rw [assign_solve.j3, decide_eq_true hlt, if_pos rfl, if_pos (by omega), if_pos (by omega), if_pos (by omega), if_pos (by omega), if_pos (by omega), Option.bind_some, if_pos (by omega), Option.bind_some, ew, Int.toNat_natCast, w1 jj (by omega)]
          have hp : ∀ step' next', ((fl (nr.set jj (cc C row jj - fl u row - fl v jj)) jj < step ∧ step' = fl (nr.set jj (cc C row jj - fl u row - fl v jj)) jj ∧ next' = (jj : Int)) ∨ (¬ fl (nr.set jj (cc C row jj - fl u row - fl v jj)) jj < step ∧ step' = step ∧ next' = next)) →
              Pa (cc C) n (fl u) (fl v) (fl nr0) (fl fr0) (fl (nr.set jj (cc C row jj - fl u row - fl v jj))) (fl (fr.set jj a)) (fb dn) row a (jj + 1) step' next' := fun step' next' hs =>
            p.look hjn hdj' (fun y hy => ⟨fl_other (by omega) _ y hy, fl_other (by omega) _ y hy⟩) (.inl ⟨hc0', hlt, fl_same (by omega) _, fl_same (by omega) _⟩) hs
          have hsm := fl_same (l := nr) (i := jj) (by omega) (cc C row jj - fl u row - fl v jj)
          by_cases hst : cc C row jj - fl u row - fl v jj < step
          · rw [if_pos hst]
            exact l2_out hC hlo hld hlu hlv h ha H0 H1 d (jj + 1) _ _ _ _ (by omega) (by rw [List.length_set]; exact hln) (by rw [List.length_set]; exact hlf) (hp _ _ (.inl ⟨by omega, hsm.symm, rfl⟩)) k (by omega) (by omega)
          · rw [if_neg hst]
            exact l2_out hC hlo hld hlu hlv h ha H0 H1 d (jj + 1) _ _ _ _ (by omega) (by rw [List.length_set]; exact hln) (by rw [List.length_set]; exact hlf) (hp _ _ (.inr ⟨by omega, rfl, rfl⟩)) k (by omega) (by omega)
        · rw [assign_solve.j3, decide_eq_false hlt, if_neg (by decide), if_pos (by omega), if_pos (by omega), w1 jj (by omega)]
          have hp : ∀ step' next', ((fl nr jj < step ∧ step' = fl nr jj ∧ next' = (jj : Int)) ∨ (¬ fl nr jj < step ∧ step' = step ∧ next' = next)) → Pa (cc C) n (fl u) (fl v) (fl nr0) (fl fr0) (fl nr) (fl fr) (fb dn) row a (jj + 1) step' next' := fun step' next' hs =>
            p.look hjn hdj' (fun y hy => ⟨rfl, rfl⟩) (.inr ⟨fun e => hlt e.2, rfl, rfl⟩) hs
          by_cases hst : rd nr (jj : Int) < step
          · rw [if_pos hst]
            exact l2_out hC hlo hld hlu hlv h ha H0 H1 d (jj + 1) _ _ _ _ (by omega) hln hlf (hp _ _ (.inl ⟨hst, rfl, rfl⟩)) k (by omega) (by omega)
          · rw [if_neg hst]
            exact l2_out hC hlo hld hlu hlv h ha H0 H1 d (jj + 1) _ _ _ _ (by omega) hln hlf (hp _ _ (.inr ⟨hst, rfl, rfl⟩)) k (by omega) (by omega)
      · rw [if_neg hc0, assign_solve.j3, if_neg (by decide), if_pos (by omega), if_pos (by omega), w1 jj (by omega)]
        have hp : ∀ step' next', ((fl nr jj < step ∧ step' = fl nr jj ∧ next' = (jj : Int)) ∨ (¬ fl nr jj < step ∧ step' = step ∧ next' = next)) → Pa (cc C) n (fl u) (fl v) (fl nr0) (fl fr0) (fl nr) (fl fr) (fb dn) row a (jj + 1) step' next' := fun step' next' hs =>
          p.look hjn hdj' (fun y hy => ⟨rfl, rfl⟩) (.inr ⟨fun e => hc0 e.1, rfl, rfl⟩) hs
        by_cases hst : rd nr (jj : Int) < step
        · rw [if_pos hst]
          exact l2_out hC hlo hld hlu hlv h ha H0 H1 d (jj + 1) _ _ _ _ (by omega) hln hlf (hp _ _ (.inl ⟨hst, rfl, rfl⟩)) k (by omega) (by omega)
        · rw [if_neg hst]
          exact l2_out hC hlo hld hlu hlv h ha H0 H1 d (jj + 1) _ _ _ _ (by omega) hln hlf (hp _ _ (.inr ⟨hst, rfl, rfl⟩)) k (by omega) (by omega)

theorem l1_out {i Nz : Nat} {tt ow : List Int} (hC : Rw C m n) (hlo : ow.length = n)
    (H0 : ∀ u v ow' : List Int, u.length = m → v.length = n → ow'.length = n → Ro (cc C) m n (i + 1) (fl u) (fl v) (fl ow') → ∀ k, Nz ≤ k → Out (cc C) m n (assign_solve.l0 k C (n : Int) tt u v ow' (m : Int) ((i + 1 : Nat) : Int))) :
    ∀ (e K row : Nat) (a : Int) (u v nr fr : List Int) (dn : List Bool) (ρ : Nat → Nat), K + e = 17 → Ls m n u v nr fr → dn.length = n → Sc (cc C) m n i (fl u) (fl v) (fl ow) (fl nr) (fl fr) (fb dn) ρ K row → ((a = -1 ∧ row = i) ∨ ∃ k : Nat, k < n ∧ fb dn k = true ∧ a = (k : Int) ∧ fl ow k = (row : Int)) →
      ∀ k, e * 60 + 30 + Nz ≤ k → Out (cc C) m n (assign_solve.l1 k C (n : Int) tt u v ow (i : Int) nr fr dn a (row : Int) (m : Int) (i : Int))
  | 0, K, row, a, u, v, nr, fr, dn, ρ, he, L, hld, h, ha, k, hk => by have := h.Kn; omega
  | e + 1, K, row, a, u, v, nr, fr, dn, ρ, he, L, hld, h, ha, k, hk => by
    obtain ⟨k, rfl⟩ : ∃ a, k = a + 1 := ⟨k - 1, by omega⟩
    have hn16 := h.par.hn
    rw [assign_solve.l1]
    refine l2_out (Nz := Nz) (N1 := e * 60 + 30 + Nz) hC hlo hld L.u L.v h ha H0 ?_ n 0 nr fr _ _ (by omega) L.nr L.fr (Pa.zero (cc C) n (fl u) (fl v) (fl nr) (fl fr) (fb dn) row a) k (by omega) (by omega)
    intro x u' v' nr' fr' dn' ρ' row' hx L' hld' h' hx' k hk
    exact l1_out hC hlo H0 e (K + 1) row' (x : Int) u' v' nr' fr' dn' ρ' (by omega) L' hld' h' (.inr ⟨x, hx, hx'.1, rfl, hx'.2⟩) k hk

theorem l0_out {tt : List Int} (hC : Rw C m n) (hlt : tt.length = m) (d : Nat) : ∀ (i : Nat) (u v ow : List Int), i + d = m → u.length = m → v.length = n → ow.length = n → Ro (cc C) m n i (fl u) (fl v) (fl ow) → ∀ k, d * 1100 + 30 ≤ k →
    Out (cc C) m n (assign_solve.l0 k C (n : Int) tt u v ow (m : Int) (i : Int)) := by
  induction d with
  | zero =>
    intro i u v ow hd hlu hlv hlo h k hk
    obtain ⟨k, rfl⟩ : ∃ a, k = a + 1 := ⟨k - 1, by omega⟩
    have hn16 := h.par.hn
    have : i = m := by omega
    subst this
    rw [assign_solve.l0, if_neg (by omega), hlo]
    exact l5_out hlu hlv hlo h n 0 tt (by omega) hlt (fun k hk => by omega) k (by omega)
  | succ d ih =>
    intro i u v ow hd hlu hlv hlo h k hk
    obtain ⟨k, rfl⟩ : ∃ a, k = a + 1 := ⟨k - 1, by omega⟩
    have hn16 := h.par.hn
    rw [assign_solve.l0, if_pos (by omega)]
    unfold slices_Repeat_int_int.f
    rw [if_pos ⟨rfl, by omega, by omega⟩, Option.bind_some, if_pos (by omega), if_pos (by omega), if_pos (by omega), Int.toNat_natCast, List.getD_cons_zero]
    obtain ⟨Nz, hNz⟩ : ∃ Nz, Nz = d * 1100 + 30 := ⟨_, rfl⟩
    rw [← hNz] at ih
    have hk2 : 17 * 60 + 30 + Nz ≤ k := by omega
    exact l1_out (Nz := Nz) hC hlo (fun u v ow' h1 h2 h3 hR k hk => ih (i + 1) u v ow' (by omega) h1 h2 h3 hR k hk) 17 0 i (-1) u v _ _ _ (fun _ => 0) rfl
      ⟨hlu, hlv, List.length_replicate, List.length_replicate⟩ List.length_replicate (h.search (by omega) (fun j hj => fl_rep n _ j hj) (fun j hj => fb_rep n j)) (.inl ⟨rfl, rfl⟩) k hk2

set_option maxRecDepth 100000 in
/-- What solve gives. -/
theorem solve_out (hC : Rw C m n) (k : Nat) (hk : 18000 ≤ k) : Out (cc C) m n (assign_solve.f k C (n : Int)) := by
  have hm16 := hC.par.hm
  have hn16 := hC.par.hn
  unfold assign_solve.f slices_Repeat_int_int.f
  rw [hC.len, if_pos (by omega), if_pos (by omega), if_pos (by omega), if_pos (by omega), if_pos ⟨rfl, by omega, by omega⟩, Option.bind_some, Int.toNat_natCast, Int.toNat_natCast, List.getD_cons_zero]
  exact l0_out hC List.length_replicate m 0 _ _ _ (by omega) List.length_replicate List.length_replicate List.length_replicate
    (Ro.first hC.par (fun r hr => fl_rep m 0 r hr) (fun j hj => fl_rep n 0 j hj) (fun j hj => fl_rep n (-1) j hj)) k (by omega)
end
end Go.Proofs.Ytgiinjfandeddaa.Q

namespace Go.Proofs.Ytgiinjfandeddaa.As

/-- the costs that are left behind the row i, the columns taken and j forbidden -/
def lft (c : Nat → Nat → Int) (i j : Nat) (tk : Nat → Bool) (r k : Nat) : Int := if k = j ∨ tk k = true then -1 else c (i + 1 + r) k

/-- an assignment of cost C that begins with t (i rows) and gives the row i the column j -/
def Ext (c : Nat → Nat → Int) (m n : Nat) (C : Int) (t : Nat → Nat) (i j : Nat) : Prop := ∃ f, Asg c m n f ∧ cst c m f = C ∧ (∀ r, r < i → f r = t r) ∧ f i = j

theorem lft_ok {c : Nat → Nat → Int} {i j : Nat} {tk : Nat → Bool} {r k : Nat} (h : 0 ≤ lft c i j tk r k) : k ≠ j ∧ tk k = false ∧ lft c i j tk r k = c (i + 1 + r) k := by
  unfold lft at h ⊢
  by_cases e : k = j ∨ tk k = true
  · rw [if_pos e] at h; exact absurd h (by decide)
  · rw [if_neg e]
    rw [not_or] at e
    exact ⟨e.1, by simpa using e.2, rfl⟩

theorem glue {c : Nat → Nat → Int} {m n : Nat} {C : Int} {t : Nat → Nat} {i j : Nat} {tk : Nat → Bool} (hi : i < m) (ht1 : ∀ r, r < i → t r < n ∧ 0 ≤ c r (t r)) (ht2 : ∀ r, r < i → ∀ s, s < i → t r = t s → r = s) (htk : ∀ k, k < n → (tk k = true ↔ ∃ r, r < i ∧ t r = k)) :
    Ext c m n C t i j ↔ j < n ∧ tk j = false ∧ 0 ≤ c i j ∧ ∃ g, Asg (lft c i j tk) (m - i - 1) n g ∧ sm i (fun r => c r (t r)) + c i j + cst (lft c i j tk) (m - i - 1) g = C := by
  constructor
  · rintro ⟨f, a, hC, hf, rfl⟩
    have hjn := a.lt i hi
    refine ⟨hjn, ?_, a.ok i hi, fun r => f (i + 1 + r), ?_, ?_⟩
    · cases h : tk (f i) with
      | false => rfl
      | true =>
        obtain ⟨r, hr, he⟩ := (htk _ hjn).1 h
        have := a.inj r (by omega) i hi (by rw [hf r hr]; exact he)
        omega
    · have hv : ∀ r, r < m - i - 1 → lft c i (f i) tk r (f (i + 1 + r)) = c (i + 1 + r) (f (i + 1 + r)) := fun r hr => by
        unfold lft
        rw [if_neg]
        rw [not_or]
        refine ⟨fun e => ?_, fun e => ?_⟩
        · have := a.inj (i + 1 + r) (by omega) i hi e; omega
        · obtain ⟨r2, hr2, he⟩ := (htk _ (a.lt _ (by omega))).1 e
          have := a.inj r2 (by omega) (i + 1 + r) (by omega) (by rw [hf r2 hr2]; exact he)
          omega
      exact ⟨fun r hr => a.lt _ (by omega), fun r hr => by rw [hv r hr]; exact a.ok _ (by omega), fun r hr s hs he => by have := a.inj _ (by omega) _ (by omega) he; omega⟩
    · have hv : cst (lft c i (f i) tk) (m - i - 1) (fun r => f (i + 1 + r)) = sm (m - i - 1) (fun r => c (i + 1 + r) (f (i + 1 + r))) := sm_congr _ (fun r hr => by
        unfold lft
        rw [if_neg]
        rw [not_or]
        refine ⟨fun e => ?_, fun e => ?_⟩
        · have := a.inj (i + 1 + r) (by omega) i hi e; omega
        · obtain ⟨r2, hr2, he⟩ := (htk _ (a.lt _ (by omega))).1 e
          have := a.inj r2 (by omega) (i + 1 + r) (by omega) (by rw [hf r2 hr2]; exact he)
          omega)
      rw [hv]
      unfold cst at hC
      rw [show m = (i + 1) + (m - i - 1) by omega, sm_split] at hC
      rw [← hC]
      have e1 : sm i (fun r => c r (t r)) = sm i (fun r => c r (f r)) := sm_congr i (fun r hr => by rw [hf r hr])
      rw [e1]
      rfl
  · rintro ⟨hjn, htj, hcj, g, a, hC⟩
    refine ⟨fun r => if r < i then t r else if r = i then j else g (r - i - 1), ⟨?_, ?_, ?_⟩, ?_, ?_, ?_⟩
    · intro r hr
      show (if r < i then t r else if r = i then j else g (r - i - 1)) < n
      by_cases h1 : r < i
      · rw [if_pos h1]; exact (ht1 r h1).1
      · rw [if_neg h1]
        by_cases h2 : r = i
        · rw [if_pos h2]; exact hjn
        · rw [if_neg h2]; exact a.lt _ (by omega)
    · intro r hr
      show 0 ≤ c r (if r < i then t r else if r = i then j else g (r - i - 1))
      by_cases h1 : r < i
      · rw [if_pos h1]; exact (ht1 r h1).2
      · rw [if_neg h1]
        by_cases h2 : r = i
        · rw [if_pos h2, h2]; exact hcj
        · rw [if_neg h2]
          have h3 := a.ok (r - i - 1) (by omega)
          have h4 := (lft_ok h3).2.2
          rw [h4, show i + 1 + (r - i - 1) = r by omega] at h3
          exact h3
    · intro r hr s hs he
      have he : (if r < i then t r else if r = i then j else g (r - i - 1)) = (if s < i then t s else if s = i then j else g (s - i - 1)) := he
      have hg : ∀ x, x < m - i - 1 → g x ≠ j ∧ ∀ r, r < i → t r ≠ g x := fun x hx => by
        have h3 := lft_ok (a.ok x hx)
        refine ⟨h3.1, fun r hr e => ?_⟩
        have := (htk _ (a.lt x hx)).2 ⟨r, hr, e⟩
        rw [h3.2.1] at this; cases this
      have hj : ∀ r, r < i → t r ≠ j := fun r hr e => by
        have := (htk j hjn).2 ⟨r, hr, e⟩
        rw [htj] at this; cases this
      by_cases h1 : r < i
      · rw [if_pos h1] at he
        by_cases h2 : s < i
        · rw [if_pos h2] at he; exact ht2 r h1 s h2 he
        · rw [if_neg h2] at he
          by_cases h3 : s = i
          · rw [if_pos h3] at he; exact absurd he (hj r h1)
          · rw [if_neg h3] at he; exact absurd he ((hg _ (by omega)).2 r h1)
      · rw [if_neg h1] at he
        by_cases h4 : r = i
        · rw [if_pos h4] at he
          by_cases h2 : s < i
          · rw [if_pos h2] at he; exact absurd he.symm (hj s h2)
          · rw [if_neg h2] at he
            by_cases h3 : s = i
            · omega
            · rw [if_neg h3] at he; exact absurd he.symm (hg _ (by omega)).1
        · rw [if_neg h4] at he
          by_cases h2 : s < i
          · rw [if_pos h2] at he; exact absurd he.symm ((hg _ (by omega)).2 s h2)
          · rw [if_neg h2] at he
            by_cases h3 : s = i
            · rw [if_pos h3] at he; exact absurd he (hg _ (by omega)).1
            · rw [if_neg h3] at he
              have := a.inj (r - i - 1) (by omega) (s - i - 1) (by omega) he
              omega
    · show sm m _ = C
      rw [show m = (i + 1) + (m - i - 1) by omega, sm_split, ← hC]
      have e1 : sm (i + 1) (fun r => c r (if r < i then t r else if r = i then j else g (r - i - 1))) = sm i (fun r => c r (t r)) + c i j := by
        show sm i _ + c i (if i < i then t i else if i = i then j else g (i - i - 1)) = _
        rw [if_neg (Nat.lt_irrefl i), if_pos rfl]
        congr 1
        exact sm_congr i (fun r hr => by rw [if_pos hr])
      have e2 : sm (m - i - 1) (fun r => c (i + 1 + r) (if i + 1 + r < i then t (i + 1 + r) else if i + 1 + r = i then j else g (i + 1 + r - i - 1))) = cst (lft c i j tk) (m - i - 1) g := by
        refine sm_congr _ (fun r hr => ?_)
        rw [if_neg (by omega), if_neg (by omega), show i + 1 + r - i - 1 = r by omega]
        exact ((lft_ok (a.ok r hr)).2.2).symm
      rw [e1, e2]
    · intro r hr
      show (if r < i then t r else if r = i then j else g (r - i - 1)) = t r
      rw [if_pos hr]
    · show (if i < i then t i else if i = i then j else g (i - i - 1)) = j
      rw [if_neg (Nat.lt_irrefl i), if_pos rfl]
end Go.Proofs.Ytgiinjfandeddaa.As

namespace Go.Proofs.Ytgiinjfandeddaa.Q
open Go.RowKit Go.Proofs.YtgiinjfandeddaaW.PrintWords Go.Proofs.YtgiinjfandeddaaW.PrintLast Go.Proofs.YtgiinjfandeddaaW.PrintMore Go.Proofs.Ytgiinjfandeddaa.As
set_option linter.unusedVariables false
set_option linter.unusedSimpArgs false

theorem rd_L1_app {L : List (List Int)} {x : List Int} (r : Nat) : rd_L1 (L ++ [x]) (r : Int) = if r < L.length then rd_L1 L (r : Int) else if r = L.length then x else [] := by
  unfold rd_L1
  rw [Int.toNat_natCast, List.getD_eq_getElem?_getD, List.getD_eq_getElem?_getD, List.getElem?_append]
  by_cases h : r < L.length
  · rw [if_pos h, if_pos h]
  · rw [if_neg h, if_neg h]
    by_cases e : r = L.length
    · subst e; simp
    · rw [if_neg e, List.getElem?_eq_none (by simp; omega)]; rfl
theorem rd_L1_drop {C : List (List Int)} (i r : Nat) : rd_L1 (C.drop i) (r : Int) = rd_L1 C ((i + r : Nat) : Int) := by
  unfold rd_L1
  rw [Int.toNat_natCast, Int.toNat_natCast, List.getD_eq_getElem?_getD, List.getD_eq_getElem?_getD, List.getElem?_drop]
theorem asg_none {c : Nat → Nat → Int} {m n : Nat} (h : HallP c m n) {g : Nat → Nat} (a : Asg c m n g) : False := by
  obtain ⟨S, T, h1, h2, h3, h4⟩ := h
  have := no_asg a S T h1 h2 h3
  omega
theorem Sol.least {c : Nat → Nat → Int} {m n : Nat} {tt u v : List Int} (s : Sol c m n tt u v) {g : Nat → Nat} (a : Asg c m n g) : cst c m (fun r => (fl tt r).toNat) ≤ cst c m g := by
  have h1 := s.fit.least a
  have h2 := Fit.tight s.asg s.tight s.free
  omega

section
variable {C : List (List Int)} {m n : Nat} {taken : List Bool} {i j : Nat} {spent c : Int}

/-- the loop that forbids the taken columns -/
theorem ch_l1 {Nz : Nat} {P : Option Bool → Prop} {X : List (List Int)} {q : Nat} {row : List Int} (hn : n ≤ 16) (hq : q ≤ 16) (hX : X.length = q) (htk : taken.length = n)
    (H : ∀ y : List Int, y.length = n → (∀ k, k < n → fl y k = if k = j ∨ fb taken k = true then -1 else fl row k) → ∀ k, Nz ≤ k → P (assign_cheap.l0 k (i : Int) (j : Int) taken C (n : Int) spent c (X ++ [y]) (C.drop (i + 1)) ((C.drop (i + 1)).length : Int) ((q + 1 : Nat) : Int))) :
    ∀ (d s : Nat) (y : List Int), s + d = n → y.length = n → (∀ k, k < n → fl y k = if k = j ∨ (k < s ∧ fb taken k = true) then -1 else fl row k) → ∀ k, d + 1 + Nz ≤ k →
      P (assign_cheap.l1 k (i : Int) (j : Int) taken C (n : Int) spent c X y (C.drop (i + 1)) ((C.drop (i + 1)).length : Int) (q : Int) taken (taken.length : Int) (s : Int))
  | 0, s, y, hd, hy, hv, k, hk => by
    obtain ⟨k, rfl⟩ : ∃ a, k = a + 1 := ⟨k - 1, by omega⟩
    rw [assign_cheap.l1, if_neg (by omega), if_pos (by omega), w1 q (by omega)]
    refine H y hy (fun x hx => ?_) k (by omega)
    rw [hv x hx]
    by_cases e : x = j ∨ fb taken x = true
    · rw [if_pos e, if_pos]; rcases e with e | e; exact .inl e; exact .inr ⟨by omega, e⟩
    · rw [if_neg e, if_neg]; rintro (h | h); exact e (.inl h); exact e (.inr h.2)
  | d + 1, s, y, hd, hy, hv, k, hk => by
    obtain ⟨k, rfl⟩ : ∃ a, k = a + 1 := ⟨k - 1, by omega⟩
    rw [assign_cheap.l1, if_pos (by omega), if_pos (by omega), if_pos (by omega)]
    by_cases hb : rdOf false taken (s : Int) = true
    · rw [if_pos hb, if_pos (by omega), w1 s (by omega), Int.toNat_natCast]
      refine ch_l1 hn hq hX htk H d (s + 1) _ (by omega) (by rw [List.length_set]; exact hy) (fun x hx => ?_) k (by omega)
      rw [fl_set (by omega), hv x hx]
      by_cases e : x = s
      · rw [if_pos e, if_pos]; exact .inr ⟨by omega, by rw [e]; exact hb⟩
      · rw [if_neg e]
        by_cases e1 : x = j ∨ (x < s ∧ fb taken x = true)
        · rw [if_pos e1, if_pos]; rcases e1 with h | h; exact .inl h; exact .inr ⟨by omega, h.2⟩
        · rw [if_neg e1, if_neg]; rintro (h | h); exact e1 (.inl h); exact e1 (.inr ⟨by omega, h.2⟩)
    · rw [if_neg hb, w1 s (by omega)]
      refine ch_l1 hn hq hX htk H d (s + 1) _ (by omega) hy (fun x hx => ?_) k (by omega)
      rw [hv x hx]
      by_cases e1 : x = j ∨ (x < s ∧ fb taken x = true)
      · rw [if_pos e1, if_pos]; rcases e1 with h | h; exact .inl h; exact .inr ⟨by omega, h.2⟩
      · rw [if_neg e1, if_neg]; rintro (h | h); exact e1 (.inl h)
        exact e1 (.inr ⟨by have : x ≠ s := fun e => hb (by have := h.2; rw [e] at this; exact this); omega, h.2⟩)

/-- the sum of the costs of the rows that are left -/
theorem ch_l2 {L : List (List Int)} {more : List Int} {z : Bool} {M : Nat} (hM : M ≤ 16) (hL : L.length = M) (hm : more.length = M) (hrow : ∀ r, r < M → (rd_L1 L (r : Int)).length = n)
    (h1 : ∀ r, r < M → 0 ≤ fl more r ∧ fl more r < (n : Int)) (h2 : ∀ r, r < M → 0 ≤ cc L r (fl more r).toNat ∧ cc L r (fl more r).toNat ≤ 1073741824) :
    ∀ (d s : Nat) (x : Int), s + d = M → x = spent + sm s (fun r => cc L r (fl more r).toNat) → 0 ≤ spent ∧ spent ≤ 100000000000 → ∀ k, d < k →
      assign_cheap.l2 k c L z x more (more.length : Int) (s : Int) = some (if z = true then spent + sm M (fun r => cc L r (fl more r).toNat) == c else false)
  | 0, s, x, hd, hx, hs, k, hk => by
    obtain ⟨k, rfl⟩ : ∃ a, k = a + 1 := ⟨k - 1, by omega⟩
    rw [assign_cheap.l2, if_neg (by omega), hx, show s = M by omega]
    by_cases hz : z = true
    · rw [if_pos hz, if_pos hz]
    · rw [if_neg hz, if_neg hz]
  | d + 1, s, x, hd, hx, hs, k, hk => by
    obtain ⟨k, rfl⟩ : ∃ a, k = a + 1 := ⟨k - 1, by omega⟩
    have hsM : s < M := by omega
    have a1 := h1 s hsM
    have a2 := h2 s hsM
    have hb := sm_bound (v := fun r => cc L r (fl more r).toNat) (a := 0) (b := 1073741824) s (fun r hr => h2 r (by omega))
    have hrl := hrow s hsM
    have e1 : rd more (s : Int) = fl more s := rfl
    have e2 : rd (rd_L1 L (s : Int)) (fl more s) = cc L s (fl more s).toNat := by unfold cc; rw [Int.toNat_of_nonneg a1.1]
    rw [assign_cheap.l2, if_pos (by omega), if_pos (by omega), if_pos (by omega), if_pos (by omega), e1, if_pos a1.1, if_pos (by omega), e2, w1 s (by omega)]
    have hs16 : s ≤ 16 := by omega
    have hb2 : sm s (fun r => cc L r (fl more r).toNat) ≤ 17179869184 := by have : (s : Int) ≤ 16 := by omega
                                                                            omega
    have hb1 : 0 ≤ sm s (fun r => cc L r (fl more r).toNat) := by omega
    rw [w64 (by omega)]
    exact ch_l2 hM hL hm hrow h1 h2 d (s + 1) _ (by omega) (by rw [hx]; simp only [sm]; omega) hs k (by omega)

/-- the loop that builds the rows that are left, and the answer -/
theorem ch_l0 (hR : Rw C m n) (hi : i < m) (hj : j < n) (htk : taken.length = n) (hjf : 0 ≤ cc C i j) (hs : 0 ≤ spent ∧ spent ≤ 50000000000)
    (hmin : ∀ g, Asg (lft (cc C) i j (fb taken)) (m - i - 1) n g → c ≤ spent + cc C i j + cst (lft (cc C) i j (fb taken)) (m - i - 1) g) :
    ∀ (d q : Nat) (X : List (List Int)), q + d = m - i - 1 → X.length = q → (∀ r, r < q → (rd_L1 X (r : Int)).length = n ∧ ∀ k, k < n → cc X r k = lft (cc C) i j (fb taken) r k) → ∀ k, 20 + d * 20 ≤ k →
      ∃ b, assign_cheap.l0 k (i : Int) (j : Int) taken C (n : Int) spent c X (C.drop (i + 1)) ((C.drop (i + 1)).length : Int) (q : Int) = some b ∧ (b = true ↔ ∃ g, Asg (lft (cc C) i j (fb taken)) (m - i - 1) n g ∧ spent + cc C i j + cst (lft (cc C) i j (fb taken)) (m - i - 1) g = c) := by
  have hm16 := hR.par.hm
  have hn16 := hR.par.hn
  have hCl := hR.len
  have hDl : (C.drop (i + 1)).length = m - i - 1 := by rw [List.length_drop]; omega
  intro d
  induction d with
  | zero =>
    intro q X hd hX hrow k hk
    obtain ⟨k, rfl⟩ : ∃ a, k = a + 1 := ⟨k - 1, by omega⟩
    have hqe : q = m - i - 1 := by omega
    subst hqe
    have hRL : Rw X (m - i - 1) n := ⟨hX, fun r hr => (hrow r hr).1, ⟨by omega, hn16, fun r hr k hk => by
      rw [(hrow r hr).2 k hk]; unfold lft; split
      · omega
      · exact hR.par.hc _ (by omega) _ hk⟩⟩
    have hco : ∀ g, (∀ r, r < m - i - 1 → g r < n) → cst (cc X) (m - i - 1) g = cst (lft (cc C) i j (fb taken)) (m - i - 1) g := fun g hg => sm_congr _ (fun r hr => (hrow r hr).2 _ (hg r hr))
    have hA : ∀ g, Asg (cc X) (m - i - 1) n g ↔ Asg (lft (cc C) i j (fb taken)) (m - i - 1) n g := fun g =>
      ⟨fun a => a.congr (fun _ _ => rfl) (fun r hr k hk h => by rw [← (hrow r hr).2 k hk]; exact h), fun a => a.congr (fun _ _ => rfl) (fun r hr k hk h => by rw [(hrow r hr).2 k hk]; exact h)⟩
    rw [assign_cheap.l0, if_neg (by omega)]
    have hil := hR.row i hi
    have ecc : rd (rd_L1 C (i : Int)) (j : Int) = cc C i j := rfl
    have hcb := hR.par.hc i hi j hj
    rcases solve_out hRL 20000 (by decide) with ⟨tt, u, v, e, S⟩ | ⟨e, H⟩
    · rw [e, Option.bind_some, if_pos (by omega), if_pos (by omega), if_pos (by omega), if_pos (by omega), ecc]
      have hc0 : ∀ r, r < m - i - 1 → 0 ≤ cc X r (fl tt r).toNat ∧ cc X r (fl tt r).toNat ≤ 1073741824 := fun r hr => ⟨S.asg.ok r hr, hRL.par.hc r hr _ (S.asg.lt r hr)⟩
      have hl2 := ch_l2 (c := c) (spent := spent + cc C i j) (L := X) (more := tt) (z := true) (M := m - i - 1) (by omega) hX S.lt hRL.row (fun r hr => by have h1 := S.nn r hr; have h2 : (fl tt r).toNat < n := S.asg.lt r hr; omega) hc0 (m - i - 1) 0 (wrap64 (spent + cc C i j)) (by omega)
        (by rw [w64 (by omega)]; simp [sm]) (by omega) k (by omega)
      rw [show ((0 : Nat) : Int) = 0 from rfl] at hl2
      simp only
      rw [hl2, if_pos rfl]
      refine ⟨_, rfl, ?_⟩
      rw [beq_iff_eq]
      have heq : sm (m - i - 1) (fun r => cc X r (fl tt r).toNat) = cst (lft (cc C) i j (fb taken)) (m - i - 1) (fun r => (fl tt r).toNat) := hco _ S.asg.lt
      rw [heq]
      constructor
      · intro h; exact ⟨_, (hA _).1 S.asg, h⟩
      · rintro ⟨g, a, hg⟩
        have h1 := S.least ((hA g).2 a)
        rw [hco _ S.asg.lt, hco _ a.lt] at h1
        have h2 := hmin _ ((hA _).1 S.asg)
        omega
    · rw [e, Option.bind_some, if_pos (by omega), if_pos (by omega), if_pos (by omega), if_pos (by omega)]
      simp only [List.length_nil]
      obtain ⟨k, rfl⟩ : ∃ a, k = a + 1 := ⟨k - 1, by omega⟩
      rw [assign_cheap.l2, if_neg (by decide), if_neg (by decide)]
      refine ⟨false, rfl, ?_⟩
      constructor
      · intro h; cases h
      · rintro ⟨g, a, hg⟩
        exact (asg_none H ((hA g).2 a)).elim
  | succ d ih =>
    intro q X hd hX hrow k hk
    obtain ⟨k, rfl⟩ : ∃ a, k = a + 1 := ⟨k - 1, by omega⟩
    have hrl := hR.row (i + 1 + q) (by omega)
    rw [assign_cheap.l0, if_pos (by omega), if_pos (by omega), if_pos (by omega), rd_L1_drop]
    unfold slices_Clone_int_int.f
    rw [if_pos (by omega), Option.bind_some, if_pos (by omega), if_pos (by omega), Int.toNat_natCast]
    have hj2 : j < (rd_L1 C ((i + 1 + q : Nat) : Int)).length := by omega
    refine ch_l1 (Nz := 20 + d * 20) (P := fun o => ∃ b, o = some b ∧ (b = true ↔ ∃ g, Asg (lft (cc C) i j (fb taken)) (m - i - 1) n g ∧ spent + cc C i j + cst (lft (cc C) i j (fb taken)) (m - i - 1) g = c)) (row := rd_L1 C ((i + 1 + q : Nat) : Int)) hn16 (by omega) hX htk (fun y hy hyv k hk => ?_) n 0 _ (by omega) (by rw [List.length_set]; exact hrl) (fun x hx => ?_) k (by omega)
    · refine ih (q + 1) (X ++ [y]) (by omega) (by rw [List.length_append, hX]; rfl) (fun r hr => ?_) k hk
      show (rd_L1 (X ++ [y]) (r : Int)).length = n ∧ ∀ k, k < n → rd (rd_L1 (X ++ [y]) (r : Int)) (k : Int) = lft (cc C) i j (fb taken) r k
      rw [rd_L1_app, hX]
      by_cases e : r < q
      · rw [if_pos e]; exact hrow r e
      · have : r = q := by omega
        subst this
        rw [if_neg e, if_pos rfl]
        exact ⟨hy, fun k hk => hyv k hk⟩
    · rw [fl_set hj2]
      by_cases e : x = j
      · rw [if_pos e, if_pos (.inl e)]
      · rw [if_neg e, if_neg]; rintro (h | h); exact e h; exact absurd h.1 (by omega)

/-- What cheap tells. -/
theorem cheap_eq (hR : Rw C m n) (hi : i < m) (hj : j < n) (htk : taken.length = n) (hs : 0 ≤ spent ∧ spent ≤ 50000000000)
    (hmin : ∀ g, Asg (lft (cc C) i j (fb taken)) (m - i - 1) n g → fb taken j = false → 0 ≤ cc C i j → c ≤ spent + cc C i j + cst (lft (cc C) i j (fb taken)) (m - i - 1) g) :
    ∃ b, assign_cheap.f 2000 (i : Int) (j : Int) taken C (n : Int) spent c = some b ∧ (b = true ↔ fb taken j = false ∧ 0 ≤ cc C i j ∧ ∃ g, Asg (lft (cc C) i j (fb taken)) (m - i - 1) n g ∧ spent + cc C i j + cst (lft (cc C) i j (fb taken)) (m - i - 1) g = c) := by
  have hm16 := hR.par.hm
  have hn16 := hR.par.hn
  have hCl := hR.len
  have hil := hR.row i hi
  unfold assign_cheap.f
  rw [if_pos (by omega), if_pos (by omega)]
  have ej : rdOf false taken (j : Int) = fb taken j := rfl
  rw [ej]
  cases hb : fb taken j with
  | true => rw [if_pos rfl, assign_cheap.j0, if_pos rfl]; exact ⟨false, rfl, by simp⟩
  | false =>
    rw [if_neg (by decide), if_pos (by omega), if_pos (by omega), if_pos (by omega)]
    have ecc : rd (rd_L1 C (i : Int)) (j : Int) = cc C i j := rfl
    rw [ecc]
    by_cases h0 : cc C i j < 0
    · rw [decide_eq_true h0, assign_cheap.j0, if_pos rfl]; exact ⟨false, rfl, by simp; intro h; omega⟩
    · rw [decide_eq_false h0, assign_cheap.j0, if_neg (by decide), w1 i (by omega), if_pos (by omega), if_pos (by omega), Option.bind_some, Int.toNat_natCast]
      obtain ⟨b, e, hb2⟩ := ch_l0 hR hi hj htk (by omega) hs (fun g a => hmin g a hb (by omega)) (m - i - 1) 0 [] (by omega) rfl (fun r hr => by omega) 1999 (by omega)
      rw [show ((0 : Nat) : Int) = 0 from rfl] at e
      refine ⟨b, e, ?_⟩
      rw [hb2]
      exact ⟨fun h => ⟨rfl, by omega, h⟩, fun h => h.2.2⟩
end
end Go.Proofs.Ytgiinjfandeddaa.Q

namespace Go.Proofs.Ytgiinjfandeddaa.Q
open Go.RowKit Go.Proofs.YtgiinjfandeddaaW.PrintWords Go.Proofs.YtgiinjfandeddaaW.PrintLast Go.Proofs.YtgiinjfandeddaaW.PrintMore Go.Proofs.Ytgiinjfandeddaa.As
set_option linter.unusedVariables false
set_option linter.unusedSimpArgs false

/-- the columns of a row of numbers -/
def tn (l : List Int) (r : Nat) : Nat := (fl l r).toNat
theorem fl_app (l : List Int) (x : Int) (r : Nat) : fl (l ++ [x]) r = if r < l.length then fl l r else if r = l.length then x else 0 := by
  unfold fl rd
  rw [Int.toNat_natCast, List.getD_eq_getElem?_getD, List.getD_eq_getElem?_getD, List.getElem?_append]
  by_cases h : r < l.length
  · rw [if_pos h, if_pos h]
  · rw [if_neg h, if_neg h]
    by_cases e : r = l.length
    · subst e; simp
    · rw [if_neg e, List.getElem?_eq_none (by simp; omega)]; rfl

section
variable {C : List (List Int)} {m n : Nat} {taken : List Bool} {i j : Nat} {spent c : Int}

/-- the first i rows have columns -/
structure Bg (C : List (List Int)) (m n : Nat) (c : Int) (i : Nat) (taken : List Bool) (spent : Int) (tt : List Int) : Prop where
  len : tt.length = i
  nn : ∀ r, r < i → 0 ≤ fl tt r
  lt : ∀ r, r < i → tn tt r < n ∧ 0 ≤ cc C r (tn tt r)
  inj : ∀ r, r < i → ∀ s, s < i → tn tt r = tn tt s → r = s
  tl : taken.length = n
  tk : ∀ k, k < n → (fb taken k = true ↔ ∃ r, r < i ∧ tn tt r = k)
  sp : spent = sm i (fun r => cc C r (tn tt r))
  ex : ∃ f, Asg (cc C) m n f ∧ cst (cc C) m f = c ∧ ∀ r, r < i → f r = tn tt r
  first : ∀ s, s < i → ∀ f, Asg (cc C) m n f → cst (cc C) m f = c → (∀ r, r < s → f r = tn tt r) → tn tt s ≤ f s

theorem Bg.spb {tt : List Int} (h : Bg C m n c i taken spent tt) (hR : Rw C m n) (hi : i ≤ m) : 0 ≤ spent ∧ spent ≤ 17179869184 := by
  have hm16 := hR.par.hm
  have hb := sm_bound (v := fun r => cc C r (tn tt r)) (a := 0) (b := 1073741824) i (fun r hr => ⟨(h.lt r hr).2, hR.par.hc r (by omega) _ (h.lt r hr).1⟩)
  rw [h.sp]
  have : (i : Int) ≤ 16 := by omega
  omega

theorem fj_out (hR : Rw C m n) (hmin : ∀ f, Asg (cc C) m n f → c ≤ cst (cc C) m f) {tt : List Int} (h : Bg C m n c i taken spent tt) (hi : i < m) : ∀ (d j j1 k : Nat), j1 = j + d → j1 < n → Ext (cc C) m n c (tn tt) i j1 → (∀ x, x < j → ¬ Ext (cc C) m n c (tn tt) i x) → d < k →
    ∃ j0 : Nat, j0 ≤ j1 ∧ fj C taken (n : Int) spent c (i : Int) k (j : Int) = some (j0 : Int) ∧ Ext (cc C) m n c (tn tt) i j0 ∧ ∀ x, x < j0 → ¬ Ext (cc C) m n c (tn tt) i x := by
  have hn16 := hR.par.hn
  have hsp := h.spb hR (Nat.le_of_lt hi)
  have hg : ∀ (D : Int) (j : Nat), Ext (cc C) m n D (tn tt) i j ↔ j < n ∧ fb taken j = false ∧ 0 ≤ cc C i j ∧ ∃ g, Asg (lft (cc C) i j (fb taken)) (m - i - 1) n g ∧ spent + cc C i j + cst (lft (cc C) i j (fb taken)) (m - i - 1) g = D := fun D j => by rw [h.sp]; exact glue hi h.lt h.inj h.tk
  intro d
  induction d with
  | zero =>
    intro j j1 k hj1 hjn hE hno hk
    obtain ⟨k, rfl⟩ : ∃ a, k = a + 1 := ⟨k - 1, by omega⟩
    have : j1 = j := by omega
    subst this
    obtain ⟨b, e, hb⟩ := cheap_eq (c := c) (spent := spent) hR hi hjn h.tl ⟨hsp.1, by omega⟩ (fun g a h1 h2 => by
      obtain ⟨f, af, hf, _⟩ := (hg _ j1).2 ⟨hjn, h1, h2, g, a, rfl⟩
      have := hmin f af
      omega)
    have hbt : b = true := hb.2 ((hg c j1).1 hE).2
    rw [fj, e, Option.bind_some, if_pos hbt]
    exact ⟨j1, Nat.le_refl _, rfl, hE, hno⟩
  | succ d ih =>
    intro j j1 k hj1 hjn hE hno hk
    obtain ⟨k, rfl⟩ : ∃ a, k = a + 1 := ⟨k - 1, by omega⟩
    have hjn2 : j < n := by omega
    obtain ⟨b, e, hb⟩ := cheap_eq (c := c) (spent := spent) hR hi hjn2 h.tl ⟨hsp.1, by omega⟩ (fun g a h1 h2 => by
      obtain ⟨f, af, hf, _⟩ := (hg _ j).2 ⟨hjn2, h1, h2, g, a, rfl⟩
      have := hmin f af
      omega)
    rw [fj, e, Option.bind_some]
    by_cases hbt : b = true
    · rw [if_pos hbt]
      exact ⟨j, by omega, rfl, (hg c j).2 ⟨hjn2, hb.1 hbt⟩, hno⟩
    · rw [if_neg hbt, w1 j (by omega)]
      refine ih (j + 1) j1 k (by omega) hjn hE (fun x hx hEx => ?_) (by omega)
      by_cases e : x < j
      · exact hno x e hEx
      · have : x = j := by omega
        subst this
        exact hbt (hb.2 ((hg c x).1 hEx).2)

theorem bo_out (hR : Rw C m n) (hmin : ∀ f, Asg (cc C) m n f → c ≤ cst (cc C) m f) (d : Nat) : ∀ (i : Nat) (taken : List Bool) (spent : Int) (tt : List Int), i + d = m → Bg C m n c i taken spent tt → ∀ k, d < k →
    ∃ TT, bo C (n : Int) c k (i : Int) taken spent tt = some TT ∧ TT.length = m ∧ (∀ r, r < m → 0 ≤ fl TT r) ∧ IsBest (cc C) m n c (tn TT) := by
  have hn16 := hR.par.hn
  have hm16 := hR.par.hm
  have hCl := hR.len
  induction d with
  | zero =>
    intro i taken spent tt hd h k hk
    obtain ⟨k, rfl⟩ : ∃ a, k = a + 1 := ⟨k - 1, by omega⟩
    have : i = m := by omega
    subst this
    rw [bo, if_neg (by omega)]
    refine ⟨tt, rfl, h.len, h.nn, ⟨fun r hr => (h.lt r hr).1, fun r hr => (h.lt r hr).2, h.inj⟩, ?_, hmin, h.first⟩
    obtain ⟨f, a, hf, he⟩ := h.ex
    rw [← hf]
    exact cst_congr (fun r hr => by rw [he r hr])
  | succ d ih =>
    intro i taken spent tt hd h k hk
    obtain ⟨k, rfl⟩ : ∃ a, k = a + 1 := ⟨k - 1, by omega⟩
    have hi : i < m := by omega
    have hil := hR.row i hi
    have hsp := h.spb hR (Nat.le_of_lt hi)
    rw [bo, if_pos (by omega)]
    obtain ⟨f, a, hf, he⟩ := h.ex
    obtain ⟨j0, hj0, efj, hE, hno⟩ := fj_out hR hmin h hi (f i) 0 (f i) 64 (by omega) (a.lt i hi) ⟨f, a, hf, he, rfl⟩ (fun x hx => by omega) (by have := a.lt i hi; omega)
    have hj0n : j0 < n := by have := a.lt i hi; omega
    rw [show ((0 : Nat) : Int) = 0 from rfl] at efj
    obtain ⟨f2, a2, hf2, he2, hfi⟩ := hE
    have htl := h.tl
    have hlen := h.len
    have hcb := hR.par.hc i hi j0 hj0n
    have hc0 : 0 ≤ cc C i j0 := by rw [← hfi]; exact a2.ok i hi
    have ecc : rd (rd_L1 C (i : Int)) (j0 : Int) = cc C i j0 := rfl
    rw [efj, Option.bind_some, if_pos ⟨by omega, by omega, by omega, by omega⟩, ecc, w64 (by omega), Int.toNat_natCast, show (i : Int) + 1 = ((i + 1 : Nat) : Int) from rfl]
    have t1 : ∀ r, r < i → tn (tt ++ [(j0 : Int)]) r = tn tt r := fun r hr => by unfold tn; rw [fl_app, if_pos (by omega)]
    have t2 : tn (tt ++ [(j0 : Int)]) i = j0 := by unfold tn; rw [fl_app, if_neg (by omega), if_pos (by omega), Int.toNat_natCast]
    have hnew : ∀ r, r < i → tn tt r ≠ j0 := fun r hr e => by
      have := a2.inj r (by omega) i hi (by rw [he2 r hr, hfi]; exact e)
      omega
    refine ih (i + 1) _ _ _ (by omega) ⟨by rw [List.length_append, hlen]; rfl, ?_, ?_, ?_, by rw [List.length_set]; exact htl, ?_, ?_, ⟨f2, a2, hf2, ?_⟩, ?_⟩ k (by omega)
    · intro r hr
      rw [fl_app]
      split
      · exact h.nn r (by omega)
      · split <;> omega
    · intro r hr
      by_cases e : r = i
      · subst e; rw [t2]; exact ⟨hj0n, hc0⟩
      · rw [t1 r (by omega)]; exact h.lt r (by omega)
    · intro r hr s hs e
      by_cases e1 : r = i
      · by_cases e2 : s = i
        · omega
        · rw [e1, t2, t1 s (by omega)] at e; exact (hnew s (by omega) e.symm).elim
      · by_cases e2 : s = i
        · rw [e2, t2, t1 r (by omega)] at e; exact (hnew r (by omega) e).elim
        · rw [t1 r (by omega), t1 s (by omega)] at e; exact h.inj r (by omega) s (by omega) e
    · intro k hk
      rw [fb_set (by omega)]
      by_cases e : k = j0
      · rw [if_pos e]; exact ⟨fun _ => ⟨i, by omega, by rw [t2, e]⟩, fun _ => rfl⟩
      · rw [if_neg e, h.tk k hk]
        constructor
        · rintro ⟨r, hr, hre⟩; exact ⟨r, by omega, by rw [t1 r hr]; exact hre⟩
        · rintro ⟨r, hr, hre⟩
          by_cases e1 : r = i
          · rw [e1, t2] at hre; exact (e hre.symm).elim
          · rw [t1 r (by omega)] at hre; exact ⟨r, by omega, hre⟩
    · simp only [sm]
      rw [t2, h.sp]
      congr 1
      exact sm_congr i (fun r hr => by rw [t1 r hr])
    · intro r hr
      by_cases e : r = i
      · rw [e, t2]; exact hfi
      · rw [t1 r (by omega)]; exact he2 r (by omega)
    · intro s hs g ag hg hgr
      by_cases e : s = i
      · subst e
        rw [t2]
        by_cases hlt : g s < j0
        · exact (hno _ hlt ⟨g, ag, hg, fun r hr => by rw [hgr r hr, t1 r hr], rfl⟩).elim
        · omega
      · rw [t1 s (by omega)]
        exact h.first s (by omega) g ag hg (fun r hr => by rw [hgr r hr, t1 r (by omega)])
end

theorem rw_of {C : List (List Int)} (g : Good C) : Rw C C.length (widthV C) where
  len := rfl
  row := fun r hr => g.len r (by omega) (by omega)
  par := ⟨g.rows, g.cols, fun r hr j hj => (g.low r j (by omega) (by omega) (by omega) (by omega)).2⟩

theorem bsum_eq {C : List (List Int)} {m n : Nat} {own : List Int} (hR : Rw C m n) (nn : ∀ r, r < m → 0 ≤ fl own r) (a : Asg (cc C) m n (tn own)) : ∀ i, i ≤ m → bsum C own i = sm i (fun r => cc C r (tn own r))
  | 0, _ => rfl
  | i + 1, h => by
    have hm16 := hR.par.hm
    have hb := sm_bound (v := fun r => cc C r (tn own r)) (a := 0) (b := 1073741824) i (fun r hr => ⟨a.ok r (by omega), hR.par.hc r (by omega) _ (a.lt r (by omega))⟩)
    have e : rd (rd_L1 C (i : Int)) (rd own (i : Int)) = cc C i (tn own i) := by
      have h0 := nn i (by omega)
      unfold cc tn
      rw [Int.toNat_of_nonneg h0]; rfl
    have h1 := a.ok i (by omega)
    have h2 := hR.par.hc i (by omega) _ (a.lt i (by omega))
    have : (i : Int) ≤ 16 := by omega
    rw [bsum, bsum_eq hR nn a i (by omega), e, w64 (by omega)]
    rfl

/-- What Best gives for right costs. -/
theorem best_out {C : List (List Int)} (g : Good C) : (∃ TT c, assign_Best.f C = some (TT, c, true, 0) ∧ TT.length = C.length ∧ (∀ r, r < C.length → 0 ≤ fl TT r) ∧ IsBest (cc C) C.length (widthV C) c (tn TT)) ∨ (assign_Best.f C = some ([], 0, false, 0) ∧ HallP (cc C) C.length (widthV C)) := by
  have hR := rw_of g
  unfold assign_Best.f
  rw [check_eq C 64 (by decide), good_iff C g, Option.bind_some, if_pos rfl]
  rcases solve_out hR 20000 (by decide) with ⟨own, u, v, e, S⟩ | ⟨e, H⟩
  · have hasg : Asg (cc C) C.length (widthV C) (tn own) := S.asg
    have hbs := bsum_eq hR S.nn hasg C.length (Nat.le_refl _)
    have hlo := S.lt
    have hin : inR C own = true := by
      unfold inR
      rw [Bool.and_eq_true]
      refine ⟨by simp; omega, List.all_eq_true.2 fun i hi => ?_⟩
      have hi := List.mem_range.1 hi
      have h1 : (0 : Int) ≤ rd own (i : Int) := S.nn i (by omega)
      have h2 : tn own i < widthV C := hasg.lt i (by omega)
      have h3 := hR.row i (by omega)
      have h4 : tn own i = (rd own (i : Int)).toNat := rfl
      rw [Bool.and_eq_true]
      exact ⟨decide_eq_true h1, decide_eq_true (by omega)⟩
    rw [e, Option.bind_some, if_pos rfl, if_pos hin, hlo, hbs]
    refine .inl ?_
    have hmin : ∀ f, Asg (cc C) C.length (widthV C) f → sm C.length (fun r => cc C r (tn own r)) ≤ cst (cc C) C.length f := fun f a => S.least a
    obtain ⟨TT, h1, h2, h3, h4⟩ := bo_out (c := sm C.length (fun r => cc C r (tn own r))) hR hmin C.length 0 (List.replicate (widthV C) false) 0 [] (by omega)
      ⟨rfl, fun r hr => by omega, fun r hr => by omega, fun r hr => by omega, List.length_replicate, fun k hk => by rw [fb_rep]; exact ⟨fun h => (by cases h), fun ⟨r, hr, _⟩ => by omega⟩, rfl, ⟨tn own, hasg, rfl, fun r hr => by omega⟩, fun s hs => by omega⟩ 64 (by have := g.rows; omega)
    rw [show ((0 : Nat) : Int) = 0 from rfl] at h1
    exact ⟨TT, _, by rw [h1]; rfl, h2, h3, h4⟩
  · rw [e, Option.bind_some, if_neg (by decide)]
    exact .inr ⟨rfl, H⟩
theorem best_bad {C : List (List Int)} (h : chkV C ≠ 0) : assign_Best.f C = some ([], 0, false, chkV C) := by
  unfold assign_Best.f
  rw [check_eq C 64 (by decide), Option.bind_some, if_neg h]
end Go.Proofs.Ytgiinjfandeddaa.Q

namespace Go.Proofs.Ytgiinjfandeddaa.Q
open Go.RowKit Go.Proofs.YtgiinjfandeddaaW.PrintWords Go.Proofs.YtgiinjfandeddaaW.PrintLast Go.Proofs.YtgiinjfandeddaaW.PrintMore Go.Proofs.Ytgiinjfandeddaa.As
set_option linter.unusedVariables false
set_option linter.unusedSimpArgs false

theorem sane14_at : fastilaw14_sane.f 20000 = some true := by kernel_rfl
theorem sane14 (k : Nat) (hk : 20000 ≤ k) : fastilaw14_sane.f k = some true := by
  have up : ∀ d : Nat, fastilaw14_sane.f (20000 + d) = some true := by
    intro d
    induction d with
    | zero => exact sane14_at
    | succ d ih => exact fastilaw14_sane.mono (20000 + d) true ih
  obtain ⟨d, rfl⟩ : ∃ d, k = 20000 + d := ⟨k - 20000, by omega⟩
  exact up d

theorem chk_cases (C : List (List Int)) : chkV C = 0 ∨ chkV C = 2 ∨ chkV C = 140 := by
  unfold chkV
  split
  · exact .inr (.inl rfl)
  · split
    · exact .inl rfl
    · exact .inr (.inr rfl)

/-- Few -/
def fewV (C : List (List Int)) : Bool := decide (C.length ≤ 20) && (List.range C.length).all fun i => decide ((rd_L1 C (i : Int)).length ≤ 20)
theorem few_l0 (C : List (List Int)) (hC : C.length ≤ 20) : ∀ (d i : Nat), i + d = C.length → ∀ k, d < k → fastiref14_Few.l0 k C (i : Int) = some ((List.range' i d).all fun i => decide ((rd_L1 C (i : Int)).length ≤ 20))
  | 0, i, hd, k, hk => by
    obtain ⟨k, rfl⟩ : ∃ a, k = a + 1 := ⟨k - 1, by omega⟩
    rw [fastiref14_Few.l0, if_neg (by omega)]
    rfl
  | d + 1, i, hd, k, hk => by
    obtain ⟨k, rfl⟩ : ∃ a, k = a + 1 := ⟨k - 1, by omega⟩
    rw [fastiref14_Few.l0, if_pos (by omega), if_pos (by omega), List.range'_succ, List.all_cons]
    by_cases h : (rd_L1 C (i : Int)).length ≤ 20
    · rw [if_neg (by omega), decide_eq_true h, Bool.true_and, w1 i (by omega)]
      exact few_l0 C hC d (i + 1) (by omega) k (by omega)
    · rw [if_pos (by omega), decide_eq_false h, Bool.false_and]
theorem few_eq (C : List (List Int)) (k : Nat) (hk : 30 ≤ k) : fastiref14_Few.f k C = some (fewV C) := by
  unfold fastiref14_Few.f fewV
  by_cases h : C.length ≤ 20
  · rw [if_neg (by omega), decide_eq_true h, Bool.true_and, List.range_eq_range']
    exact few_l0 C h C.length 0 (by omega) k (by omega)
  · rw [if_pos (by omega), decide_eq_false h, Bool.false_and]

/-- the reference's Check -/
theorem rck_row {C : List (List Int)} {Nz i : Nat} {v : Int} (hi : i < C.length) (hi2 : C.length ≤ 16) (hl : (rd_L1 C (i : Int)).length ≤ 16) (H : ∀ k, Nz ≤ k → fastiref14_Check.l1 k C ((i + 1 : Nat) : Int) = some v) : ∀ (d j : Nat), j + d = (rd_L1 C (i : Int)).length → ∀ k, d + 1 + Nz ≤ k →
    fastiref14_Check.l2 k C (i : Int) (j : Int) = some (if ((rd_L1 C (i : Int)).drop j).all okCost = true then v else 140)
  | 0, j, hd, k, hk => by
    obtain ⟨k, rfl⟩ : ∃ a, k = a + 1 := ⟨k - 1, by omega⟩
    rw [fastiref14_Check.l2, if_pos (by omega), if_pos (by omega), if_neg (by omega), w1 i (by omega), H k (by omega), List.drop_of_length_le (by omega)]
    rfl
  | d + 1, j, hd, k, hk => by
    obtain ⟨k, rfl⟩ : ∃ a, k = a + 1 := ⟨k - 1, by omega⟩
    have hj : j < (rd_L1 C (i : Int)).length := by omega
    have e : rd (rd_L1 C (i : Int)) (j : Int) = (rd_L1 C (i : Int))[j] := by simp [rd, rdOf, List.getD_eq_getElem?_getD, List.getElem?_eq_getElem hj]
    rw [fastiref14_Check.l2, if_pos (by omega), if_pos (by omega), if_pos (by omega), if_pos (by omega), List.drop_eq_getElem_cons hj, List.all_cons, ← e]
    by_cases h1 : rd (rd_L1 C (i : Int)) (j : Int) < -1
    · rw [if_pos h1, show okCost (rd (rd_L1 C (i : Int)) (j : Int)) = false by unfold okCost; simp; omega, Bool.false_and, if_neg (by decide)]
    · rw [if_neg h1]
      by_cases h2 : rd (rd_L1 C (i : Int)) (j : Int) > 1073741824
      · rw [if_pos h2, show okCost (rd (rd_L1 C (i : Int)) (j : Int)) = false by unfold okCost; simp; omega, Bool.false_and, if_neg (by decide)]
      · rw [if_neg h2, show okCost (rd (rd_L1 C (i : Int)) (j : Int)) = true by unfold okCost; simp; omega, Bool.true_and, w1 j (by omega)]
        exact rck_row hi hi2 hl H d (j + 1) (by omega) k (by omega)
theorem rck_l1 {C : List (List Int)} (hi2 : C.length ≤ 16) (hl : C.all okRow = true) : ∀ (d i : Nat), i + d = C.length → ∀ k, d * 20 + 1 ≤ k →
    fastiref14_Check.l1 k C (i : Int) = some (if (List.range' i d).all (rowOk C) then 0 else 140)
  | 0, i, hd, k, hk => by
    obtain ⟨k, rfl⟩ : ∃ a, k = a + 1 := ⟨k - 1, by omega⟩
    rw [fastiref14_Check.l1, if_neg (by omega)]; rfl
  | d + 1, i, hd, k, hk => by
    obtain ⟨k, rfl⟩ : ∃ a, k = a + 1 := ⟨k - 1, by omega⟩
    have hlen : (rd_L1 C (i : Int)).length ≤ 16 := by
      have := List.all_eq_true.1 hl _ (rd_mem (i := i) (by omega))
      unfold okRow at this
      have := of_decide_eq_true this
      omega
    have hw : widthV C = (rd_L1 C 0).length := by unfold widthV; rw [if_neg (by omega)]
    rw [fastiref14_Check.l1, if_pos (by omega), if_pos (by omega), if_pos (by omega), List.range'_succ, List.all_cons]
    by_cases h1 : (rd_L1 C (i : Int)).length = widthV C
    · have hro : rowOk C i = (rd_L1 C (i : Int)).all okCost := by unfold rowOk; rw [decide_eq_true h1, Bool.true_and]
      have hrow := rck_row (Nz := d * 20 + 1) (by omega) hi2 hlen (fun k hk => rck_l1 hi2 hl d (i + 1) (by omega) k hk) (rd_L1 C (i : Int)).length 0 (by omega) k (by omega)
      rw [show ((0 : Nat) : Int) = 0 from rfl] at hrow
      rw [if_pos (by omega), hrow, List.drop_zero, hro]
      cases (rd_L1 C (i : Int)).all okCost with
      | true => rw [if_pos rfl, Bool.true_and]
      | false => rw [if_neg (by decide), Bool.false_and]; rfl
    · have hro : rowOk C i = false := by unfold rowOk; rw [decide_eq_false h1, Bool.false_and]
      rw [if_neg (by omega), hro, Bool.false_and]; rfl
theorem rck_l0 {C : List (List Int)} (hi2 : C.length ≤ 16) : ∀ (d i : Nat), i + d = C.length → ∀ k, d + 500 ≤ k →
    (∀ r : Nat, r < i → (rd_L1 C (r : Int)).length ≤ 16) → fastiref14_Check.l0 k C (i : Int) = some (chkV C)
  | 0, i, hd, k, hk, hr => by
    obtain ⟨k, rfl⟩ : ∃ a, k = a + 1 := ⟨k - 1, by omega⟩
    have hl : C.all okRow = true := by
      rw [List.all_eq_true]
      intro x hx
      obtain ⟨r, hr2, rfl⟩ := List.getElem_of_mem hx
      have := hr r (by omega)
      rw [show rd_L1 C (r : Int) = C[r] by simp [rd_L1, List.getD_eq_getElem?_getD, List.getElem?_eq_getElem hr2]] at this
      unfold okRow
      exact decide_eq_true (by omega)
    have h1 := rck_l1 hi2 hl C.length 0 (by omega) k (by omega)
    rw [show ((0 : Nat) : Int) = 0 from rfl] at h1
    rw [fastiref14_Check.l0, if_neg (by omega), h1]
    unfold chkV
    rw [if_neg (show ¬ (16 < C.length ∨ C.all okRow = false) by rw [hl]; simp; omega), List.range_eq_range']
  | d + 1, i, hd, k, hk, hr => by
    obtain ⟨k, rfl⟩ : ∃ a, k = a + 1 := ⟨k - 1, by omega⟩
    rw [fastiref14_Check.l0, if_pos (by omega), if_pos (by omega)]
    by_cases h : (rd_L1 C (i : Int)).length ≤ 16
    · rw [if_neg (by omega), w1 i (by omega)]
      exact rck_l0 hi2 d (i + 1) (by omega) k (by omega) (fun r hr2 => by
        by_cases e : r < i
        · exact hr r e
        · have : r = i := by omega
          subst this; exact h)
    · rw [if_pos (by omega)]
      unfold chkV
      rw [if_pos]
      right
      rw [List.all_eq_false]
      exact ⟨_, rd_mem (i := i) (by omega), by unfold okRow; simp; omega⟩
theorem rck_eq (C : List (List Int)) (k : Nat) (hk : 600 ≤ k) : fastiref14_Check.f k C = some (chkV C) := by
  unfold fastiref14_Check.f
  by_cases h : C.length > 16
  · rw [if_pos (by omega)]; unfold chkV; rw [if_pos (.inl h)]
  · rw [if_neg (by omega)]
    have := rck_l0 (C := C) (by omega) C.length 0 (by omega) k (by omega) (fun r hr => by omega)
    exact this
theorem cols_eq (C : List (List Int)) : fastiref14_columns.f C = some (widthV C : Int) := by
  unfold fastiref14_columns.f widthV
  by_cases h : C.length = 0
  · rw [if_pos (by omega), if_pos h]; rfl
  · rw [if_neg (by omega), if_pos (by omega), if_neg h]

theorem right_eq (C : List (List Int)) (k : Nat) (hk : 600 ≤ k) : ∃ b, fastilaw14_right.f k C = some b ∧ (b = true → Good C) := by
  unfold fastilaw14_right.f
  rw [few_eq C k (by omega), Option.bind_some]
  cases fewV C with
  | false => exact ⟨false, by rw [if_neg (by decide)], fun h => by cases h⟩
  | true =>
    rw [if_pos rfl, rck_eq C k hk, Option.bind_some]
    exact ⟨_, rfl, fun h => good_of C (by simpa using h)⟩

/-- Same -/
theorem same_l0 {a b : List Int} (h : a = b) (hl : a.length ≤ 1000) : ∀ (d i : Nat), i + d = a.length → ∀ k, d < k → fastiref14_Same.l0 k a b (i : Int) = some true
  | 0, i, hd, k, hk => by
    obtain ⟨k, rfl⟩ : ∃ a, k = a + 1 := ⟨k - 1, by omega⟩
    rw [fastiref14_Same.l0, if_neg (by omega)]
  | d + 1, i, hd, k, hk => by
    obtain ⟨k, rfl⟩ : ∃ a, k = a + 1 := ⟨k - 1, by omega⟩
    subst h
    rw [fastiref14_Same.l0, if_pos (by omega), if_pos (by omega), if_pos (by omega), if_pos rfl, w1 i (by omega)]
    exact same_l0 rfl hl d (i + 1) (by omega) k (by omega)
theorem same_eq (a : List Int) (hl : a.length ≤ 1000) (k : Nat) (hk : 1010 ≤ k) : fastiref14_Same.f k a a = some true := by
  unfold fastiref14_Same.f
  rw [if_pos rfl]
  exact same_l0 rfl hl a.length 0 (by omega) k (by omega)
end Go.Proofs.Ytgiinjfandeddaa.Q

namespace Go.Proofs.Ytgiinjfandeddaa.Q
open Go.RowKit Go.Proofs.YtgiinjfandeddaaW.PrintWords Go.Proofs.YtgiinjfandeddaaW.PrintLast Go.Proofs.YtgiinjfandeddaaW.PrintMore Go.Proofs.Ytgiinjfandeddaa.As
set_option linter.unusedVariables false
set_option linter.unusedSimpArgs false

/-- increasing numbers below n -/
def Inc (n : Int) (l : List Int) : Prop := l.Pairwise (· < ·) ∧ ∀ x, x ∈ l → 0 ≤ x ∧ x < n

theorem iota_in : ∀ (c : Nat) (a x : Int), a ≤ x → x < a + c → x ∈ iota a c
  | 0, a, x, h1, h2 => by omega
  | c + 1, a, x, h1, h2 => by
    simp only [iota, List.mem_cons]
    by_cases e : x = a
    · exact .inl e
    · exact .inr (iota_in c (a + 1) x (by omega) (by omega))

theorem inc_room {n : Int} : ∀ (t : List Int) (i : Int), (i :: t).Pairwise (· < ·) → (∀ x, x ∈ i :: t → x < n) → i + t.length < n
  | [], i, _, h => by have := h i (by simp); simp; exact this
  | a :: t, i, hp, h => by
    rw [List.pairwise_cons] at hp
    have h1 := hp.1 a (by simp)
    have h2 := inc_room t a hp.2 (fun x hx => h x (List.mem_cons_of_mem _ hx))
    simp only [List.length_cons]
    omega

theorem fromV_le {p t : List Int} {i : Int} (hp : (p ++ i :: t).Pairwise (· < ·)) (h0 : 0 ≤ i) : fromV p ≤ i := by
  unfold fromV
  split
  · rename_i h
    rw [List.pairwise_append] at hp
    have := hp.2.2 (p.getD (p.length - 1) 0) (by rw [List.getD_eq_getElem?_getD, List.getElem?_eq_getElem (by omega), Option.getD_some]; exact List.getElem_mem _) i (by simp)
    omega
  · exact h0

theorem exts_mem (n k : Int) : ∀ (d : Nat) (p t : List Int), (p.length : Int) + d = k → t.length = d → Inc n (p ++ t) → p ++ t ∈ exts n k d p
  | 0, p, t, hk, ht, h => by
    have : t = [] := List.length_eq_zero_iff.1 ht
    subst this
    simp [exts]
  | d + 1, p, t, hk, ht, h => by
    cases t with
    | nil => simp at ht
    | cons i t =>
      simp only [List.length_cons] at ht
      simp only [exts, List.mem_flatMap]
      have hi := h.2 i (by simp)
      have h1 := fromV_le h.1 hi.1
      have h2 := inc_room t i (List.pairwise_append.1 h.1).2.1 (fun x hx => (h.2 x (List.mem_append_right _ hx)).2)
      refine ⟨i, iota_in _ _ _ h1 (by omega), ?_⟩
      have e : p ++ i :: t = (p ++ [i]) ++ t := by simp
      rw [e] at h ⊢
      exact exts_mem n k d (p ++ [i]) t (by simp; omega) (by omega) h

theorem exts_inc (n k : Int) : ∀ (d : Nat) (p : List Int), (p.length : Int) + d = k → Inc n p → ∀ l, l ∈ exts n k d p → (l.length : Int) = k ∧ Inc n l
  | 0, p, hk, h, l, hl => by
    simp only [exts, List.mem_singleton] at hl
    subst hl
    exact ⟨by omega, h⟩
  | d + 1, p, hk, h, l, hl => by
    simp only [exts, List.mem_flatMap] at hl
    obtain ⟨i, hi, hl⟩ := hl
    have h1 := iota_mem _ _ _ hi
    have hle : ∀ x, x ∈ p → x < i := fun x hx => by
      obtain ⟨q, hq, rfl⟩ := List.getElem_of_mem hx
      have hf : p.getD (p.length - 1) 0 + 1 ≤ i := by have := h1.1; unfold fromV at this; rw [if_pos (by omega)] at this; exact this
      rw [List.getD_eq_getElem?_getD, List.getElem?_eq_getElem (by omega), Option.getD_some] at hf
      by_cases e : q = p.length - 1
      · subst e; omega
      · have := List.pairwise_iff_getElem.1 h.1 q (p.length - 1) hq (by omega) (by omega)
        omega
    have hf0 : 0 ≤ fromV p := by
      unfold fromV
      split
      · rename_i h0
        have := h.2 (p.getD (p.length - 1) 0) (by rw [List.getD_eq_getElem?_getD, List.getElem?_eq_getElem (by omega), Option.getD_some]; exact List.getElem_mem _)
        omega
      · exact Int.le_refl _
    refine exts_inc n k d (p ++ [i]) (by simp; omega) ⟨List.pairwise_append.2 ⟨h.1, List.pairwise_singleton _ _, fun a ha b hb => ?_⟩, fun x hx => ?_⟩ l hl
    · rw [List.mem_singleton] at hb; subst hb; exact hle a ha
    · rw [List.mem_append, List.mem_singleton] at hx
      rcases hx with hx | rfl
      · exact h.2 x hx
      · omega

/-- the columns that the rows l have -/
def colsV (C : List (List Int)) (l : List Int) (n : Nat) : List Nat := (List.range n).filter fun j => !l.all (okD C j)
theorem many_cols (C : List (List Int)) (l : List Int) : ∀ n : Nat, manyV C l n = ((colsV C l n).length : Int)
  | 0 => rfl
  | n + 1 => by
    unfold colsV
    rw [List.range_succ, List.filter_append, List.length_append, manyV, many_cols C l n]
    unfold colsV
    cases h : l.all (okD C (n : Int)) <;> simp [h]
theorem cols_mem {C : List (List Int)} {l : List Int} {n j : Nat} : j ∈ colsV C l n ↔ j < n ∧ ∃ i, i ∈ l ∧ 0 ≤ rd (rd_L1 C i) (j : Int) := by
  unfold colsV
  rw [List.mem_filter, List.mem_range, Bool.not_eq_true', List.all_eq_false]
  unfold okD
  simp

theorem hall_of {C : List (List Int)} {m n : Nat} {l : List Int} (hl : Inc (m : Int) l) (hb : manyV C l n < (l.length : Int)) : HallP (cc C) m n := by
  refine ⟨l.map Int.toNat, colsV C l n, ?_, ?_, ?_, ?_⟩
  · rw [List.nodup_iff_pairwise_ne, List.pairwise_map]
    refine hl.1.imp_of_mem (fun {x y} hx hy hlt e => ?_)
    have h1 := hl.2 x hx
    have h2 := hl.2 y hy
    omega
  · intro r hr
    obtain ⟨x, hx, rfl⟩ := List.mem_map.1 hr
    have := hl.2 x hx
    omega
  · intro r hr j hj h0
    obtain ⟨x, hx, rfl⟩ := List.mem_map.1 hr
    have h1 := hl.2 x hx
    refine cols_mem.2 ⟨hj, x, hx, ?_⟩
    unfold cc at h0
    rwa [Int.toNat_of_nonneg h1.1] at h0
  · rw [many_cols] at hb
    rw [List.length_map]
    omega
theorem of_hall {C : List (List Int)} {m n : Nat} (h : HallP (cc C) m n) : ∃ l, Inc (m : Int) l ∧ l.length ≤ m ∧ manyV C l n < (l.length : Int) := by
  obtain ⟨S, T, h1, h2, h3, h4⟩ := h
  refine ⟨((List.range m).filter fun i => decide (i ∈ S)).map Int.ofNat, ⟨?_, ?_⟩, ?_, ?_⟩
  · rw [List.pairwise_map]
    refine (List.Pairwise.filter _ (List.pairwise_lt_range)).imp (fun {a b} h => ?_)
    exact Int.ofNat_lt.2 h
  · intro x hx
    obtain ⟨i, hi, rfl⟩ := List.mem_map.1 hx
    have := List.mem_range.1 (List.mem_filter.1 hi).1
    exact ⟨Int.natCast_nonneg i, Int.ofNat_lt.2 this⟩
  · rw [List.length_map]
    have := List.length_filter_le (fun i => decide (i ∈ S)) (List.range m)
    rwa [List.length_range] at this
  · rw [many_cols, List.length_map]
    have a1 := len_le S ((List.range m).filter fun i => decide (i ∈ S)) h1 (fun x hx => List.mem_filter.2 ⟨List.mem_range.2 (h2 x hx), by simpa using hx⟩)
    have a2 := len_le (colsV C (((List.range m).filter fun i => decide (i ∈ S)).map Int.ofNat) n) T (List.nodup_iff_pairwise_ne.2 (List.Pairwise.filter _ (List.nodup_iff_pairwise_ne.1 List.nodup_range))) (fun j hj => by
      obtain ⟨hjn, i, hi, h0⟩ := cols_mem.1 hj
      obtain ⟨r, hr, rfl⟩ := List.mem_map.1 hi
      exact h3 r (by simpa using (List.mem_filter.1 hr).2) j hjn h0)
    omega

theorem denyL_out (C : List (List Int)) : ∀ (d : Nat) (k : Nat), 1 ≤ k → (∃ l, denyL C d (k : Int) = some l ∧ Inc (C.length : Int) l ∧ k ≤ l.length ∧ manyV C l (widthV C) < (l.length : Int)) ∨ (denyL C d (k : Int) = none ∧ ∀ l, Inc (C.length : Int) l → k ≤ l.length → l.length < k + d → (l.length : Int) ≤ manyV C l (widthV C))
  | 0, k, hk => .inr ⟨rfl, fun l _ h1 h2 => by omega⟩
  | d + 1, k, hk => by
    rw [denyL]
    cases hf : (exts (C.length : Int) (k : Int) (k : Int).toNat []).find? (badV C (k : Int)) with
    | some l =>
      have h1 := List.find?_some hf
      have h2 := List.mem_of_find?_eq_some hf
      have h3 := exts_inc _ _ _ [] (by simp) ⟨List.Pairwise.nil, fun x hx => by simp at hx⟩ l h2
      unfold badV at h1
      have h4 := of_decide_eq_true h1
      exact .inl ⟨l, rfl, h3.2, by omega, by rw [h3.1]; exact h4⟩
    | none =>
      simp only
      rw [show (k : Int) + 1 = ((k + 1 : Nat) : Int) from rfl]
      rcases denyL_out C d (k + 1) (by omega) with ⟨l, e, h1, h2, h3⟩ | ⟨e, h⟩
      · exact .inl ⟨l, e, h1, by omega, h3⟩
      · refine .inr ⟨e, fun l hl h1 h2 => ?_⟩
        by_cases e2 : l.length = k
        · have hm := exts_mem (C.length : Int) (k : Int) k [] l (by simp) e2 hl
          have := List.find?_eq_none.1 hf ([] ++ l) (by rw [Int.toNat_natCast]; exact hm)
          unfold badV at this
          simp at this
          rw [e2]
          exact this
        · exact h l hl (by omega) (by omega)

/-- What Deny gives. -/
theorem deny_out {C : List (List Int)} (g : Good C) : (∃ l, assign_Deny.f C = some (l, true, 0) ∧ Inc (C.length : Int) l ∧ manyV C l (widthV C) < (l.length : Int) ∧ HallP (cc C) C.length (widthV C)) ∨ (assign_Deny.f C = some ([], false, 0) ∧ ¬ HallP (cc C) C.length (widthV C)) := by
  unfold assign_Deny.f
  rw [check_eq C 64 (by decide), good_iff C g, Option.bind_some, if_pos rfl]
  have h := denyL_out C C.length 1 (Nat.le_refl _)
  rw [show ((1 : Nat) : Int) = 1 from rfl] at h
  rcases h with ⟨l, e, h1, h2, h3⟩ | ⟨e, h⟩
  · rw [e]
    exact .inl ⟨l, rfl, h1, h3, hall_of h1 h3⟩
  · rw [e]
    refine .inr ⟨rfl, fun hh => ?_⟩
    obtain ⟨l, h1, h2, h3⟩ := of_hall hh
    have := h l h1 (by have := (manyV_bounds C l (widthV C)).1; omega) (by omega)
    omega
end Go.Proofs.Ytgiinjfandeddaa.Q

namespace Go.Proofs.Ytgiinjfandeddaa.Q
open Go.RowKit Go.Proofs.Ytgiinjfandeddaa.Opn Go.Proofs.YtgiinjfandeddaaW.PrintWords Go.Proofs.YtgiinjfandeddaaW.PrintLast
set_option maxRecDepth 100000
end Go.Proofs.Ytgiinjfandeddaa.Q

namespace Go.Proofs.Ytgiinjfandeddaa.Q
open Go.RowKit Go.Proofs.YtgiinjfandeddaaW.PrintWords Go.Proofs.YtgiinjfandeddaaW.PrintLast
def fastilaw14_AssignTurned.Pure : Prop := ∀ (l0 : List (List Int)), (fun l_ : List (List Int) => l_.length * 24 ≤ 140737488351232 ∧ ∀ a, a ∈ l_ → (fun l_ : List Int => l_.length * 8 ≤ 140737488351232 ∧ ∀ a, a ∈ l_ → (fun a_ : Int => (Lit.int .i64 a_).wf = true) a) a) l0 → ∃ k, fastilaw14_AssignTurned.f k l0 = some true
end Go.Proofs.Ytgiinjfandeddaa.Q

namespace Go.Proofs.Ytgiinjfandeddaa.Pure
open Go.RowKit Go.Proofs.Ytgiinjfandeddaa.Q Go.Proofs.Ytgiinjfandeddaa.As Go.Proofs.YtgiinjfandeddaaW.PrintWords Go.Proofs.YtgiinjfandeddaaW.PrintLast
set_option linter.unusedVariables false

theorem sur {m : Nat} {f : Nat → Nat} (h1 : ∀ r, r < m → f r < m) (h2 : ∀ r, r < m → ∀ s, s < m → f r = f s → r = s) (j : Nat) (hj : j < m) : ∃ r, r < m ∧ f r = j := by
  by_cases h : ∃ r, r < m ∧ f r = j
  · exact h
  · exfalso
    have := len_le ((List.range m).map f) ((List.range m).erase j) (by
      rw [List.nodup_iff_pairwise_ne, List.pairwise_map]
      refine List.Pairwise.imp_of_mem ?_ (List.nodup_iff_pairwise_ne.1 (List.nodup_range (n := m)))
      intro x y hx hy hne e
      exact hne (h2 x (List.mem_range.1 hx) y (List.mem_range.1 hy) e)) (fun x hx => by
      obtain ⟨r, hr, rfl⟩ := List.mem_map.1 hx
      have hr := List.mem_range.1 hr
      exact (List.mem_erase_of_ne (fun e => h ⟨r, hr, e⟩)).2 (List.mem_range.2 (h1 r hr)))
    rw [List.length_map, List.length_range, List.length_erase_of_mem (List.mem_range.2 hj), List.length_range] at this
    omega

theorem flip {c d : Nat → Nat → Int} {m : Nat} {f : Nat → Nat} (h : ∀ r, r < m → ∀ j, j < m → d j r = c r j) (a : Asg c m m f) : ∃ g, Asg d m m g ∧ cst d m g = cst c m f := by
  have hs := sur a.lt a.inj
  have hg : ∃ g : Nat → Nat, ∀ j, j < m → g j < m ∧ f (g j) = j := by
    refine ⟨fun j => if hj : j < m then Classical.choose (hs j hj) else 0, fun j hj => ?_⟩
    simp only [dif_pos hj]
    exact Classical.choose_spec (hs j hj)
  obtain ⟨g, hg⟩ := hg
  have hgf : ∀ r, r < m → g (f r) = r := fun r hr => a.inj _ (hg _ (a.lt r hr)).1 r hr (hg _ (a.lt r hr)).2
  refine ⟨g, ⟨fun j hj => (hg j hj).1, fun j hj => ?_, fun j hj k hk e => ?_⟩, ?_⟩
  · rw [h _ (hg j hj).1 j hj]
    have := a.ok _ (hg j hj).1
    rwa [(hg j hj).2] at this
  · rw [← (hg j hj).2, ← (hg k hk).2, e]
  · unfold cst
    rw [sm_congr m (g := fun j => d j (g j)) (h := fun j => c (g j) j) (fun j hj => h _ (hg j hj).1 j hj)]
    rw [sm_inj_eq m m f (fun j => c (g j) j) a.lt a.inj (fun j hj hn => by obtain ⟨r, hr, e⟩ := hs j hj; exact (hn r hr e).elim)]
    exact sm_congr m (fun r hr => by rw [hgf r hr])

/-- the turned costs, as far as the row i -/
structure Tu (C : List (List Int)) (m : Nat) (X : List (List Int)) (t : Nat → Nat) : Prop where
  len : X.length = m
  row : ∀ j, j < m → (rd_L1 X (j : Int)).length = t j
  val : ∀ j, j < m → ∀ r, r < t j → cc X j r = cc C r j

theorem rd_L1_set {X : List (List Int)} {i : Nat} (h : i < X.length) (x : List Int) (j : Nat) : rd_L1 (X.set i x) (j : Int) = if j = i then x else rd_L1 X (j : Int) := by
  unfold rd_L1
  rw [Int.toNat_natCast, List.getD_eq_getElem?_getD, List.getD_eq_getElem?_getD, List.getElem?_set]
  by_cases e : i = j
  · subst e; rw [if_pos rfl, if_pos rfl, if_pos h]; rfl
  · rw [if_neg e, if_neg (fun h => e h.symm)]

theorem Tu.step {C X : List (List Int)} {m i j : Nat} (h : Tu C m X (fun y => if y < j then i + 1 else i)) (hj : j < m) : Tu C m (X.set j (rd_L1 X (j : Int) ++ [rd (rd_L1 C (i : Int)) (j : Int)])) (fun y => if y < j + 1 then i + 1 else i) where
  len := by rw [List.length_set]; exact h.len
  row := fun y hy => by
    have hX := h.len
    have hr := h.row y hy
    rw [rd_L1_set (by omega)]
    by_cases e : y = j
    · subst e
      simp only [Nat.lt_irrefl, if_false] at hr
      rw [if_pos rfl, List.length_append, hr, if_pos (by omega)]; rfl
    · rw [if_neg e, hr]
      by_cases e2 : y < j
      · rw [if_pos e2, if_pos (by omega)]
      · rw [if_neg e2, if_neg (by omega)]
  val := fun y hy r hr => by
    have hX := h.len
    have hr2 := h.row y hy
    have hv := h.val y hy r
    show rd (rd_L1 (X.set j _) (y : Int)) (r : Int) = _
    rw [rd_L1_set (by omega)]
    by_cases e : y = j
    · subst e
      simp only [Nat.lt_irrefl, if_false] at hr2 hv
      rw [if_pos rfl]
      show fl _ r = _
      rw [fl_app, hr2]
      by_cases e2 : r < i
      · rw [if_pos e2]; exact hv e2
      · rw [if_pos (by omega)] at hr
        have : r = i := by omega
        subst this
        rw [if_neg e2, if_pos rfl]; rfl
    · rw [if_neg e]
      refine hv ?_
      by_cases e2 : y < j
      · rw [if_pos (by omega)] at hr; rw [if_pos e2]; exact hr
      · rw [if_neg (by omega)] at hr; rw [if_neg e2]; exact hr

section
variable {C : List (List Int)} {m : Nat}
theorem tu_l1 {Nz i : Nat} (hR : Rw C m m) (hi : i < m) (H : ∀ X, Tu C m X (fun _ => i + 1) → ∀ k, Nz ≤ k → fastilaw14_AssignTurned.l0 k C X C (m : Int) ((i + 1 : Nat) : Int) = some true) :
    ∀ (d j : Nat) (X : List (List Int)), j + d = m → Tu C m X (fun y => if y < j then i + 1 else i) → ∀ k, d + 1 + Nz ≤ k → fastilaw14_AssignTurned.l1 k C X C (m : Int) (i : Int) (rd_L1 C (i : Int)) ((rd_L1 C (i : Int)).length : Int) (j : Int) = some true
  | 0, j, X, hd, h, k, hk => by
    obtain ⟨k, rfl⟩ : ∃ a, k = a + 1 := ⟨k - 1, by omega⟩
    have hm16 := hR.par.hm
    have hil := hR.row i hi
    rw [fastilaw14_AssignTurned.l1, if_neg (by omega), w1 i (by omega)]
    exact H X ⟨h.len, fun y hy => by rw [h.row y hy, if_pos (by omega)], fun y hy r hr => h.val y hy r (by rw [if_pos (by omega)]; exact hr)⟩ k (by omega)
  | d + 1, j, X, hd, h, k, hk => by
    obtain ⟨k, rfl⟩ : ∃ a, k = a + 1 := ⟨k - 1, by omega⟩
    have hm16 := hR.par.hm
    have hil := hR.row i hi
    have hX := h.len
    have hr := h.row j (by omega)
    rw [if_neg (by omega)] at hr
    rw [fastilaw14_AssignTurned.l1, if_pos (by omega), if_pos (by omega), if_pos (by omega), if_pos (by omega), if_pos (by omega), Int.toNat_natCast, w1 j (by omega)]
    exact tu_l1 hR hi H d (j + 1) _ (by omega) (h.step (by omega)) k (by omega)

theorem tu_end (g : Q.Good C) (hw : widthV C = C.length) (h0 : 0 < C.length) {X : List (List Int)} (h : Tu C C.length X (fun _ => C.length)) (k : Nat) : fastilaw14_AssignTurned.l0 (k + 1) C X C (C.length : Int) (C.length : Int) = some true := by
  have hX := h.len
  have hXw : widthV X = C.length := by
    unfold widthV
    rw [if_neg (by omega)]
    exact h.row 0 h0
  have gX : Q.Good X := by
    refine ⟨by rw [hX]; exact g.rows, by rw [hXw]; exact g.rows, fun i h1 h2 => ?_, fun i j h1 h2 h3 h4 => ?_⟩
    · have := h.row i.toNat (by omega)
      rw [Int.toNat_of_nonneg h1] at this
      rw [this, hXw]
    · have hv := h.val i.toNat (by omega) j.toNat (by omega)
      unfold cc at hv
      rw [Int.toNat_of_nonneg h1, Int.toNat_of_nonneg h3] at hv
      rw [hv]
      exact g.low j i h3 (by omega) h1 (by omega)
  have t1 : ∀ r, r < C.length → ∀ j, j < C.length → cc X j r = cc C r j := fun r hr j hj => h.val j hj r hr
  have t2 : ∀ r, r < C.length → ∀ j, j < C.length → cc C j r = cc X r j := fun r hr j hj => (h.val r hr j hj).symm
  have b1 := best_out g
  have b2 := best_out gX
  have b3 := deny_out gX
  rw [hw] at b1
  rw [hX, hXw] at b2 b3
  rw [fastilaw14_AssignTurned.l0, if_neg (by omega)]
  rcases b1 with ⟨TT, c, e1, _, _, B1⟩ | ⟨e1, H1⟩
  · obtain ⟨g2, a2, hc2⟩ := flip t1 B1.asg
    rcases b2 with ⟨SS, d, e2, _, _, B2⟩ | ⟨e2, H2⟩
    · obtain ⟨g1, a1, hc1⟩ := flip t2 B2.asg
      have i1 := B1.least g1 a1
      have i2 := B2.least g2 a2
      rw [hc1, B2.cst] at i1
      rw [hc2, B1.cst] at i2
      have hcd : c = d := by omega
      rcases b3 with ⟨l, e3, _, _, H3⟩ | ⟨e3, _⟩
      · exact (asg_none H3 B2.asg).elim
      · rw [e1, Option.bind_some, e2, Option.bind_some, e3, Option.bind_some]; simp [hcd]
    · exact (asg_none H2 a2).elim
  · rcases b2 with ⟨SS, d, e2, _, _, B2⟩ | ⟨e2, H2⟩
    · obtain ⟨g1, a1, hc1⟩ := flip t2 B2.asg
      exact (asg_none H1 a1).elim
    · rcases b3 with ⟨l, e3, _, _, H3⟩ | ⟨e3, H3⟩
      · rw [e1, Option.bind_some, e2, Option.bind_some, e3, Option.bind_some]; simp
      · exact (H3 H2).elim

theorem tu_l0 (g : Q.Good C) (hw : widthV C = C.length) (h0 : 0 < C.length) : ∀ (d i : Nat) (X : List (List Int)), i + d = C.length → Tu C C.length X (fun _ => i) → ∀ k, d * 20 + 20 ≤ k → fastilaw14_AssignTurned.l0 k C X C (C.length : Int) (i : Int) = some true
  | 0, i, X, hd, h, k, hk => by
    obtain ⟨k, rfl⟩ : ∃ a, k = a + 1 := ⟨k - 1, by omega⟩
    have : i = C.length := by omega
    subst this
    exact tu_end g hw h0 h k
  | d + 1, i, X, hd, h, k, hk => by
    obtain ⟨k, rfl⟩ : ∃ a, k = a + 1 := ⟨k - 1, by omega⟩
    have hm16 := g.rows
    have hR := rw_of g
    rw [hw] at hR
    rw [fastilaw14_AssignTurned.l0, if_pos (by omega), if_pos (by omega), if_pos (by omega)]
    obtain ⟨Nz, hNz⟩ : ∃ Nz, Nz = d * 20 + 20 := ⟨_, rfl⟩
    have hk2 : C.length + 1 + Nz ≤ k := by omega
    exact tu_l1 (Nz := Nz) hR (by omega) (fun X hX k hk => tu_l0 g hw h0 d (i + 1) X (by omega) hX k (by omega)) C.length 0 X (by omega) ⟨h.len, fun y hy => by rw [h.row y hy, if_neg (by omega)], fun y hy r hr => h.val y hy r (by rw [if_neg (by omega)] at hr; exact hr)⟩ k hk2
end

theorem AssignTurned : fastilaw14_AssignTurned.Pure := by
  intro l0 _
  refine ⟨30000, ?_⟩
  unfold fastilaw14_AssignTurned.f
  rw [sane14 30000 (by decide), Option.bind_some, if_pos rfl]
  have hT : fastilaw14_AssignTurned.j0 30000 l0 true = some true := by rw [fastilaw14_AssignTurned.j0, if_pos rfl]
  obtain ⟨b, e, hg⟩ := right_eq l0 30000 (by decide)
  rw [e, Option.bind_some]
  cases b with
  | false => rw [if_neg (by decide)]; exact hT
  | true =>
    have g := hg rfl
    have hm16 := g.rows
    rw [if_pos rfl]
    by_cases c1 : (l0.length : Int) = 0
    · rw [if_pos c1]; exact hT
    rw [if_neg c1, if_pos (by omega)]
    have hw : widthV l0 = (rd_L1 l0 0).length := by unfold widthV; rw [if_neg (by omega)]
    by_cases c2 : (rd_L1 l0 0).length = l0.length
    · rw [show (((rd_L1 l0 0).length : Int) != (l0.length : Int)) = false by rw [c2]; simp, fastilaw14_AssignTurned.j0, if_neg (by decide), if_pos (by omega), if_pos (by omega), Int.toNat_natCast]
      refine tu_l0 g (by omega) (by omega) l0.length 0 _ (by omega) ⟨List.length_replicate, fun j hj => ?_, fun j hj r hr => by omega⟩ 29999 (by omega)
      unfold rd_L1
      rw [Int.toNat_natCast, List.getD_eq_getElem?_getD, List.getElem?_replicate, if_pos hj]; rfl
    · rw [show (((rd_L1 l0 0).length : Int) != (l0.length : Int)) = true by simp; omega]; exact hT
end Go.Proofs.Ytgiinjfandeddaa.Pure

namespace Go.Proofs.Ytgiinjfandeddaa.assignTurned
open Go.ChangeShapes Go.WideShapes Go.ChangeAt Go.RowKit Go.Proofs.Ytgiinjfandeddaa.Q Go.Proofs.Ytgiinjfandeddaa.Opn Go.Proofs.YtgiinjfandeddaaW.PrintWords Go.Proofs.YtgiinjfandeddaaW.PrintLast
open Go.ChangeMaps (open_string shut_string)
set_option linter.unusedVariables false
theorem own : ownKnob Try.prog.godebug = none := by kernel_rfl
theorem laidOut : laidOutB Try.prog = true := by kernel_rfl
set_option maxRecDepth 100000 in
theorem lifted (os : Os) (started : os.Started) (H : Type) (enc : TypeId × Value → H) :
    ReturnsInHanded {} Try.checked os 10 .any (Rows.assignTurnedSpec.pre6 enc Try.prog Try.f10 Rows.assignTurnedRow.domain false) (Rows.assignTurnedSpec.post enc Try.prog Try.f10 false true false false) := by
  refine returnsInHanded_of_change_sized (C := Try.checked) own started (by kernel_rfl) Try.func10
    (ChangeSpec.witness6 (enc := enc) (C := Try.checked) false ⟨#[], #[.slice none 0 0], []⟩ 8 (by kernel_rfl) (by kernel_rfl) (by kernel_rfl) (by kernel_rfl)) ?_
  intro W base args ds gs before hval0 hW hcnd hsz0 _
  have hsz : (DataW.weightsEach Try.prog (Try.f10.params.toList ++ Rows.assignTurnedSpec.plain.varTypes Try.prog) (ds ++ gs)).all (· ≤ reachBytes) = true := hsz0
  have hval : ∀ (j : Nat) t v, Try.f10.params[j]? = some t → args[j]? = some v → Value.okWide Try.prog W .any base t v := hval0
  have hW' := hW
  obtain ⟨p, q, hA0, hV, rfl, hfz, hnd⟩ := hW
  have hA : DataW.TrodAll enc Try.prog W 0 (fun _ => true) true Try.f10.params.toList args.toList ds p := hA0
  rw [Try.params10] at hA hval hsz
  obtain ⟨v0, vs0, d0, ds0, p0, q0, hargs, rfl, rfl, h0, r0⟩ := trodAll_cons hA
  obtain ⟨rfl, rfl, rfl⟩ := trodAll_nil r0
  obtain rfl : args = #[v0] := by cases args; simp_all
  obtain ⟨rfl, rfl⟩ := trodVars_none hV
  have k0 := h0
  have lt0 : ∀ x ∈ p0, x.block < W.heap.size := by obtain ⟨m, hm⟩ := k0; exact DataW.trod_lt m _ _ _ hm
  obtain ⟨l0, hK0, hB0⟩ : ∃ a_ : List (List Int), (Kd.slice 23 (Kd.slice 3 (Kd.int .i64))).K W a_ v0.cells.toList ∧ (fun l_ : List (List Int) => l_.length * 24 ≤ 140737488351232 ∧ ∀ a, a ∈ l_ → (fun l_ : List Int => l_.length * 8 ≤ 140737488351232 ∧ ∀ a, a ∈ l_ → (fun a_ : Int => (Lit.int .i64 a_).wf = true) a) a) a_ := arg (j := 0) (opn_slice (sz := 1) Try.underlying22 (by kernel_rfl) rfl (by kernel_rfl) (opn_slice (sz := 1) Try.underlying23 (by kernel_rfl) rfl (by kernel_rfl) (opn_int Try.underlying3))) hsz rfl rfl h0
  obtain ⟨a0, len0, cap0, rfl⟩ := okWide_slice Try.underlying22 (hval 0 22 v0 rfl rfl)
  obtain ⟨A0, c0, he0, hc0, hr0⟩ := hK0
  obtain ⟨rfl, rfl, rfl⟩ : a0 = A0 ∧ len0 = l0.length ∧ cap0 = c0 := by have := List.cons.inj he0; simpa using this
  clear hA0 hval0 hsz0 hsz
  obtain ⟨k, h⟩ := Pure.AssignTurned l0 hB0
  refine (fastilaw14_AssignTurned.calls k _ _ l0 true W hr0 hc0 h).mono fun e W' he_ => ?_
  obtain ⟨he, bel0⟩ := he_
  subst he
  have bel : Below W.heap.size W W' := bel0
  exact ⟨_, rfl, _, _, _, [], _, [], hW', trodAll_mk1 (shut_bool Try.underlying4 _), (trodAll_cons_mk (Below.trod laidOut (by kernel_rfl) (of_decide_eq_true (by kernel_rfl)) k0 bel lt0) trodAll_mk0), rfl, bel.frame _, fun h => by cases h⟩
theorem over : Rows.assignTurnedRow.holds Try.pinned (OpenSpec.ofChange Rows.assignTurnedSpec) :=
  OpenClaim.holds_of_wide 10 Try.f10 rfl rfl rfl rfl rfl rfl rfl ⟨rfl, rfl, rfl, rfl, rfl⟩ rfl rfl rfl rfl rfl (by kernel_rfl) Try.func10 (by kernel_rfl)
    (of_decide_eq_true (by kernel_rfl)) (by unfold Func.isWrapper; first | (rw [if_pos (by decide +kernel)]; kernel_rfl) | (rw [if_neg (by decide +kernel)]; exact ⟨rfl, rfl⟩))
    (fun os started H enc _ => lifted os started H enc)
theorem proved : Rows.AssignTurnedSaid := over
#print axioms proved
end Go.Proofs.Ytgiinjfandeddaa.assignTurned
namespace Go.Proofs.Ytgiinjfandeddaa
theorem assignTurned_holds : Rows.AssignTurnedSaid := assignTurned.proved
end Go.Proofs.Ytgiinjfandeddaa
