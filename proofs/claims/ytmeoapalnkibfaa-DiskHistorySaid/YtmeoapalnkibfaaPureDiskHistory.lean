/- The plain law of DiskHistory. -/
import Derived.Test.YtmeoapalnkibfaaSayDiskHistory
import Derived.Test.YtmeoapalnkibfaaDlP
import Derived.OpenShut
namespace Go.Proofs.Ytmeoapalnkibfaa.Pure
open Go.RowKit Go.Proofs.Ytmeoapalnkibfaa.Q Go.Proofs.YtmeoapalnkibfaaW.PrintWords Go.Proofs.YtmeoapalnkibfaaW.PrintLast
set_option linter.unusedSimpArgs false
set_option linter.unusedVariables false

theorem wr_in {x : Int} (h : -9223372036854775808 ≤ x ∧ x ≤ 9223372036854775807) : wrap64 x = x := by
  unfold wrap64
  omega
theorem wr_up (n : Nat) (h : n ≤ 140737488351232) : wrap64 ((n : Int) + 1) = ((n + 1 : Nat) : Int) := by rw [wr_in (by omega)]; omega

/-- A sector whose halves begin with two bytes. -/
def sec (f s : Int) : List Int := ((List.replicate 128 (0 : Int)).set 0 f).set 64 s
theorem sec_len (f s : Int) : (sec f s).length = 128 := by simp [sec]
theorem sec_r0 (f s : Int) : rd (sec f s) 0 = f := rfl
set_option maxRecDepth 100000 in
theorem sec_r64 (f s : Int) : rd (sec f s) 64 = s := rfl
theorem sec_r1 (f s : Int) : rd (sec f s) 1 = 0 := rfl
set_option maxRecDepth 100000 in
theorem sec_r127 (f s : Int) : rd (sec f s) 127 = 0 := rfl
set_option maxRecDepth 100000 in
theorem half_sec (a b f s : Int) : halfV (sec a b) (sec f s) = sec a s := rfl
theorem pad_sec (f s : Int) : padV (sec f s) = sec f s := by
  unfold padV
  rw [sec_len]
  simp
def psec (f s : Nat → Int) : List (List Int) := [sec (f 0) (s 0), sec (f 1) (s 1), sec (f 2) (s 2), sec (f 3) (s 3)]
def upd (f : Nat → Int) (j : Nat) (x : Int) : Nat → Int := fun i => if i = j then x else f i
theorem upd_00 (f : Nat → Int) (x : Int) : upd f 0 x 0 = x := rfl
theorem upd_01 (f : Nat → Int) (x : Int) : upd f 0 x 1 = f 1 := rfl
theorem upd_02 (f : Nat → Int) (x : Int) : upd f 0 x 2 = f 2 := rfl
theorem upd_03 (f : Nat → Int) (x : Int) : upd f 0 x 3 = f 3 := rfl
theorem upd_10 (f : Nat → Int) (x : Int) : upd f 1 x 0 = f 0 := rfl
theorem upd_11 (f : Nat → Int) (x : Int) : upd f 1 x 1 = x := rfl
theorem upd_12 (f : Nat → Int) (x : Int) : upd f 1 x 2 = f 2 := rfl
theorem upd_13 (f : Nat → Int) (x : Int) : upd f 1 x 3 = f 3 := rfl
theorem upd_20 (f : Nat → Int) (x : Int) : upd f 2 x 0 = f 0 := rfl
theorem upd_21 (f : Nat → Int) (x : Int) : upd f 2 x 1 = f 1 := rfl
theorem upd_22 (f : Nat → Int) (x : Int) : upd f 2 x 2 = x := rfl
theorem upd_23 (f : Nat → Int) (x : Int) : upd f 2 x 3 = f 3 := rfl
theorem upd_30 (f : Nat → Int) (x : Int) : upd f 3 x 0 = f 0 := rfl
theorem upd_31 (f : Nat → Int) (x : Int) : upd f 3 x 1 = f 1 := rfl
theorem upd_32 (f : Nat → Int) (x : Int) : upd f 3 x 2 = f 2 := rfl
theorem upd_33 (f : Nat → Int) (x : Int) : upd f 3 x 3 = x := rfl
theorem psec_set (f s : Nat → Int) (j : Nat) (hj : j < 4) (a b : Int) : (psec f s).set j (sec a b) = psec (upd f j a) (upd s j b) := by
  match j, hj with
  | 0, _ => rfl
  | 1, _ => rfl
  | 2, _ => rfl
  | 3, _ => rfl
theorem psec_rd (f s : Nat → Int) (j : Nat) (hj : j < 4) : rd_L1 (psec f s) (j : Int) = sec (f j) (s j) := by
  match j, hj with
  | 0, _ => rfl
  | 1, _ => rfl
  | 2, _ => rfl
  | 3, _ => rfl
def at4 (y : S46) : Nat := (y.f1 % 4).toNat
theorem at4_lt (y : S46) : at4 y < 4 := by unfold at4; omega
theorem at4_tmod {y : S46} (h : 0 ≤ y.f1) : Int.tmod y.f1 4 = (at4 y : Int) := by
  rw [Int.tmod_eq_emod_of_nonneg h]
  unfold at4
  omega
def foldU (f : Nat → Int) (W : List S46) : Nat → Int := W.foldl (fun f y => upd f (at4 y) y.f2) f
theorem foldU_snoc (f : Nat → Int) (W : List S46) (y : S46) : foldU f (W ++ [y]) = upd (foldU f W) (at4 y) y.f2 := by
  unfold foldU
  rw [List.foldl_append]
  rfl
def wr (y : S46) : SW := ⟨(at4 y : Int), sec y.f2 y.f2⟩
theorem perf_psec (W : List S46) : ∀ f : Nat → Int, perfV (psec f f) (W.map wr) = psec (foldU f W) (foldU f W) := by
  induction W with
  | nil => intro f; rfl
  | cons y W ih =>
    intro f
    have h1 : perfV (psec f f) ((y :: W).map wr) = perfV ((psec f f).set (at4 y) (sec y.f2 y.f2)) (W.map wr) := rfl
    rw [h1, psec_set _ _ _ (at4_lt y), ih]
    rfl
theorem take_snoc {α : Type} (l : List α) (q : Nat) (h : q < l.length) : l.take (q + 1) = l.take q ++ [l[q]] := List.take_succ_eq_append_getElem h

theorem read_of {l0 : List (List Int)} {l1 : List SW} {a : Int} {s : Bool} (h : runsV l0 l1 a s = true) {i : Int} (h0 : 0 ≤ i) (h1 : i < l0.length) : readV l0 l1 a s i = ((match lastW l1 i with | some x => x.f1 | none => rd_L1 l0 i), 0) := by
  unfold readV
  rw [if_pos ⟨h, h0, h1⟩]
  rfl
theorem runs_psec (f s : Nat → Int) {a : Int} (ha : -1 ≤ a ∧ a ≤ 65536) : runsV (psec f s) [] a false = true := by
  rw [runs_two, dchk_iff]
  refine ⟨⟨⟨by simp [psec], by simp [psec], by simp, ha.1, ha.2⟩, by simp, ?_⟩, rfl⟩
  intro b hb
  simp only [psec, List.mem_cons, List.not_mem_nil, or_false] at hb
  rcases hb with rfl | rfl | rfl | rfl <;> simp [okS, sec_len]
theorem runs_pend (f s : Nat → Int) {a : Int} (ha : -1 ≤ a ∧ a ≤ 65536) (W : List S46) (hW : W.length ≤ 4096) : runsV (psec f s) (W.map wr) a false = true := by
  have h := runs_psec f s ha
  rw [runs_two, dchk_iff] at h ⊢
  obtain ⟨⟨h1, h2, h3⟩, h4⟩ := h
  refine ⟨⟨⟨h1.1, h1.2.1, by simpa using hW, h1.2.2.2⟩, ?_, h3⟩, rfl⟩
  intro x hx
  obtain ⟨y, hy, rfl⟩ := List.mem_map.1 hx
  have := at4_lt y
  exact okP_mk _ _ _ (by simp [wr]) (by simp [wr, psec]; omega) (sec_len _ _)
theorem read_pend (f : Nat → Int) {a : Int} (ha : -1 ≤ a ∧ a ≤ 65536) (W : List S46) (hW : W.length ≤ 4096) (i : Nat) (hi : i < 4) : readV (psec f f) (W.map wr) a false i = (sec (foldU f W i) (foldU f W i), 0) := by
  have hr := runs_pend f f ha W hW
  rw [read_of hr (by omega) (by simp [psec]; omega)]
  have hp := read_perf (psec f f) (i : Int) (by omega) (by simp [psec]; omega) _ (W.map wr) rfl (fun x hx => by
    obtain ⟨y, hy, rfl⟩ := List.mem_map.1 hx
    simp [wr])
  rw [perf_psec, psec_rd _ _ _ hi] at hp
  rw [hp]
  rfl
theorem read_psec (f s : Nat → Int) {a : Int} (ha : -1 ≤ a ∧ a ≤ 65536) (i : Nat) (hi : i < 4) : readV (psec f s) [] a false i = (sec (f i) (s i), 0) := by
  rw [read_of (runs_psec f s ha) (by omega) (by simp [psec]; omega)]
  have : lastW [] (i : Int) = none := rfl
  rw [this]
  simp only
  rw [psec_rd _ _ _ hi]

section
variable {l0 : List (List Int)} {l1 : List SW} {a : Int} {s : Bool} {f g : Nat → Int} (h : ∀ i : Nat, i < 4 → readV l0 l1 a s i = (sec (f i) (g i), 0))
include h
theorem holds_step (k i : Nat) (hi : i < 4) : fastilaw04_holds.l0 (k + 2) (i : Int) l0 l1 a s (f 0) (f 1) (f 2) (f 3) (g 0) (g 1) (g 2) (g 3) = fastilaw04_holds.l0 k ((i + 1 : Nat) : Int) l0 l1 a s (f 0) (f 1) (f 2) (f 3) (g 0) (g 1) (g 2) (g 3) := by
  have hr := h i hi
  have hl : ((sec (f i) (g i)).length : Int) = 128 := by rw [sec_len]; rfl
  have hw := wr_up i (by omega)
  have key : ∀ x7 : Int, x7 = (i : Int) → fastilaw04_holds.j1 (k + 1) x7 ((rd (sec (f i) (g i)) 127) != 0) l0 l1 a s (f 0) (f 1) (f 2) (f 3) (g 0) (g 1) (g 2) (g 3) = fastilaw04_holds.l0 k ((i + 1 : Nat) : Int) l0 l1 a s (f 0) (f 1) (f 2) (f 3) (g 0) (g 1) (g 2) (g 3) := by
    intro x7 hx
    subst hx
    simp only [fastilaw04_holds.j1, sec_r127, bne_self_eq_false]
    rw [if_neg (by decide), hw]
  simp only [fastilaw04_holds.l0]
  rw [if_pos (by omega)]
  simp only [disk_Read.f, Option.bind_some, hr, if_true, sec_r0, sec_r64, sec_r1]
  rw [if_pos hl, if_pos (by omega)]
  match i, hi with
  | 0, _ => repeat (first | rw [if_pos rfl] | rw [if_neg (by decide)] | rw [if_pos (by omega)])
            exact key _ rfl
  | 1, _ => repeat (first | rw [if_pos rfl] | rw [if_neg (by decide)] | rw [if_pos (by omega)])
            exact key _ rfl
  | 2, _ => repeat (first | rw [if_pos rfl] | rw [if_neg (by decide)] | rw [if_pos (by omega)])
            exact key _ rfl
  | 3, _ => repeat (first | rw [if_pos rfl] | rw [if_neg (by decide)] | rw [if_pos (by omega)])
            exact key _ rfl
theorem holds_true (k : Nat) (hk : 20 ≤ k) : fastilaw04_holds.f k l0 l1 a s (f 0) (f 1) (f 2) (f 3) (g 0) (g 1) (g 2) (g 3) = some true := by
  obtain ⟨k, rfl⟩ : ∃ m, k = m + 1 + 2 + 2 + 2 + 2 := ⟨k - 9, by omega⟩
  unfold fastilaw04_holds.f
  have h0 := holds_step h (k + 1 + 2 + 2 + 2) 0 (by omega)
  have h1 := holds_step h (k + 1 + 2 + 2) 1 (by omega)
  have h2 := holds_step h (k + 1 + 2) 2 (by omega)
  have h3 := holds_step h (k + 1) 3 (by omega)
  have e0 : ((0 : Nat) : Int) = 0 := rfl
  rw [e0] at h0
  rw [h0, h1, h2, h3]
  simp only [fastilaw04_holds.l0]
  rw [if_neg (by decide)]
end

/-- The bytes that first (second) halves begin with, behind q writes of which r + 1 (r) are performed. -/
def Aq (f : Nat → Int) (W : List S46) (r q : Nat) : Nat → Int := foldU f (W.take (min q (r + 1)))
def Bq (f : Nat → Int) (W : List S46) (r q : Nat) : Nat → Int := foldU f (W.take (min q r))

theorem rdA (W : List S46) (q : Nat) (h : q < W.length) : rd_T46 W (q : Int) = W[q] := by simp [rd_T46, List.getD, h]

theorem sync_loop (sc W : List S46) (hb : ∀ y ∈ W, 0 ≤ y.f1) (hW : W.length ≤ 100) (r : Nat) (x13 g : Int) (st : Bool) (f t : Nat → Int) (x0 : List (List Int)) (x1 : List SW) (x2 : Int) (x3 : Bool) (E K : Nat) (hE : E = min W.length (r + 1))
    (hend : ∀ k, K < k → fastilaw04_DiskHistory.j3 k sc W (r : Int) x13 g st (E : Int) false (t 0) (t 1) (t 2) (t 3) (Aq f W r E 0) (Aq f W r E 1) (Aq f W r E 2) (Aq f W r E 3) (Bq f W r E 0) (Bq f W r E 1) (Bq f W r E 2) (Bq f W r E 3) x0 x1 x2 x3 = some true) :
    ∀ (m q : Nat), q + m = E → ∀ k, K + 5 * m + 5 < k → fastilaw04_DiskHistory.l1 k sc W (r : Int) x13 g st (q : Int) (t 0) (t 1) (t 2) (t 3) (Aq f W r q 0) (Aq f W r q 1) (Aq f W r q 2) (Aq f W r q 3) (Bq f W r q 0) (Bq f W r q 1) (Bq f W r q 2) (Bq f W r q 3) x0 x1 x2 x3 = some true := by
  intro m
  induction m with
  | zero =>
    intro q hq k hk
    obtain rfl : q = E := by omega
    obtain ⟨k, rfl⟩ := Nat.exists_eq_succ_of_ne_zero (show k ≠ 0 by omega)
    have hd := hend k (by omega)
    simp only [fastilaw04_DiskHistory.l1]
    by_cases hl : (q : Int) < (W.length : Int)
    · rw [if_pos hl, decide_eq_false (by omega)]
      exact hd
    · rw [if_neg hl]
      exact hd
  | succ m ih =>
    intro q hq k hk
    obtain ⟨k, rfl⟩ : ∃ n, k = n + 1 + 1 + 1 + 1 := ⟨k - 4, by omega⟩
    have hlt : q < W.length := by omega
    have hy := hb _ (List.getElem_mem hlt)
    have hrd := rdA W q hlt
    have htm := at4_tmod hy
    have h4 := at4_lt (W[q])
    have hA : Aq f W r (q + 1) = upd (Aq f W r q) (at4 W[q]) (W[q]).f2 := by
      unfold Aq
      rw [show min (q + 1) (r + 1) = q + 1 from by omega, show min q (r + 1) = q from by omega, take_snoc _ _ hlt, foldU_snoc]
    have hB1 : (q : Int) < (r : Int) → Bq f W r (q + 1) = upd (Bq f W r q) (at4 W[q]) (W[q]).f2 := by
      intro hr
      unfold Bq
      rw [show min (q + 1) r = q + 1 from by omega, show min q r = q from by omega, take_snoc _ _ hlt, foldU_snoc]
    have hB2 : ¬ (q : Int) < (r : Int) → Bq f W r (q + 1) = Bq f W r q := by
      intro hr
      unfold Bq
      rw [show min (q + 1) r = min q r from by omega]
    have z1 : 0 ≤ (q : Int) := by omega
    have z2 : (q : Int) < (W.length : Int) := by omega
    have z3 : (q : Int) ≤ (r : Int) := by omega
    have ih1 := ih (q + 1) (by omega)
    have hw := wr_up q (by omega)
    -- behind the second array
    have tail : fastilaw04_DiskHistory.j5 (k + 1) sc W (r : Int) x13 g st (q : Int) (t 0) (t 1) (t 2) (t 3) (Aq f W r (q + 1) 0) (Aq f W r (q + 1) 1) (Aq f W r (q + 1) 2) (Aq f W r (q + 1) 3) (Bq f W r (q + 1) 0) (Bq f W r (q + 1) 1) (Bq f W r (q + 1) 2) (Bq f W r (q + 1) 3) x0 x1 x2 x3 = some true := by
      simp only [fastilaw04_DiskHistory.j5]
      rw [hw]
      exact ih1 k (by omega)
    clear ih ih1 hend
    have second : fastilaw04_DiskHistory.j4 (k + 1 + 1) sc W (r : Int) x13 g st (q : Int) (t 0) (t 1) (t 2) (t 3) (Aq f W r (q + 1) 0) (Aq f W r (q + 1) 1) (Aq f W r (q + 1) 2) (Aq f W r (q + 1) 3) (Bq f W r q 0) (Bq f W r q 1) (Bq f W r q 2) (Bq f W r q 3) x0 x1 x2 x3 = some true := by
      simp only [fastilaw04_DiskHistory.j4]
      by_cases hr : (q : Int) < (r : Int)
      · have hB := hB1 hr
        rw [hB] at tail
        rw [if_pos hr, if_pos z1, if_pos z2, hrd, htm]
        clear hA hB hB1 hB2 hr
        generalize Aq f W r (q + 1) = A at tail ⊢
        generalize Bq f W r q = B at tail ⊢
        generalize (W[q]).f2 = y at tail ⊢
        generalize at4 W[q] = c at h4 tail ⊢
        match c, h4 with
        | 0, _ => simp only [upd_00, upd_01, upd_02, upd_03] at tail; rw [if_pos (by decide)]; exact tail
        | 1, _ => simp only [upd_10, upd_11, upd_12, upd_13] at tail; rw [if_neg (by decide), if_pos (by decide)]; exact tail
        | 2, _ => simp only [upd_20, upd_21, upd_22, upd_23] at tail; rw [if_neg (by decide), if_neg (by decide), if_pos (by decide)]; exact tail
        | 3, _ => simp only [upd_30, upd_31, upd_32, upd_33] at tail; rw [if_neg (by decide), if_neg (by decide), if_neg (by decide), if_pos (by decide)]; exact tail
      · have hB := hB2 hr
        rw [hB] at tail
        rw [if_neg hr]
        exact tail
    clear tail
    simp only [fastilaw04_DiskHistory.l1]
    rw [if_pos z2, decide_eq_true z3]
    simp only [fastilaw04_DiskHistory.j3]
    simp only [if_true]
    rw [if_pos z1, if_pos z2, hrd, htm]
    rw [hA] at second
    clear hA hB1 hB2
    generalize Aq f W r q = A at second ⊢
    generalize Bq f W r q = B at second ⊢
    generalize (W[q]).f2 = y at second ⊢
    generalize at4 W[q] = c at h4 second ⊢
    match c, h4 with
    | 0, _ => simp only [upd_00, upd_01, upd_02, upd_03] at second; rw [if_pos (by decide)]; exact second
    | 1, _ => simp only [upd_10, upd_11, upd_12, upd_13] at second; rw [if_neg (by decide), if_pos (by decide)]; exact second
    | 2, _ => simp only [upd_20, upd_21, upd_22, upd_23] at second; rw [if_neg (by decide), if_neg (by decide), if_pos (by decide)]; exact second
    | 3, _ => simp only [upd_30, upd_31, upd_32, upd_33] at second; rw [if_neg (by decide), if_neg (by decide), if_neg (by decide), if_pos (by decide)]; exact second

theorem double_eq (c : Int) : fastilaw04_double.f c = some (sec c c) := by
  unfold fastilaw04_double.f
  simp only [Option.bind_some, List.length_replicate]
  rw [if_pos (by decide), if_pos (by decide)]
  rfl

theorem hist (sc : List S46) (hb : ∀ y ∈ sc, 0 ≤ y.f1 ∧ y.f1 ≤ 255) (hs : sc.length ≤ 40) : ∀ (m i : Nat), i + m = sc.length → ∀ (W : List S46) (r : Nat) (f : Nat → Int), (∀ y ∈ W, 0 ≤ y.f1) → W.length ≤ i → r ≤ 255 → ∀ k, 1000 * m + 1000 < k →
    fastilaw04_DiskHistory.l0 k sc W (r : Int) (i : Int) (psec f f) (W.map wr) (r : Int) false (foldU f W 0) (foldU f W 1) (foldU f W 2) (foldU f W 3) (f 0) (f 1) (f 2) (f 3) (f 0) (f 1) (f 2) (f 3) = some true := by
  intro m
  induction m with
  | zero =>
    intro i hi W r f hW hl hr k hk
    obtain ⟨k, rfl⟩ := Nat.exists_eq_succ_of_ne_zero (show k ≠ 0 by omega)
    simp only [fastilaw04_DiskHistory.l0]
    rw [if_neg (by omega)]
    simp only [disk_Restart.f, Option.bind_some]
    rw [holds_true (fun j hj => read_psec f f (by omega) j hj) k (by omega), Option.bind_some]
  | succ m ih =>
    intro i hi W r f hW hl hr k hk
    obtain ⟨k, rfl⟩ : ∃ n, k = n + 1 + 1 + 1 := ⟨k - 3, by omega⟩
    have hlt : i < sc.length := by omega
    have hy := hb _ (List.getElem_mem hlt)
    have hrd := rdA sc i hlt
    have hw := wr_up i (by omega)
    have hrun := runs_pend f f (a := (r : Int)) (by omega) W (by omega)
    simp only [fastilaw04_DiskHistory.l0]
    rw [if_pos (by omega), if_pos (by omega), hrd]
    by_cases hsy : (sc[i]).f0 = true
    · -- a sync
      rw [if_pos hsy]
      simp only [disk_Sync.f, Option.bind_some]
      by_cases hst : (r : Int) < (W.length : Int)
      · -- it stops
        have hyv : syncV (psec f f) (W.map wr) (r : Int) false = (psec (foldU f (W.take (r + 1))) (foldU f (W.take r)), [], 0, true, 40) := by
          unfold syncV
          rw [if_pos hrun, if_pos (by simp; omega)]
          have hlt2 : r < W.length := by omega
          have e1 : rd_T54 (W.map wr) (r : Int) = wr W[r] := by simp [rd_T54, List.getD, hlt2]
          unfold tornV
          rw [Int.toNat_natCast, e1, ← List.map_take, perf_psec]
          simp only [wr]
          rw [psec_rd _ _ _ (at4_lt _), half_sec, Int.toNat_natCast, psec_set _ _ _ (at4_lt _), take_snoc _ _ hlt2, foldU_snoc]
          congr 2
          funext j
          unfold upd
          split
          · rename_i h
            rw [h]
          · rfl
        rw [hyv]
        simp only
        rw [decide_eq_true (by omega)]
        have hend : ∀ k, 30 < k → fastilaw04_DiskHistory.j3 k sc W (r : Int) (i : Int) 40 true ((r + 1 : Nat) : Int) false (foldU f W 0) (foldU f W 1) (foldU f W 2) (foldU f W 3) (Aq f W r (r + 1) 0) (Aq f W r (r + 1) 1) (Aq f W r (r + 1) 2) (Aq f W r (r + 1) 3) (Bq f W r (r + 1) 0) (Bq f W r (r + 1) 1) (Bq f W r (r + 1) 2) (Bq f W r (r + 1) 3) (psec (foldU f (W.take (r + 1))) (foldU f (W.take r))) [] 0 true = some true := by
          intro k hk
          obtain ⟨k, rfl⟩ : ∃ n, k = n + 1 + 1 := ⟨k - 2, by omega⟩
          have e1 : Aq f W r (r + 1) = foldU f (W.take (r + 1)) := by unfold Aq; rw [Nat.min_self]
          have e2 : Bq f W r (r + 1) = foldU f (W.take r) := by unfold Bq; rw [show min (r + 1) r = r from by omega]
          rw [e1, e2]
          simp only [fastilaw04_DiskHistory.j3]
          rw [if_neg (by decide)]
          simp only [if_true, disk_Restart.f, Option.bind_some]
          rw [holds_true (fun j hj => read_psec (foldU f (W.take (r + 1))) (foldU f (W.take r)) (by omega) j hj) (k + 1) (by omega), Option.bind_some]
        have key := sync_loop sc W hW (by omega) r (i : Int) 40 true f (foldU f W) (psec (foldU f (W.take (r + 1))) (foldU f (W.take r))) [] 0 true (r + 1) 30 (by omega) hend (r + 1) 0 (by omega) (k + 1 + 1) (by omega)
        have z1 : Aq f W r 0 = f := by unfold Aq; rw [Nat.zero_min]; rfl
        have z2 : Bq f W r 0 = f := by unfold Bq; rw [Nat.zero_min]; rfl
        rw [z1, z2] at key
        exact key
      · -- it goes through
        have hyv : syncV (psec f f) (W.map wr) (r : Int) false = (psec (foldU f W) (foldU f W), [], ((r - W.length : Nat) : Int), false, 0) := by
          unfold syncV
          rw [if_pos hrun, if_neg (by simp; omega), perf_psec, if_pos (by omega), List.length_map]
          congr 3
          omega
        rw [hyv]
        simp only
        rw [decide_eq_false (by omega)]
        have hE : Aq f W r W.length = foldU f W := by unfold Aq; rw [List.take_of_length_le (by omega)]
        have hE2 : Bq f W r W.length = foldU f W := by unfold Bq; rw [List.take_of_length_le (by omega)]
        have hend : ∀ k, 1000 * m + 1500 < k → fastilaw04_DiskHistory.j3 k sc W (r : Int) (i : Int) 0 false (W.length : Int) false (foldU f W 0) (foldU f W 1) (foldU f W 2) (foldU f W 3) (Aq f W r W.length 0) (Aq f W r W.length 1) (Aq f W r W.length 2) (Aq f W r W.length 3) (Bq f W r W.length 0) (Bq f W r W.length 1) (Bq f W r W.length 2) (Bq f W r W.length 3) (psec (foldU f W) (foldU f W)) [] ((r - W.length : Nat) : Int) false = some true := by
          intro k hk
          obtain ⟨k, rfl⟩ : ∃ n, k = n + 1 + 1 := ⟨k - 2, by omega⟩
          rw [hE, hE2]
          simp only [fastilaw04_DiskHistory.j3]
          rw [if_neg (by decide), if_neg (by decide)]
          simp only [if_true]
          rw [wr_in (by omega), show (r : Int) - (W.length : Int) = ((r - W.length : Nat) : Int) from by omega]
          simp only [fastilaw04_DiskHistory.j7]
          rw [holds_true (fun j hj => read_psec (foldU f W) (foldU f W) (by omega) j hj) k (by omega), Option.bind_some, if_pos rfl, hw]
          exact ih (i + 1) (by omega) [] (r - W.length) (foldU f W) (by simp) (by simp) (by omega) k (by omega)
        have key := sync_loop sc W hW (by omega) r (i : Int) 0 false f (foldU f W) (psec (foldU f W) (foldU f W)) [] ((r - W.length : Nat) : Int) false W.length (1000 * m + 1500) (by omega) hend W.length 0 (by omega) (k + 1 + 1) (by omega)
        have z1 : Aq f W r 0 = f := by unfold Aq; rw [Nat.zero_min]; rfl
        have z2 : Bq f W r 0 = f := by unfold Bq; rw [Nat.zero_min]; rfl
        rw [z1, z2] at key
        exact key
    · -- a write
      rw [if_neg hsy]
      have h4 := at4_lt (sc[i])
      have hwv : writeV (psec f f) (W.map wr) (r : Int) false (at4 sc[i] : Int) (sec (sc[i]).f2 (sc[i]).f2) = (psec f f, (W ++ [sc[i]]).map wr, (r : Int), false, 0) := by
        unfold writeV
        rw [if_pos ⟨hrun, by omega, by simp [psec]; omega⟩, if_neg (by rw [sec_len]; decide), if_neg (by simp; omega), pad_sec, List.map_append]
        rfl
      rw [double_eq, Option.bind_some]
      simp only [disk_Write.f, Option.bind_some]
      rw [at4_tmod hy.1, wr_in (by omega), hwv]
      simp only [if_true]
      have hU : foldU f (W ++ [sc[i]]) = upd (foldU f W) (at4 sc[i]) (sc[i]).f2 := foldU_snoc _ _ _
      have key : fastilaw04_DiskHistory.j6 (k + 1 + 1) sc W (r : Int) (i : Int) (psec f f) ((W ++ [sc[i]]).map wr) (r : Int) false (foldU f (W ++ [sc[i]]) 0) (foldU f (W ++ [sc[i]]) 1) (foldU f (W ++ [sc[i]]) 2) (foldU f (W ++ [sc[i]]) 3) (f 0) (f 1) (f 2) (f 3) (f 0) (f 1) (f 2) (f 3) (sc[i]).f0 (sc[i]).f1 (sc[i]).f2 = some true := by
        simp only [fastilaw04_DiskHistory.j6]
        rw [if_pos (by omega)]
        simp only [fastilaw04_DiskHistory.j7]
        rw [holds_true (fun j hj => read_pend f (a := (r : Int)) (by omega) (W ++ [sc[i]]) (by simp; omega) j hj) k (by omega), Option.bind_some, if_pos rfl, hw]
        refine ih (i + 1) (by omega) (W ++ [sc[i]]) r f ?_ (by simp; omega) hr k (by omega)
        intro y hy2
        rcases List.mem_append.1 hy2 with h | h
        · exact hW y h
        · obtain rfl := List.mem_singleton.1 h
          exact hy.1
      rw [hU] at key
      clear ih hU hwv
      generalize foldU f W = A at key ⊢
      generalize (W ++ [sc[i]]).map wr = M at key ⊢
      generalize at4 sc[i] = c at h4 key ⊢
      match c, h4 with
      | 0, _ => simp only [upd_00, upd_01, upd_02, upd_03] at key; rw [if_pos (by decide)]; exact key
      | 1, _ => simp only [upd_10, upd_11, upd_12, upd_13] at key; rw [if_neg (by decide), if_pos (by decide)]; exact key
      | 2, _ => simp only [upd_20, upd_21, upd_22, upd_23] at key; rw [if_neg (by decide), if_neg (by decide), if_pos (by decide)]; exact key
      | 3, _ => simp only [upd_30, upd_31, upd_32, upd_33] at key; rw [if_neg (by decide), if_neg (by decide), if_neg (by decide), if_pos (by decide)]; exact key

theorem sec00 : sec 0 0 = List.replicate 128 (0 : Int) := by
  unfold sec
  rw [List.set_replicate_self, List.set_replicate_self]
theorem psec0 : psec (fun _ => 0) (fun _ => 0) = [List.replicate 128 (0 : Int), List.replicate 128 0, List.replicate 128 0, List.replicate 128 0] := by
  show [sec 0 0, sec 0 0, sec 0 0, sec 0 0] = _
  rw [sec00]
theorem new4 : newV 4 = (psec (fun _ => 0) (fun _ => 0), [], -1, false, 0) := by
  unfold newV
  rw [if_neg (by omega), psec0]
  generalize List.replicate 128 (0 : Int) = z
  rfl
theorem stop4 (r : Nat) (hr2 : r ≤ 255) (P : List (List Int)) (hP : runsV P [] (-1) false = true) : disk_Stop.f P [] (-1) false (wrap64 (r : Int)) = some (P, [], (r : Int), false, 0) := by
  have hr := (runs_two _ _ _ _).1 hP
  have e1 : disk_Check.f P [] (-1) false = some 0 := congrArg some hr.1
  have e : disk_runs.f P [] (-1) false = some true := by
    unfold disk_runs.f
    rw [e1]
    rfl
  have h1 : ¬ ((r : Int) < 0) := by omega
  have h2 : ¬ ((r : Int) > 65536) := by omega
  unfold disk_Stop.f
  rw [e, wr_in (by omega), Option.bind_some, if_pos rfl, if_neg h1, if_neg h2]

theorem hist0 (sc : List S46) (hb : ∀ y ∈ sc, 0 ≤ y.f1 ∧ y.f1 ≤ 255) (h40 : sc.length ≤ 40) (r : Nat) (hr : r ≤ 255) (K : Nat) (hK : 1000 * sc.length + 1000 < K) (P : List (List Int)) (hP : P = psec (fun _ => 0) (fun _ => 0)) : fastilaw04_DiskHistory.l0 K sc [] (r : Int) 0 P [] (r : Int) false 0 0 0 0 0 0 0 0 0 0 0 0 = some true := by
  subst hP
  exact hist sc hb h40 sc.length 0 (by omega) [] r (fun _ => 0) (by simp) (by simp) hr K hK

theorem hist1 (sc : List S46) (r K : Nat) (hr : r ≤ 255) (P : List (List Int)) (key : fastilaw04_DiskHistory.l0 K sc [] (r : Int) 0 P [] (r : Int) false 0 0 0 0 0 0 0 0 0 0 0 0 = some true) (b : Bool) (hb : b = false) : fastilaw04_DiskHistory.j0 (K + 1) sc (r : Int) b P [] (r : Int) false = some true := by
  subst hb
  have hw : wrap64 (r : Int) = r := wr_in (by omega)
  simp only [fastilaw04_DiskHistory.j0]
  rw [if_neg Bool.false_ne_true, hw]
  exact key
theorem DiskHistory : fastilaw04_DiskHistory.Pure := by
  intro sc left hS hL
  have hb : ∀ y ∈ sc, 0 ≤ y.f1 ∧ y.f1 ≤ 255 := fun y hy => bounds_u8 (hS.2 y hy).2.1
  have hl := bounds_u8 hL
  obtain ⟨r, rfl⟩ : ∃ r : Nat, left = (r : Int) := ⟨left.toNat, by omega⟩
  have hr : r ≤ 255 := by omega
  obtain ⟨K, hK⟩ : ∃ K : Nat, 1000 * sc.length + 1000 < K := ⟨1000 * sc.length + 1001, by omega⟩
  refine ⟨K + 1, ?_⟩
  have hN : disk_New.f 4 = some (newV 4) := rfl
  have hS2 : fastilaw04_sane.f = some true := rfl
  unfold fastilaw04_DiskHistory.f
  rw [hS2, Option.bind_some, if_pos rfl]
  by_cases h40 : (sc.length : Int) > 40
  · rw [if_pos h40]
  · rw [if_neg h40]
    have key := hist0 sc hb (by omega) r hr K hK _ rfl
    have hSt := stop4 r hr (psec (fun _ => 0) (fun _ => 0)) (runs_psec _ _ (by omega))
    rw [hN, new4, Option.bind_some]
    generalize psec (fun _ => 0) (fun _ => 0) = P at key hSt ⊢
    have j1 := hist1 sc r K hr P key ((0 : Int) != 0) rfl
    clear key hS hL hb hl hN hS2
    show (disk_Stop.f P [] (-1) false (wrap64 (r : Int))).bind _ = _
    rw [hSt, Option.bind_some]
    exact j1
end Go.Proofs.Ytmeoapalnkibfaa.Pure
