/- Functions of the translation as plain Lean functions, and proofs that the calls do what these say; written by a program of this session round the kit's print. -/
import Derived.Test.YtljmdkeeppikhaaQ0
import Derived.Test.YtljmdkeeppikhaaAidB
import Derived.Test.YtljmdkeeppikhaaAidC
import Derived.Test.YtljmdkeeppikhaaP8
import Derived.Test.YtljmdkeeppikhaaP9
namespace Go.Proofs.Ytljmdkeeppikhaa.Q
open Go.RowKit Go.Proofs.YtljmdkeeppikhaaW.PrintWords Go.Proofs.YtljmdkeeppikhaaW.PrintLast Go.Proofs.YtljmdkeeppikhaaW.PrintMore
attribute [local go_sem] max2_int min2_int max_two min_two max_three min_three max_four min_four   -- for this text's walks alone
set_option linter.unusedVariables false
set_option linter.unusedSimpArgs false

/-! ### fastiref05_good: function 72 -/
mutual
def fastiref05_good.j0 : Nat → List Int → Int → Bool → Option (Bool)
 | 0, _, _, _ => none
 | k + 1, x0, x5, x72 => if x72 = true then (some false) else (fastiref05_good.l0 k x0 (wrap64 (12 + x5)))
def fastiref05_good.l0 : Nat → List Int → Int → Option (Bool)
 | 0, _, _ => none
 | k + 1, x0, x6 => if x6 < 124 then (if 0 ≤ x6 then (if x6 < (x0.length : Int) then (if (rd x0 x6) = 0 then (fastiref05_good.l0 k x0 (wrap64 (x6 + 1))) else (some false)) else (none)) else (none)) else (some true)
end
def fastiref05_good.f (k : Nat) (l0 : List Int) (a1 : Int) : Option (Bool) := if 11 < (l0.length : Int) then (if 4 ≤ (l0.length : Int) then ((fastiref05_number.f k (l0.take 4)).bind fun t291 => (if t291 = 0 then (fastiref05_good.j0 k l0 (wrap64 (rd l0 11)) true) else ((fastiref05_number.f k (l0.take 4)).bind fun t293 => (if 124 ≤ (l0.length : Int) then ((fastiref05_number.f k (l0.drop 124)).bind fun t295 => (if t293 = t295 then (if 8 ≤ (l0.length : Int) then ((fastiref05_number.f k ((l0.take 8).drop 4)).bind fun t297 => ((fastiref05_checksum.f k ((l0.take 124).drop 8)).bind fun t299 => (if ((t297) % 4294967296) = t299 then (if 10 ≤ (l0.length : Int) then ((fastiref05_number.f k ((l0.take 10).drop 8)).bind fun t301 => (if t301 = (IntKind.u64.wrap (a1)) then (if 10 < (l0.length : Int) then (if (rd l0 10) > 3 then (fastiref05_good.j0 k l0 (wrap64 (rd l0 11)) true) else (if (wrap64 (rd l0 11)) > 112 then (fastiref05_good.j0 k l0 (wrap64 (rd l0 11)) true) else (if (rd l0 10) < 2 then (if (wrap64 (rd l0 11)) = 112 then (if (Int.tmod (rd l0 10) 2) = 0 then (fastiref05_good.j0 k l0 (wrap64 (rd l0 11)) ((wrap64 (rd l0 11)) == 0)) else (fastiref05_good.j0 k l0 (wrap64 (rd l0 11)) false)) else (fastiref05_good.j0 k l0 (wrap64 (rd l0 11)) true)) else (if (Int.tmod (rd l0 10) 2) = 0 then (fastiref05_good.j0 k l0 (wrap64 (rd l0 11)) ((wrap64 (rd l0 11)) == 0)) else (fastiref05_good.j0 k l0 (wrap64 (rd l0 11)) false))))) else (none)) else (fastiref05_good.j0 k l0 (wrap64 (rd l0 11)) true))) else (none)) else (fastiref05_good.j0 k l0 (wrap64 (rd l0 11)) true)))) else (none)) else (fastiref05_good.j0 k l0 (wrap64 (rd l0 11)) true))) else (none))))) else (none)) else (none)
set_option maxRecDepth 100000 in
theorem fastiref05_good.mono_l : ∀ k, (∀ y0 y1 y2, LeO (fastiref05_good.j0 k y0 y1 y2) (fastiref05_good.j0 (k + 1) y0 y1 y2)) ∧ (∀ y0 y1, LeO (fastiref05_good.l0 k y0 y1) (fastiref05_good.l0 (k + 1) y0 y1))
 | 0 => ⟨fun _ _ _ r h => by simp [fastiref05_good.j0] at h, fun _ _ r h => by simp [fastiref05_good.l0] at h⟩
 | k + 1 => by
  obtain ⟨ih0, ih1⟩ := fastiref05_good.mono_l k
  refine ⟨?_, ?_⟩
  ·intro y0 y1 y2
   unfold fastiref05_good.j0
   repeat' first
   | (with_reducible exact ih0 _ _ _)
   | (with_reducible exact ih1 _ _)
   | (with_reducible exact fastiref05_checksum.mono _ _)
   | (with_reducible exact fastiref05_number.mono _ _)
   | (with_reducible exact LeO.refl _)
   | (with_reducible exact LeO.none _)
   | (with_reducible refine LeO.ite ?_ ?_)
   | (with_reducible refine LeO.bind ?_ (fun _ => ?_))
   | exact ih0 _ _ _
   | exact ih1 _ _
   | exact fastiref05_checksum.mono _ _
   | exact fastiref05_number.mono _ _
   | exact LeO.none _
   | refine LeO.ite ?_ ?_
   | refine LeO.bind ?_ (fun _ => ?_)
  ·intro y0 y1
   unfold fastiref05_good.l0
   repeat' first
   | (with_reducible exact ih0 _ _ _)
   | (with_reducible exact ih1 _ _)
   | (with_reducible exact fastiref05_checksum.mono _ _)
   | (with_reducible exact fastiref05_number.mono _ _)
   | (with_reducible exact LeO.refl _)
   | (with_reducible exact LeO.none _)
   | (with_reducible refine LeO.ite ?_ ?_)
   | (with_reducible refine LeO.bind ?_ (fun _ => ?_))
   | exact ih0 _ _ _
   | exact ih1 _ _
   | exact fastiref05_checksum.mono _ _
   | exact fastiref05_number.mono _ _
   | exact LeO.none _
   | refine LeO.ite ?_ ?_
   | refine LeO.bind ?_ (fun _ => ?_)
theorem fastiref05_good.mono : ∀ a0 a1 k, LeO (fastiref05_good.f k a0 a1) (fastiref05_good.f (k + 1) a0 a1) := by
 intro a0 a1 k
 obtain ⟨ih0, ih1⟩ := fastiref05_good.mono_l k
 unfold fastiref05_good.f
 repeat' first
   | (with_reducible exact ih0 _ _ _)
   | (with_reducible exact ih1 _ _)
   | (with_reducible exact fastiref05_checksum.mono _ _)
   | (with_reducible exact fastiref05_number.mono _ _)
   | (with_reducible exact LeO.refl _)
   | (with_reducible exact LeO.none _)
   | (with_reducible refine LeO.ite ?_ ?_)
   | (with_reducible refine LeO.bind ?_ (fun _ => ?_))
   | exact ih0 _ _ _
   | exact ih1 _ _
   | exact fastiref05_checksum.mono _ _
   | exact fastiref05_number.mono _ _
   | exact LeO.none _
   | refine LeO.ite ?_ ?_
   | refine LeO.bind ?_ (fun _ => ?_)
def fastiref05_good.T2 : Bool × List (List Nat × List Nat) := (true, [([], []), ([0], [0]), ([1], [1]), ([2], [2]), ([3, 2], [3]), ([4], [4]), ([5, 4], [4, 5]), ([6, 4, 4], [4, 6]), ([4], [4]), ([8, 4], [4, 8]), ([9, 7, 4], [4, 9]), ([7, 10, 4], [4, 7, 10]), ([4, 11], [4, 11]), ([12, 10], [12]), ([13], [13]), ([14, 13], [13, 14]), ([15, 13, 13], [13, 15]), ([16, 13], [13, 16]), ([13], [13]), ([18, 13], [13, 18]), ([19, 16, 13], [13, 19]), ([17, 20, 13], [13, 17, 20]), ([13, 21], [13, 21]), ([22, 20], [22]), ([23], [23]), ([24, 23], [23, 24]), ([25, 23, 23], [23, 25]), ([23], [23]), ([27, 23], [23, 27]), ([26, 28, 23], [23, 26, 28]), ([23, 29], [23, 29]), ([30, 26], [30]), ([31], [31]), ([32, 31], [31, 32]), ([33, 31], [31, 33]), ([34, 31], [31, 34]), ([31, 35], [31, 35]), ([36, 31], [36]), ([37], [37]), ([38, 37], [37, 38]), ([37, 39], [37, 39]), ([40, 37], [40]), ([41], [41]), ([42, 41], [41, 42]), ([43, 41], [41, 43]), ([44, 41], [41, 44]), ([45, 41, 41], [41, 45]), ([46], [46]), ([47, 46], [46, 47]), ([46, 48, 41], [41, 46, 48]), ([41, 49], [41, 49]), ([50, 46], [50]), ([51], [51]), ([52, 51], [51, 52]), ([53, 51], [51, 53]), ([54, 51], [51, 54]), ([55, 51], [51, 55]), ([56, 51, 51], [51, 56]), ([57], [57]), ([58, 57], [57, 58]), ([57, 59, 51], [51, 57, 59]), ([51, 60], [51, 60])])
def fastiref05_good.B2 : List Nat := [0, 1, 3, 7, 15, 31, 63, 127, 31, 287, 1023, 2047, 4095, 8191, 16383, 32767, 65535, 131071, 16383, 278527, 917503, 2097151, 4194303, 8388607, 16777215, 33554431, 67108863, 16777215, 150994943, 536870911, 1073741823, 2147483647, 4294967295, 8589934591, 17179869183, 34359738367, 68719476735, 137438953471, 274877906943, 549755813887, 1099511627775, 2199023255551, 4398046511103, 8796093022207, 17592186044415, 35184372088831, 70368744177663, 140737488355327, 281474976710655, 562949953421311, 1125899906842623, 2251799813685247, 4503599627370495, 9007199254740991, 18014398509481983, 36028797018963967, 72057594037927935, 144115188075855871, 288230376151711743, 576460752303423487, 1152921504606846975, 2305843009213693951]
theorem fastiref05_good.tab2 : rtab .any (opsOf Try.f72 2) = fastiref05_good.T2 := by kernel_rfl
theorem fastiref05_good.bits2 : waitsOk fastiref05_good.T2.2 fastiref05_good.B2 = true := by kernel_rfl
set_option maxHeartbeats 8000000 in
set_option maxRecDepth 100000 in
theorem fastiref05_good.calls (k : Nat) (A0 : Option Addr) (c0 : Nat) (l0 : List Int) (a1 : Int) (r : Bool) (w : World) (hr0 : Kd.C (Kd.int .u8) w A0 l0.length l0) (hc0 : l0.length ≤ c0) (h : fastiref05_good.f k l0 a1 = some r) :
  Calls Try.prog 72 #[.slice A0 l0.length c0, .int .i64 a1] w fun e w' => e = .returned (.bool r) ∧ Below w.heap.size w w' := by
 have HR0 := Aside0.mk hr0; have HC0 := Aside0.mk hc0; clear hr0 hc0; have HB := Aside0.mk (Below.refl w.heap.size w)
 have H : (if 11 < (l0.length : Int) then (if 4 ≤ (l0.length : Int) then ((fastiref05_number.f k (l0.take 4)).bind fun t291 => (if t291 = 0 then (fastiref05_good.j0 k l0 (wrap64 (rd l0 11)) true) else ((fastiref05_number.f k (l0.take 4)).bind fun t293 => (if 124 ≤ (l0.length : Int) then ((fastiref05_number.f k (l0.drop 124)).bind fun t295 => (if t293 = t295 then (if 8 ≤ (l0.length : Int) then ((fastiref05_number.f k ((l0.take 8).drop 4)).bind fun t297 => ((fastiref05_checksum.f k ((l0.take 124).drop 8)).bind fun t299 => (if ((t297) % 4294967296) = t299 then (if 10 ≤ (l0.length : Int) then ((fastiref05_number.f k ((l0.take 10).drop 8)).bind fun t301 => (if t301 = (IntKind.u64.wrap (a1)) then (if 10 < (l0.length : Int) then (if (rd l0 10) > 3 then (fastiref05_good.j0 k l0 (wrap64 (rd l0 11)) true) else (if (wrap64 (rd l0 11)) > 112 then (fastiref05_good.j0 k l0 (wrap64 (rd l0 11)) true) else (if (rd l0 10) < 2 then (if (wrap64 (rd l0 11)) = 112 then (if (Int.tmod (rd l0 10) 2) = 0 then (fastiref05_good.j0 k l0 (wrap64 (rd l0 11)) ((wrap64 (rd l0 11)) == 0)) else (fastiref05_good.j0 k l0 (wrap64 (rd l0 11)) false)) else (fastiref05_good.j0 k l0 (wrap64 (rd l0 11)) true)) else (if (Int.tmod (rd l0 10) 2) = 0 then (fastiref05_good.j0 k l0 (wrap64 (rd l0 11)) ((wrap64 (rd l0 11)) == 0)) else (fastiref05_good.j0 k l0 (wrap64 (rd l0 11)) false))))) else (none)) else (fastiref05_good.j0 k l0 (wrap64 (rd l0 11)) true))) else (none)) else (fastiref05_good.j0 k l0 (wrap64 (rd l0 11)) true)))) else (none)) else (fastiref05_good.j0 k l0 (wrap64 (rd l0 11)) true))) else (none))))) else (none)) else (none)) = some r := h
 clear h
 by_cases c3 : 11 < (l0.length : Int)
 rotate_left
 ·rw [if_neg c3] at H
  exact absurd H (by simp)
 rw [if_pos c3] at H; have c3b0 : decide (11 < (l0.length : Int)) = true := decide_eq_true c3; have c3b1 : decide (11 < l0.length) = true := decide_eq_true (by omega); clear c3; have HC4 := Aside0.mk H; clear H; have p289 : 0 ≤ (11 : Int) := (by omega); have q289 : 11 < (l0.length : Int) := of_decide_eq_true (by first | (with_reducible assumption) | assumption); obtain ⟨ad289, e289, hx289_0⟩ := Kd.at_int HR0.out 11 p289 q289; cases e289
 (try simp only [show (11 : Int).toNat = 11 from rfl, Nat.reduceMul, Nat.reduceEqDiff, Go.Addr.add, ↓reduceIte] at hx289_0)
 have qi289 : (11 < l0.length) = True := eq_true (by omega)
 (try rw [show ((11 : Int)).toNat = 11 from rfl] at hx289_0)
 replace p289 := eq_true p289; replace q289 := eq_true q289
 go_enter Try.func72, Try.ntmps72
 go_upto_region 2 with (fail)
 go_cut [72] (fun v72 wc => ∃ (kq : Nat) (x72_3 : Bool), v72 = .bool x72_3 ∧ Aside0 (fastiref05_good.j0 kq l0 (wrap64 (rd l0 11)) x72_3 = some r) ∧ Aside0 (kq ≤ k) ∧ Aside0 (Below w.heap.size w wc))
 case first =>
  have H := HC4.out; clear HC4
  by_cases c5 : 4 ≤ (l0.length : Int)
  rotate_left
  ·rw [if_neg c5] at H
   exact absurd H (by simp)
  rw [if_pos c5] at H; have c5b0 := eq_true c5; have c5b1 : decide (4 ≤ (l0.length : Int)) = true := decide_eq_true c5; clear c5; replace H := Option.bind_eq_some_iff.mp H; obtain ⟨t291, A60, H⟩ := H
  replace H : (if t291 = 0 then (fastiref05_good.j0 k l0 (wrap64 (rd l0 11)) true) else ((fastiref05_number.f k (l0.take 4)).bind fun t293 => (if 124 ≤ (l0.length : Int) then ((fastiref05_number.f k (l0.drop 124)).bind fun t295 => (if t293 = t295 then (if 8 ≤ (l0.length : Int) then ((fastiref05_number.f k ((l0.take 8).drop 4)).bind fun t297 => ((fastiref05_checksum.f k ((l0.take 124).drop 8)).bind fun t299 => (if ((t297) % 4294967296) = t299 then (if 10 ≤ (l0.length : Int) then ((fastiref05_number.f k ((l0.take 10).drop 8)).bind fun t301 => (if t301 = (IntKind.u64.wrap (a1)) then (if 10 < (l0.length : Int) then (if (rd l0 10) > 3 then (fastiref05_good.j0 k l0 (wrap64 (rd l0 11)) true) else (if (wrap64 (rd l0 11)) > 112 then (fastiref05_good.j0 k l0 (wrap64 (rd l0 11)) true) else (if (rd l0 10) < 2 then (if (wrap64 (rd l0 11)) = 112 then (if (Int.tmod (rd l0 10) 2) = 0 then (fastiref05_good.j0 k l0 (wrap64 (rd l0 11)) ((wrap64 (rd l0 11)) == 0)) else (fastiref05_good.j0 k l0 (wrap64 (rd l0 11)) false)) else (fastiref05_good.j0 k l0 (wrap64 (rd l0 11)) true)) else (if (Int.tmod (rd l0 10) 2) = 0 then (fastiref05_good.j0 k l0 (wrap64 (rd l0 11)) ((wrap64 (rd l0 11)) == 0)) else (fastiref05_good.j0 k l0 (wrap64 (rd l0 11)) false))))) else (none)) else (fastiref05_good.j0 k l0 (wrap64 (rd l0 11)) true))) else (none)) else (fastiref05_good.j0 k l0 (wrap64 (rd l0 11)) true)))) else (none)) else (fastiref05_good.j0 k l0 (wrap64 (rd l0 11)) true))) else (none)))) = some r := H
  have A6 := Aside0.mk A60; clear A60
  by_cases c7 : t291 = 0
  ·rw [if_pos c7] at H
   have c7b0 : (t291 == 0) = true := beq_iff_eq.mpr c7; have c7b1 : (t291 != 0) = false := bne_eq_false_iff_eq.mpr c7; clear c7
   (first | rw [c7b0] | (simp only [i64_w, i32_w]; rw [c7b0]) | skip)
   have H' := Aside0.mk H; clear H
   try go_wp2
   replace HB := hD HB; obtain ⟨i09, hi09, _, hsz9, _⟩ := info_parts info5; obtain ⟨hcut9, hA9, hC9⟩ := print_take_of (P := Try.prog) (Value.int .u8) 0 35 5 .i64 Try.underlying35 hi09 hsz9 (some ad289) c0 l0 4 (by omega) (of_decide_eq_true (by first | (with_reducible assumption) | assumption)) HC0.out; have HR290 := Aside0.mk (Kd.C_of_reads (h1 := fun _ => rfl) (hA9 _ (Kd.reads_of_C HR0.out))); have HC290 := Aside0.mk hC9; clear hA9 hC9 hi09 hsz9
   refine start_ (n := 62) (S := fun w' => True) (ds := []) (ar 62 0) (by kernel_rfl) rfl rfl trivial (fun hHeld => ?_); refine with_tabW fastiref05_good.tab2 fastiref05_good.bits2 (fun HT_ HW_ => ?_)
   generalize w.drew = w8 at HB HR290 hHeld ⊢
   refine pA HT_ 0 11 1 ?_; refine pA HT_ 1 12 3 ?_
   refine oA HT_ 2 13 7 fun K hK => ?_
   refine goes_ Try.func63 (by kernel_rfl) rfl #[.slice (some ad289) (l0.take 4).length c0] (by rfl) rfl rfl (by (try simp only [List.map_toArray, List.map_cons, List.map_nil]); first | done | (rw [show (l0.take 4).length = 4 from (by rw [List.length_take]; have h_ : (4 : Int) ≤ (l0.length : Int) := of_decide_eq_true (by first | (with_reducible assumption) | assumption); omega)] <;> rfl) | rfl | (simp only [List.length_drop, List.length_take]; rfl)) ?_
   with_reducible refine (fastiref05_number.calls k _ _ (l0.take 4) t291 _ ?side1 ?side2 A6.out).mono ?_
   (case side1 => exact cB HR290 HB)
   (case side2 => exact HC290.out)
   rintro e w' ⟨rfl, ⟨nd, rfl⟩⟩
   refine ⟨_, rfl, ?_⟩
   refine hK.out _ _ trivial (fun hHeld => normA ?_); clear hK K
   refine pA HT_ 3 14 15 ?_; refine pA HT_ 4 15 31 ?_; refine pU HT_ 5 16 63 ?_; refine pU HT_ 6 17 127 ?_; refine pU HT_ 7 18 255 ?_; refine pU HT_ 8 19 511 ?_; refine pU HT_ 9 20 1023 ?_
   refine pU HT_ 10 21 2047 ?_; refine pU HT_ 11 22 4095 ?_; refine pA HT_ 12 23 8191 ?_; refine pA HT_ 13 24 16383 ?_; refine pU HT_ 14 25 32767 ?_; refine pU HT_ 15 26 65535 ?_; refine pU HT_ 16 27 131071 ?_
   refine pU HT_ 17 28 262143 ?_; refine pU HT_ 18 29 524287 ?_; refine pU HT_ 19 30 1048575 ?_; refine pU HT_ 20 31 2097151 ?_; refine pU HT_ 21 32 4194303 ?_; refine pA HT_ 22 33 8388607 ?_; refine pA HT_ 23 34 16777215 ?_
   refine pU HT_ 24 35 33554431 ?_; refine pU HT_ 25 36 67108863 ?_; refine pU HT_ 26 37 134217727 ?_; refine pU HT_ 27 38 268435455 ?_; refine pU HT_ 28 39 536870911 ?_; refine pU HT_ 29 40 1073741823 ?_; refine pA HT_ 30 41 2147483647 ?_
   refine pA HT_ 31 42 4294967295 ?_; refine pU HT_ 32 43 8589934591 ?_; refine pU HT_ 33 44 17179869183 ?_; refine pU HT_ 34 45 34359738367 ?_; refine pU HT_ 35 46 68719476735 ?_; refine pA HT_ 36 47 137438953471 ?_; refine pA HT_ 37 48 274877906943 ?_
   refine pU HT_ 38 49 549755813887 ?_; refine pU HT_ 39 50 1099511627775 ?_; refine pA HT_ 40 51 2199023255551 ?_; refine pA HT_ 41 52 4398046511103 ?_; refine pU HT_ 42 53 8796093022207 ?_; refine pU HT_ 43 54 17592186044415 ?_; refine pU HT_ 44 55 35184372088831 ?_
   refine pU HT_ 45 56 70368744177663 ?_; refine pU HT_ 46 57 140737488355327 ?_; refine pU HT_ 47 58 281474976710655 ?_; refine pU HT_ 48 59 562949953421311 ?_; refine pU HT_ 49 60 1125899906842623 ?_; refine pA HT_ 50 61 2251799813685247 ?_; refine pA HT_ 51 62 4503599627370495 ?_
   refine pU HT_ 52 63 9007199254740991 ?_; refine pU HT_ 53 64 18014398509481983 ?_; refine pU HT_ 54 65 36028797018963967 ?_; refine pU HT_ 55 66 72057594037927935 ?_; refine pU HT_ 56 67 144115188075855871 ?_; refine pU HT_ 57 68 288230376151711743 ?_; refine pU HT_ 58 69 576460752303423487 ?_
   refine pU HT_ 59 70 1152921504606846975 ?_; refine pU HT_ 60 71 2305843009213693951 ?_; refine pA HT_ 61 72 4611686018427387903 ?_
   refine done_ (done_of HT_.out (by kernel_rfl)) ?_
   try go_wp2
   go_meet
   case rel => exact ⟨_, (true), (by first | rfl | (simp; done) | (simp [*]; done)), H', ⟨by first | omega | exact Nat.le_refl _⟩, ⟨blw HB.out⟩⟩
  rw [if_neg c7] at H; have c7b0 : (t291 == 0) = false := beq_eq_false_iff_ne.mpr c7; have c7b1 : (t291 != 0) = true := bne_iff_ne.mpr c7
  (first | rw [c7b0] | (simp only [i64_w, i32_w]; rw [c7b0]) | skip)
  have c10b0 := eq_true (of_decide_eq_true (by first | (with_reducible assumption) | assumption) : 4 ≤ (l0.length : Int)); replace H := Option.bind_eq_some_iff.mp H; obtain ⟨t293, A110, H⟩ := H
  replace H : (if 124 ≤ (l0.length : Int) then ((fastiref05_number.f k (l0.drop 124)).bind fun t295 => (if t293 = t295 then (if 8 ≤ (l0.length : Int) then ((fastiref05_number.f k ((l0.take 8).drop 4)).bind fun t297 => ((fastiref05_checksum.f k ((l0.take 124).drop 8)).bind fun t299 => (if ((t297) % 4294967296) = t299 then (if 10 ≤ (l0.length : Int) then ((fastiref05_number.f k ((l0.take 10).drop 8)).bind fun t301 => (if t301 = (IntKind.u64.wrap (a1)) then (if 10 < (l0.length : Int) then (if (rd l0 10) > 3 then (fastiref05_good.j0 k l0 (wrap64 (rd l0 11)) true) else (if (wrap64 (rd l0 11)) > 112 then (fastiref05_good.j0 k l0 (wrap64 (rd l0 11)) true) else (if (rd l0 10) < 2 then (if (wrap64 (rd l0 11)) = 112 then (if (Int.tmod (rd l0 10) 2) = 0 then (fastiref05_good.j0 k l0 (wrap64 (rd l0 11)) ((wrap64 (rd l0 11)) == 0)) else (fastiref05_good.j0 k l0 (wrap64 (rd l0 11)) false)) else (fastiref05_good.j0 k l0 (wrap64 (rd l0 11)) true)) else (if (Int.tmod (rd l0 10) 2) = 0 then (fastiref05_good.j0 k l0 (wrap64 (rd l0 11)) ((wrap64 (rd l0 11)) == 0)) else (fastiref05_good.j0 k l0 (wrap64 (rd l0 11)) false))))) else (none)) else (fastiref05_good.j0 k l0 (wrap64 (rd l0 11)) true))) else (none)) else (fastiref05_good.j0 k l0 (wrap64 (rd l0 11)) true)))) else (none)) else (fastiref05_good.j0 k l0 (wrap64 (rd l0 11)) true))) else (none)) = some r := H; have A11 := Aside0.mk A110; clear A110
  by_cases c12 : 124 ≤ (l0.length : Int)
  rotate_left
  ·rw [if_neg c12] at H
   exact absurd H (by simp)
  rw [if_pos c12] at H; have c12b0 := eq_true c12; have c12b1 : decide (124 ≤ (l0.length : Int)) = true := decide_eq_true c12; clear c12; replace H := Option.bind_eq_some_iff.mp H; obtain ⟨t295, A130, H⟩ := H; replace H : (if t293 = t295 then (if 8 ≤ (l0.length : Int) then ((fastiref05_number.f k ((l0.take 8).drop 4)).bind fun t297 => ((fastiref05_checksum.f k ((l0.take 124).drop 8)).bind fun t299 => (if ((t297) % 4294967296) = t299 then (if 10 ≤ (l0.length : Int) then ((fastiref05_number.f k ((l0.take 10).drop 8)).bind fun t301 => (if t301 = (IntKind.u64.wrap (a1)) then (if 10 < (l0.length : Int) then (if (rd l0 10) > 3 then (fastiref05_good.j0 k l0 (wrap64 (rd l0 11)) true) else (if (wrap64 (rd l0 11)) > 112 then (fastiref05_good.j0 k l0 (wrap64 (rd l0 11)) true) else (if (rd l0 10) < 2 then (if (wrap64 (rd l0 11)) = 112 then (if (Int.tmod (rd l0 10) 2) = 0 then (fastiref05_good.j0 k l0 (wrap64 (rd l0 11)) ((wrap64 (rd l0 11)) == 0)) else (fastiref05_good.j0 k l0 (wrap64 (rd l0 11)) false)) else (fastiref05_good.j0 k l0 (wrap64 (rd l0 11)) true)) else (if (Int.tmod (rd l0 10) 2) = 0 then (fastiref05_good.j0 k l0 (wrap64 (rd l0 11)) ((wrap64 (rd l0 11)) == 0)) else (fastiref05_good.j0 k l0 (wrap64 (rd l0 11)) false))))) else (none)) else (fastiref05_good.j0 k l0 (wrap64 (rd l0 11)) true))) else (none)) else (fastiref05_good.j0 k l0 (wrap64 (rd l0 11)) true)))) else (none)) else (fastiref05_good.j0 k l0 (wrap64 (rd l0 11)) true)) = some r := H; have A13 := Aside0.mk A130
  clear A130
  by_cases c14 : t293 = t295
  rotate_left
  ·rw [if_neg c14] at H
   have c14b0 : (t293 == t295) = false := beq_eq_false_iff_ne.mpr c14; have c14b1 : (t293 != t295) = true := bne_iff_ne.mpr c14; have H' := Aside0.mk H; clear H
   try go_wp2
   replace HB := hD HB; obtain ⟨i093, hi093, _, hsz93, _⟩ := info_parts info5; obtain ⟨hcut93, hA93, hC93⟩ := print_take_of (P := Try.prog) (Value.int .u8) 0 35 5 .i64 Try.underlying35 hi093 hsz93 (some ad289) c0 l0 4 (by omega) (of_decide_eq_true (by first | (with_reducible assumption) | assumption)) HC0.out; have HR290 := Aside0.mk (Kd.C_of_reads (h1 := fun _ => rfl) (hA93 _ (Kd.reads_of_C HR0.out))); have HC290 := Aside0.mk hC93; clear hA93 hC93 hi093 hsz93
   obtain ⟨i094, hi094, _, hsz94, _⟩ := info_parts info5; obtain ⟨hcut94, hA94, hC94⟩ := print_take_of (P := Try.prog) (Value.int .u8) 0 35 5 .i64 Try.underlying35 hi094 hsz94 (some ad289) c0 l0 4 (by omega) (of_decide_eq_true (by first | (with_reducible assumption) | assumption)) HC0.out; have HR292 := Aside0.mk (Kd.C_of_reads (h1 := fun _ => rfl) (hA94 _ (Kd.reads_of_C HR0.out))); have HC292 := Aside0.mk hC94; clear hA94 hC94 hi094 hsz94; obtain ⟨i095, hi095, _, hsz95, _⟩ := info_parts info5; obtain ⟨A95, hcut95, hA95, hC95⟩ := print_drop_of (P := Try.prog) (Value.int .u8) 0 35 5 .i64 Try.underlying35 hi095 hsz95 (some ad289) c0 l0 124 (by omega) (of_decide_eq_true (by first | (with_reducible assumption) | assumption)) HC0.out; have HR294 := Aside0.mk (Kd.C_of_reads (h1 := fun _ => rfl) (hA95 _ (Kd.reads_of_C HR0.out))); have HC294 := Aside0.mk hC95; clear hA95 hC95 hi095 hsz95
   refine start_ (n := 62) (S := fun w' => True) (ds := []) (ar 62 0) (by kernel_rfl) rfl rfl trivial (fun hHeld => ?_); refine with_tabW fastiref05_good.tab2 fastiref05_good.bits2 (fun HT_ HW_ => ?_)
   generalize w.drew = w92 at HB HR290 hHeld ⊢
   refine pA HT_ 0 11 1 ?_; refine pA HT_ 1 12 3 ?_
   refine oA HT_ 2 13 7 fun K hK => ?_
   refine goes_ Try.func63 (by kernel_rfl) rfl #[.slice (some ad289) (l0.take 4).length c0] (by rfl) rfl rfl (by (try simp only [List.map_toArray, List.map_cons, List.map_nil]); first | done | (rw [show (l0.take 4).length = 4 from (by rw [List.length_take]; have h_ : (4 : Int) ≤ (l0.length : Int) := of_decide_eq_true (by first | (with_reducible assumption) | assumption); omega)] <;> rfl) | rfl | (simp only [List.length_drop, List.length_take]; rfl)) ?_
   with_reducible refine (fastiref05_number.calls k _ _ (l0.take 4) t291 _ ?side1 ?side2 A6.out).mono ?_
   (case side1 => exact cB HR290 HB)
   (case side2 => exact HC290.out)
   rintro e w' ⟨rfl, ⟨nd, rfl⟩⟩
   refine ⟨_, rfl, ?_⟩
   refine hK.out _ _ trivial (fun hHeld => normA ?_); clear hK K
   refine pA HT_ 3 14 15 ?_; refine pA HT_ 4 15 31 ?_; refine pA HT_ 5 16 63 ?_; refine pA HT_ 6 17 127 ?_; refine pA HT_ 8 19 383 ?_; refine pA HT_ 9 20 895 ?_
   refine oA HT_ 7 18 1023 fun K hK => ?_
   refine goes_ Try.func63 (by kernel_rfl) rfl #[.slice (some ad289) (l0.take 4).length c0] (by rfl) rfl rfl (by (try simp only [List.map_toArray, List.map_cons, List.map_nil]); first | done | (rw [show (l0.take 4).length = 4 from (by rw [List.length_take]; have h_ : (4 : Int) ≤ (l0.length : Int) := of_decide_eq_true (by first | (with_reducible assumption) | assumption); omega)] <;> rfl) | rfl | (simp only [List.length_drop, List.length_take]; rfl)) ?_
   with_reducible refine (fastiref05_number.calls k _ _ (l0.take 4) t293 _ ?side1 ?side2 A11.out).mono ?_
   (case side1 => exact cB HR292 HB)
   (case side2 => exact HC292.out)
   rintro e w' ⟨rfl, ⟨nd, rfl⟩⟩
   refine ⟨_, rfl, ?_⟩
   refine hK.out _ _ trivial (fun hHeld => normA ?_); clear hK K
   refine oA HT_ 10 21 2047 fun K hK => ?_
   refine goes_ Try.func63 (by kernel_rfl) rfl #[.slice A95 (l0.drop 124).length (c0 - 124)] (by rfl) rfl rfl (by (try simp only [List.map_toArray, List.map_cons, List.map_nil]); first | done | (rw [show (l0.drop 124).length = (l0.length - 124) from List.length_drop] <;> rfl) | rfl | (simp only [List.length_drop, List.length_take]; rfl)) ?_
   with_reducible refine (fastiref05_number.calls k _ _ (l0.drop 124) t295 _ ?side1 ?side2 A13.out).mono ?_
   (case side1 => exact cB HR294 HB)
   (case side2 => exact HC294.out)
   rintro e w' ⟨rfl, ⟨nd, rfl⟩⟩
   refine ⟨_, rfl, ?_⟩
   refine hK.out _ _ trivial (fun hHeld => normA ?_); clear hK K
   refine pA HT_ 11 22 4095 ?_; refine pA HT_ 12 23 8191 ?_; refine pA HT_ 13 24 16383 ?_; refine pU HT_ 14 25 32767 ?_; refine pU HT_ 15 26 65535 ?_; refine pU HT_ 16 27 131071 ?_; refine pU HT_ 17 28 262143 ?_
   refine pU HT_ 18 29 524287 ?_; refine pU HT_ 19 30 1048575 ?_; refine pU HT_ 20 31 2097151 ?_; refine pU HT_ 21 32 4194303 ?_; refine pA HT_ 22 33 8388607 ?_; refine pA HT_ 23 34 16777215 ?_; refine pU HT_ 24 35 33554431 ?_
   refine pU HT_ 25 36 67108863 ?_; refine pU HT_ 26 37 134217727 ?_; refine pU HT_ 27 38 268435455 ?_; refine pU HT_ 28 39 536870911 ?_; refine pU HT_ 29 40 1073741823 ?_; refine pA HT_ 30 41 2147483647 ?_; refine pA HT_ 31 42 4294967295 ?_
   refine pU HT_ 32 43 8589934591 ?_; refine pU HT_ 33 44 17179869183 ?_; refine pU HT_ 34 45 34359738367 ?_; refine pU HT_ 35 46 68719476735 ?_; refine pA HT_ 36 47 137438953471 ?_; refine pA HT_ 37 48 274877906943 ?_; refine pU HT_ 38 49 549755813887 ?_
   refine pU HT_ 39 50 1099511627775 ?_; refine pA HT_ 40 51 2199023255551 ?_; refine pA HT_ 41 52 4398046511103 ?_; refine pU HT_ 42 53 8796093022207 ?_; refine pU HT_ 43 54 17592186044415 ?_; refine pU HT_ 44 55 35184372088831 ?_; refine pU HT_ 45 56 70368744177663 ?_
   refine pU HT_ 46 57 140737488355327 ?_; refine pU HT_ 47 58 281474976710655 ?_; refine pU HT_ 48 59 562949953421311 ?_; refine pU HT_ 49 60 1125899906842623 ?_; refine pA HT_ 50 61 2251799813685247 ?_; refine pA HT_ 51 62 4503599627370495 ?_; refine pU HT_ 52 63 9007199254740991 ?_
   refine pU HT_ 53 64 18014398509481983 ?_; refine pU HT_ 54 65 36028797018963967 ?_; refine pU HT_ 55 66 72057594037927935 ?_; refine pU HT_ 56 67 144115188075855871 ?_; refine pU HT_ 57 68 288230376151711743 ?_; refine pU HT_ 58 69 576460752303423487 ?_; refine pU HT_ 59 70 1152921504606846975 ?_
   refine pU HT_ 60 71 2305843009213693951 ?_; refine pA HT_ 61 72 4611686018427387903 ?_
   refine done_ (done_of HT_.out (by kernel_rfl)) ?_
   try go_wp2
   go_meet
   case rel => exact ⟨_, (true), (by first | rfl | (simp; done) | (simp [*]; done)), H', ⟨by first | omega | exact Nat.le_refl _⟩, ⟨blw HB.out⟩⟩
  rw [if_pos c14] at H; have c14b0 : (t293 == t295) = true := beq_iff_eq.mpr c14; have c14b1 : (t293 != t295) = false := bne_eq_false_iff_eq.mpr c14; clear c14
  by_cases c15 : 8 ≤ (l0.length : Int)
  rotate_left
  ·rw [if_neg c15] at H
   exact absurd H (by simp)
  rw [if_pos c15] at H; have c15b0 := eq_true c15; have c15b1 : decide (8 ≤ (l0.length : Int)) = true := decide_eq_true c15; clear c15; replace H := Option.bind_eq_some_iff.mp H; obtain ⟨t297, A160, H⟩ := H; replace H : ((fastiref05_checksum.f k ((l0.take 124).drop 8)).bind fun t299 => (if ((t297) % 4294967296) = t299 then (if 10 ≤ (l0.length : Int) then ((fastiref05_number.f k ((l0.take 10).drop 8)).bind fun t301 => (if t301 = (IntKind.u64.wrap (a1)) then (if 10 < (l0.length : Int) then (if (rd l0 10) > 3 then (fastiref05_good.j0 k l0 (wrap64 (rd l0 11)) true) else (if (wrap64 (rd l0 11)) > 112 then (fastiref05_good.j0 k l0 (wrap64 (rd l0 11)) true) else (if (rd l0 10) < 2 then (if (wrap64 (rd l0 11)) = 112 then (if (Int.tmod (rd l0 10) 2) = 0 then (fastiref05_good.j0 k l0 (wrap64 (rd l0 11)) ((wrap64 (rd l0 11)) == 0)) else (fastiref05_good.j0 k l0 (wrap64 (rd l0 11)) false)) else (fastiref05_good.j0 k l0 (wrap64 (rd l0 11)) true)) else (if (Int.tmod (rd l0 10) 2) = 0 then (fastiref05_good.j0 k l0 (wrap64 (rd l0 11)) ((wrap64 (rd l0 11)) == 0)) else (fastiref05_good.j0 k l0 (wrap64 (rd l0 11)) false))))) else (none)) else (fastiref05_good.j0 k l0 (wrap64 (rd l0 11)) true))) else (none)) else (fastiref05_good.j0 k l0 (wrap64 (rd l0 11)) true))) = some r := H; have A16 := Aside0.mk A160; clear A160; have c17b0 := eq_true (of_decide_eq_true (by first | (with_reducible assumption) | assumption) : 124 ≤ (l0.length : Int)); replace H := Option.bind_eq_some_iff.mp H
  obtain ⟨t299, A180, H⟩ := H; replace H : (if ((t297) % 4294967296) = t299 then (if 10 ≤ (l0.length : Int) then ((fastiref05_number.f k ((l0.take 10).drop 8)).bind fun t301 => (if t301 = (IntKind.u64.wrap (a1)) then (if 10 < (l0.length : Int) then (if (rd l0 10) > 3 then (fastiref05_good.j0 k l0 (wrap64 (rd l0 11)) true) else (if (wrap64 (rd l0 11)) > 112 then (fastiref05_good.j0 k l0 (wrap64 (rd l0 11)) true) else (if (rd l0 10) < 2 then (if (wrap64 (rd l0 11)) = 112 then (if (Int.tmod (rd l0 10) 2) = 0 then (fastiref05_good.j0 k l0 (wrap64 (rd l0 11)) ((wrap64 (rd l0 11)) == 0)) else (fastiref05_good.j0 k l0 (wrap64 (rd l0 11)) false)) else (fastiref05_good.j0 k l0 (wrap64 (rd l0 11)) true)) else (if (Int.tmod (rd l0 10) 2) = 0 then (fastiref05_good.j0 k l0 (wrap64 (rd l0 11)) ((wrap64 (rd l0 11)) == 0)) else (fastiref05_good.j0 k l0 (wrap64 (rd l0 11)) false))))) else (none)) else (fastiref05_good.j0 k l0 (wrap64 (rd l0 11)) true))) else (none)) else (fastiref05_good.j0 k l0 (wrap64 (rd l0 11)) true)) = some r := H; have A18 := Aside0.mk A180; clear A180
  by_cases c19 : ((t297) % 4294967296) = t299
  rotate_left
  ·rw [if_neg c19] at H
   have c19b0 : (((t297) % 4294967296) == t299) = false := beq_eq_false_iff_ne.mpr c19; have c19b1 : (((t297) % 4294967296) != t299) = true := bne_iff_ne.mpr c19; have c19b2 : ((IntKind.u32.wrap t297) != t299) = true := by rw [IntKind.wrap_u32]; exact c19b1
   have H' := Aside0.mk H; clear H
   try go_wp2
   replace HB := hD HB; obtain ⟨i087, hi087, _, hsz87, _⟩ := info_parts info5; obtain ⟨hcut87, hA87, hC87⟩ := print_take_of (P := Try.prog) (Value.int .u8) 0 35 5 .i64 Try.underlying35 hi087 hsz87 (some ad289) c0 l0 4 (by omega) (of_decide_eq_true (by first | (with_reducible assumption) | assumption)) HC0.out; have HR290 := Aside0.mk (Kd.C_of_reads (h1 := fun _ => rfl) (hA87 _ (Kd.reads_of_C HR0.out))); have HC290 := Aside0.mk hC87; clear hA87 hC87 hi087 hsz87
   obtain ⟨i088, hi088, _, hsz88, _⟩ := info_parts info5; obtain ⟨hcut88, hA88, hC88⟩ := print_take_of (P := Try.prog) (Value.int .u8) 0 35 5 .i64 Try.underlying35 hi088 hsz88 (some ad289) c0 l0 4 (by omega) (of_decide_eq_true (by first | (with_reducible assumption) | assumption)) HC0.out; have HR292 := Aside0.mk (Kd.C_of_reads (h1 := fun _ => rfl) (hA88 _ (Kd.reads_of_C HR0.out))); have HC292 := Aside0.mk hC88; clear hA88 hC88 hi088 hsz88; obtain ⟨i089, hi089, _, hsz89, _⟩ := info_parts info5; obtain ⟨A89, hcut89, hA89, hC89⟩ := print_drop_of (P := Try.prog) (Value.int .u8) 0 35 5 .i64 Try.underlying35 hi089 hsz89 (some ad289) c0 l0 124 (by omega) (of_decide_eq_true (by first | (with_reducible assumption) | assumption)) HC0.out; have HR294 := Aside0.mk (Kd.C_of_reads (h1 := fun _ => rfl) (hA89 _ (Kd.reads_of_C HR0.out))); have HC294 := Aside0.mk hC89; clear hA89 hC89 hi089 hsz89; obtain ⟨i090, hi090, _, hsz90, _⟩ := info_parts info5; obtain ⟨A90, hcut90, hA90, hC90⟩ := print_mid_of (P := Try.prog) (Value.int .u8) 0 35 5 .i64 .i64 Try.underlying35 hi090 hsz90 (some ad289) c0 l0 4 8 (by omega) (by first | omega | exact of_decide_eq_true (by first | (with_reducible assumption) | assumption)) (of_decide_eq_true (by first | (with_reducible assumption) | assumption)) HC0.out; have HR296 := Aside0.mk (Kd.C_of_reads (h1 := fun _ => rfl) (hA90 _ (Kd.reads_of_C HR0.out))); have HC296 := Aside0.mk hC90; clear hA90 hC90 hi090 hsz90; obtain ⟨i091, hi091, _, hsz91, _⟩ := info_parts info5; obtain ⟨A91, hcut91, hA91, hC91⟩ := print_mid_of (P := Try.prog) (Value.int .u8) 0 35 5 .i64 .i64 Try.underlying35 hi091 hsz91 (some ad289) c0 l0 8 124 (by omega) (by first | omega | exact of_decide_eq_true (by first | (with_reducible assumption) | assumption)) (of_decide_eq_true (by first | (with_reducible assumption) | assumption)) HC0.out; have HR298 := Aside0.mk (Kd.C_of_reads (h1 := fun _ => rfl) (hA91 _ (Kd.reads_of_C HR0.out))); have HC298 := Aside0.mk hC91; clear hA91 hC91 hi091 hsz91
   refine start_ (n := 62) (S := fun w' => True) (ds := []) (ar 62 0) (by kernel_rfl) rfl rfl trivial (fun hHeld => ?_); refine with_tabW fastiref05_good.tab2 fastiref05_good.bits2 (fun HT_ HW_ => ?_)
   generalize w.drew = w86 at HB HR290 hHeld ⊢
   refine pA HT_ 0 11 1 ?_; refine pA HT_ 1 12 3 ?_
   refine oA HT_ 2 13 7 fun K hK => ?_
   refine goes_ Try.func63 (by kernel_rfl) rfl #[.slice (some ad289) (l0.take 4).length c0] (by rfl) rfl rfl (by (try simp only [List.map_toArray, List.map_cons, List.map_nil]); first | done | (rw [show (l0.take 4).length = 4 from (by rw [List.length_take]; have h_ : (4 : Int) ≤ (l0.length : Int) := of_decide_eq_true (by first | (with_reducible assumption) | assumption); omega)] <;> rfl) | rfl | (simp only [List.length_drop, List.length_take]; rfl)) ?_
   with_reducible refine (fastiref05_number.calls k _ _ (l0.take 4) t291 _ ?side1 ?side2 A6.out).mono ?_
   (case side1 => exact cB HR290 HB)
   (case side2 => exact HC290.out)
   rintro e w' ⟨rfl, ⟨nd, rfl⟩⟩
   refine ⟨_, rfl, ?_⟩
   refine hK.out _ _ trivial (fun hHeld => normA ?_); clear hK K
   refine pA HT_ 3 14 15 ?_; refine pA HT_ 4 15 31 ?_; refine pA HT_ 5 16 63 ?_; refine pA HT_ 6 17 127 ?_; refine pA HT_ 8 19 383 ?_; refine pA HT_ 9 20 895 ?_
   refine oA HT_ 7 18 1023 fun K hK => ?_
   refine goes_ Try.func63 (by kernel_rfl) rfl #[.slice (some ad289) (l0.take 4).length c0] (by rfl) rfl rfl (by (try simp only [List.map_toArray, List.map_cons, List.map_nil]); first | done | (rw [show (l0.take 4).length = 4 from (by rw [List.length_take]; have h_ : (4 : Int) ≤ (l0.length : Int) := of_decide_eq_true (by first | (with_reducible assumption) | assumption); omega)] <;> rfl) | rfl | (simp only [List.length_drop, List.length_take]; rfl)) ?_
   with_reducible refine (fastiref05_number.calls k _ _ (l0.take 4) t293 _ ?side1 ?side2 A11.out).mono ?_
   (case side1 => exact cB HR292 HB)
   (case side2 => exact HC292.out)
   rintro e w' ⟨rfl, ⟨nd, rfl⟩⟩
   refine ⟨_, rfl, ?_⟩
   refine hK.out _ _ trivial (fun hHeld => normA ?_); clear hK K
   refine oA HT_ 10 21 2047 fun K hK => ?_
   refine goes_ Try.func63 (by kernel_rfl) rfl #[.slice A89 (l0.drop 124).length (c0 - 124)] (by rfl) rfl rfl (by (try simp only [List.map_toArray, List.map_cons, List.map_nil]); first | done | (rw [show (l0.drop 124).length = (l0.length - 124) from List.length_drop] <;> rfl) | rfl | (simp only [List.length_drop, List.length_take]; rfl)) ?_
   with_reducible refine (fastiref05_number.calls k _ _ (l0.drop 124) t295 _ ?side1 ?side2 A13.out).mono ?_
   (case side1 => exact cB HR294 HB)
   (case side2 => exact HC294.out)
   rintro e w' ⟨rfl, ⟨nd, rfl⟩⟩
   refine ⟨_, rfl, ?_⟩
   refine hK.out _ _ trivial (fun hHeld => normA ?_); clear hK K
   refine pA HT_ 11 22 4095 ?_; refine pA HT_ 12 23 8191 ?_; refine pA HT_ 13 24 16383 ?_; refine pA HT_ 14 25 32767 ?_; refine pA HT_ 15 26 65535 ?_; refine pA HT_ 18 29 327679 ?_; refine pA HT_ 19 30 851967 ?_
   refine oA HT_ 16 27 917503 fun K hK => ?_
   refine goes_ Try.func63 (by kernel_rfl) rfl #[.slice A90 ((l0.take 8).drop 4).length (c0 - 4)] (by rfl) rfl rfl (by (try simp only [List.map_toArray, List.map_cons, List.map_nil]); first | done | (rw [show ((l0.take 8).drop 4).length = (8 - 4) from (by rw [List.length_drop, List.length_take]; have h_ : (8 : Int) ≤ (l0.length : Int) := of_decide_eq_true (by first | (with_reducible assumption) | assumption); omega)] <;> rfl) | rfl | (simp only [List.length_drop, List.length_take]; rfl)) ?_
   with_reducible refine (fastiref05_number.calls k _ _ ((l0.take 8).drop 4) t297 _ ?side1 ?side2 A16.out).mono ?_
   (case side1 => exact cB HR296 HB)
   (case side2 => exact HC296.out)
   rintro e w' ⟨rfl, ⟨nd, rfl⟩⟩
   refine ⟨_, rfl, ?_⟩
   refine hK.out _ _ trivial (fun hHeld => normA ?_); clear hK K
   refine pA HT_ 17 28 1048575 ?_
   refine oA HT_ 20 31 2097151 fun K hK => ?_
   refine goes_ Try.func67 (by kernel_rfl) rfl #[.slice A91 ((l0.take 124).drop 8).length (c0 - 8)] (by rfl) rfl rfl (by (try simp only [List.map_toArray, List.map_cons, List.map_nil]); first | done | (rw [show ((l0.take 124).drop 8).length = (124 - 8) from (by rw [List.length_drop, List.length_take]; have h_ : (124 : Int) ≤ (l0.length : Int) := of_decide_eq_true (by first | (with_reducible assumption) | assumption); omega)] <;> rfl) | rfl | (simp only [List.length_drop, List.length_take]; rfl)) ?_
   with_reducible refine (fastiref05_checksum.calls k _ _ ((l0.take 124).drop 8) t299 _ ?side1 ?side2 A18.out).mono ?_
   (case side1 => exact cB HR298 HB)
   (case side2 => exact HC298.out)
   rintro e w' ⟨rfl, ⟨nd, rfl⟩⟩
   refine ⟨_, rfl, ?_⟩
   refine hK.out _ _ trivial (fun hHeld => normA ?_); clear hK K
   refine pA HT_ 21 32 4194303 ?_; refine pA HT_ 22 33 8388607 ?_; refine pA HT_ 23 34 16777215 ?_; refine pU HT_ 24 35 33554431 ?_; refine pU HT_ 25 36 67108863 ?_; refine pU HT_ 26 37 134217727 ?_; refine pU HT_ 27 38 268435455 ?_
   refine pU HT_ 28 39 536870911 ?_; refine pU HT_ 29 40 1073741823 ?_; refine pA HT_ 30 41 2147483647 ?_; refine pA HT_ 31 42 4294967295 ?_; refine pU HT_ 32 43 8589934591 ?_; refine pU HT_ 33 44 17179869183 ?_; refine pU HT_ 34 45 34359738367 ?_
   refine pU HT_ 35 46 68719476735 ?_; refine pA HT_ 36 47 137438953471 ?_; refine pA HT_ 37 48 274877906943 ?_; refine pU HT_ 38 49 549755813887 ?_; refine pU HT_ 39 50 1099511627775 ?_; refine pA HT_ 40 51 2199023255551 ?_; refine pA HT_ 41 52 4398046511103 ?_
   refine pU HT_ 42 53 8796093022207 ?_; refine pU HT_ 43 54 17592186044415 ?_; refine pU HT_ 44 55 35184372088831 ?_; refine pU HT_ 45 56 70368744177663 ?_; refine pU HT_ 46 57 140737488355327 ?_; refine pU HT_ 47 58 281474976710655 ?_; refine pU HT_ 48 59 562949953421311 ?_
   refine pU HT_ 49 60 1125899906842623 ?_; refine pA HT_ 50 61 2251799813685247 ?_; refine pA HT_ 51 62 4503599627370495 ?_; refine pU HT_ 52 63 9007199254740991 ?_; refine pU HT_ 53 64 18014398509481983 ?_; refine pU HT_ 54 65 36028797018963967 ?_; refine pU HT_ 55 66 72057594037927935 ?_
   refine pU HT_ 56 67 144115188075855871 ?_; refine pU HT_ 57 68 288230376151711743 ?_; refine pU HT_ 58 69 576460752303423487 ?_; refine pU HT_ 59 70 1152921504606846975 ?_; refine pU HT_ 60 71 2305843009213693951 ?_; refine pA HT_ 61 72 4611686018427387903 ?_
   refine done_ (done_of HT_.out (by kernel_rfl)) ?_
   try go_wp2
   go_meet
   case rel => exact ⟨_, (true), (by first | rfl | (simp; done) | (simp [*]; done)), H', ⟨by first | omega | exact Nat.le_refl _⟩, ⟨blw HB.out⟩⟩
  rw [if_pos c19] at H; have c19b0 : (((t297) % 4294967296) == t299) = true := beq_iff_eq.mpr c19; have c19b1 : (((t297) % 4294967296) != t299) = false := bne_eq_false_iff_eq.mpr c19; have c19b2 : ((IntKind.u32.wrap t297) != t299) = false := (by rw [IntKind.wrap_u32]; exact c19b1); clear c19
  by_cases c20 : 10 ≤ (l0.length : Int)
  rotate_left
  ·rw [if_neg c20] at H
   exact absurd H (by simp)
  rw [if_pos c20] at H; have c20b0 := eq_true c20; have c20b1 : decide (10 ≤ (l0.length : Int)) = true := decide_eq_true c20; clear c20; replace H := Option.bind_eq_some_iff.mp H; obtain ⟨t301, A210, H⟩ := H; replace H : (if t301 = (IntKind.u64.wrap (a1)) then (if 10 < (l0.length : Int) then (if (rd l0 10) > 3 then (fastiref05_good.j0 k l0 (wrap64 (rd l0 11)) true) else (if (wrap64 (rd l0 11)) > 112 then (fastiref05_good.j0 k l0 (wrap64 (rd l0 11)) true) else (if (rd l0 10) < 2 then (if (wrap64 (rd l0 11)) = 112 then (if (Int.tmod (rd l0 10) 2) = 0 then (fastiref05_good.j0 k l0 (wrap64 (rd l0 11)) ((wrap64 (rd l0 11)) == 0)) else (fastiref05_good.j0 k l0 (wrap64 (rd l0 11)) false)) else (fastiref05_good.j0 k l0 (wrap64 (rd l0 11)) true)) else (if (Int.tmod (rd l0 10) 2) = 0 then (fastiref05_good.j0 k l0 (wrap64 (rd l0 11)) ((wrap64 (rd l0 11)) == 0)) else (fastiref05_good.j0 k l0 (wrap64 (rd l0 11)) false))))) else (none)) else (fastiref05_good.j0 k l0 (wrap64 (rd l0 11)) true)) = some r := H; have A21 := Aside0.mk A210; clear A210
  by_cases c22 : t301 = (IntKind.u64.wrap (a1))
  rotate_left
  ·rw [if_neg c22] at H
   have c22b0 : (t301 == (IntKind.u64.wrap (a1))) = false := beq_eq_false_iff_ne.mpr c22; have c22b1 : (t301 != (IntKind.u64.wrap (a1))) = true := bne_iff_ne.mpr c22; have H' := Aside0.mk H; clear H
   try go_wp2
   replace HB := hD HB; obtain ⟨i080, hi080, _, hsz80, _⟩ := info_parts info5; obtain ⟨hcut80, hA80, hC80⟩ := print_take_of (P := Try.prog) (Value.int .u8) 0 35 5 .i64 Try.underlying35 hi080 hsz80 (some ad289) c0 l0 4 (by omega) (of_decide_eq_true (by first | (with_reducible assumption) | assumption)) HC0.out; have HR290 := Aside0.mk (Kd.C_of_reads (h1 := fun _ => rfl) (hA80 _ (Kd.reads_of_C HR0.out))); have HC290 := Aside0.mk hC80; clear hA80 hC80 hi080 hsz80
   obtain ⟨i081, hi081, _, hsz81, _⟩ := info_parts info5; obtain ⟨hcut81, hA81, hC81⟩ := print_take_of (P := Try.prog) (Value.int .u8) 0 35 5 .i64 Try.underlying35 hi081 hsz81 (some ad289) c0 l0 4 (by omega) (of_decide_eq_true (by first | (with_reducible assumption) | assumption)) HC0.out; have HR292 := Aside0.mk (Kd.C_of_reads (h1 := fun _ => rfl) (hA81 _ (Kd.reads_of_C HR0.out))); have HC292 := Aside0.mk hC81; clear hA81 hC81 hi081 hsz81; obtain ⟨i082, hi082, _, hsz82, _⟩ := info_parts info5; obtain ⟨A82, hcut82, hA82, hC82⟩ := print_drop_of (P := Try.prog) (Value.int .u8) 0 35 5 .i64 Try.underlying35 hi082 hsz82 (some ad289) c0 l0 124 (by omega) (of_decide_eq_true (by first | (with_reducible assumption) | assumption)) HC0.out; have HR294 := Aside0.mk (Kd.C_of_reads (h1 := fun _ => rfl) (hA82 _ (Kd.reads_of_C HR0.out))); have HC294 := Aside0.mk hC82; clear hA82 hC82 hi082 hsz82; obtain ⟨i083, hi083, _, hsz83, _⟩ := info_parts info5; obtain ⟨A83, hcut83, hA83, hC83⟩ := print_mid_of (P := Try.prog) (Value.int .u8) 0 35 5 .i64 .i64 Try.underlying35 hi083 hsz83 (some ad289) c0 l0 4 8 (by omega) (by first | omega | exact of_decide_eq_true (by first | (with_reducible assumption) | assumption)) (of_decide_eq_true (by first | (with_reducible assumption) | assumption)) HC0.out; have HR296 := Aside0.mk (Kd.C_of_reads (h1 := fun _ => rfl) (hA83 _ (Kd.reads_of_C HR0.out))); have HC296 := Aside0.mk hC83; clear hA83 hC83 hi083 hsz83; obtain ⟨i084, hi084, _, hsz84, _⟩ := info_parts info5; obtain ⟨A84, hcut84, hA84, hC84⟩ := print_mid_of (P := Try.prog) (Value.int .u8) 0 35 5 .i64 .i64 Try.underlying35 hi084 hsz84 (some ad289) c0 l0 8 124 (by omega) (by first | omega | exact of_decide_eq_true (by first | (with_reducible assumption) | assumption)) (of_decide_eq_true (by first | (with_reducible assumption) | assumption)) HC0.out; have HR298 := Aside0.mk (Kd.C_of_reads (h1 := fun _ => rfl) (hA84 _ (Kd.reads_of_C HR0.out))); have HC298 := Aside0.mk hC84; clear hA84 hC84 hi084 hsz84; obtain ⟨i085, hi085, _, hsz85, _⟩ := info_parts info5; obtain ⟨A85, hcut85, hA85, hC85⟩ := print_mid_of (P := Try.prog) (Value.int .u8) 0 35 5 .i64 .i64 Try.underlying35 hi085 hsz85 (some ad289) c0 l0 8 10 (by omega) (by first | omega | exact of_decide_eq_true (by first | (with_reducible assumption) | assumption)) (of_decide_eq_true (by first | (with_reducible assumption) | assumption)) HC0.out; have HR300 := Aside0.mk (Kd.C_of_reads (h1 := fun _ => rfl) (hA85 _ (Kd.reads_of_C HR0.out))); have HC300 := Aside0.mk hC85; clear hA85 hC85 hi085 hsz85
   refine start_ (n := 62) (S := fun w' => True) (ds := []) (ar 62 0) (by kernel_rfl) rfl rfl trivial (fun hHeld => ?_); refine with_tabW fastiref05_good.tab2 fastiref05_good.bits2 (fun HT_ HW_ => ?_)
   generalize w.drew = w79 at HB HR290 hHeld ⊢
   refine pA HT_ 0 11 1 ?_; refine pA HT_ 1 12 3 ?_
   refine oA HT_ 2 13 7 fun K hK => ?_
   refine goes_ Try.func63 (by kernel_rfl) rfl #[.slice (some ad289) (l0.take 4).length c0] (by rfl) rfl rfl (by (try simp only [List.map_toArray, List.map_cons, List.map_nil]); first | done | (rw [show (l0.take 4).length = 4 from (by rw [List.length_take]; have h_ : (4 : Int) ≤ (l0.length : Int) := of_decide_eq_true (by first | (with_reducible assumption) | assumption); omega)] <;> rfl) | rfl | (simp only [List.length_drop, List.length_take]; rfl)) ?_
   with_reducible refine (fastiref05_number.calls k _ _ (l0.take 4) t291 _ ?side1 ?side2 A6.out).mono ?_
   (case side1 => exact cB HR290 HB)
   (case side2 => exact HC290.out)
   rintro e w' ⟨rfl, ⟨nd, rfl⟩⟩
   refine ⟨_, rfl, ?_⟩
   refine hK.out _ _ trivial (fun hHeld => normA ?_); clear hK K
   refine pA HT_ 3 14 15 ?_; refine pA HT_ 4 15 31 ?_; refine pA HT_ 5 16 63 ?_; refine pA HT_ 6 17 127 ?_; refine pA HT_ 8 19 383 ?_; refine pA HT_ 9 20 895 ?_
   refine oA HT_ 7 18 1023 fun K hK => ?_
   refine goes_ Try.func63 (by kernel_rfl) rfl #[.slice (some ad289) (l0.take 4).length c0] (by rfl) rfl rfl (by (try simp only [List.map_toArray, List.map_cons, List.map_nil]); first | done | (rw [show (l0.take 4).length = 4 from (by rw [List.length_take]; have h_ : (4 : Int) ≤ (l0.length : Int) := of_decide_eq_true (by first | (with_reducible assumption) | assumption); omega)] <;> rfl) | rfl | (simp only [List.length_drop, List.length_take]; rfl)) ?_
   with_reducible refine (fastiref05_number.calls k _ _ (l0.take 4) t293 _ ?side1 ?side2 A11.out).mono ?_
   (case side1 => exact cB HR292 HB)
   (case side2 => exact HC292.out)
   rintro e w' ⟨rfl, ⟨nd, rfl⟩⟩
   refine ⟨_, rfl, ?_⟩
   refine hK.out _ _ trivial (fun hHeld => normA ?_); clear hK K
   refine oA HT_ 10 21 2047 fun K hK => ?_
   refine goes_ Try.func63 (by kernel_rfl) rfl #[.slice A82 (l0.drop 124).length (c0 - 124)] (by rfl) rfl rfl (by (try simp only [List.map_toArray, List.map_cons, List.map_nil]); first | done | (rw [show (l0.drop 124).length = (l0.length - 124) from List.length_drop] <;> rfl) | rfl | (simp only [List.length_drop, List.length_take]; rfl)) ?_
   with_reducible refine (fastiref05_number.calls k _ _ (l0.drop 124) t295 _ ?side1 ?side2 A13.out).mono ?_
   (case side1 => exact cB HR294 HB)
   (case side2 => exact HC294.out)
   rintro e w' ⟨rfl, ⟨nd, rfl⟩⟩
   refine ⟨_, rfl, ?_⟩
   refine hK.out _ _ trivial (fun hHeld => normA ?_); clear hK K
   refine pA HT_ 11 22 4095 ?_; refine pA HT_ 12 23 8191 ?_; refine pA HT_ 13 24 16383 ?_; refine pA HT_ 14 25 32767 ?_; refine pA HT_ 15 26 65535 ?_; refine pA HT_ 18 29 327679 ?_; refine pA HT_ 19 30 851967 ?_
   refine oA HT_ 16 27 917503 fun K hK => ?_
   refine goes_ Try.func63 (by kernel_rfl) rfl #[.slice A83 ((l0.take 8).drop 4).length (c0 - 4)] (by rfl) rfl rfl (by (try simp only [List.map_toArray, List.map_cons, List.map_nil]); first | done | (rw [show ((l0.take 8).drop 4).length = (8 - 4) from (by rw [List.length_drop, List.length_take]; have h_ : (8 : Int) ≤ (l0.length : Int) := of_decide_eq_true (by first | (with_reducible assumption) | assumption); omega)] <;> rfl) | rfl | (simp only [List.length_drop, List.length_take]; rfl)) ?_
   with_reducible refine (fastiref05_number.calls k _ _ ((l0.take 8).drop 4) t297 _ ?side1 ?side2 A16.out).mono ?_
   (case side1 => exact cB HR296 HB)
   (case side2 => exact HC296.out)
   rintro e w' ⟨rfl, ⟨nd, rfl⟩⟩
   refine ⟨_, rfl, ?_⟩
   refine hK.out _ _ trivial (fun hHeld => normA ?_); clear hK K
   refine pA HT_ 17 28 1048575 ?_
   refine oA HT_ 20 31 2097151 fun K hK => ?_
   refine goes_ Try.func67 (by kernel_rfl) rfl #[.slice A84 ((l0.take 124).drop 8).length (c0 - 8)] (by rfl) rfl rfl (by (try simp only [List.map_toArray, List.map_cons, List.map_nil]); first | done | (rw [show ((l0.take 124).drop 8).length = (124 - 8) from (by rw [List.length_drop, List.length_take]; have h_ : (124 : Int) ≤ (l0.length : Int) := of_decide_eq_true (by first | (with_reducible assumption) | assumption); omega)] <;> rfl) | rfl | (simp only [List.length_drop, List.length_take]; rfl)) ?_
   with_reducible refine (fastiref05_checksum.calls k _ _ ((l0.take 124).drop 8) t299 _ ?side1 ?side2 A18.out).mono ?_
   (case side1 => exact cB HR298 HB)
   (case side2 => exact HC298.out)
   rintro e w' ⟨rfl, ⟨nd, rfl⟩⟩
   refine ⟨_, rfl, ?_⟩
   refine hK.out _ _ trivial (fun hHeld => normA ?_); clear hK K
   refine pA HT_ 21 32 4194303 ?_; refine pA HT_ 22 33 8388607 ?_; refine pA HT_ 23 34 16777215 ?_; refine pA HT_ 24 35 33554431 ?_; refine pA HT_ 25 36 67108863 ?_; refine pA HT_ 27 38 201326591 ?_; refine pA HT_ 28 39 469762047 ?_
   refine oA HT_ 26 37 536870911 fun K hK => ?_
   refine goes_ Try.func63 (by kernel_rfl) rfl #[.slice A85 ((l0.take 10).drop 8).length (c0 - 8)] (by rfl) rfl rfl (by (try simp only [List.map_toArray, List.map_cons, List.map_nil]); first | done | (rw [show ((l0.take 10).drop 8).length = (10 - 8) from (by rw [List.length_drop, List.length_take]; have h_ : (10 : Int) ≤ (l0.length : Int) := of_decide_eq_true (by first | (with_reducible assumption) | assumption); omega)] <;> rfl) | rfl | (simp only [List.length_drop, List.length_take]; rfl)) ?_
   with_reducible refine (fastiref05_number.calls k _ _ ((l0.take 10).drop 8) t301 _ ?side1 ?side2 A21.out).mono ?_
   (case side1 => exact cB HR300 HB)
   (case side2 => exact HC300.out)
   rintro e w' ⟨rfl, ⟨nd, rfl⟩⟩
   refine ⟨_, rfl, ?_⟩
   refine hK.out _ _ trivial (fun hHeld => normA ?_); clear hK K
   refine pA HT_ 29 40 1073741823 ?_; refine pA HT_ 30 41 2147483647 ?_; refine pA HT_ 31 42 4294967295 ?_; refine pU HT_ 32 43 8589934591 ?_; refine pU HT_ 33 44 17179869183 ?_; refine pU HT_ 34 45 34359738367 ?_; refine pU HT_ 35 46 68719476735 ?_
   refine pA HT_ 36 47 137438953471 ?_; refine pA HT_ 37 48 274877906943 ?_; refine pU HT_ 38 49 549755813887 ?_; refine pU HT_ 39 50 1099511627775 ?_; refine pA HT_ 40 51 2199023255551 ?_; refine pA HT_ 41 52 4398046511103 ?_; refine pU HT_ 42 53 8796093022207 ?_
   refine pU HT_ 43 54 17592186044415 ?_; refine pU HT_ 44 55 35184372088831 ?_; refine pU HT_ 45 56 70368744177663 ?_; refine pU HT_ 46 57 140737488355327 ?_; refine pU HT_ 47 58 281474976710655 ?_; refine pU HT_ 48 59 562949953421311 ?_; refine pU HT_ 49 60 1125899906842623 ?_
   refine pA HT_ 50 61 2251799813685247 ?_; refine pA HT_ 51 62 4503599627370495 ?_; refine pU HT_ 52 63 9007199254740991 ?_; refine pU HT_ 53 64 18014398509481983 ?_; refine pU HT_ 54 65 36028797018963967 ?_; refine pU HT_ 55 66 72057594037927935 ?_; refine pU HT_ 56 67 144115188075855871 ?_
   refine pU HT_ 57 68 288230376151711743 ?_; refine pU HT_ 58 69 576460752303423487 ?_; refine pU HT_ 59 70 1152921504606846975 ?_; refine pU HT_ 60 71 2305843009213693951 ?_; refine pA HT_ 61 72 4611686018427387903 ?_
   refine done_ (done_of HT_.out (by kernel_rfl)) ?_
   try go_wp2
   go_meet
   case rel => exact ⟨_, (true), (by first | rfl | (simp; done) | (simp [*]; done)), H', ⟨by first | omega | exact Nat.le_refl _⟩, ⟨blw HB.out⟩⟩
  rw [if_pos c22] at H; have c22b0 : (t301 == (IntKind.u64.wrap (a1))) = true := beq_iff_eq.mpr c22; have c22b1 : (t301 != (IntKind.u64.wrap (a1))) = false := bne_eq_false_iff_eq.mpr c22; clear c22
  by_cases c23 : 10 < (l0.length : Int)
  rotate_left
  ·rw [if_neg c23] at H
   exact absurd H (by simp)
  rw [if_pos c23] at H; have c23b0 : decide (10 < (l0.length : Int)) = true := decide_eq_true c23; have c23b1 : decide (10 < l0.length) = true := decide_eq_true (by omega); clear c23
  have HH_ := Aside0.mk H; clear H
  try go_wp2
  replace HB := hD HB; obtain ⟨i026, hi026, _, hsz26, _⟩ := info_parts info5; obtain ⟨hcut26, hA26, hC26⟩ := print_take_of (P := Try.prog) (Value.int .u8) 0 35 5 .i64 Try.underlying35 hi026 hsz26 (some ad289) c0 l0 4 (by omega) (of_decide_eq_true (by first | (with_reducible assumption) | assumption)) HC0.out; have HR290 := Aside0.mk (Kd.C_of_reads (h1 := fun _ => rfl) (hA26 _ (Kd.reads_of_C HR0.out))); have HC290 := Aside0.mk hC26; clear hA26 hC26 hi026 hsz26; have p302 : 0 ≤ (10 : Int) := (by omega); have q302 : 10 < (l0.length : Int) := of_decide_eq_true (by first | (with_reducible assumption) | assumption); obtain ⟨ad302, e302, hx302_0⟩ := Kd.at_int HR0.out 10 p302 q302; have hw302_0 := hx302_0
  (try rw [show ((10 : Int)).toNat = 10 from rfl] at hw302_0)
  (try rw [show 10 * 1 = 10 from rfl] at hw302_0)
  (try simp only [Nat.reduceMul, Nat.reduceEqDiff, Go.Addr.add, ↓reduceIte] at hw302_0)
  obtain rfl : ad289 = ad302 := (by injection e302)
  (try simp only [show (10 : Int).toNat = 10 from rfl, Nat.reduceMul, Nat.reduceEqDiff, Go.Addr.add, ↓reduceIte] at hx302_0)
  have qi302 : (10 < l0.length) = True := eq_true (by omega)
  (try rw [show ((10 : Int)).toNat = 10 from rfl] at hx302_0)
  replace hx302_0 := (HB.out.cell (World.block_lt_of_cell? w _ hx302_0)).trans hx302_0; replace p302 := eq_true p302; replace q302 := eq_true q302
  obtain ⟨i027, hi027, _, hsz27, _⟩ := info_parts info5; obtain ⟨hcut27, hA27, hC27⟩ := print_take_of (P := Try.prog) (Value.int .u8) 0 35 5 .i64 Try.underlying35 hi027 hsz27 (some ad289) c0 l0 4 (by omega) (of_decide_eq_true (by first | (with_reducible assumption) | assumption)) HC0.out; have HR292 := Aside0.mk (Kd.C_of_reads (h1 := fun _ => rfl) (hA27 _ (Kd.reads_of_C HR0.out))); have HC292 := Aside0.mk hC27; clear hA27 hC27 hi027 hsz27; obtain ⟨i028, hi028, _, hsz28, _⟩ := info_parts info5; obtain ⟨A28, hcut28, hA28, hC28⟩ := print_drop_of (P := Try.prog) (Value.int .u8) 0 35 5 .i64 Try.underlying35 hi028 hsz28 (some ad289) c0 l0 124 (by omega) (of_decide_eq_true (by first | (with_reducible assumption) | assumption)) HC0.out; have HR294 := Aside0.mk (Kd.C_of_reads (h1 := fun _ => rfl) (hA28 _ (Kd.reads_of_C HR0.out))); have HC294 := Aside0.mk hC28; clear hA28 hC28 hi028 hsz28; obtain ⟨i029, hi029, _, hsz29, _⟩ := info_parts info5; obtain ⟨A29, hcut29, hA29, hC29⟩ := print_mid_of (P := Try.prog) (Value.int .u8) 0 35 5 .i64 .i64 Try.underlying35 hi029 hsz29 (some ad289) c0 l0 4 8 (by omega) (by first | omega | exact of_decide_eq_true (by first | (with_reducible assumption) | assumption)) (of_decide_eq_true (by first | (with_reducible assumption) | assumption)) HC0.out; have HR296 := Aside0.mk (Kd.C_of_reads (h1 := fun _ => rfl) (hA29 _ (Kd.reads_of_C HR0.out))); have HC296 := Aside0.mk hC29; clear hA29 hC29 hi029 hsz29; obtain ⟨i030, hi030, _, hsz30, _⟩ := info_parts info5; obtain ⟨A30, hcut30, hA30, hC30⟩ := print_mid_of (P := Try.prog) (Value.int .u8) 0 35 5 .i64 .i64 Try.underlying35 hi030 hsz30 (some ad289) c0 l0 8 124 (by omega) (by first | omega | exact of_decide_eq_true (by first | (with_reducible assumption) | assumption)) (of_decide_eq_true (by first | (with_reducible assumption) | assumption)) HC0.out; have HR298 := Aside0.mk (Kd.C_of_reads (h1 := fun _ => rfl) (hA30 _ (Kd.reads_of_C HR0.out))); have HC298 := Aside0.mk hC30; clear hA30 hC30 hi030 hsz30; obtain ⟨i031, hi031, _, hsz31, _⟩ := info_parts info5; obtain ⟨A31, hcut31, hA31, hC31⟩ := print_mid_of (P := Try.prog) (Value.int .u8) 0 35 5 .i64 .i64 Try.underlying35 hi031 hsz31 (some ad289) c0 l0 8 10 (by omega) (by first | omega | exact of_decide_eq_true (by first | (with_reducible assumption) | assumption)) (of_decide_eq_true (by first | (with_reducible assumption) | assumption)) HC0.out; have HR300 := Aside0.mk (Kd.C_of_reads (h1 := fun _ => rfl) (hA31 _ (Kd.reads_of_C HR0.out))); have HC300 := Aside0.mk hC31; clear hA31 hC31 hi031 hsz31
  refine start_ (n := 62) (S := fun w' => w'.cell? ⟨ad289.block, ad289.off + 10, none⟩ = some (.int .u8 (rd l0 10))) (ds := []) (ar 62 0) (by kernel_rfl) rfl rfl (((HB.out.cell (World.block_lt_of_cell? w _ hw302_0)).trans hw302_0)) (fun hHeld => ?_); refine with_tabW fastiref05_good.tab2 fastiref05_good.bits2 (fun HT_ HW_ => ?_)
  generalize w.drew = w25 at HB HR290 hx302_0 hHeld ⊢
  refine pA HT_ 0 11 1 ?_; refine pA HT_ 1 12 3 ?_
  refine oA HT_ 2 13 7 fun K hK => ?_
  refine goes_ Try.func63 (by kernel_rfl) rfl #[.slice (some ad289) (l0.take 4).length c0] (by rfl) rfl rfl (by (try simp only [List.map_toArray, List.map_cons, List.map_nil]); first | done | (rw [show (l0.take 4).length = 4 from (by rw [List.length_take]; have h_ : (4 : Int) ≤ (l0.length : Int) := of_decide_eq_true (by first | (with_reducible assumption) | assumption); omega)] <;> rfl) | rfl | (simp only [List.length_drop, List.length_take]; rfl)) ?_
  with_reducible refine (fastiref05_number.calls k _ _ (l0.take 4) t291 _ ?side1 ?side2 A6.out).mono ?_
  (case side1 => exact cB HR290 HB)
  (case side2 => exact HC290.out)
  rintro e w' ⟨rfl, ⟨nd, rfl⟩⟩
  refine ⟨_, rfl, ?_⟩
  refine hK.out _ _ (((HB.out.cell (World.block_lt_of_cell? w _ hw302_0)).trans hw302_0)) (fun hHeld => normA ?_); clear hK K
  refine pA HT_ 3 14 15 ?_; refine pA HT_ 4 15 31 ?_; refine pA HT_ 5 16 63 ?_; refine pA HT_ 6 17 127 ?_; refine pA HT_ 8 19 383 ?_; refine pA HT_ 9 20 895 ?_
  refine oA HT_ 7 18 1023 fun K hK => ?_
  refine goes_ Try.func63 (by kernel_rfl) rfl #[.slice (some ad289) (l0.take 4).length c0] (by rfl) rfl rfl (by (try simp only [List.map_toArray, List.map_cons, List.map_nil]); first | done | (rw [show (l0.take 4).length = 4 from (by rw [List.length_take]; have h_ : (4 : Int) ≤ (l0.length : Int) := of_decide_eq_true (by first | (with_reducible assumption) | assumption); omega)] <;> rfl) | rfl | (simp only [List.length_drop, List.length_take]; rfl)) ?_
  with_reducible refine (fastiref05_number.calls k _ _ (l0.take 4) t293 _ ?side1 ?side2 A11.out).mono ?_
  (case side1 => exact cB HR292 HB)
  (case side2 => exact HC292.out)
  rintro e w' ⟨rfl, ⟨nd, rfl⟩⟩
  refine ⟨_, rfl, ?_⟩
  refine hK.out _ _ (((HB.out.cell (World.block_lt_of_cell? w _ hw302_0)).trans hw302_0)) (fun hHeld => normA ?_); clear hK K
  refine oA HT_ 10 21 2047 fun K hK => ?_
  refine goes_ Try.func63 (by kernel_rfl) rfl #[.slice A28 (l0.drop 124).length (c0 - 124)] (by rfl) rfl rfl (by (try simp only [List.map_toArray, List.map_cons, List.map_nil]); first | done | (rw [show (l0.drop 124).length = (l0.length - 124) from List.length_drop] <;> rfl) | rfl | (simp only [List.length_drop, List.length_take]; rfl)) ?_
  with_reducible refine (fastiref05_number.calls k _ _ (l0.drop 124) t295 _ ?side1 ?side2 A13.out).mono ?_
  (case side1 => exact cB HR294 HB)
  (case side2 => exact HC294.out)
  rintro e w' ⟨rfl, ⟨nd, rfl⟩⟩
  refine ⟨_, rfl, ?_⟩
  refine hK.out _ _ (((HB.out.cell (World.block_lt_of_cell? w _ hw302_0)).trans hw302_0)) (fun hHeld => normA ?_); clear hK K
  refine pA HT_ 11 22 4095 ?_; refine pA HT_ 12 23 8191 ?_; refine pA HT_ 13 24 16383 ?_; refine pA HT_ 14 25 32767 ?_; refine pA HT_ 15 26 65535 ?_; refine pA HT_ 18 29 327679 ?_; refine pA HT_ 19 30 851967 ?_
  refine oA HT_ 16 27 917503 fun K hK => ?_
  refine goes_ Try.func63 (by kernel_rfl) rfl #[.slice A29 ((l0.take 8).drop 4).length (c0 - 4)] (by rfl) rfl rfl (by (try simp only [List.map_toArray, List.map_cons, List.map_nil]); first | done | (rw [show ((l0.take 8).drop 4).length = (8 - 4) from (by rw [List.length_drop, List.length_take]; have h_ : (8 : Int) ≤ (l0.length : Int) := of_decide_eq_true (by first | (with_reducible assumption) | assumption); omega)] <;> rfl) | rfl | (simp only [List.length_drop, List.length_take]; rfl)) ?_
  with_reducible refine (fastiref05_number.calls k _ _ ((l0.take 8).drop 4) t297 _ ?side1 ?side2 A16.out).mono ?_
  (case side1 => exact cB HR296 HB)
  (case side2 => exact HC296.out)
  rintro e w' ⟨rfl, ⟨nd, rfl⟩⟩
  refine ⟨_, rfl, ?_⟩
  refine hK.out _ _ (((HB.out.cell (World.block_lt_of_cell? w _ hw302_0)).trans hw302_0)) (fun hHeld => normA ?_); clear hK K
  refine pA HT_ 17 28 1048575 ?_
  refine oA HT_ 20 31 2097151 fun K hK => ?_
  refine goes_ Try.func67 (by kernel_rfl) rfl #[.slice A30 ((l0.take 124).drop 8).length (c0 - 8)] (by rfl) rfl rfl (by (try simp only [List.map_toArray, List.map_cons, List.map_nil]); first | done | (rw [show ((l0.take 124).drop 8).length = (124 - 8) from (by rw [List.length_drop, List.length_take]; have h_ : (124 : Int) ≤ (l0.length : Int) := of_decide_eq_true (by first | (with_reducible assumption) | assumption); omega)] <;> rfl) | rfl | (simp only [List.length_drop, List.length_take]; rfl)) ?_
  with_reducible refine (fastiref05_checksum.calls k _ _ ((l0.take 124).drop 8) t299 _ ?side1 ?side2 A18.out).mono ?_
  (case side1 => exact cB HR298 HB)
  (case side2 => exact HC298.out)
  rintro e w' ⟨rfl, ⟨nd, rfl⟩⟩
  refine ⟨_, rfl, ?_⟩
  refine hK.out _ _ (((HB.out.cell (World.block_lt_of_cell? w _ hw302_0)).trans hw302_0)) (fun hHeld => normA ?_); clear hK K
  refine pA HT_ 21 32 4194303 ?_; refine pA HT_ 22 33 8388607 ?_; refine pA HT_ 23 34 16777215 ?_; refine pA HT_ 24 35 33554431 ?_; refine pA HT_ 25 36 67108863 ?_; refine pA HT_ 27 38 201326591 ?_; refine pA HT_ 28 39 469762047 ?_
  refine oA HT_ 26 37 536870911 fun K hK => ?_
  refine goes_ Try.func63 (by kernel_rfl) rfl #[.slice A31 ((l0.take 10).drop 8).length (c0 - 8)] (by rfl) rfl rfl (by (try simp only [List.map_toArray, List.map_cons, List.map_nil]); first | done | (rw [show ((l0.take 10).drop 8).length = (10 - 8) from (by rw [List.length_drop, List.length_take]; have h_ : (10 : Int) ≤ (l0.length : Int) := of_decide_eq_true (by first | (with_reducible assumption) | assumption); omega)] <;> rfl) | rfl | (simp only [List.length_drop, List.length_take]; rfl)) ?_
  with_reducible refine (fastiref05_number.calls k _ _ ((l0.take 10).drop 8) t301 _ ?side1 ?side2 A21.out).mono ?_
  (case side1 => exact cB HR300 HB)
  (case side2 => exact HC300.out)
  rintro e w' ⟨rfl, ⟨nd, rfl⟩⟩
  refine ⟨_, rfl, ?_⟩
  refine hK.out _ _ (((HB.out.cell (World.block_lt_of_cell? w _ hw302_0)).trans hw302_0)) (fun hHeld => normA ?_); clear hK K
  have H := HH_.out; clear HH_
  by_cases c24 : (rd l0 10) > 3
  ·rw [if_pos c24] at H
   have c24b0 : decide (3 < (rd l0 10)) = true := decide_eq_true c24; clear c24; have H' := Aside0.mk H; clear H
   refine pA HT_ 29 40 1073741823 ?_; refine pA HT_ 30 41 2147483647 ?_; refine pA HT_ 31 42 4294967295 ?_; refine pA HT_ 32 43 8589934591 ?_; refine pA HT_ 33 44 17179869183 ?_
   refine take_ (i := 34) (N := some 45) (v := ?_) (a' := ?_) (ar 62 34359738367) rfl rfl (take_ofW HT_.out HW_.out (by kernel_rfl)) (fun _ _ _ h => h) (Or.inl ⟨by rfl, ?_⟩) hHeld ?_ ?_
   rotate_left
   ·intro w' s0
    go_simp
    with_reducible rfl
   rotate_left
   ·simp only [Act.put, List.setIfInBounds_toArray, List.set_cons_zero, List.set_cons_succ, i64_w, i32_w]
    rfl
   refine pA HT_ 35 46 68719476735 ?_; refine pA HT_ 36 47 137438953471 ?_; refine pA HT_ 37 48 274877906943 ?_; refine pU HT_ 38 49 549755813887 ?_; refine pU HT_ 39 50 1099511627775 ?_; refine pA HT_ 40 51 2199023255551 ?_; refine pA HT_ 41 52 4398046511103 ?_
   refine pU HT_ 42 53 8796093022207 ?_; refine pU HT_ 43 54 17592186044415 ?_; refine pU HT_ 44 55 35184372088831 ?_; refine pU HT_ 45 56 70368744177663 ?_; refine pU HT_ 46 57 140737488355327 ?_; refine pU HT_ 47 58 281474976710655 ?_; refine pU HT_ 48 59 562949953421311 ?_
   refine pU HT_ 49 60 1125899906842623 ?_; refine pA HT_ 50 61 2251799813685247 ?_; refine pA HT_ 51 62 4503599627370495 ?_; refine pU HT_ 52 63 9007199254740991 ?_; refine pU HT_ 53 64 18014398509481983 ?_; refine pU HT_ 54 65 36028797018963967 ?_; refine pU HT_ 55 66 72057594037927935 ?_
   refine pU HT_ 56 67 144115188075855871 ?_; refine pU HT_ 57 68 288230376151711743 ?_; refine pU HT_ 58 69 576460752303423487 ?_; refine pU HT_ 59 70 1152921504606846975 ?_; refine pU HT_ 60 71 2305843009213693951 ?_; refine pA HT_ 61 72 4611686018427387903 ?_
   refine done_ (done_of HT_.out (by kernel_rfl)) ?_
   try go_wp2
   go_meet
   case rel => exact ⟨_, (true), (by first | rfl | (simp; done) | (simp [*]; done)), H', ⟨by first | omega | exact Nat.le_refl _⟩, ⟨blw HB.out⟩⟩
  rw [if_neg c24] at H; have c24b0 : decide (3 < (rd l0 10)) = false := decide_eq_false c24; clear c24
  by_cases c32 : (wrap64 (rd l0 11)) > 112
  ·rw [if_pos c32] at H
   have c32b0 : decide (112 < (wrap64 (rd l0 11))) = true := decide_eq_true c32; clear c32; have H' := Aside0.mk H; clear H
   refine pA HT_ 29 40 1073741823 ?_; refine pA HT_ 30 41 2147483647 ?_; refine pA HT_ 31 42 4294967295 ?_; refine pA HT_ 32 43 8589934591 ?_; refine pA HT_ 33 44 17179869183 ?_
   refine take_ (i := 34) (N := some 45) (v := ?_) (a' := ?_) (ar 62 34359738367) rfl rfl (take_ofW HT_.out HW_.out (by kernel_rfl)) (fun _ _ _ h => h) (Or.inl ⟨by rfl, ?_⟩) hHeld ?_ ?_
   rotate_left
   ·intro w' s0
    go_simp
    with_reducible rfl
   rotate_left
   ·simp only [Act.put, List.setIfInBounds_toArray, List.set_cons_zero, List.set_cons_succ, i64_w, i32_w]
    rfl
   refine pA HT_ 35 46 68719476735 ?_; refine pA HT_ 36 47 137438953471 ?_; refine pA HT_ 37 48 274877906943 ?_; refine pA HT_ 38 49 549755813887 ?_; refine pA HT_ 39 50 1099511627775 ?_; refine pA HT_ 40 51 2199023255551 ?_; refine pA HT_ 41 52 4398046511103 ?_
   refine pU HT_ 42 53 8796093022207 ?_; refine pU HT_ 43 54 17592186044415 ?_; refine pU HT_ 44 55 35184372088831 ?_; refine pU HT_ 45 56 70368744177663 ?_; refine pU HT_ 46 57 140737488355327 ?_; refine pU HT_ 47 58 281474976710655 ?_; refine pU HT_ 48 59 562949953421311 ?_
   refine pU HT_ 49 60 1125899906842623 ?_; refine pA HT_ 50 61 2251799813685247 ?_; refine pA HT_ 51 62 4503599627370495 ?_; refine pU HT_ 52 63 9007199254740991 ?_; refine pU HT_ 53 64 18014398509481983 ?_; refine pU HT_ 54 65 36028797018963967 ?_; refine pU HT_ 55 66 72057594037927935 ?_
   refine pU HT_ 56 67 144115188075855871 ?_; refine pU HT_ 57 68 288230376151711743 ?_; refine pU HT_ 58 69 576460752303423487 ?_; refine pU HT_ 59 70 1152921504606846975 ?_; refine pU HT_ 60 71 2305843009213693951 ?_; refine pA HT_ 61 72 4611686018427387903 ?_
   refine done_ (done_of HT_.out (by kernel_rfl)) ?_
   try go_wp2
   go_meet
   case rel => exact ⟨_, (true), (by first | rfl | (simp; done) | (simp [*]; done)), H', ⟨by first | omega | exact Nat.le_refl _⟩, ⟨blw HB.out⟩⟩
  rw [if_neg c32] at H; have c32b0 : decide (112 < (wrap64 (rd l0 11))) = false := decide_eq_false c32; clear c32
  by_cases c40 : (rd l0 10) < 2
  rotate_left
  ·rw [if_neg c40] at H
   have c40b0 : decide ((rd l0 10) < 2) = false := decide_eq_false c40; clear c40
   by_cases c64 : (Int.tmod (rd l0 10) 2) = 0
   rotate_left
   ·rw [if_neg c64] at H
    have c64b0 : ((Int.tmod (rd l0 10) 2) == 0) = false := beq_eq_false_iff_ne.mpr c64; have c64b1 : ((Int.tmod (rd l0 10) 2) != 0) = true := bne_iff_ne.mpr c64; have H' := Aside0.mk H; clear H
    refine pA HT_ 29 40 1073741823 ?_; refine pA HT_ 30 41 2147483647 ?_; refine pA HT_ 31 42 4294967295 ?_; refine pA HT_ 32 43 8589934591 ?_; refine pA HT_ 33 44 17179869183 ?_; refine takeA (i := 34) (N := some 45) (ar 62 34359738367) rfl (take_ofW HT_.out HW_.out (by kernel_rfl)) hHeld (by intro w' s0; go_simp; with_reducible rfl) ?_; refine pA HT_ 35 46 68719476735 ?_
    refine pA HT_ 36 47 137438953471 ?_; refine pA HT_ 37 48 274877906943 ?_; refine pA HT_ 38 49 549755813887 ?_; refine pA HT_ 39 50 1099511627775 ?_; refine pA HT_ 40 51 2199023255551 ?_; refine pA HT_ 41 52 4398046511103 ?_; refine pA HT_ 42 53 8796093022207 ?_
    refine pA HT_ 43 54 17592186044415 ?_; refine takeA (i := 44) (N := some 55) (ar 62 35184372088831) rfl (take_ofW HT_.out HW_.out (by kernel_rfl)) hHeld (by intro w' s0; go_simp; with_reducible rfl) ?_; refine pA HT_ 45 56 70368744177663 ?_; refine pA HT_ 46 57 140737488355327 ?_; refine pU HT_ 47 58 281474976710655 ?_; refine pU HT_ 48 59 562949953421311 ?_; refine pA HT_ 49 60 1125899906842623 ?_
    refine pA HT_ 50 61 2251799813685247 ?_; refine pA HT_ 51 62 4503599627370495 ?_; refine pA HT_ 52 63 9007199254740991 ?_; refine pA HT_ 53 64 18014398509481983 ?_; refine takeA (i := 54) (N := some 65) (ar 62 36028797018963967) rfl (take_ofW HT_.out HW_.out (by kernel_rfl)) hHeld (by intro w' s0; go_simp; with_reducible rfl) ?_; refine pA HT_ 55 66 72057594037927935 ?_; refine pA HT_ 56 67 144115188075855871 ?_
    refine pA HT_ 57 68 288230376151711743 ?_; refine pU HT_ 58 69 576460752303423487 ?_; refine pU HT_ 59 70 1152921504606846975 ?_; refine pA HT_ 60 71 2305843009213693951 ?_; refine pA HT_ 61 72 4611686018427387903 ?_
    refine done_ (done_of HT_.out (by kernel_rfl)) ?_
    try go_wp2
    go_meet
    case rel => exact ⟨_, (false), (by first | rfl | (simp; done) | (simp [*]; done)), H', ⟨by first | omega | exact Nat.le_refl _⟩, ⟨blw HB.out⟩⟩
   rw [if_pos c64] at H; have c64b0 : ((Int.tmod (rd l0 10) 2) == 0) = true := beq_iff_eq.mpr c64; have c64b1 : ((Int.tmod (rd l0 10) 2) != 0) = false := bne_eq_false_iff_eq.mpr c64; clear c64; have H' := Aside0.mk H; clear H
   refine pA HT_ 29 40 1073741823 ?_; refine pA HT_ 30 41 2147483647 ?_; refine pA HT_ 31 42 4294967295 ?_; refine pA HT_ 32 43 8589934591 ?_; refine pA HT_ 33 44 17179869183 ?_; refine takeA (i := 34) (N := some 45) (ar 62 34359738367) rfl (take_ofW HT_.out HW_.out (by kernel_rfl)) hHeld (by intro w' s0; go_simp; with_reducible rfl) ?_; refine pA HT_ 35 46 68719476735 ?_
   refine pA HT_ 36 47 137438953471 ?_; refine pA HT_ 37 48 274877906943 ?_; refine pA HT_ 38 49 549755813887 ?_; refine pA HT_ 39 50 1099511627775 ?_; refine pA HT_ 40 51 2199023255551 ?_; refine pA HT_ 41 52 4398046511103 ?_; refine pA HT_ 42 53 8796093022207 ?_
   refine pA HT_ 43 54 17592186044415 ?_; refine takeA (i := 44) (N := some 55) (ar 62 35184372088831) rfl (take_ofW HT_.out HW_.out (by kernel_rfl)) hHeld (by intro w' s0; go_simp; with_reducible rfl) ?_; refine pA HT_ 45 56 70368744177663 ?_; refine pA HT_ 46 57 140737488355327 ?_; refine pU HT_ 47 58 281474976710655 ?_; refine pU HT_ 48 59 562949953421311 ?_; refine pA HT_ 49 60 1125899906842623 ?_
   refine pA HT_ 50 61 2251799813685247 ?_; refine pA HT_ 51 62 4503599627370495 ?_; refine pA HT_ 52 63 9007199254740991 ?_; refine pA HT_ 53 64 18014398509481983 ?_; refine takeA (i := 54) (N := some 65) (ar 62 36028797018963967) rfl (take_ofW HT_.out HW_.out (by kernel_rfl)) hHeld (by intro w' s0; go_simp; with_reducible rfl) ?_; refine pA HT_ 55 66 72057594037927935 ?_; refine pA HT_ 56 67 144115188075855871 ?_
   refine pA HT_ 57 68 288230376151711743 ?_; refine pA HT_ 58 69 576460752303423487 ?_; refine pA HT_ 59 70 1152921504606846975 ?_; refine pA HT_ 60 71 2305843009213693951 ?_; refine pA HT_ 61 72 4611686018427387903 ?_
   refine done_ (done_of HT_.out (by kernel_rfl)) ?_
   try go_wp2
   go_meet
   case rel => exact ⟨_, (((wrap64 (rd l0 11)) == 0)), (by first | rfl | (simp; done) | (simp [*]; done)), H', ⟨by first | omega | exact Nat.le_refl _⟩, ⟨blw HB.out⟩⟩
  rw [if_pos c40] at H; have c40b0 : decide ((rd l0 10) < 2) = true := decide_eq_true c40; clear c40
  by_cases c41 : (wrap64 (rd l0 11)) = 112
  rotate_left
  ·rw [if_neg c41] at H
   have c41b0 : ((wrap64 (rd l0 11)) == 112) = false := beq_eq_false_iff_ne.mpr c41; have c41b1 : ((wrap64 (rd l0 11)) != 112) = true := bne_iff_ne.mpr c41; have H' := Aside0.mk H; clear H
   refine pA HT_ 29 40 1073741823 ?_; refine pA HT_ 30 41 2147483647 ?_; refine pA HT_ 31 42 4294967295 ?_; refine pA HT_ 32 43 8589934591 ?_; refine pA HT_ 33 44 17179869183 ?_; refine takeA (i := 34) (N := some 45) (ar 62 34359738367) rfl (take_ofW HT_.out HW_.out (by kernel_rfl)) hHeld (by intro w' s0; go_simp; with_reducible rfl) ?_; refine pA HT_ 35 46 68719476735 ?_
   refine pA HT_ 36 47 137438953471 ?_; refine pA HT_ 37 48 274877906943 ?_; refine pA HT_ 38 49 549755813887 ?_; refine pA HT_ 39 50 1099511627775 ?_; refine pA HT_ 40 51 2199023255551 ?_; refine pA HT_ 41 52 4398046511103 ?_; refine pA HT_ 42 53 8796093022207 ?_
   refine pA HT_ 43 54 17592186044415 ?_; refine takeA (i := 44) (N := some 55) (ar 62 35184372088831) rfl (take_ofW HT_.out HW_.out (by kernel_rfl)) hHeld (by intro w' s0; go_simp; with_reducible rfl) ?_; refine pA HT_ 45 56 70368744177663 ?_; refine pA HT_ 46 57 140737488355327 ?_; refine pA HT_ 47 58 281474976710655 ?_; refine pA HT_ 48 59 562949953421311 ?_; refine pA HT_ 49 60 1125899906842623 ?_
   refine pA HT_ 50 61 2251799813685247 ?_; refine pA HT_ 51 62 4503599627370495 ?_; refine pU HT_ 52 63 9007199254740991 ?_; refine pU HT_ 53 64 18014398509481983 ?_; refine pU HT_ 54 65 36028797018963967 ?_; refine pU HT_ 55 66 72057594037927935 ?_; refine pU HT_ 56 67 144115188075855871 ?_
   refine pU HT_ 57 68 288230376151711743 ?_; refine pU HT_ 58 69 576460752303423487 ?_; refine pU HT_ 59 70 1152921504606846975 ?_; refine pU HT_ 60 71 2305843009213693951 ?_; refine pA HT_ 61 72 4611686018427387903 ?_
   refine done_ (done_of HT_.out (by kernel_rfl)) ?_
   try go_wp2
   go_meet
   case rel => exact ⟨_, (true), (by first | rfl | (simp; done) | (simp [*]; done)), H', ⟨by first | omega | exact Nat.le_refl _⟩, ⟨blw HB.out⟩⟩
  rw [if_pos c41] at H; have c41b0 : ((wrap64 (rd l0 11)) == 112) = true := beq_iff_eq.mpr c41; have c41b1 : ((wrap64 (rd l0 11)) != 112) = false := bne_eq_false_iff_eq.mpr c41; clear c41
  by_cases c42 : (Int.tmod (rd l0 10) 2) = 0
  rotate_left
  ·rw [if_neg c42] at H
   have c42b0 : ((Int.tmod (rd l0 10) 2) == 0) = false := beq_eq_false_iff_ne.mpr c42; have c42b1 : ((Int.tmod (rd l0 10) 2) != 0) = true := bne_iff_ne.mpr c42; have H' := Aside0.mk H; clear H
   refine pA HT_ 29 40 1073741823 ?_; refine pA HT_ 30 41 2147483647 ?_; refine pA HT_ 31 42 4294967295 ?_; refine pA HT_ 32 43 8589934591 ?_; refine pA HT_ 33 44 17179869183 ?_; refine takeA (i := 34) (N := some 45) (ar 62 34359738367) rfl (take_ofW HT_.out HW_.out (by kernel_rfl)) hHeld (by intro w' s0; go_simp; with_reducible rfl) ?_; refine pA HT_ 35 46 68719476735 ?_
   refine pA HT_ 36 47 137438953471 ?_; refine pA HT_ 37 48 274877906943 ?_; refine pA HT_ 38 49 549755813887 ?_; refine pA HT_ 39 50 1099511627775 ?_; refine pA HT_ 40 51 2199023255551 ?_; refine pA HT_ 41 52 4398046511103 ?_; refine pA HT_ 42 53 8796093022207 ?_
   refine pA HT_ 43 54 17592186044415 ?_; refine takeA (i := 44) (N := some 55) (ar 62 35184372088831) rfl (take_ofW HT_.out HW_.out (by kernel_rfl)) hHeld (by intro w' s0; go_simp; with_reducible rfl) ?_; refine pA HT_ 45 56 70368744177663 ?_; refine pA HT_ 46 57 140737488355327 ?_; refine pA HT_ 47 58 281474976710655 ?_; refine pA HT_ 48 59 562949953421311 ?_; refine pA HT_ 49 60 1125899906842623 ?_
   refine pA HT_ 50 61 2251799813685247 ?_; refine pA HT_ 51 62 4503599627370495 ?_; refine pA HT_ 52 63 9007199254740991 ?_; refine pA HT_ 53 64 18014398509481983 ?_; refine takeA (i := 54) (N := some 65) (ar 62 36028797018963967) rfl (take_ofW HT_.out HW_.out (by kernel_rfl)) hHeld (by intro w' s0; go_simp; with_reducible rfl) ?_; refine pA HT_ 55 66 72057594037927935 ?_; refine pA HT_ 56 67 144115188075855871 ?_
   refine pA HT_ 57 68 288230376151711743 ?_; refine pU HT_ 58 69 576460752303423487 ?_; refine pU HT_ 59 70 1152921504606846975 ?_; refine pA HT_ 60 71 2305843009213693951 ?_; refine pA HT_ 61 72 4611686018427387903 ?_
   refine done_ (done_of HT_.out (by kernel_rfl)) ?_
   try go_wp2
   go_meet
   case rel => exact ⟨_, (false), (by first | rfl | (simp; done) | (simp [*]; done)), H', ⟨by first | omega | exact Nat.le_refl _⟩, ⟨blw HB.out⟩⟩
  rw [if_pos c42] at H; have c42b0 : ((Int.tmod (rd l0 10) 2) == 0) = true := beq_iff_eq.mpr c42; have c42b1 : ((Int.tmod (rd l0 10) 2) != 0) = false := bne_eq_false_iff_eq.mpr c42; clear c42; have H' := Aside0.mk H; clear H
  refine pA HT_ 29 40 1073741823 ?_; refine pA HT_ 30 41 2147483647 ?_; refine pA HT_ 31 42 4294967295 ?_; refine pA HT_ 32 43 8589934591 ?_; refine pA HT_ 33 44 17179869183 ?_; refine takeA (i := 34) (N := some 45) (ar 62 34359738367) rfl (take_ofW HT_.out HW_.out (by kernel_rfl)) hHeld (by intro w' s0; go_simp; with_reducible rfl) ?_; refine pA HT_ 35 46 68719476735 ?_
  refine pA HT_ 36 47 137438953471 ?_; refine pA HT_ 37 48 274877906943 ?_; refine pA HT_ 38 49 549755813887 ?_; refine pA HT_ 39 50 1099511627775 ?_; refine pA HT_ 40 51 2199023255551 ?_; refine pA HT_ 41 52 4398046511103 ?_; refine pA HT_ 42 53 8796093022207 ?_
  refine pA HT_ 43 54 17592186044415 ?_; refine takeA (i := 44) (N := some 55) (ar 62 35184372088831) rfl (take_ofW HT_.out HW_.out (by kernel_rfl)) hHeld (by intro w' s0; go_simp; with_reducible rfl) ?_; refine pA HT_ 45 56 70368744177663 ?_; refine pA HT_ 46 57 140737488355327 ?_; refine pA HT_ 47 58 281474976710655 ?_; refine pA HT_ 48 59 562949953421311 ?_; refine pA HT_ 49 60 1125899906842623 ?_
  refine pA HT_ 50 61 2251799813685247 ?_; refine pA HT_ 51 62 4503599627370495 ?_; refine pA HT_ 52 63 9007199254740991 ?_; refine pA HT_ 53 64 18014398509481983 ?_; refine takeA (i := 54) (N := some 65) (ar 62 36028797018963967) rfl (take_ofW HT_.out HW_.out (by kernel_rfl)) hHeld (by intro w' s0; go_simp; with_reducible rfl) ?_; refine pA HT_ 55 66 72057594037927935 ?_; refine pA HT_ 56 67 144115188075855871 ?_
  refine pA HT_ 57 68 288230376151711743 ?_; refine pA HT_ 58 69 576460752303423487 ?_; refine pA HT_ 59 70 1152921504606846975 ?_; refine pA HT_ 60 71 2305843009213693951 ?_; refine pA HT_ 61 72 4611686018427387903 ?_
  refine done_ (done_of HT_.out (by kernel_rfl)) ?_
  try go_wp2
  go_meet
  case rel => exact ⟨_, (((wrap64 (rd l0 11)) == 0)), (by first | rfl | (simp; done) | (simp [*]; done)), H', ⟨by first | omega | exact Nat.le_refl _⟩, ⟨blw HB.out⟩⟩
 clear HC4; (try clear c1); (try clear p2); (try clear c5); (try clear c6); (try clear c12); (try clear c14); (try clear c14b0); (try clear c14b1); (try clear c15); (try clear c63); obtain ⟨kq, x72_3, rfl, HA, HJ3, HB⟩ := hcut
 cases kq with
 | zero => exact absurd HA.out (by simp [fastiref05_good.j0])
 | succ kj3 =>
  have H := HA.out; clear HA
  simp only [fastiref05_good.j0] at H
  by_cases c96 : x72_3 = true
  ·subst c96
   have H1 : (some false) = some r := by rw [if_pos rfl] at H; exact H
   clear H; have H := H1; clear H1; obtain rfl := Option.some.inj H
   go_wp2
   go_ret
   exact ⟨by first | rfl | (simp [errW_none, errW_some] <;> rfl) | (simp [*, errW_none, errW_some] <;> rfl), blw HB.out⟩
  ·replace c96 := Bool.eq_false_iff.mpr c96
   subst c96
   have H1 : (fastiref05_good.l0 kj3 l0 (wrap64 (12 + (wrap64 (rd l0 11))))) = some r := by rw [if_neg (show ¬ (false = true) by decide)] at H; exact H
   clear H; have H := H1; clear H1; have H' := Aside0.mk H; clear H
   go_wp2
   go_loopg [6] kj3 (fun kq v6 w' => ∃ (x6_2 : Int), v6 = .int .i64 x6_2 ∧ Aside0 (fastiref05_good.l0 kq l0 x6_2 = some r) ∧ Aside0 (kq ≤ kj3) ∧ Aside0 (Below w.heap.size w w'))
   case atStart => exact ⟨(wrap64 (12 + (wrap64 (rd l0 11)))), (by first | rfl | (simp; done) | (simp [*]; done)), H', ⟨Nat.le_refl _⟩, ⟨blw HB.out⟩⟩
   case round =>
    clear H'; (try clear c1); (try clear p2); (try clear c5); (try clear c6); (try clear p6); (try clear c9); (try clear c12); (try clear c14); (try clear c14b0); (try clear c14b1); (try clear c15); (try clear c63); (try clear p64); (try clear c96); (try clear p2); obtain ⟨x6_2, rfl, HA, HK2, HB⟩ := hrel
    cases gk with
    | zero => exact absurd HA.out (by simp [fastiref05_good.l0])
    | succ k2 =>
     have H := HA.out; clear HA
     simp only [fastiref05_good.l0] at H
     by_cases c97 : x6_2 < 124
     ·rw [if_pos c97] at H
      have c97b0 : decide (x6_2 < 124) = true := decide_eq_true c97; clear c97
      by_cases c98 : 0 ≤ x6_2
      ·rw [if_pos c98] at H
       have c98b0 : decide (0 ≤ x6_2) = true := decide_eq_true c98; clear c98
       by_cases c99 : x6_2 < (l0.length : Int)
       ·rw [if_pos c99] at H
        have c99b0 : decide (x6_2 < (l0.length : Int)) = true := decide_eq_true c99; clear c99
        by_cases c100 : (rd l0 x6_2) = 0
        ·rw [if_pos c100] at H
         have c100b0 : ((rd l0 x6_2) == 0) = true := beq_iff_eq.mpr c100; have c100b1 : ((rd l0 x6_2) != 0) = false := bne_eq_false_iff_eq.mpr c100; clear c100; have H' := Aside0.mk H; clear H; have p306 : 0 ≤ (x6_2 : Int) := of_decide_eq_true (by first | (with_reducible assumption) | assumption); have q306 : x6_2 < (l0.length : Int) := of_decide_eq_true (by first | (with_reducible assumption) | assumption); obtain ⟨ad306, e306, hx306_0⟩ := Kd.at_int HR0.out x6_2 p306 q306; obtain rfl : ad289 = ad306 := (by injection e306); replace hx306_0 := (HB.out.cell (World.block_lt_of_cell? w _ hx306_0)).trans hx306_0; replace p306 := eq_true p306; replace q306 := eq_true q306
         go_wp2
         go_roundg k2
         case measure => have := HJ3.out; have := HK2.out; omega
         case rel => exact ⟨(wrap64 (x6_2 + 1)), (by first | rfl | (simp; done) | (simp [*]; done)), H', ⟨by have := HJ3.out; have := HK2.out; omega⟩, ⟨blw HB.out⟩⟩
        ·rw [if_neg c100] at H
         have c100b0 : ((rd l0 x6_2) == 0) = false := beq_eq_false_iff_ne.mpr c100; have c100b1 : ((rd l0 x6_2) != 0) = true := bne_iff_ne.mpr c100; obtain rfl := Option.some.inj H; have p306 : 0 ≤ (x6_2 : Int) := of_decide_eq_true (by first | (with_reducible assumption) | assumption); have q306 : x6_2 < (l0.length : Int) := of_decide_eq_true (by first | (with_reducible assumption) | assumption); obtain ⟨ad306, e306, hx306_0⟩ := Kd.at_int HR0.out x6_2 p306 q306; obtain rfl : ad289 = ad306 := (by injection e306); replace hx306_0 := (HB.out.cell (World.block_lt_of_cell? w _ hx306_0)).trans hx306_0; replace p306 := eq_true p306; replace q306 := eq_true q306
         go_wp2
         go_ret
         exact ⟨by first | rfl | (simp [errW_none, errW_some] <;> rfl) | (simp [*, errW_none, errW_some] <;> rfl), blw HB.out⟩
       ·rw [if_neg c99] at H
        exact absurd H (by simp)
      ·rw [if_neg c98] at H
       exact absurd H (by simp)
     ·rw [if_neg c97] at H
      have c97b0 : decide (x6_2 < 124) = false := decide_eq_false c97; clear c97; obtain rfl := Option.some.inj H
      go_wp2
      go_ret
      exact ⟨by first | rfl | (simp [errW_none, errW_some] <;> rfl) | (simp [*, errW_none, errW_some] <;> rfl), blw HB.out⟩

end Go.Proofs.Ytljmdkeeppikhaa.Q
