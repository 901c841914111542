/- Functions of the translation as plain Lean functions, and proofs that the calls do what these say; written by a program of this session round the kit's print. -/
import Derived.Test.YtljmdkeeppikhaaQ0
import Derived.Test.YtljmdkeeppikhaaAidB
import Derived.Test.YtljmdkeeppikhaaQ3
import Derived.Test.YtljmdkeeppikhaaQ4
import Derived.Test.YtljmdkeeppikhaaQ7
import Derived.Test.YtljmdkeeppikhaaR8
import Derived.Test.YtljmdkeeppikhaaR9
import Derived.Test.YtljmdkeeppikhaaR10
import Derived.Test.YtljmdkeeppikhaaJAp
namespace Go.Proofs.Ytljmdkeeppikhaa.Q
open Go.RowKit Go.Proofs.YtljmdkeeppikhaaW.PrintWords Go.Proofs.YtljmdkeeppikhaaW.PrintLast Go.Proofs.YtljmdkeeppikhaaW.PrintMore
attribute [local go_sem] max2_int min2_int max_two min_two max_three min_three max_four min_four   -- for this text's walks alone
set_option linter.unusedVariables false
set_option linter.unusedSimpArgs false

/-! ### fastilaw05_JournalAppendSpec: function 4 -/
mutual
def fastilaw05_JournalAppendSpec.j0 : Nat → List Int → Bool → List (List Int) → Int → Int → Option (Bool)
 | 0, _, _, _, _, _ => none
 | k + 1, x1, x20, x310000, x310001, x310002 => if x20 = true then (some true) else ((journal_Append.f x310000 x310001 x310002 x1).bind fun bt312 => ((fastiref05_Append.f k x310000 x310001 x310002 x1).bind fun bt319 => ((journal_Check.f k x310000 x310001 x310002).bind fun t326 => ((fastiref05_Check.f k x310000 x310001 x310002).bind fun t327 => (if t326 = t327 then ((journal_Room.f k x310000 x310001 x310002).bind fun t328 => ((fastiref05_Room.f k x310000 x310001 x310002).bind fun t329 => (if t328 = t329 then ((fastiref05_Same.f k bt312.1 bt312.2.1 bt312.2.2.1 bt319.1 bt319.2.1 bt319.2.2.1).bind fun t330 => (if t330 = true then (fastilaw05_JournalAppendSpec.j1 k (bt312.2.2.2 == bt319.2.2.2)) else (fastilaw05_JournalAppendSpec.j1 k false))) else (fastilaw05_JournalAppendSpec.j1 k false)))) else (fastilaw05_JournalAppendSpec.j1 k false))))))
def fastilaw05_JournalAppendSpec.j1 : Nat → Bool → Option (Bool)
 | 0, _ => none
 | k + 1, x4 => some x4
end
def fastilaw05_JournalAppendSpec.f (k : Nat) (l0_0 : List (List Int)) (a0_1 : Int) (a0_2 : Int) (l1 : List Int) : Option (Bool) := (fastilaw05_sane.f k).bind fun t310 => (if t310 = true then ((fastilaw05_few.f k ([] : List (List Int)) ([] : List (S76)) 0 false l0_0).bind fun t311 => (if t311 = true then (fastilaw05_JournalAppendSpec.j0 k l1 (decide ((l1.length : Int) > 70000)) l0_0 a0_1 a0_2) else (fastilaw05_JournalAppendSpec.j0 k l1 true l0_0 a0_1 a0_2))) else (none))
def fastilaw05_JournalAppendSpec.T7 : Bool × List (List Nat × List Nat) := (true, [([], []), ([0], [0]), ([], []), ([2, 1], [2]), ([1, 3], [1, 3]), ([4, 3], [4]), ([5], [5]), ([6, 5, 5], [5, 6]), ([5], [5]), ([8, 7, 5], [5, 8]), ([7, 9, 5], [5, 7, 9]), ([5, 10], [5, 10]), ([11, 9], [11]), ([12], [12]), ([12], [12]), ([13, 14, 12, 12], [12, 13, 14]), ([12, 15], [12, 15]), ([16, 15], [16]), ([17], [17]), ([17], [17]), ([18, 19, 17], [17, 18, 19]), ([17, 20], [17, 20]), ([21, 17, 0, 1, 2, 3, 4, 5, 6, 7, 8, 9, 10, 11, 12, 13, 14, 15, 16, 17, 18, 19, 20, 21], [21])])
def fastilaw05_JournalAppendSpec.B7 : List Nat := [0, 1, 0, 7, 15, 31, 63, 127, 63, 511, 1023, 2047, 4095, 8191, 8191, 32767, 65535, 131071, 262143, 262143, 1048575, 2097151, 4194303]
theorem fastilaw05_JournalAppendSpec.tab7 : rtab .any (opsOf Try.f4 7) = fastilaw05_JournalAppendSpec.T7 := by kernel_rfl
theorem fastilaw05_JournalAppendSpec.bits7 : waitsOk fastilaw05_JournalAppendSpec.T7.2 fastilaw05_JournalAppendSpec.B7 = true := by kernel_rfl
set_option maxHeartbeats 8000000 in
set_option maxRecDepth 100000 in
theorem fastilaw05_JournalAppendSpec.calls (k : Nat) (A0_0 : Option Addr) (c0_0 : Nat) (l0_0 : List (List Int)) (a0_1 : Int) (a0_2 : Int) (A1 : Option Addr) (c1 : Nat) (l1 : List Int) (r : Bool) (w : World) (hr0_0 : Kd.C (Kd.slice 5 (Kd.int .u8)) w A0_0 l0_0.length l0_0) (hc0_0 : l0_0.length ≤ c0_0) (hr1 : Kd.C (Kd.int .u8) w A1 l1.length l1) (hc1 : l1.length ≤ c1) (h : fastilaw05_JournalAppendSpec.f k l0_0 a0_1 a0_2 l1 = some r) :
  Calls Try.prog 4 #[.agg #[.slice A0_0 l0_0.length c0_0, .int .i64 a0_1, .int .i64 a0_2], .slice A1 l1.length c1] w fun e w' => e = .returned (.bool r) ∧ Below w.heap.size w w' := by
 have hu29 := Try.underlying29; have hu25 := Try.underlying25; have HR0_0 := Aside0.mk hr0_0; have HC0_0 := Aside0.mk hc0_0; clear hr0_0 hc0_0; have HR1 := Aside0.mk hr1; have HC1 := Aside0.mk hc1; clear hr1 hc1; have HB := Aside0.mk (Below.refl w.heap.size w); have H : ((fastilaw05_sane.f k).bind fun t310 => (if t310 = true then ((fastilaw05_few.f k ([] : List (List Int)) ([] : List (S76)) 0 false l0_0).bind fun t311 => (if t311 = true then (fastilaw05_JournalAppendSpec.j0 k l1 (decide ((l1.length : Int) > 70000)) l0_0 a0_1 a0_2) else (fastilaw05_JournalAppendSpec.j0 k l1 true l0_0 a0_1 a0_2))) else (none))) = some r := h; clear h; replace H := Option.bind_eq_some_iff.mp H; obtain ⟨t310, A30, H⟩ := H; replace H : (if t310 = true then ((fastilaw05_few.f k ([] : List (List Int)) ([] : List (S76)) 0 false l0_0).bind fun t311 => (if t311 = true then (fastilaw05_JournalAppendSpec.j0 k l1 (decide ((l1.length : Int) > 70000)) l0_0 a0_1 a0_2) else (fastilaw05_JournalAppendSpec.j0 k l1 true l0_0 a0_1 a0_2))) else (none)) = some r := H; have A3 := Aside0.mk A30; clear A30
 by_cases c4 : t310 = true
 rotate_left
 ·replace c4 := Bool.eq_false_iff.mpr c4
  subst c4
  have H1 : (none) = some r := by rw [if_neg (show ¬ (false = true) by decide)] at H; exact H
  clear H; have H := H1; clear H1
  exact absurd H (by simp)
 subst c4
 have H1 : ((fastilaw05_few.f k ([] : List (List Int)) ([] : List (S76)) 0 false l0_0).bind fun t311 => (if t311 = true then (fastilaw05_JournalAppendSpec.j0 k l1 (decide ((l1.length : Int) > 70000)) l0_0 a0_1 a0_2) else (fastilaw05_JournalAppendSpec.j0 k l1 true l0_0 a0_1 a0_2))) = some r := by rw [if_pos rfl] at H; exact H
 clear H; have H := H1; clear H1; have HC5 := Aside0.mk H; clear H
 go_enter Try.func4, Try.ntmps4
 go_upto_region 3 with (first | ((with_reducible refine gate_dst (N := 2) rfl ?_); (try (refine gate_guard (by rfl) ?_; dsimp only)); refine box_event ?hg (N := 2) ?hd (cs := #[.slice A0_0 l0_0.length c0_0, .int .i64 a0_1, .int .i64 a0_2]) (t := 29) ?hr ?_; (case hd => rfl); (case hg => rfl); (case hr => first | (go_simp; done) | (go_simp; rfl)); intro gb309 hg w6 hbox hb; have BK309 := Aside0.mk (hbox); have GW309 := Aside0.mk ((by rw [hg]; exact (below_size (blw HB.out)) : w.heap.size ≤ gb309)); have GE309 := Aside0.mk ((by rw [hg]; exact (below_size (blw HB.out)) : w.heap.size ≤ gb309)); replace HB := Aside0.mk (below_step (blw HB.out) hb); clear hb hbox hg) | ((with_reducible refine gate_callee (f := 10) rfl ?_); refine goesL_ (some 9) rfl rfl Try.func10 (by kernel_rfl) rfl #[] rfl (by (try simp only [List.map_toArray, List.map_cons, List.map_nil]); first | done | rfl | (simp only [List.length_drop, List.length_take]; rfl)) ?_; (with_reducible refine (fastilaw05_sane.calls k  true _ A3.out).mono ?_); rintro e w7 ⟨rfl, hb⟩; refine ⟨_, rfl, ?_⟩; replace BK309 := Aside0.mk (zb BK309.out hb); replace HB := Aside0.mk (below_step (blw HB.out) hb); (try clear hb); (try clear hb2); (try clear hk); (try clear hi)))
 (try simp only [Act.put, List.setIfInBounds_toArray, List.set_cons_zero, List.set_cons_succ])
 go_cut [20] (fun v20 wc => ∃ (kq : Nat) (x20_4 : Bool), v20 = .bool x20_4 ∧ Aside0 (fastilaw05_JournalAppendSpec.j0 kq l1 x20_4 l0_0 a0_1 a0_2 = some r) ∧ Aside0 (kq ≤ k) ∧ Aside0 (wc.heap[gb309]? = some (.cells #[(.slice A0_0 l0_0.length c0_0), .int .i64 a0_1, .int .i64 a0_2] 29 (0, 0))) ∧ Aside0 (Below w.heap.size w wc))
 case first =>
  have H := HC5.out; clear HC5; replace H := Option.bind_eq_some_iff.mp H; obtain ⟨t311, A80, H⟩ := H; replace H : (if t311 = true then (fastilaw05_JournalAppendSpec.j0 k l1 (decide ((l1.length : Int) > 70000)) l0_0 a0_1 a0_2) else (fastilaw05_JournalAppendSpec.j0 k l1 true l0_0 a0_1 a0_2)) = some r := H; have A8 := Aside0.mk A80; clear A80
  by_cases c9 : t311 = true
  ·subst c9
   have H1 : (fastilaw05_JournalAppendSpec.j0 k l1 (decide ((l1.length : Int) > 70000)) l0_0 a0_1 a0_2) = some r := by rw [if_pos rfl] at H; exact H
   clear H; have H := H1; clear H1; have H' := Aside0.mk H; clear H; have hcz10_0 : w7.cell? ⟨gb309, 0, none⟩ = some (.slice A0_0 l0_0.length c0_0) := bc BK309 0; have hcz10_1 : w7.cell? ⟨gb309, 1, none⟩ = some (.int .i64 a0_1) := bc BK309 1; have hcz10_2 : w7.cell? ⟨gb309, 2, none⟩ = some (.int .i64 a0_2) := bc BK309 2; have hfz10_0 := blk_frozen BK309.out 0; have hfz10_1 := blk_frozen BK309.out 1; have hfz10_2 := blk_frozen BK309.out 2
   go_wp2_with (first | ((with_reducible refine gate_callee (f := 11) rfl ?_); refine goesL_ (some 14) rfl rfl Try.func11 (by kernel_rfl) rfl #[.agg #[.slice none 0 0, .slice none 0 0, .int .i64 0, .bool false], .slice A0_0 l0_0.length c0_0] rfl (by (try simp only [List.map_toArray, List.map_cons, List.map_nil]); first | done | rfl | (simp only [List.length_drop, List.length_take]; rfl)) ?_; (refine (fastilaw05_few.calls k _ _ ([] : List (List Int)) _ _ ([] : List (S76)) 0 false _ _ l0_0 true _ ?side1 ?side2 ?side3 ?side4 ?side5 ?side6 A8.out).mono ?_); (case side1 => exact Kd.C_nil _ _); (case side2 => exact Nat.le_refl _); (case side3 => exact Kd.C_nil _ _); (case side4 => exact Nat.le_refl _); (case side5 => repeat (first | exact (Kd.C_below HR0_0.out HB.out) | (with_reducible refine Kd.C_alloc ?_ _) | (with_reducible refine Kd.C_drewN ?_ _) | (with_reducible refine Kd.C_drew ?_))); (case side6 => exact HC0_0.out); rintro e w11 ⟨rfl, hb⟩; refine ⟨_, rfl, ?_⟩; replace BK309 := Aside0.mk (zb BK309.out hb); replace HB := Aside0.mk (below_step (blw HB.out) hb); (try clear hb); (try clear hb2); (try clear hk); (try clear hi)))
   go_meet
   case rel => exact ⟨_, (decide ((l1.length : Int) > 70000)), (by first | rfl | (simp; done) | (simp [*]; done)), H', ⟨by first | omega | exact Nat.le_refl _⟩, ⟨zk BK309.out⟩, ⟨blw HB.out⟩⟩
  replace c9 := Bool.eq_false_iff.mpr c9; subst c9
  have H1 : (fastilaw05_JournalAppendSpec.j0 k l1 true l0_0 a0_1 a0_2) = some r := by rw [if_neg (show ¬ (false = true) by decide)] at H; exact H
  clear H; have H := H1; clear H1; have H' := Aside0.mk H; clear H; have hcz12_0 : w7.cell? ⟨gb309, 0, none⟩ = some (.slice A0_0 l0_0.length c0_0) := bc BK309 0; have hcz12_1 : w7.cell? ⟨gb309, 1, none⟩ = some (.int .i64 a0_1) := bc BK309 1; have hcz12_2 : w7.cell? ⟨gb309, 2, none⟩ = some (.int .i64 a0_2) := bc BK309 2; have hfz12_0 := blk_frozen BK309.out 0; have hfz12_1 := blk_frozen BK309.out 1; have hfz12_2 := blk_frozen BK309.out 2
  go_wp2_with (first | ((with_reducible refine gate_callee (f := 11) rfl ?_); refine goesL_ (some 14) rfl rfl Try.func11 (by kernel_rfl) rfl #[.agg #[.slice none 0 0, .slice none 0 0, .int .i64 0, .bool false], .slice A0_0 l0_0.length c0_0] rfl (by (try simp only [List.map_toArray, List.map_cons, List.map_nil]); first | done | rfl | (simp only [List.length_drop, List.length_take]; rfl)) ?_; (refine (fastilaw05_few.calls k _ _ ([] : List (List Int)) _ _ ([] : List (S76)) 0 false _ _ l0_0 false _ ?side1 ?side2 ?side3 ?side4 ?side5 ?side6 A8.out).mono ?_); (case side1 => exact Kd.C_nil _ _); (case side2 => exact Nat.le_refl _); (case side3 => exact Kd.C_nil _ _); (case side4 => exact Nat.le_refl _); (case side5 => repeat (first | exact (Kd.C_below HR0_0.out HB.out) | (with_reducible refine Kd.C_alloc ?_ _) | (with_reducible refine Kd.C_drewN ?_ _) | (with_reducible refine Kd.C_drew ?_))); (case side6 => exact HC0_0.out); rintro e w13 ⟨rfl, hb⟩; refine ⟨_, rfl, ?_⟩; replace BK309 := Aside0.mk (zb BK309.out hb); replace HB := Aside0.mk (below_step (blw HB.out) hb); (try clear hb); (try clear hb2); (try clear hk); (try clear hi)))
  go_meet
  case rel => exact ⟨_, (true), (by first | rfl | (simp; done) | (simp [*]; done)), H', ⟨by first | omega | exact Nat.le_refl _⟩, ⟨zk BK309.out⟩, ⟨blw HB.out⟩⟩
 clear HC5; (try clear c1); (try clear p2); (try clear c4); (try clear c9); (try clear c10); (try clear c11); (try clear hcz10_0); (try clear hcz10_1); (try clear hcz10_2); (try clear hcz12_0); (try clear hcz12_1); (try clear hcz12_2); (try clear hfz10_0); (try clear hfz10_1); (try clear hfz10_2); (try clear hfz12_0); (try clear hfz12_1); (try clear hfz12_2); obtain ⟨kq, x20_4, rfl, HA, HJ4, BK309, HB⟩ := hcut
 cases kq with
 | zero => exact absurd HA.out (by simp [fastilaw05_JournalAppendSpec.j0])
 | succ kj4 =>
  have H := HA.out; clear HA
  simp only [fastilaw05_JournalAppendSpec.j0] at H
  by_cases c14 : x20_4 = true
  ·subst c14
   have H1 : (some true) = some r := by rw [if_pos rfl] at H; exact H
   clear H; have H := H1; clear H1; obtain rfl := Option.some.inj H
   go_wp2
   go_ret
   exact ⟨by first | rfl | (simp [errW_none, errW_some] <;> rfl) | (simp [*, errW_none, errW_some] <;> rfl), blw HB.out⟩
  ·replace c14 := Bool.eq_false_iff.mpr c14
   subst c14
   have H1 : ((journal_Append.f l0_0 a0_1 a0_2 l1).bind fun bt312 => ((fastiref05_Append.f kj4 l0_0 a0_1 a0_2 l1).bind fun bt319 => ((journal_Check.f kj4 l0_0 a0_1 a0_2).bind fun t326 => ((fastiref05_Check.f kj4 l0_0 a0_1 a0_2).bind fun t327 => (if t326 = t327 then ((journal_Room.f kj4 l0_0 a0_1 a0_2).bind fun t328 => ((fastiref05_Room.f kj4 l0_0 a0_1 a0_2).bind fun t329 => (if t328 = t329 then ((fastiref05_Same.f kj4 bt312.1 bt312.2.1 bt312.2.2.1 bt319.1 bt319.2.1 bt319.2.2.1).bind fun t330 => (if t330 = true then (fastilaw05_JournalAppendSpec.j1 kj4 (bt312.2.2.2 == bt319.2.2.2)) else (fastilaw05_JournalAppendSpec.j1 kj4 false))) else (fastilaw05_JournalAppendSpec.j1 kj4 false)))) else (fastilaw05_JournalAppendSpec.j1 kj4 false)))))) = some r := by rw [if_neg (show ¬ (false = true) by decide)] at H; exact H
   clear H; have H := H1; clear H1; replace H := Option.bind_eq_some_iff.mp H; obtain ⟨⟨t312, t315, t316, t317⟩, A150, H⟩ := H; replace H : ((fastiref05_Append.f kj4 l0_0 a0_1 a0_2 l1).bind fun bt319 => ((journal_Check.f kj4 l0_0 a0_1 a0_2).bind fun t326 => ((fastiref05_Check.f kj4 l0_0 a0_1 a0_2).bind fun t327 => (if t326 = t327 then ((journal_Room.f kj4 l0_0 a0_1 a0_2).bind fun t328 => ((fastiref05_Room.f kj4 l0_0 a0_1 a0_2).bind fun t329 => (if t328 = t329 then ((fastiref05_Same.f kj4 t312 t315 t316 bt319.1 bt319.2.1 bt319.2.2.1).bind fun t330 => (if t330 = true then (fastilaw05_JournalAppendSpec.j1 kj4 (t317 == bt319.2.2.2)) else (fastilaw05_JournalAppendSpec.j1 kj4 false))) else (fastilaw05_JournalAppendSpec.j1 kj4 false)))) else (fastilaw05_JournalAppendSpec.j1 kj4 false))))) = some r := H; have A15 := Aside0.mk A150; clear A150; replace H := Option.bind_eq_some_iff.mp H; obtain ⟨⟨t319, t322, t323, t324⟩, A160, H⟩ := H
   replace H : ((journal_Check.f kj4 l0_0 a0_1 a0_2).bind fun t326 => ((fastiref05_Check.f kj4 l0_0 a0_1 a0_2).bind fun t327 => (if t326 = t327 then ((journal_Room.f kj4 l0_0 a0_1 a0_2).bind fun t328 => ((fastiref05_Room.f kj4 l0_0 a0_1 a0_2).bind fun t329 => (if t328 = t329 then ((fastiref05_Same.f kj4 t312 t315 t316 t319 t322 t323).bind fun t330 => (if t330 = true then (fastilaw05_JournalAppendSpec.j1 kj4 (t317 == t324)) else (fastilaw05_JournalAppendSpec.j1 kj4 false))) else (fastilaw05_JournalAppendSpec.j1 kj4 false)))) else (fastilaw05_JournalAppendSpec.j1 kj4 false)))) = some r := H; have A16 := Aside0.mk A160; clear A160; have HC17 := Aside0.mk H; clear H; have hcz18_0 : wc.cell? ⟨gb309, 0, none⟩ = some (.slice A0_0 l0_0.length c0_0) := bc BK309 0; have hcz18_1 : wc.cell? ⟨gb309, 1, none⟩ = some (.int .i64 a0_1) := bc BK309 1; have hcz18_2 : wc.cell? ⟨gb309, 2, none⟩ = some (.int .i64 a0_2) := bc BK309 2; have hfz18_0 := blk_frozen BK309.out 0; have hfz18_1 := blk_frozen BK309.out 1; have hfz18_2 := blk_frozen BK309.out 2
   go_upto_region 7 with (first | ((with_reducible refine gate_callee (f := 15) rfl ?_); refine goesL_ (some 24) rfl rfl Try.func15 (by kernel_rfl) rfl #[.agg #[.slice A0_0 l0_0.length c0_0, .int .i64 a0_1, .int .i64 a0_2], .slice A1 l1.length c1] rfl (by (try simp only [List.map_toArray, List.map_cons, List.map_nil]); first | done | rfl | (simp only [List.length_drop, List.length_take]; rfl)) ?_; (with_reducible refine (journal_Append.calls (fun k_ => k_ < w.heap.size) _ _ l0_0 a0_1 a0_2 _ _ l1 t312 t315 t316 t317 _ ?side1 ?side2 ?side3 A15.out).mono ?_); (case side1 => exact Kd.V_mk HC0_0.out (Kd.F_below (Kd.C_F (Kd.heap_slice 5 (Kd.heap_int .u8)) HR0_0.out) (blw HB.out))); (case side2 => repeat (first | exact (Kd.C_below HR1.out HB.out) | (with_reducible refine Kd.C_alloc ?_ _) | (with_reducible refine Kd.C_drewN ?_ _) | (with_reducible refine Kd.C_drew ?_))); (case side3 => exact HC1.out); rintro e w19 ⟨v313, rfl, ho0, hb⟩; refine ⟨_, rfl, ?_⟩; have HO314 := Aside0.mk (Kd.V_lower (Kd.V_mono (ok' := fun k_ => k_ ≠ gb309) ho0 (fun k_ hk_ => Or.elim hk_ (fun hs_ => fun e_ => Nat.not_le.2 hs_ (by rw [e_]; exact GW309.out)) (fun hn_ => (Kd.freshB (zk BK309.out) k_ hn_)))) (below_size (blw HB.out))); replace BK309 := Aside0.mk (zb BK309.out hb); replace HB := Aside0.mk (below_step (blw HB.out) hb); (try clear hb); (try clear hb2); (try clear hk); (try clear hi); (try clear ho0)) | ((with_reducible refine gate_dst (N := 5) rfl ?_); (try (refine gate_guard (by rfl) ?_; dsimp only)); refine box_event ?hg (N := 5) ?hd (cs := #[.slice none 0 0, .int .i64 0, .int .i64 0]) (t := 29) ?hr ?_; (case hd => rfl); (case hg => rfl); (case hr => first | (go_simp; done) | (go_simp; rfl)); intro gb318 hg w20 hbox hb; replace HO314 := Aside0.mk (Kd.V_below (Kd.V_elderB (vmv HO314.out) gb318 (Nat.le_of_eq hg.symm)) hb); have BK318 := Aside0.mk (hbox); have GW318 := Aside0.mk ((by rw [hg]; exact (below_size (blw HB.out)) : w.heap.size ≤ gb318)); have GE318 := Aside0.mk ((by rw [hg]; exact (below_size (blw HB.out)) : w.heap.size ≤ gb318)); replace HB := Aside0.mk (below_step (blw HB.out) hb); have NB309_318 := Aside0.mk ((by rw [hg]; exact Nat.ne_of_lt (blk_lt (zk BK309.out)) : gb309 ≠ gb318)); have NB318_309 := Aside0.mk ((by rw [hg]; exact Nat.ne_of_gt (blk_lt (zk BK309.out)) : gb318 ≠ gb309)); replace BK309 := Aside0.mk (zb BK309.out hb); clear hb hbox hg; obtain ⟨Ao21, co21, eo21⟩ := Kd.V_slice HO314.out; subst eo21; have hnb22 := NB318_309.out; have hnc22 := NB309_318.out; have hcz23_0 : w20.cell? ⟨gb318, 0, none⟩ = some (.slice none 0 0) := bc BK318 0; have hcz23_1 : w20.cell? ⟨gb318, 1, none⟩ = some (.int .i64 0) := bc BK318 1; have hcz23_2 : w20.cell? ⟨gb318, 2, none⟩ = some (.int .i64 0) := bc BK318 2; have hfz23_0 := blk_frozen BK318.out 0; have hfz23_1 := blk_frozen BK318.out 1; have hfz23_2 := blk_frozen BK318.out 2) | ((with_reducible refine gate_store (t := 29) (p := 5) rfl ?_); refine store_event (t := 29) (p := 5) (v := ?vo_w24) (w1 := (((w20.setCell ⟨gb318, 0, none⟩ (.slice Ao21 t312.length co21)).setCell ⟨gb318, 1, none⟩ (.int .i64 t315)).setCell ⟨gb318, 2, none⟩ (.int .i64 t316))) ?hg ?ho ?hn ?hr ?_; (case ho => rfl); (case hg => rfl); (case hn => rfl); (case hr => first | (go_simp; done) | (go_simp; rfl)); intro w24 hw; replace HO314 : Aside0 (Kd.V (Kd.slice 5 (Kd.int .u8)) 35 w24 w.heap.size (fun k_ => k_ ≠ gb309 ∧ k_ ≠ gb318) (.slice Ao21 t312.length co21) t312) := ⟨(by rw [hw]; exact (vfa HO314.out (fun _ hk => hk.2)))⟩; replace BK309 : Aside0 (w24.heap[gb309]? = some (.cells #[.slice A0_0 l0_0.length c0_0, .int .i64 a0_1, .int .i64 a0_2] 29 (0, 0))) := ⟨(by rw [hw]; exact (zf BK309.out))⟩; replace BK318 : Aside0 (w24.heap[gb318]? = some (.cells #[.slice Ao21 t312.length co21, .int .i64 t315, .int .i64 t316] 29 (0, 0))) := ⟨(by rw [hw]; exact (by (with_reducible repeat (first | refine blk_drewN ?_ _ | refine blk_drew ?_ | refine blk_alloc ?_ _)); refine blk_put (cs := #[.slice Ao21 t312.length co21, .int .i64 t315, .int .i64 0]) ?_ 2 _ rfl; refine blk_put (cs := #[.slice Ao21 t312.length co21, .int .i64 0, .int .i64 0]) ?_ 1 _ rfl; refine blk_put (cs := #[.slice none 0 0, .int .i64 0, .int .i64 0]) ?_ 0 _ rfl; (with_reducible repeat (first | refine blk_drewN ?_ _ | refine blk_drew ?_ | refine blk_alloc ?_ _)); exact BK318.out))⟩; replace HB : Aside0 (Below w.heap.size w w24) := ⟨(by rw [hw]; exact (blw HB.out))⟩; clear hw; have hcz25_0 : w24.cell? ⟨gb309, 0, none⟩ = some (.slice A0_0 l0_0.length c0_0) := bc BK309 0; have hcz25_1 : w24.cell? ⟨gb309, 1, none⟩ = some (.int .i64 a0_1) := bc BK309 1; have hcz25_2 : w24.cell? ⟨gb309, 2, none⟩ = some (.int .i64 a0_2) := bc BK309 2; have hfz25_0 := blk_frozen BK309.out 0; have hfz25_1 := blk_frozen BK309.out 1; have hfz25_2 := blk_frozen BK309.out 2) | ((with_reducible refine gate_callee (f := 16) rfl ?_); refine goesL_ (some 30) rfl rfl Try.func16 (by kernel_rfl) rfl #[.agg #[.slice A0_0 l0_0.length c0_0, .int .i64 a0_1, .int .i64 a0_2], .slice A1 l1.length c1] rfl (by (try simp only [List.map_toArray, List.map_cons, List.map_nil]); first | done | rfl | (simp only [List.length_drop, List.length_take]; rfl)) ?_; (with_reducible refine (fastiref05_Append.calls kj4 (fun k_ => k_ < w.heap.size) _ _ l0_0 a0_1 a0_2 (fun k_ => k_ < w.heap.size) _ _ l1 t319 t322 t323 t324 _ ?side1 ?side2 A16.out).mono ?_); (case side1 => exact Kd.V_mk HC0_0.out (Kd.F_below (Kd.C_F (Kd.heap_slice 5 (Kd.heap_int .u8)) HR0_0.out) (blw HB.out))); (case side2 => exact Kd.V_mk HC1.out (Kd.F_below (Kd.C_F (Kd.heap_int .u8) HR1.out) (blw HB.out))); rintro e w26 ⟨v320, rfl, ho0, hb⟩; refine ⟨_, rfl, ?_⟩; replace HO314 := Aside0.mk (Kd.V_elder' (vmv HO314.out) (Kd.N_base ho0) hb); have HO321 := Aside0.mk (Kd.N_lower (Kd.N_mono (ok' := fun k_ => k_ ≠ gb309 ∧ k_ ≠ gb318) ho0 (fun k_ hk_ => ⟨Or.elim hk_ (fun hs_ => Or.elim hs_ (fun hs_ => fun e_ => Nat.not_le.2 hs_ (by rw [e_]; exact GW309.out)) (fun hs_ => fun e_ => Nat.not_le.2 hs_ (by rw [e_]; exact GW309.out))) (fun hn_ => (Kd.freshB (zk BK309.out) k_ hn_)), Or.elim hk_ (fun hs_ => Or.elim hs_ (fun hs_ => fun e_ => Nat.not_le.2 hs_ (by rw [e_]; exact GW318.out)) (fun hs_ => fun e_ => Nat.not_le.2 hs_ (by rw [e_]; exact GW318.out))) (fun hn_ => (Kd.freshB (zk BK318.out) k_ hn_))⟩)) (below_size (blw HB.out))); replace BK309 := Aside0.mk (zb BK309.out hb); replace BK318 := Aside0.mk (zb BK318.out hb); replace HB := Aside0.mk (below_step (blw HB.out) hb); (try clear hb); (try clear hb2); (try clear hk); (try clear hi); (try clear ho0)) | ((with_reducible refine gate_dst (N := 7) rfl ?_); (try (refine gate_guard (by rfl) ?_; dsimp only)); refine box_event ?hg (N := 7) ?hd (cs := #[.slice none 0 0, .int .i64 0, .int .i64 0]) (t := 29) ?hr ?_; (case hd => rfl); (case hg => rfl); (case hr => first | (go_simp; done) | (go_simp; rfl)); intro gb325 hg w27 hbox hb; replace HO314 := Aside0.mk (Kd.V_below (Kd.V_elderB (vmv HO314.out) gb325 (Nat.le_of_eq hg.symm)) hb); replace HO321 := Aside0.mk (Kd.N_below (Kd.N_elderB (by (with_reducible repeat (first | apply Kd.N_alloc | apply Kd.N_drewN | apply Kd.N_drew)); exact HO321.out) gb325 (Nat.le_of_eq hg.symm)) hb); have BK325 := Aside0.mk (hbox); have GW325 := Aside0.mk ((by rw [hg]; exact (below_size (blw HB.out)) : w.heap.size ≤ gb325)); have GE325 := Aside0.mk ((by rw [hg]; exact (below_size (blw HB.out)) : w.heap.size ≤ gb325)); replace HB := Aside0.mk (below_step (blw HB.out) hb); have NB309_325 := Aside0.mk ((by rw [hg]; exact Nat.ne_of_lt (blk_lt (zk BK309.out)) : gb309 ≠ gb325)); have NB325_309 := Aside0.mk ((by rw [hg]; exact Nat.ne_of_gt (blk_lt (zk BK309.out)) : gb325 ≠ gb309)); replace BK309 := Aside0.mk (zb BK309.out hb); have NB318_325 := Aside0.mk ((by rw [hg]; exact Nat.ne_of_lt (blk_lt (zk BK318.out)) : gb318 ≠ gb325)); have NB325_318 := Aside0.mk ((by rw [hg]; exact Nat.ne_of_gt (blk_lt (zk BK318.out)) : gb325 ≠ gb318)); replace BK318 := Aside0.mk (zb BK318.out hb); clear hb hbox hg; obtain ⟨Ao28, co28, eo28⟩ := Kd.N_slice HO321.out; subst eo28; have hnb29 := NB325_309.out; have hnc29 := NB309_325.out; have hnb30 := NB325_318.out; have hnc30 := NB318_325.out; have hcz31_0 : w27.cell? ⟨gb325, 0, none⟩ = some (.slice none 0 0) := bc BK325 0; have hcz31_1 : w27.cell? ⟨gb325, 1, none⟩ = some (.int .i64 0) := bc BK325 1; have hcz31_2 : w27.cell? ⟨gb325, 2, none⟩ = some (.int .i64 0) := bc BK325 2; have hfz31_0 := blk_frozen BK325.out 0; have hfz31_1 := blk_frozen BK325.out 1; have hfz31_2 := blk_frozen BK325.out 2))
   (try simp only [Act.put, List.setIfInBounds_toArray, List.set_cons_zero, List.set_cons_succ])
   go_cut [4] (fun v4 wc => ∃ (kq : Nat) (x4_16 : Bool), v4 = .bool x4_16 ∧ Aside0 (fastilaw05_JournalAppendSpec.j1 kq x4_16 = some r) ∧ Aside0 (kq ≤ kj4) ∧ Aside0 (Kd.V (Kd.slice 5 (Kd.int .u8)) 35 wc w.heap.size (fun k_ => some k_ ≠ ((.slice Ao28 t319.length co28) : Value).ownBlock ∧ k_ ≠ gb309 ∧ k_ ≠ gb318 ∧ k_ ≠ gb325) (.slice Ao21 t312.length co21) t312) ∧ Aside0 (Kd.N (Kd.slice 5 (Kd.int .u8)) 35 wc w.heap.size (fun k_ => k_ ≠ gb309 ∧ k_ ≠ gb318 ∧ k_ ≠ gb325) (.slice Ao28 t319.length co28) t319) ∧ Aside0 (wc.heap[gb309]? = some (.cells #[(.slice A0_0 l0_0.length c0_0), .int .i64 a0_1, .int .i64 a0_2] 29 (0, 0))) ∧ Aside0 (wc.heap[gb318]? = some (.cells #[(.slice Ao21 t312.length co21), .int .i64 t315, .int .i64 t316] 29 (0, 0))) ∧ Aside0 (wc.heap[gb325]? = some (.cells #[(.slice Ao28 t319.length co28), .int .i64 t322, .int .i64 t323] 29 (0, 0))) ∧ Aside0 (Below w.heap.size w wc))
   case first =>
    have H := HC17.out; clear HC17; replace H := Option.bind_eq_some_iff.mp H; obtain ⟨t326, A320, H⟩ := H; replace H : ((fastiref05_Check.f kj4 l0_0 a0_1 a0_2).bind fun t327 => (if t326 = t327 then ((journal_Room.f kj4 l0_0 a0_1 a0_2).bind fun t328 => ((fastiref05_Room.f kj4 l0_0 a0_1 a0_2).bind fun t329 => (if t328 = t329 then ((fastiref05_Same.f kj4 t312 t315 t316 t319 t322 t323).bind fun t330 => (if t330 = true then (fastilaw05_JournalAppendSpec.j1 kj4 (t317 == t324)) else (fastilaw05_JournalAppendSpec.j1 kj4 false))) else (fastilaw05_JournalAppendSpec.j1 kj4 false)))) else (fastilaw05_JournalAppendSpec.j1 kj4 false))) = some r := H; have A32 := Aside0.mk A320; clear A320; replace H := Option.bind_eq_some_iff.mp H; obtain ⟨t327, A330, H⟩ := H; replace H : (if t326 = t327 then ((journal_Room.f kj4 l0_0 a0_1 a0_2).bind fun t328 => ((fastiref05_Room.f kj4 l0_0 a0_1 a0_2).bind fun t329 => (if t328 = t329 then ((fastiref05_Same.f kj4 t312 t315 t316 t319 t322 t323).bind fun t330 => (if t330 = true then (fastilaw05_JournalAppendSpec.j1 kj4 (t317 == t324)) else (fastilaw05_JournalAppendSpec.j1 kj4 false))) else (fastilaw05_JournalAppendSpec.j1 kj4 false)))) else (fastilaw05_JournalAppendSpec.j1 kj4 false)) = some r := H; have A33 := Aside0.mk A330; clear A330
    by_cases c34 : t326 = t327
    ·rw [if_pos c34] at H
     have c34b0 : (t326 == t327) = true := beq_iff_eq.mpr c34; have c34b1 : (t326 != t327) = false := bne_eq_false_iff_eq.mpr c34; clear c34
     (first | rw [c34b0] | (simp only [i64_w, i32_w]; rw [c34b0]) | skip)
     replace H := Option.bind_eq_some_iff.mp H; obtain ⟨t328, A350, H⟩ := H; replace H : ((fastiref05_Room.f kj4 l0_0 a0_1 a0_2).bind fun t329 => (if t328 = t329 then ((fastiref05_Same.f kj4 t312 t315 t316 t319 t322 t323).bind fun t330 => (if t330 = true then (fastilaw05_JournalAppendSpec.j1 kj4 (t317 == t324)) else (fastilaw05_JournalAppendSpec.j1 kj4 false))) else (fastilaw05_JournalAppendSpec.j1 kj4 false))) = some r := H; have A35 := Aside0.mk A350; clear A350; replace H := Option.bind_eq_some_iff.mp H; obtain ⟨t329, A360, H⟩ := H; replace H : (if t328 = t329 then ((fastiref05_Same.f kj4 t312 t315 t316 t319 t322 t323).bind fun t330 => (if t330 = true then (fastilaw05_JournalAppendSpec.j1 kj4 (t317 == t324)) else (fastilaw05_JournalAppendSpec.j1 kj4 false))) else (fastilaw05_JournalAppendSpec.j1 kj4 false)) = some r := H; have A36 := Aside0.mk A360; clear A360
     by_cases c37 : t328 = t329
     ·rw [if_pos c37] at H
      have c37b0 : (t328 == t329) = true := beq_iff_eq.mpr c37; have c37b1 : (t328 != t329) = false := bne_eq_false_iff_eq.mpr c37; clear c37; replace H := Option.bind_eq_some_iff.mp H; obtain ⟨t330, A380, H⟩ := H; replace H : (if t330 = true then (fastilaw05_JournalAppendSpec.j1 kj4 (t317 == t324)) else (fastilaw05_JournalAppendSpec.j1 kj4 false)) = some r := H; have A38 := Aside0.mk A380; clear A380
      by_cases c39 : t330 = true
      ·subst c39
       have H1 : (fastilaw05_JournalAppendSpec.j1 kj4 (t317 == t324)) = some r := by rw [if_pos rfl] at H; exact H
       clear H; have H := H1; clear H1; have H' := Aside0.mk H; clear H
       try go_wp2
       have n0_ : Aside0 (Kd.V (Kd.slice 5 (Kd.int .u8)) 35 (((w27.setCell ⟨gb325, 0, none⟩ (.slice Ao28 t319.length co28)).setCell ⟨gb325, 1, none⟩ (.int .i64 t322)).setCell ⟨gb325, 2, none⟩ (.int .i64 t323)) w.heap.size (fun k_ => some k_ ≠ (.slice Ao28 t319.length co28 : Value).ownBlock ∧ k_ ≠ gb309 ∧ k_ ≠ gb318 ∧ k_ ≠ gb325) (.slice Ao21 t312.length co21) t312) := ⟨Kd.V_mono (vfa HO314.out (fun _ hk => hk.2)) (fun _ q_ => ⟨q_.1.2, ⟨q_.1.1.1, ⟨q_.1.1.2, q_.2⟩⟩⟩)⟩; have n1_ : Aside0 (Kd.N (Kd.slice 5 (Kd.int .u8)) 35 (((w27.setCell ⟨gb325, 0, none⟩ (.slice Ao28 t319.length co28)).setCell ⟨gb325, 1, none⟩ (.int .i64 t322)).setCell ⟨gb325, 2, none⟩ (.int .i64 t323)) w.heap.size (fun k_ => k_ ≠ gb309 ∧ k_ ≠ gb318 ∧ k_ ≠ gb325) (.slice Ao28 t319.length co28) t319) := ⟨by (with_reducible repeat (first | apply Kd.N_alloc | apply Kd.N_drewN | apply Kd.N_drew)); exact Kd.N_mono (Kd.N_far (p := ⟨gb325, 2, none⟩) (Kd.N_far (p := ⟨gb325, 1, none⟩) (Kd.N_far (p := ⟨gb325, 0, none⟩) (Kd.N_mono HO321.out (fun k_ hk => (⟨hk, hk.2⟩ : _ ∧ k_ ≠ gb325))) (fun _ hk => hk.2) (.slice Ao28 t319.length co28)) (fun _ hk => hk.2) (.int .i64 t322)) (fun _ hk => hk.2) (.int .i64 t323)) (fun _ hk => ⟨hk.1.1.1, ⟨hk.1.1.2, hk.1.2⟩⟩)⟩
       have n2_ : Aside0 ((((w27.setCell ⟨gb325, 0, none⟩ (.slice Ao28 t319.length co28)).setCell ⟨gb325, 1, none⟩ (.int .i64 t322)).setCell ⟨gb325, 2, none⟩ (.int .i64 t323)).heap[gb309]? = some (.cells #[.slice A0_0 l0_0.length c0_0, .int .i64 a0_1, .int .i64 a0_2] 29 (0, 0))) := ⟨zf BK309.out⟩; have n3_ : Aside0 ((((w27.setCell ⟨gb325, 0, none⟩ (.slice Ao28 t319.length co28)).setCell ⟨gb325, 1, none⟩ (.int .i64 t322)).setCell ⟨gb325, 2, none⟩ (.int .i64 t323)).heap[gb318]? = some (.cells #[.slice Ao21 t312.length co21, .int .i64 t315, .int .i64 t316] 29 (0, 0))) := ⟨zf BK318.out⟩; have n4_ : Aside0 ((((w27.setCell ⟨gb325, 0, none⟩ (.slice Ao28 t319.length co28)).setCell ⟨gb325, 1, none⟩ (.int .i64 t322)).setCell ⟨gb325, 2, none⟩ (.int .i64 t323)).heap[gb325]? = some (.cells #[.slice Ao28 t319.length co28, .int .i64 t322, .int .i64 t323] 29 (0, 0))) := ⟨by (with_reducible repeat (first | refine blk_drewN ?_ _ | refine blk_drew ?_ | refine blk_alloc ?_ _)); refine blk_put (cs := #[.slice Ao28 t319.length co28, .int .i64 t322, .int .i64 0]) ?_ 2 _ rfl; refine blk_put (cs := #[.slice Ao28 t319.length co28, .int .i64 0, .int .i64 0]) ?_ 1 _ rfl; refine blk_put (cs := #[.slice none 0 0, .int .i64 0, .int .i64 0]) ?_ 0 _ rfl; (with_reducible repeat (first | refine blk_drewN ?_ _ | refine blk_drew ?_ | refine blk_alloc ?_ _)); exact BK325.out⟩
       have n5_ : Aside0 (Below w.heap.size w (((w27.setCell ⟨gb325, 0, none⟩ (.slice Ao28 t319.length co28)).setCell ⟨gb325, 1, none⟩ (.int .i64 t322)).setCell ⟨gb325, 2, none⟩ (.int .i64 t323))) := ⟨blw HB.out⟩; (try clear HO314); (try clear HO321); (try clear BK309); (try clear BK318); (try clear BK325); (try clear HB)
       generalize (((w27.setCell ⟨gb325, 0, none⟩ (.slice Ao28 t319.length co28)).setCell ⟨gb325, 1, none⟩ (.int .i64 t322)).setCell ⟨gb325, 2, none⟩ (.int .i64 t323)) = w40 at n0_ n1_ n2_ n3_ n4_ n5_ ⊢
       have HO314 := n0_; have HO321 := n1_; have BK309 := n2_; have BK318 := n3_; have BK325 := n4_; have HB := n5_; clear n0_ n1_ n2_ n3_ n4_ n5_; replace HO314 := Aside0.mk (Kd.V_drew HO314.out); replace HO321 := Aside0.mk (Kd.N_drew HO321.out); replace BK309 := Aside0.mk (blk_drew BK309.out); replace BK318 := Aside0.mk (blk_drew BK318.out); replace BK325 := Aside0.mk (blk_drew BK325.out); replace HB := Aside0.mk (below_drew1 HB.out)
       refine start_ (n := 23) (S := fun w' => w'.cell? ⟨gb309, 0, none⟩ = some (.slice A0_0 l0_0.length c0_0) ∧ w'.cell? ⟨gb309, 1, none⟩ = some (.int .i64 a0_1) ∧ w'.cell? ⟨gb309, 2, none⟩ = some (.int .i64 a0_2) ∧ w'.cell? ⟨gb318, 0, none⟩ = some (.slice Ao21 t312.length co21) ∧ w'.cell? ⟨gb318, 1, none⟩ = some (.int .i64 t315) ∧ w'.cell? ⟨gb318, 2, none⟩ = some (.int .i64 t316) ∧ w'.cell? ⟨gb325, 0, none⟩ = some (.slice Ao28 t319.length co28) ∧ w'.cell? ⟨gb325, 1, none⟩ = some (.int .i64 t322) ∧ w'.cell? ⟨gb325, 2, none⟩ = some (.int .i64 t323)) (ds := []) #[N,N,N,N,N,N,N,N,N,N,N,N,N,N,N,N,N,N,N,N,N,N,N] (by kernel_rfl) rfl rfl ⟨bc BK309 0, bc BK309 1, bc BK309 2, bc BK318 0, bc BK318 1, bc BK318 2, bc BK325 0, bc BK325 1, bc BK325 2⟩ (fun hHeld => ?_); refine with_tabW fastilaw05_JournalAppendSpec.tab7 fastilaw05_JournalAppendSpec.bits7 (fun HT_ HW_ => ?_)
       generalize w40.drew = w41 at HO314 HO321 BK309 BK318 BK325 HB hHeld ⊢
       refine takeA (i := 0) (N := some 33) (ar 23 1) rfl (take_ofW HT_.out HW_.out (by kernel_rfl)) hHeld (by rintro w' ⟨s0, s1, s2, s3, s4, s5, s6, s7, s8⟩; go_simp; with_reducible rfl) ?_; refine takeA (i := 2) (N := some 35) (ar 23 5) rfl (take_ofW HT_.out HW_.out (by kernel_rfl)) hHeld (by rintro w' ⟨s0, s1, s2, s3, s4, s5, s6, s7, s8⟩; go_simp; with_reducible rfl) ?_
       refine one_ (i := 1) (N := some 34) #[Y,Y,Y,N,N,N,N,N,N,N,N,N,N,N,N,N,N,N,N,N,N,N,N] rfl rfl (one_of HT_.out (by kernel_rfl)) (by decide) (fun K hK => ?_)
       refine goes_ Try.func17 (by kernel_rfl) rfl #[.agg #[.slice A0_0 l0_0.length c0_0, .int .i64 a0_1, .int .i64 a0_2]] (by rfl) rfl rfl (by (try simp only [List.map_toArray, List.map_cons, List.map_nil]); first | done | rfl | (simp only [List.length_drop, List.length_take]; rfl)) ?_
       with_reducible refine (journal_Check.calls kj4 _ _ l0_0 a0_1 a0_2 t326 _ ?side1 ?side2 A32.out).mono ?_
       (case side1 => repeat (first | exact (Kd.C_below HR0_0.out HB.out) | (with_reducible refine Kd.C_alloc ?_ _) | (with_reducible refine Kd.C_drewN ?_ _) | (with_reducible refine Kd.C_drew ?_)))
       (case side2 => exact HC0_0.out)
       rintro e w42 ⟨rfl, hb⟩
       refine ⟨_, rfl, ?_⟩
       replace HO314 := Aside0.mk (Kd.V_below (vmv HO314.out) hb); replace HO321 := Aside0.mk (Kd.N_below (by (with_reducible repeat (first | apply Kd.N_alloc | apply Kd.N_drewN | apply Kd.N_drew)); exact HO321.out) hb); replace BK309 := Aside0.mk (zb BK309.out hb); replace BK318 := Aside0.mk (zb BK318.out hb); replace BK325 := Aside0.mk (zb BK325.out hb); replace HB := Aside0.mk (below_step (blw HB.out) hb); (try clear hb); (try clear hb2); (try clear hk); (try clear hi)
       refine hK.out _ _ ⟨bc BK309 0, bc BK309 1, bc BK309 2, bc BK318 0, bc BK318 1, bc BK318 2, bc BK325 0, bc BK325 1, bc BK325 2⟩ (fun hHeld => ?_)
       clear hK K
       refine norm_ (a' := ?_) ?_ ?_
       rotate_left
       ·show Act.put _ (some 34) _ = _
        simp only [Act.put, List.setIfInBounds_toArray, List.set_cons_zero, List.set_cons_succ, i64_w, i32_w]
        rfl
       refine one_ (i := 3) (N := some 36) #[Y,Y,Y,Y,N,N,N,N,N,N,N,N,N,N,N,N,N,N,N,N,N,N,N] rfl rfl (one_of HT_.out (by kernel_rfl)) (by decide) (fun K hK => ?_)
       refine goes_ Try.func18 (by kernel_rfl) rfl #[.agg #[.slice A0_0 l0_0.length c0_0, .int .i64 a0_1, .int .i64 a0_2]] (by rfl) rfl rfl (by (try simp only [List.map_toArray, List.map_cons, List.map_nil]); first | done | rfl | (simp only [List.length_drop, List.length_take]; rfl)) ?_
       with_reducible refine (fastiref05_Check.calls kj4 _ _ l0_0 a0_1 a0_2 t327 _ ?side1 ?side2 A33.out).mono ?_
       (case side1 => repeat (first | exact (Kd.C_below HR0_0.out HB.out) | (with_reducible refine Kd.C_alloc ?_ _) | (with_reducible refine Kd.C_drewN ?_ _) | (with_reducible refine Kd.C_drew ?_)))
       (case side2 => exact HC0_0.out)
       rintro e w43 ⟨rfl, hb⟩
       refine ⟨_, rfl, ?_⟩
       replace HO314 := Aside0.mk (Kd.V_below (vmv HO314.out) hb); replace HO321 := Aside0.mk (Kd.N_below (by (with_reducible repeat (first | apply Kd.N_alloc | apply Kd.N_drewN | apply Kd.N_drew)); exact HO321.out) hb); replace BK309 := Aside0.mk (zb BK309.out hb); replace BK318 := Aside0.mk (zb BK318.out hb); replace BK325 := Aside0.mk (zb BK325.out hb); replace HB := Aside0.mk (below_step (blw HB.out) hb); (try clear hb); (try clear hb2); (try clear hk); (try clear hi)
       refine hK.out _ _ ⟨bc BK309 0, bc BK309 1, bc BK309 2, bc BK318 0, bc BK318 1, bc BK318 2, bc BK325 0, bc BK325 1, bc BK325 2⟩ (fun hHeld => ?_)
       clear hK K
       refine norm_ (a' := ?_) ?_ ?_
       rotate_left
       ·show Act.put _ (some 36) _ = _
        simp only [Act.put, List.setIfInBounds_toArray, List.set_cons_zero, List.set_cons_succ, i64_w, i32_w]
        rfl
       refine pureA (i := 4) (N := some 37) (ar 23 31) (any_of HT_.out (by kernel_rfl)) ?_; refine pureA (i := 5) (N := some 38) (ar 23 63) (any_of HT_.out (by kernel_rfl)) ?_; refine takeA (i := 6) (N := some 39) (ar 23 127) rfl (take_ofW HT_.out HW_.out (by kernel_rfl)) hHeld (by rintro w' ⟨s0, s1, s2, s3, s4, s5, s6, s7, s8⟩; go_simp; with_reducible rfl) ?_; refine takeA (i := 8) (N := some 41) (ar 23 383) rfl (take_ofW HT_.out HW_.out (by kernel_rfl)) hHeld (by rintro w' ⟨s0, s1, s2, s3, s4, s5, s6, s7, s8⟩; go_simp; with_reducible rfl) ?_
       refine one_ (i := 7) (N := some 40) #[Y,Y,Y,Y,Y,Y,Y,Y,Y,N,N,N,N,N,N,N,N,N,N,N,N,N,N] rfl rfl (one_of HT_.out (by kernel_rfl)) (by decide) (fun K hK => ?_)
       refine goes_ Try.func19 (by kernel_rfl) rfl #[.agg #[.slice A0_0 l0_0.length c0_0, .int .i64 a0_1, .int .i64 a0_2]] (by rfl) rfl rfl (by (try simp only [List.map_toArray, List.map_cons, List.map_nil]); first | done | rfl | (simp only [List.length_drop, List.length_take]; rfl)) ?_
       with_reducible refine (journal_Room.calls kj4 _ _ l0_0 a0_1 a0_2 t328 _ ?side1 ?side2 A35.out).mono ?_
       (case side1 => repeat (first | exact (Kd.C_below HR0_0.out HB.out) | (with_reducible refine Kd.C_alloc ?_ _) | (with_reducible refine Kd.C_drewN ?_ _) | (with_reducible refine Kd.C_drew ?_)))
       (case side2 => exact HC0_0.out)
       rintro e w44 ⟨rfl, hb⟩
       refine ⟨_, rfl, ?_⟩
       replace HO314 := Aside0.mk (Kd.V_below (vmv HO314.out) hb); replace HO321 := Aside0.mk (Kd.N_below (by (with_reducible repeat (first | apply Kd.N_alloc | apply Kd.N_drewN | apply Kd.N_drew)); exact HO321.out) hb); replace BK309 := Aside0.mk (zb BK309.out hb); replace BK318 := Aside0.mk (zb BK318.out hb); replace BK325 := Aside0.mk (zb BK325.out hb); replace HB := Aside0.mk (below_step (blw HB.out) hb); (try clear hb); (try clear hb2); (try clear hk); (try clear hi)
       refine hK.out _ _ ⟨bc BK309 0, bc BK309 1, bc BK309 2, bc BK318 0, bc BK318 1, bc BK318 2, bc BK325 0, bc BK325 1, bc BK325 2⟩ (fun hHeld => ?_)
       clear hK K
       refine norm_ (a' := ?_) ?_ ?_
       rotate_left
       ·show Act.put _ (some 40) _ = _
        simp only [Act.put, List.setIfInBounds_toArray, List.set_cons_zero, List.set_cons_succ, i64_w, i32_w]
        rfl
       refine one_ (i := 9) (N := some 42) #[Y,Y,Y,Y,Y,Y,Y,Y,Y,Y,N,N,N,N,N,N,N,N,N,N,N,N,N] rfl rfl (one_of HT_.out (by kernel_rfl)) (by decide) (fun K hK => ?_)
       refine goes_ Try.func20 (by kernel_rfl) rfl #[.agg #[.slice A0_0 l0_0.length c0_0, .int .i64 a0_1, .int .i64 a0_2]] (by rfl) rfl rfl (by (try simp only [List.map_toArray, List.map_cons, List.map_nil]); first | done | rfl | (simp only [List.length_drop, List.length_take]; rfl)) ?_
       with_reducible refine (fastiref05_Room.calls kj4 _ _ l0_0 a0_1 a0_2 t329 _ ?side1 ?side2 A36.out).mono ?_
       (case side1 => repeat (first | exact (Kd.C_below HR0_0.out HB.out) | (with_reducible refine Kd.C_alloc ?_ _) | (with_reducible refine Kd.C_drewN ?_ _) | (with_reducible refine Kd.C_drew ?_)))
       (case side2 => exact HC0_0.out)
       rintro e w45 ⟨rfl, hb⟩
       refine ⟨_, rfl, ?_⟩
       replace HO314 := Aside0.mk (Kd.V_below (vmv HO314.out) hb); replace HO321 := Aside0.mk (Kd.N_below (by (with_reducible repeat (first | apply Kd.N_alloc | apply Kd.N_drewN | apply Kd.N_drew)); exact HO321.out) hb); replace BK309 := Aside0.mk (zb BK309.out hb); replace BK318 := Aside0.mk (zb BK318.out hb); replace BK325 := Aside0.mk (zb BK325.out hb); replace HB := Aside0.mk (below_step (blw HB.out) hb); (try clear hb); (try clear hb2); (try clear hk); (try clear hi)
       refine hK.out _ _ ⟨bc BK309 0, bc BK309 1, bc BK309 2, bc BK318 0, bc BK318 1, bc BK318 2, bc BK325 0, bc BK325 1, bc BK325 2⟩ (fun hHeld => ?_)
       clear hK K
       refine norm_ (a' := ?_) ?_ ?_
       rotate_left
       ·show Act.put _ (some 42) _ = _
        simp only [Act.put, List.setIfInBounds_toArray, List.set_cons_zero, List.set_cons_succ, i64_w, i32_w]
        rfl
       refine pureA (i := 10) (N := some 43) (ar 23 2047) (any_of HT_.out (by kernel_rfl)) ?_; refine pureA (i := 11) (N := some 44) (ar 23 4095) (any_of HT_.out (by kernel_rfl)) ?_; refine pureA (i := 12) (N := some 45) (ar 23 8191) (any_of HT_.out (by kernel_rfl)) ?_; refine takeA (i := 13) (N := some 46) (ar 23 16383) rfl (take_ofW HT_.out HW_.out (by kernel_rfl)) hHeld (by rintro w' ⟨s0, s1, s2, s3, s4, s5, s6, s7, s8⟩; go_simp; with_reducible rfl) ?_; refine takeA (i := 14) (N := some 47) (ar 23 32767) rfl (take_ofW HT_.out HW_.out (by kernel_rfl)) hHeld (by rintro w' ⟨s0, s1, s2, s3, s4, s5, s6, s7, s8⟩; go_simp; with_reducible rfl) ?_
       refine one_ (i := 15) (N := some 48) #[Y,Y,Y,Y,Y,Y,Y,Y,Y,Y,Y,Y,Y,Y,Y,Y,N,N,N,N,N,N,N] rfl rfl (one_of HT_.out (by kernel_rfl)) (by decide) (fun K hK => ?_)
       refine goes_ Try.func14 (by kernel_rfl) rfl #[.agg #[.slice Ao21 t312.length co21, .int .i64 t315, .int .i64 t316], .agg #[.slice Ao28 t319.length co28, .int .i64 t322, .int .i64 t323]] (by rfl) rfl rfl (by (try simp only [List.map_toArray, List.map_cons, List.map_nil]); first | done | rfl | (simp only [List.length_drop, List.length_take]; rfl)) ?_
       with_reducible refine (fastiref05_Same.calls kj4 _ _ t312 t315 t316 _ _ t319 t322 t323 true _ ?side1 ?side2 ?side3 ?side4 A38.out).mono ?_
       (case side1 => repeat (first | exact (Kd.V_reads' HO314.out).2.2 | (with_reducible refine Kd.C_alloc ?_ _) | (with_reducible refine Kd.C_drewN ?_ _) | (with_reducible refine Kd.C_drew ?_)))
       (case side2 => exact (Kd.V_reads' HO314.out).2.1)
       (case side3 => repeat (first | exact (Kd.N_reads' HO321.out).2.2 | (with_reducible refine Kd.C_alloc ?_ _) | (with_reducible refine Kd.C_drewN ?_ _) | (with_reducible refine Kd.C_drew ?_)))
       (case side4 => exact (Kd.N_reads' HO321.out).2.1)
       rintro e w46 ⟨rfl, hb⟩
       refine ⟨_, rfl, ?_⟩
       replace HO314 := Aside0.mk (Kd.V_below (vmv HO314.out) hb); replace HO321 := Aside0.mk (Kd.N_below (by (with_reducible repeat (first | apply Kd.N_alloc | apply Kd.N_drewN | apply Kd.N_drew)); exact HO321.out) hb); replace BK309 := Aside0.mk (zb BK309.out hb); replace BK318 := Aside0.mk (zb BK318.out hb); replace BK325 := Aside0.mk (zb BK325.out hb); replace HB := Aside0.mk (below_step (blw HB.out) hb); (try clear hb); (try clear hb2); (try clear hk); (try clear hi)
       refine hK.out _ _ ⟨bc BK309 0, bc BK309 1, bc BK309 2, bc BK318 0, bc BK318 1, bc BK318 2, bc BK325 0, bc BK325 1, bc BK325 2⟩ (fun hHeld => ?_)
       clear hK K
       refine norm_ (a' := ?_) ?_ ?_
       rotate_left
       ·show Act.put _ (some 48) _ = _
        simp only [Act.put, List.setIfInBounds_toArray, List.set_cons_zero, List.set_cons_succ, i64_w, i32_w]
        rfl
       refine pureA (i := 16) (N := some 49) (ar 23 131071) (any_of HT_.out (by kernel_rfl)) ?_; refine pureA (i := 17) (N := some 50) (ar 23 262143) (any_of HT_.out (by kernel_rfl)) ?_; refine pureA (i := 18) (N := some 51) (ar 23 524287) (any_of HT_.out (by kernel_rfl)) ?_; refine pureA (i := 19) (N := some 52) (ar 23 1048575) (any_of HT_.out (by kernel_rfl)) ?_; refine pureA (i := 20) (N := some 53) (ar 23 2097151) (any_of HT_.out (by kernel_rfl)) ?_; refine pureA (i := 21) (N := some 54) (ar 23 4194303) (any_of HT_.out (by kernel_rfl)) ?_; refine pureA (i := 22) (N := some 4) (ar 23 8388607) (any_of HT_.out (by kernel_rfl)) ?_
       refine done_ (done_of HT_.out (by kernel_rfl)) ?_
       try go_wp2
       go_meet
       case rel => exact ⟨_, ((t317 == t324)), (by first | rfl | (simp; done) | (simp [*]; done)), H', ⟨by have := HJ4.out; first | omega | exact Nat.le_refl _⟩, ⟨vmv HO314.out⟩, ⟨by (with_reducible repeat (first | apply Kd.N_alloc | apply Kd.N_drewN | apply Kd.N_drew)); exact HO321.out⟩, ⟨zk BK309.out⟩, ⟨zk BK318.out⟩, ⟨zk BK325.out⟩, ⟨blw HB.out⟩⟩
      ·replace c39 := Bool.eq_false_iff.mpr c39
       subst c39
       have H1 : (fastilaw05_JournalAppendSpec.j1 kj4 false) = some r := by rw [if_neg (show ¬ (false = true) by decide)] at H; exact H
       clear H; have H := H1; clear H1; have H' := Aside0.mk H; clear H
       try go_wp2
       have n0_ : Aside0 (Kd.V (Kd.slice 5 (Kd.int .u8)) 35 (((w27.setCell ⟨gb325, 0, none⟩ (.slice Ao28 t319.length co28)).setCell ⟨gb325, 1, none⟩ (.int .i64 t322)).setCell ⟨gb325, 2, none⟩ (.int .i64 t323)) w.heap.size (fun k_ => some k_ ≠ (.slice Ao28 t319.length co28 : Value).ownBlock ∧ k_ ≠ gb309 ∧ k_ ≠ gb318 ∧ k_ ≠ gb325) (.slice Ao21 t312.length co21) t312) := ⟨Kd.V_mono (vfa HO314.out (fun _ hk => hk.2)) (fun _ q_ => ⟨q_.1.2, ⟨q_.1.1.1, ⟨q_.1.1.2, q_.2⟩⟩⟩)⟩; have n1_ : Aside0 (Kd.N (Kd.slice 5 (Kd.int .u8)) 35 (((w27.setCell ⟨gb325, 0, none⟩ (.slice Ao28 t319.length co28)).setCell ⟨gb325, 1, none⟩ (.int .i64 t322)).setCell ⟨gb325, 2, none⟩ (.int .i64 t323)) w.heap.size (fun k_ => k_ ≠ gb309 ∧ k_ ≠ gb318 ∧ k_ ≠ gb325) (.slice Ao28 t319.length co28) t319) := ⟨by (with_reducible repeat (first | apply Kd.N_alloc | apply Kd.N_drewN | apply Kd.N_drew)); exact Kd.N_mono (Kd.N_far (p := ⟨gb325, 2, none⟩) (Kd.N_far (p := ⟨gb325, 1, none⟩) (Kd.N_far (p := ⟨gb325, 0, none⟩) (Kd.N_mono HO321.out (fun k_ hk => (⟨hk, hk.2⟩ : _ ∧ k_ ≠ gb325))) (fun _ hk => hk.2) (.slice Ao28 t319.length co28)) (fun _ hk => hk.2) (.int .i64 t322)) (fun _ hk => hk.2) (.int .i64 t323)) (fun _ hk => ⟨hk.1.1.1, ⟨hk.1.1.2, hk.1.2⟩⟩)⟩
       have n2_ : Aside0 ((((w27.setCell ⟨gb325, 0, none⟩ (.slice Ao28 t319.length co28)).setCell ⟨gb325, 1, none⟩ (.int .i64 t322)).setCell ⟨gb325, 2, none⟩ (.int .i64 t323)).heap[gb309]? = some (.cells #[.slice A0_0 l0_0.length c0_0, .int .i64 a0_1, .int .i64 a0_2] 29 (0, 0))) := ⟨zf BK309.out⟩; have n3_ : Aside0 ((((w27.setCell ⟨gb325, 0, none⟩ (.slice Ao28 t319.length co28)).setCell ⟨gb325, 1, none⟩ (.int .i64 t322)).setCell ⟨gb325, 2, none⟩ (.int .i64 t323)).heap[gb318]? = some (.cells #[.slice Ao21 t312.length co21, .int .i64 t315, .int .i64 t316] 29 (0, 0))) := ⟨zf BK318.out⟩; have n4_ : Aside0 ((((w27.setCell ⟨gb325, 0, none⟩ (.slice Ao28 t319.length co28)).setCell ⟨gb325, 1, none⟩ (.int .i64 t322)).setCell ⟨gb325, 2, none⟩ (.int .i64 t323)).heap[gb325]? = some (.cells #[.slice Ao28 t319.length co28, .int .i64 t322, .int .i64 t323] 29 (0, 0))) := ⟨by (with_reducible repeat (first | refine blk_drewN ?_ _ | refine blk_drew ?_ | refine blk_alloc ?_ _)); refine blk_put (cs := #[.slice Ao28 t319.length co28, .int .i64 t322, .int .i64 0]) ?_ 2 _ rfl; refine blk_put (cs := #[.slice Ao28 t319.length co28, .int .i64 0, .int .i64 0]) ?_ 1 _ rfl; refine blk_put (cs := #[.slice none 0 0, .int .i64 0, .int .i64 0]) ?_ 0 _ rfl; (with_reducible repeat (first | refine blk_drewN ?_ _ | refine blk_drew ?_ | refine blk_alloc ?_ _)); exact BK325.out⟩
       have n5_ : Aside0 (Below w.heap.size w (((w27.setCell ⟨gb325, 0, none⟩ (.slice Ao28 t319.length co28)).setCell ⟨gb325, 1, none⟩ (.int .i64 t322)).setCell ⟨gb325, 2, none⟩ (.int .i64 t323))) := ⟨blw HB.out⟩; (try clear HO314); (try clear HO321); (try clear BK309); (try clear BK318); (try clear BK325); (try clear HB)
       generalize (((w27.setCell ⟨gb325, 0, none⟩ (.slice Ao28 t319.length co28)).setCell ⟨gb325, 1, none⟩ (.int .i64 t322)).setCell ⟨gb325, 2, none⟩ (.int .i64 t323)) = w47 at n0_ n1_ n2_ n3_ n4_ n5_ ⊢
       have HO314 := n0_; have HO321 := n1_; have BK309 := n2_; have BK318 := n3_; have BK325 := n4_; have HB := n5_; clear n0_ n1_ n2_ n3_ n4_ n5_; replace HO314 := Aside0.mk (Kd.V_drew HO314.out); replace HO321 := Aside0.mk (Kd.N_drew HO321.out); replace BK309 := Aside0.mk (blk_drew BK309.out); replace BK318 := Aside0.mk (blk_drew BK318.out); replace BK325 := Aside0.mk (blk_drew BK325.out); replace HB := Aside0.mk (below_drew1 HB.out)
       refine start_ (n := 23) (S := fun w' => w'.cell? ⟨gb309, 0, none⟩ = some (.slice A0_0 l0_0.length c0_0) ∧ w'.cell? ⟨gb309, 1, none⟩ = some (.int .i64 a0_1) ∧ w'.cell? ⟨gb309, 2, none⟩ = some (.int .i64 a0_2) ∧ w'.cell? ⟨gb318, 0, none⟩ = some (.slice Ao21 t312.length co21) ∧ w'.cell? ⟨gb318, 1, none⟩ = some (.int .i64 t315) ∧ w'.cell? ⟨gb318, 2, none⟩ = some (.int .i64 t316) ∧ w'.cell? ⟨gb325, 0, none⟩ = some (.slice Ao28 t319.length co28) ∧ w'.cell? ⟨gb325, 1, none⟩ = some (.int .i64 t322) ∧ w'.cell? ⟨gb325, 2, none⟩ = some (.int .i64 t323)) (ds := []) #[N,N,N,N,N,N,N,N,N,N,N,N,N,N,N,N,N,N,N,N,N,N,N] (by kernel_rfl) rfl rfl ⟨bc BK309 0, bc BK309 1, bc BK309 2, bc BK318 0, bc BK318 1, bc BK318 2, bc BK325 0, bc BK325 1, bc BK325 2⟩ (fun hHeld => ?_); refine with_tabW fastilaw05_JournalAppendSpec.tab7 fastilaw05_JournalAppendSpec.bits7 (fun HT_ HW_ => ?_)
       generalize w47.drew = w48 at HO314 HO321 BK309 BK318 BK325 HB hHeld ⊢
       refine takeA (i := 0) (N := some 33) (ar 23 1) rfl (take_ofW HT_.out HW_.out (by kernel_rfl)) hHeld (by rintro w' ⟨s0, s1, s2, s3, s4, s5, s6, s7, s8⟩; go_simp; with_reducible rfl) ?_; refine takeA (i := 2) (N := some 35) (ar 23 5) rfl (take_ofW HT_.out HW_.out (by kernel_rfl)) hHeld (by rintro w' ⟨s0, s1, s2, s3, s4, s5, s6, s7, s8⟩; go_simp; with_reducible rfl) ?_
       refine one_ (i := 1) (N := some 34) #[Y,Y,Y,N,N,N,N,N,N,N,N,N,N,N,N,N,N,N,N,N,N,N,N] rfl rfl (one_of HT_.out (by kernel_rfl)) (by decide) (fun K hK => ?_)
       refine goes_ Try.func17 (by kernel_rfl) rfl #[.agg #[.slice A0_0 l0_0.length c0_0, .int .i64 a0_1, .int .i64 a0_2]] (by rfl) rfl rfl (by (try simp only [List.map_toArray, List.map_cons, List.map_nil]); first | done | rfl | (simp only [List.length_drop, List.length_take]; rfl)) ?_
       with_reducible refine (journal_Check.calls kj4 _ _ l0_0 a0_1 a0_2 t326 _ ?side1 ?side2 A32.out).mono ?_
       (case side1 => repeat (first | exact (Kd.C_below HR0_0.out HB.out) | (with_reducible refine Kd.C_alloc ?_ _) | (with_reducible refine Kd.C_drewN ?_ _) | (with_reducible refine Kd.C_drew ?_)))
       (case side2 => exact HC0_0.out)
       rintro e w49 ⟨rfl, hb⟩
       refine ⟨_, rfl, ?_⟩
       replace HO314 := Aside0.mk (Kd.V_below (vmv HO314.out) hb); replace HO321 := Aside0.mk (Kd.N_below (by (with_reducible repeat (first | apply Kd.N_alloc | apply Kd.N_drewN | apply Kd.N_drew)); exact HO321.out) hb); replace BK309 := Aside0.mk (zb BK309.out hb); replace BK318 := Aside0.mk (zb BK318.out hb); replace BK325 := Aside0.mk (zb BK325.out hb); replace HB := Aside0.mk (below_step (blw HB.out) hb); (try clear hb); (try clear hb2); (try clear hk); (try clear hi)
       refine hK.out _ _ ⟨bc BK309 0, bc BK309 1, bc BK309 2, bc BK318 0, bc BK318 1, bc BK318 2, bc BK325 0, bc BK325 1, bc BK325 2⟩ (fun hHeld => ?_)
       clear hK K
       refine norm_ (a' := ?_) ?_ ?_
       rotate_left
       ·show Act.put _ (some 34) _ = _
        simp only [Act.put, List.setIfInBounds_toArray, List.set_cons_zero, List.set_cons_succ, i64_w, i32_w]
        rfl
       refine one_ (i := 3) (N := some 36) #[Y,Y,Y,Y,N,N,N,N,N,N,N,N,N,N,N,N,N,N,N,N,N,N,N] rfl rfl (one_of HT_.out (by kernel_rfl)) (by decide) (fun K hK => ?_)
       refine goes_ Try.func18 (by kernel_rfl) rfl #[.agg #[.slice A0_0 l0_0.length c0_0, .int .i64 a0_1, .int .i64 a0_2]] (by rfl) rfl rfl (by (try simp only [List.map_toArray, List.map_cons, List.map_nil]); first | done | rfl | (simp only [List.length_drop, List.length_take]; rfl)) ?_
       with_reducible refine (fastiref05_Check.calls kj4 _ _ l0_0 a0_1 a0_2 t327 _ ?side1 ?side2 A33.out).mono ?_
       (case side1 => repeat (first | exact (Kd.C_below HR0_0.out HB.out) | (with_reducible refine Kd.C_alloc ?_ _) | (with_reducible refine Kd.C_drewN ?_ _) | (with_reducible refine Kd.C_drew ?_)))
       (case side2 => exact HC0_0.out)
       rintro e w50 ⟨rfl, hb⟩
       refine ⟨_, rfl, ?_⟩
       replace HO314 := Aside0.mk (Kd.V_below (vmv HO314.out) hb); replace HO321 := Aside0.mk (Kd.N_below (by (with_reducible repeat (first | apply Kd.N_alloc | apply Kd.N_drewN | apply Kd.N_drew)); exact HO321.out) hb); replace BK309 := Aside0.mk (zb BK309.out hb); replace BK318 := Aside0.mk (zb BK318.out hb); replace BK325 := Aside0.mk (zb BK325.out hb); replace HB := Aside0.mk (below_step (blw HB.out) hb); (try clear hb); (try clear hb2); (try clear hk); (try clear hi)
       refine hK.out _ _ ⟨bc BK309 0, bc BK309 1, bc BK309 2, bc BK318 0, bc BK318 1, bc BK318 2, bc BK325 0, bc BK325 1, bc BK325 2⟩ (fun hHeld => ?_)
       clear hK K
       refine norm_ (a' := ?_) ?_ ?_
       rotate_left
       ·show Act.put _ (some 36) _ = _
        simp only [Act.put, List.setIfInBounds_toArray, List.set_cons_zero, List.set_cons_succ, i64_w, i32_w]
        rfl
       refine pureA (i := 4) (N := some 37) (ar 23 31) (any_of HT_.out (by kernel_rfl)) ?_; refine pureA (i := 5) (N := some 38) (ar 23 63) (any_of HT_.out (by kernel_rfl)) ?_; refine takeA (i := 6) (N := some 39) (ar 23 127) rfl (take_ofW HT_.out HW_.out (by kernel_rfl)) hHeld (by rintro w' ⟨s0, s1, s2, s3, s4, s5, s6, s7, s8⟩; go_simp; with_reducible rfl) ?_; refine takeA (i := 8) (N := some 41) (ar 23 383) rfl (take_ofW HT_.out HW_.out (by kernel_rfl)) hHeld (by rintro w' ⟨s0, s1, s2, s3, s4, s5, s6, s7, s8⟩; go_simp; with_reducible rfl) ?_
       refine one_ (i := 7) (N := some 40) #[Y,Y,Y,Y,Y,Y,Y,Y,Y,N,N,N,N,N,N,N,N,N,N,N,N,N,N] rfl rfl (one_of HT_.out (by kernel_rfl)) (by decide) (fun K hK => ?_)
       refine goes_ Try.func19 (by kernel_rfl) rfl #[.agg #[.slice A0_0 l0_0.length c0_0, .int .i64 a0_1, .int .i64 a0_2]] (by rfl) rfl rfl (by (try simp only [List.map_toArray, List.map_cons, List.map_nil]); first | done | rfl | (simp only [List.length_drop, List.length_take]; rfl)) ?_
       with_reducible refine (journal_Room.calls kj4 _ _ l0_0 a0_1 a0_2 t328 _ ?side1 ?side2 A35.out).mono ?_
       (case side1 => repeat (first | exact (Kd.C_below HR0_0.out HB.out) | (with_reducible refine Kd.C_alloc ?_ _) | (with_reducible refine Kd.C_drewN ?_ _) | (with_reducible refine Kd.C_drew ?_)))
       (case side2 => exact HC0_0.out)
       rintro e w51 ⟨rfl, hb⟩
       refine ⟨_, rfl, ?_⟩
       replace HO314 := Aside0.mk (Kd.V_below (vmv HO314.out) hb); replace HO321 := Aside0.mk (Kd.N_below (by (with_reducible repeat (first | apply Kd.N_alloc | apply Kd.N_drewN | apply Kd.N_drew)); exact HO321.out) hb); replace BK309 := Aside0.mk (zb BK309.out hb); replace BK318 := Aside0.mk (zb BK318.out hb); replace BK325 := Aside0.mk (zb BK325.out hb); replace HB := Aside0.mk (below_step (blw HB.out) hb); (try clear hb); (try clear hb2); (try clear hk); (try clear hi)
       refine hK.out _ _ ⟨bc BK309 0, bc BK309 1, bc BK309 2, bc BK318 0, bc BK318 1, bc BK318 2, bc BK325 0, bc BK325 1, bc BK325 2⟩ (fun hHeld => ?_)
       clear hK K
       refine norm_ (a' := ?_) ?_ ?_
       rotate_left
       ·show Act.put _ (some 40) _ = _
        simp only [Act.put, List.setIfInBounds_toArray, List.set_cons_zero, List.set_cons_succ, i64_w, i32_w]
        rfl
       refine one_ (i := 9) (N := some 42) #[Y,Y,Y,Y,Y,Y,Y,Y,Y,Y,N,N,N,N,N,N,N,N,N,N,N,N,N] rfl rfl (one_of HT_.out (by kernel_rfl)) (by decide) (fun K hK => ?_)
       refine goes_ Try.func20 (by kernel_rfl) rfl #[.agg #[.slice A0_0 l0_0.length c0_0, .int .i64 a0_1, .int .i64 a0_2]] (by rfl) rfl rfl (by (try simp only [List.map_toArray, List.map_cons, List.map_nil]); first | done | rfl | (simp only [List.length_drop, List.length_take]; rfl)) ?_
       with_reducible refine (fastiref05_Room.calls kj4 _ _ l0_0 a0_1 a0_2 t329 _ ?side1 ?side2 A36.out).mono ?_
       (case side1 => repeat (first | exact (Kd.C_below HR0_0.out HB.out) | (with_reducible refine Kd.C_alloc ?_ _) | (with_reducible refine Kd.C_drewN ?_ _) | (with_reducible refine Kd.C_drew ?_)))
       (case side2 => exact HC0_0.out)
       rintro e w52 ⟨rfl, hb⟩
       refine ⟨_, rfl, ?_⟩
       replace HO314 := Aside0.mk (Kd.V_below (vmv HO314.out) hb); replace HO321 := Aside0.mk (Kd.N_below (by (with_reducible repeat (first | apply Kd.N_alloc | apply Kd.N_drewN | apply Kd.N_drew)); exact HO321.out) hb); replace BK309 := Aside0.mk (zb BK309.out hb); replace BK318 := Aside0.mk (zb BK318.out hb); replace BK325 := Aside0.mk (zb BK325.out hb); replace HB := Aside0.mk (below_step (blw HB.out) hb); (try clear hb); (try clear hb2); (try clear hk); (try clear hi)
       refine hK.out _ _ ⟨bc BK309 0, bc BK309 1, bc BK309 2, bc BK318 0, bc BK318 1, bc BK318 2, bc BK325 0, bc BK325 1, bc BK325 2⟩ (fun hHeld => ?_)
       clear hK K
       refine norm_ (a' := ?_) ?_ ?_
       rotate_left
       ·show Act.put _ (some 42) _ = _
        simp only [Act.put, List.setIfInBounds_toArray, List.set_cons_zero, List.set_cons_succ, i64_w, i32_w]
        rfl
       refine pureA (i := 10) (N := some 43) (ar 23 2047) (any_of HT_.out (by kernel_rfl)) ?_; refine pureA (i := 11) (N := some 44) (ar 23 4095) (any_of HT_.out (by kernel_rfl)) ?_; refine pureA (i := 12) (N := some 45) (ar 23 8191) (any_of HT_.out (by kernel_rfl)) ?_; refine takeA (i := 13) (N := some 46) (ar 23 16383) rfl (take_ofW HT_.out HW_.out (by kernel_rfl)) hHeld (by rintro w' ⟨s0, s1, s2, s3, s4, s5, s6, s7, s8⟩; go_simp; with_reducible rfl) ?_; refine takeA (i := 14) (N := some 47) (ar 23 32767) rfl (take_ofW HT_.out HW_.out (by kernel_rfl)) hHeld (by rintro w' ⟨s0, s1, s2, s3, s4, s5, s6, s7, s8⟩; go_simp; with_reducible rfl) ?_
       refine one_ (i := 15) (N := some 48) #[Y,Y,Y,Y,Y,Y,Y,Y,Y,Y,Y,Y,Y,Y,Y,Y,N,N,N,N,N,N,N] rfl rfl (one_of HT_.out (by kernel_rfl)) (by decide) (fun K hK => ?_)
       refine goes_ Try.func14 (by kernel_rfl) rfl #[.agg #[.slice Ao21 t312.length co21, .int .i64 t315, .int .i64 t316], .agg #[.slice Ao28 t319.length co28, .int .i64 t322, .int .i64 t323]] (by rfl) rfl rfl (by (try simp only [List.map_toArray, List.map_cons, List.map_nil]); first | done | rfl | (simp only [List.length_drop, List.length_take]; rfl)) ?_
       with_reducible refine (fastiref05_Same.calls kj4 _ _ t312 t315 t316 _ _ t319 t322 t323 false _ ?side1 ?side2 ?side3 ?side4 A38.out).mono ?_
       (case side1 => repeat (first | exact (Kd.V_reads' HO314.out).2.2 | (with_reducible refine Kd.C_alloc ?_ _) | (with_reducible refine Kd.C_drewN ?_ _) | (with_reducible refine Kd.C_drew ?_)))
       (case side2 => exact (Kd.V_reads' HO314.out).2.1)
       (case side3 => repeat (first | exact (Kd.N_reads' HO321.out).2.2 | (with_reducible refine Kd.C_alloc ?_ _) | (with_reducible refine Kd.C_drewN ?_ _) | (with_reducible refine Kd.C_drew ?_)))
       (case side4 => exact (Kd.N_reads' HO321.out).2.1)
       rintro e w53 ⟨rfl, hb⟩
       refine ⟨_, rfl, ?_⟩
       replace HO314 := Aside0.mk (Kd.V_below (vmv HO314.out) hb); replace HO321 := Aside0.mk (Kd.N_below (by (with_reducible repeat (first | apply Kd.N_alloc | apply Kd.N_drewN | apply Kd.N_drew)); exact HO321.out) hb); replace BK309 := Aside0.mk (zb BK309.out hb); replace BK318 := Aside0.mk (zb BK318.out hb); replace BK325 := Aside0.mk (zb BK325.out hb); replace HB := Aside0.mk (below_step (blw HB.out) hb); (try clear hb); (try clear hb2); (try clear hk); (try clear hi)
       refine hK.out _ _ ⟨bc BK309 0, bc BK309 1, bc BK309 2, bc BK318 0, bc BK318 1, bc BK318 2, bc BK325 0, bc BK325 1, bc BK325 2⟩ (fun hHeld => ?_)
       clear hK K
       refine norm_ (a' := ?_) ?_ ?_
       rotate_left
       ·show Act.put _ (some 48) _ = _
        simp only [Act.put, List.setIfInBounds_toArray, List.set_cons_zero, List.set_cons_succ, i64_w, i32_w]
        rfl
       refine pureA (i := 16) (N := some 49) (ar 23 131071) (any_of HT_.out (by kernel_rfl)) ?_; refine pureA (i := 17) (N := some 50) (ar 23 262143) (any_of HT_.out (by kernel_rfl)) ?_; refine pureU (i := 18) (N := some 51) (ar 23 524287) (any_of HT_.out (by kernel_rfl)) ?_; refine pureU (i := 19) (N := some 52) (ar 23 1048575) (any_of HT_.out (by kernel_rfl)) ?_; refine pureU (i := 20) (N := some 53) (ar 23 2097151) (any_of HT_.out (by kernel_rfl)) ?_; refine pureA (i := 21) (N := some 54) (ar 23 4194303) (any_of HT_.out (by kernel_rfl)) ?_; refine pureA (i := 22) (N := some 4) (ar 23 8388607) (any_of HT_.out (by kernel_rfl)) ?_
       refine done_ (done_of HT_.out (by kernel_rfl)) ?_
       try go_wp2
       go_meet
       case rel => exact ⟨_, (false), (by first | rfl | (simp; done) | (simp [*]; done)), H', ⟨by have := HJ4.out; first | omega | exact Nat.le_refl _⟩, ⟨vmv HO314.out⟩, ⟨by (with_reducible repeat (first | apply Kd.N_alloc | apply Kd.N_drewN | apply Kd.N_drew)); exact HO321.out⟩, ⟨zk BK309.out⟩, ⟨zk BK318.out⟩, ⟨zk BK325.out⟩, ⟨blw HB.out⟩⟩
     ·rw [if_neg c37] at H
      have c37b0 : (t328 == t329) = false := beq_eq_false_iff_ne.mpr c37; have c37b1 : (t328 != t329) = true := bne_iff_ne.mpr c37; have H' := Aside0.mk H; clear H
      try go_wp2
      have n0_ : Aside0 (Kd.V (Kd.slice 5 (Kd.int .u8)) 35 (((w27.setCell ⟨gb325, 0, none⟩ (.slice Ao28 t319.length co28)).setCell ⟨gb325, 1, none⟩ (.int .i64 t322)).setCell ⟨gb325, 2, none⟩ (.int .i64 t323)) w.heap.size (fun k_ => some k_ ≠ (.slice Ao28 t319.length co28 : Value).ownBlock ∧ k_ ≠ gb309 ∧ k_ ≠ gb318 ∧ k_ ≠ gb325) (.slice Ao21 t312.length co21) t312) := ⟨Kd.V_mono (vfa HO314.out (fun _ hk => hk.2)) (fun _ q_ => ⟨q_.1.2, ⟨q_.1.1.1, ⟨q_.1.1.2, q_.2⟩⟩⟩)⟩; have n1_ : Aside0 (Kd.N (Kd.slice 5 (Kd.int .u8)) 35 (((w27.setCell ⟨gb325, 0, none⟩ (.slice Ao28 t319.length co28)).setCell ⟨gb325, 1, none⟩ (.int .i64 t322)).setCell ⟨gb325, 2, none⟩ (.int .i64 t323)) w.heap.size (fun k_ => k_ ≠ gb309 ∧ k_ ≠ gb318 ∧ k_ ≠ gb325) (.slice Ao28 t319.length co28) t319) := ⟨by (with_reducible repeat (first | apply Kd.N_alloc | apply Kd.N_drewN | apply Kd.N_drew)); exact Kd.N_mono (Kd.N_far (p := ⟨gb325, 2, none⟩) (Kd.N_far (p := ⟨gb325, 1, none⟩) (Kd.N_far (p := ⟨gb325, 0, none⟩) (Kd.N_mono HO321.out (fun k_ hk => (⟨hk, hk.2⟩ : _ ∧ k_ ≠ gb325))) (fun _ hk => hk.2) (.slice Ao28 t319.length co28)) (fun _ hk => hk.2) (.int .i64 t322)) (fun _ hk => hk.2) (.int .i64 t323)) (fun _ hk => ⟨hk.1.1.1, ⟨hk.1.1.2, hk.1.2⟩⟩)⟩
      have n2_ : Aside0 ((((w27.setCell ⟨gb325, 0, none⟩ (.slice Ao28 t319.length co28)).setCell ⟨gb325, 1, none⟩ (.int .i64 t322)).setCell ⟨gb325, 2, none⟩ (.int .i64 t323)).heap[gb309]? = some (.cells #[.slice A0_0 l0_0.length c0_0, .int .i64 a0_1, .int .i64 a0_2] 29 (0, 0))) := ⟨zf BK309.out⟩; have n3_ : Aside0 ((((w27.setCell ⟨gb325, 0, none⟩ (.slice Ao28 t319.length co28)).setCell ⟨gb325, 1, none⟩ (.int .i64 t322)).setCell ⟨gb325, 2, none⟩ (.int .i64 t323)).heap[gb318]? = some (.cells #[.slice Ao21 t312.length co21, .int .i64 t315, .int .i64 t316] 29 (0, 0))) := ⟨zf BK318.out⟩; have n4_ : Aside0 ((((w27.setCell ⟨gb325, 0, none⟩ (.slice Ao28 t319.length co28)).setCell ⟨gb325, 1, none⟩ (.int .i64 t322)).setCell ⟨gb325, 2, none⟩ (.int .i64 t323)).heap[gb325]? = some (.cells #[.slice Ao28 t319.length co28, .int .i64 t322, .int .i64 t323] 29 (0, 0))) := ⟨by (with_reducible repeat (first | refine blk_drewN ?_ _ | refine blk_drew ?_ | refine blk_alloc ?_ _)); refine blk_put (cs := #[.slice Ao28 t319.length co28, .int .i64 t322, .int .i64 0]) ?_ 2 _ rfl; refine blk_put (cs := #[.slice Ao28 t319.length co28, .int .i64 0, .int .i64 0]) ?_ 1 _ rfl; refine blk_put (cs := #[.slice none 0 0, .int .i64 0, .int .i64 0]) ?_ 0 _ rfl; (with_reducible repeat (first | refine blk_drewN ?_ _ | refine blk_drew ?_ | refine blk_alloc ?_ _)); exact BK325.out⟩
      have n5_ : Aside0 (Below w.heap.size w (((w27.setCell ⟨gb325, 0, none⟩ (.slice Ao28 t319.length co28)).setCell ⟨gb325, 1, none⟩ (.int .i64 t322)).setCell ⟨gb325, 2, none⟩ (.int .i64 t323))) := ⟨blw HB.out⟩; (try clear HO314); (try clear HO321); (try clear BK309); (try clear BK318); (try clear BK325); (try clear HB)
      generalize (((w27.setCell ⟨gb325, 0, none⟩ (.slice Ao28 t319.length co28)).setCell ⟨gb325, 1, none⟩ (.int .i64 t322)).setCell ⟨gb325, 2, none⟩ (.int .i64 t323)) = w54 at n0_ n1_ n2_ n3_ n4_ n5_ ⊢
      have HO314 := n0_; have HO321 := n1_; have BK309 := n2_; have BK318 := n3_; have BK325 := n4_; have HB := n5_; clear n0_ n1_ n2_ n3_ n4_ n5_; replace HO314 := Aside0.mk (Kd.V_drew HO314.out); replace HO321 := Aside0.mk (Kd.N_drew HO321.out); replace BK309 := Aside0.mk (blk_drew BK309.out); replace BK318 := Aside0.mk (blk_drew BK318.out); replace BK325 := Aside0.mk (blk_drew BK325.out); replace HB := Aside0.mk (below_drew1 HB.out)
      refine start_ (n := 23) (S := fun w' => w'.cell? ⟨gb309, 0, none⟩ = some (.slice A0_0 l0_0.length c0_0) ∧ w'.cell? ⟨gb309, 1, none⟩ = some (.int .i64 a0_1) ∧ w'.cell? ⟨gb309, 2, none⟩ = some (.int .i64 a0_2)) (ds := []) #[N,N,N,N,N,N,N,N,N,N,N,N,N,N,N,N,N,N,N,N,N,N,N] (by kernel_rfl) rfl rfl ⟨bc BK309 0, bc BK309 1, bc BK309 2⟩ (fun hHeld => ?_); refine with_tabW fastilaw05_JournalAppendSpec.tab7 fastilaw05_JournalAppendSpec.bits7 (fun HT_ HW_ => ?_)
      generalize w54.drew = w55 at HO314 HO321 BK309 BK318 BK325 HB hHeld ⊢
      refine takeA (i := 0) (N := some 33) (ar 23 1) rfl (take_ofW HT_.out HW_.out (by kernel_rfl)) hHeld (by rintro w' ⟨s0, s1, s2⟩; go_simp; with_reducible rfl) ?_; refine takeA (i := 2) (N := some 35) (ar 23 5) rfl (take_ofW HT_.out HW_.out (by kernel_rfl)) hHeld (by rintro w' ⟨s0, s1, s2⟩; go_simp; with_reducible rfl) ?_
      refine one_ (i := 1) (N := some 34) #[Y,Y,Y,N,N,N,N,N,N,N,N,N,N,N,N,N,N,N,N,N,N,N,N] rfl rfl (one_of HT_.out (by kernel_rfl)) (by decide) (fun K hK => ?_)
      refine goes_ Try.func17 (by kernel_rfl) rfl #[.agg #[.slice A0_0 l0_0.length c0_0, .int .i64 a0_1, .int .i64 a0_2]] (by rfl) rfl rfl (by (try simp only [List.map_toArray, List.map_cons, List.map_nil]); first | done | rfl | (simp only [List.length_drop, List.length_take]; rfl)) ?_
      with_reducible refine (journal_Check.calls kj4 _ _ l0_0 a0_1 a0_2 t326 _ ?side1 ?side2 A32.out).mono ?_
      (case side1 => repeat (first | exact (Kd.C_below HR0_0.out HB.out) | (with_reducible refine Kd.C_alloc ?_ _) | (with_reducible refine Kd.C_drewN ?_ _) | (with_reducible refine Kd.C_drew ?_)))
      (case side2 => exact HC0_0.out)
      rintro e w56 ⟨rfl, hb⟩
      refine ⟨_, rfl, ?_⟩
      replace HO314 := Aside0.mk (Kd.V_below (vmv HO314.out) hb); replace HO321 := Aside0.mk (Kd.N_below (by (with_reducible repeat (first | apply Kd.N_alloc | apply Kd.N_drewN | apply Kd.N_drew)); exact HO321.out) hb); replace BK309 := Aside0.mk (zb BK309.out hb); replace BK318 := Aside0.mk (zb BK318.out hb); replace BK325 := Aside0.mk (zb BK325.out hb); replace HB := Aside0.mk (below_step (blw HB.out) hb); (try clear hb); (try clear hb2); (try clear hk); (try clear hi)
      refine hK.out _ _ ⟨bc BK309 0, bc BK309 1, bc BK309 2⟩ (fun hHeld => ?_)
      clear hK K
      refine norm_ (a' := ?_) ?_ ?_
      rotate_left
      ·show Act.put _ (some 34) _ = _
       simp only [Act.put, List.setIfInBounds_toArray, List.set_cons_zero, List.set_cons_succ, i64_w, i32_w]
       rfl
      refine one_ (i := 3) (N := some 36) #[Y,Y,Y,Y,N,N,N,N,N,N,N,N,N,N,N,N,N,N,N,N,N,N,N] rfl rfl (one_of HT_.out (by kernel_rfl)) (by decide) (fun K hK => ?_)
      refine goes_ Try.func18 (by kernel_rfl) rfl #[.agg #[.slice A0_0 l0_0.length c0_0, .int .i64 a0_1, .int .i64 a0_2]] (by rfl) rfl rfl (by (try simp only [List.map_toArray, List.map_cons, List.map_nil]); first | done | rfl | (simp only [List.length_drop, List.length_take]; rfl)) ?_
      with_reducible refine (fastiref05_Check.calls kj4 _ _ l0_0 a0_1 a0_2 t327 _ ?side1 ?side2 A33.out).mono ?_
      (case side1 => repeat (first | exact (Kd.C_below HR0_0.out HB.out) | (with_reducible refine Kd.C_alloc ?_ _) | (with_reducible refine Kd.C_drewN ?_ _) | (with_reducible refine Kd.C_drew ?_)))
      (case side2 => exact HC0_0.out)
      rintro e w57 ⟨rfl, hb⟩
      refine ⟨_, rfl, ?_⟩
      replace HO314 := Aside0.mk (Kd.V_below (vmv HO314.out) hb); replace HO321 := Aside0.mk (Kd.N_below (by (with_reducible repeat (first | apply Kd.N_alloc | apply Kd.N_drewN | apply Kd.N_drew)); exact HO321.out) hb); replace BK309 := Aside0.mk (zb BK309.out hb); replace BK318 := Aside0.mk (zb BK318.out hb); replace BK325 := Aside0.mk (zb BK325.out hb); replace HB := Aside0.mk (below_step (blw HB.out) hb); (try clear hb); (try clear hb2); (try clear hk); (try clear hi)
      refine hK.out _ _ ⟨bc BK309 0, bc BK309 1, bc BK309 2⟩ (fun hHeld => ?_)
      clear hK K
      refine norm_ (a' := ?_) ?_ ?_
      rotate_left
      ·show Act.put _ (some 36) _ = _
       simp only [Act.put, List.setIfInBounds_toArray, List.set_cons_zero, List.set_cons_succ, i64_w, i32_w]
       rfl
      refine pureA (i := 4) (N := some 37) (ar 23 31) (any_of HT_.out (by kernel_rfl)) ?_; refine pureA (i := 5) (N := some 38) (ar 23 63) (any_of HT_.out (by kernel_rfl)) ?_; refine takeA (i := 6) (N := some 39) (ar 23 127) rfl (take_ofW HT_.out HW_.out (by kernel_rfl)) hHeld (by rintro w' ⟨s0, s1, s2⟩; go_simp; with_reducible rfl) ?_; refine takeA (i := 8) (N := some 41) (ar 23 383) rfl (take_ofW HT_.out HW_.out (by kernel_rfl)) hHeld (by rintro w' ⟨s0, s1, s2⟩; go_simp; with_reducible rfl) ?_
      refine one_ (i := 7) (N := some 40) #[Y,Y,Y,Y,Y,Y,Y,Y,Y,N,N,N,N,N,N,N,N,N,N,N,N,N,N] rfl rfl (one_of HT_.out (by kernel_rfl)) (by decide) (fun K hK => ?_)
      refine goes_ Try.func19 (by kernel_rfl) rfl #[.agg #[.slice A0_0 l0_0.length c0_0, .int .i64 a0_1, .int .i64 a0_2]] (by rfl) rfl rfl (by (try simp only [List.map_toArray, List.map_cons, List.map_nil]); first | done | rfl | (simp only [List.length_drop, List.length_take]; rfl)) ?_
      with_reducible refine (journal_Room.calls kj4 _ _ l0_0 a0_1 a0_2 t328 _ ?side1 ?side2 A35.out).mono ?_
      (case side1 => repeat (first | exact (Kd.C_below HR0_0.out HB.out) | (with_reducible refine Kd.C_alloc ?_ _) | (with_reducible refine Kd.C_drewN ?_ _) | (with_reducible refine Kd.C_drew ?_)))
      (case side2 => exact HC0_0.out)
      rintro e w58 ⟨rfl, hb⟩
      refine ⟨_, rfl, ?_⟩
      replace HO314 := Aside0.mk (Kd.V_below (vmv HO314.out) hb); replace HO321 := Aside0.mk (Kd.N_below (by (with_reducible repeat (first | apply Kd.N_alloc | apply Kd.N_drewN | apply Kd.N_drew)); exact HO321.out) hb); replace BK309 := Aside0.mk (zb BK309.out hb); replace BK318 := Aside0.mk (zb BK318.out hb); replace BK325 := Aside0.mk (zb BK325.out hb); replace HB := Aside0.mk (below_step (blw HB.out) hb); (try clear hb); (try clear hb2); (try clear hk); (try clear hi)
      refine hK.out _ _ ⟨bc BK309 0, bc BK309 1, bc BK309 2⟩ (fun hHeld => ?_)
      clear hK K
      refine norm_ (a' := ?_) ?_ ?_
      rotate_left
      ·show Act.put _ (some 40) _ = _
       simp only [Act.put, List.setIfInBounds_toArray, List.set_cons_zero, List.set_cons_succ, i64_w, i32_w]
       rfl
      refine one_ (i := 9) (N := some 42) #[Y,Y,Y,Y,Y,Y,Y,Y,Y,Y,N,N,N,N,N,N,N,N,N,N,N,N,N] rfl rfl (one_of HT_.out (by kernel_rfl)) (by decide) (fun K hK => ?_)
      refine goes_ Try.func20 (by kernel_rfl) rfl #[.agg #[.slice A0_0 l0_0.length c0_0, .int .i64 a0_1, .int .i64 a0_2]] (by rfl) rfl rfl (by (try simp only [List.map_toArray, List.map_cons, List.map_nil]); first | done | rfl | (simp only [List.length_drop, List.length_take]; rfl)) ?_
      with_reducible refine (fastiref05_Room.calls kj4 _ _ l0_0 a0_1 a0_2 t329 _ ?side1 ?side2 A36.out).mono ?_
      (case side1 => repeat (first | exact (Kd.C_below HR0_0.out HB.out) | (with_reducible refine Kd.C_alloc ?_ _) | (with_reducible refine Kd.C_drewN ?_ _) | (with_reducible refine Kd.C_drew ?_)))
      (case side2 => exact HC0_0.out)
      rintro e w59 ⟨rfl, hb⟩
      refine ⟨_, rfl, ?_⟩
      replace HO314 := Aside0.mk (Kd.V_below (vmv HO314.out) hb); replace HO321 := Aside0.mk (Kd.N_below (by (with_reducible repeat (first | apply Kd.N_alloc | apply Kd.N_drewN | apply Kd.N_drew)); exact HO321.out) hb); replace BK309 := Aside0.mk (zb BK309.out hb); replace BK318 := Aside0.mk (zb BK318.out hb); replace BK325 := Aside0.mk (zb BK325.out hb); replace HB := Aside0.mk (below_step (blw HB.out) hb); (try clear hb); (try clear hb2); (try clear hk); (try clear hi)
      refine hK.out _ _ ⟨bc BK309 0, bc BK309 1, bc BK309 2⟩ (fun hHeld => ?_)
      clear hK K
      refine norm_ (a' := ?_) ?_ ?_
      rotate_left
      ·show Act.put _ (some 42) _ = _
       simp only [Act.put, List.setIfInBounds_toArray, List.set_cons_zero, List.set_cons_succ, i64_w, i32_w]
       rfl
      refine pureA (i := 10) (N := some 43) (ar 23 2047) (any_of HT_.out (by kernel_rfl)) ?_; refine pureA (i := 11) (N := some 44) (ar 23 4095) (any_of HT_.out (by kernel_rfl)) ?_; refine pureA (i := 12) (N := some 45) (ar 23 8191) (any_of HT_.out (by kernel_rfl)) ?_; refine pureU (i := 13) (N := some 46) (ar 23 16383) (any_of HT_.out (by kernel_rfl)) ?_; refine pureU (i := 14) (N := some 47) (ar 23 32767) (any_of HT_.out (by kernel_rfl)) ?_; refine pureU (i := 15) (N := some 48) (ar 23 65535) (any_of HT_.out (by kernel_rfl)) ?_; refine pureA (i := 16) (N := some 49) (ar 23 131071) (any_of HT_.out (by kernel_rfl)) ?_; refine pureA (i := 17) (N := some 50) (ar 23 262143) (any_of HT_.out (by kernel_rfl)) ?_; refine pureU (i := 18) (N := some 51) (ar 23 524287) (any_of HT_.out (by kernel_rfl)) ?_; refine pureU (i := 19) (N := some 52) (ar 23 1048575) (any_of HT_.out (by kernel_rfl)) ?_; refine pureU (i := 20) (N := some 53) (ar 23 2097151) (any_of HT_.out (by kernel_rfl)) ?_; refine pureA (i := 21) (N := some 54) (ar 23 4194303) (any_of HT_.out (by kernel_rfl)) ?_
      refine pureA (i := 22) (N := some 4) (ar 23 8388607) (any_of HT_.out (by kernel_rfl)) ?_
      refine done_ (done_of HT_.out (by kernel_rfl)) ?_
      try go_wp2
      go_meet
      case rel => exact ⟨_, (false), (by first | rfl | (simp; done) | (simp [*]; done)), H', ⟨by have := HJ4.out; first | omega | exact Nat.le_refl _⟩, ⟨vmv HO314.out⟩, ⟨by (with_reducible repeat (first | apply Kd.N_alloc | apply Kd.N_drewN | apply Kd.N_drew)); exact HO321.out⟩, ⟨zk BK309.out⟩, ⟨zk BK318.out⟩, ⟨zk BK325.out⟩, ⟨blw HB.out⟩⟩
    ·rw [if_neg c34] at H
     have c34b0 : (t326 == t327) = false := beq_eq_false_iff_ne.mpr c34; have c34b1 : (t326 != t327) = true := bne_iff_ne.mpr c34
     (first | rw [c34b0] | (simp only [i64_w, i32_w]; rw [c34b0]) | skip)
     have H' := Aside0.mk H; clear H
     try go_wp2
     have n0_ : Aside0 (Kd.V (Kd.slice 5 (Kd.int .u8)) 35 (((w27.setCell ⟨gb325, 0, none⟩ (.slice Ao28 t319.length co28)).setCell ⟨gb325, 1, none⟩ (.int .i64 t322)).setCell ⟨gb325, 2, none⟩ (.int .i64 t323)) w.heap.size (fun k_ => some k_ ≠ (.slice Ao28 t319.length co28 : Value).ownBlock ∧ k_ ≠ gb309 ∧ k_ ≠ gb318 ∧ k_ ≠ gb325) (.slice Ao21 t312.length co21) t312) := ⟨Kd.V_mono (vfa HO314.out (fun _ hk => hk.2)) (fun _ q_ => ⟨q_.1.2, ⟨q_.1.1.1, ⟨q_.1.1.2, q_.2⟩⟩⟩)⟩; have n1_ : Aside0 (Kd.N (Kd.slice 5 (Kd.int .u8)) 35 (((w27.setCell ⟨gb325, 0, none⟩ (.slice Ao28 t319.length co28)).setCell ⟨gb325, 1, none⟩ (.int .i64 t322)).setCell ⟨gb325, 2, none⟩ (.int .i64 t323)) w.heap.size (fun k_ => k_ ≠ gb309 ∧ k_ ≠ gb318 ∧ k_ ≠ gb325) (.slice Ao28 t319.length co28) t319) := ⟨by (with_reducible repeat (first | apply Kd.N_alloc | apply Kd.N_drewN | apply Kd.N_drew)); exact Kd.N_mono (Kd.N_far (p := ⟨gb325, 2, none⟩) (Kd.N_far (p := ⟨gb325, 1, none⟩) (Kd.N_far (p := ⟨gb325, 0, none⟩) (Kd.N_mono HO321.out (fun k_ hk => (⟨hk, hk.2⟩ : _ ∧ k_ ≠ gb325))) (fun _ hk => hk.2) (.slice Ao28 t319.length co28)) (fun _ hk => hk.2) (.int .i64 t322)) (fun _ hk => hk.2) (.int .i64 t323)) (fun _ hk => ⟨hk.1.1.1, ⟨hk.1.1.2, hk.1.2⟩⟩)⟩
     have n2_ : Aside0 ((((w27.setCell ⟨gb325, 0, none⟩ (.slice Ao28 t319.length co28)).setCell ⟨gb325, 1, none⟩ (.int .i64 t322)).setCell ⟨gb325, 2, none⟩ (.int .i64 t323)).heap[gb309]? = some (.cells #[.slice A0_0 l0_0.length c0_0, .int .i64 a0_1, .int .i64 a0_2] 29 (0, 0))) := ⟨zf BK309.out⟩; have n3_ : Aside0 ((((w27.setCell ⟨gb325, 0, none⟩ (.slice Ao28 t319.length co28)).setCell ⟨gb325, 1, none⟩ (.int .i64 t322)).setCell ⟨gb325, 2, none⟩ (.int .i64 t323)).heap[gb318]? = some (.cells #[.slice Ao21 t312.length co21, .int .i64 t315, .int .i64 t316] 29 (0, 0))) := ⟨zf BK318.out⟩; have n4_ : Aside0 ((((w27.setCell ⟨gb325, 0, none⟩ (.slice Ao28 t319.length co28)).setCell ⟨gb325, 1, none⟩ (.int .i64 t322)).setCell ⟨gb325, 2, none⟩ (.int .i64 t323)).heap[gb325]? = some (.cells #[.slice Ao28 t319.length co28, .int .i64 t322, .int .i64 t323] 29 (0, 0))) := ⟨by (with_reducible repeat (first | refine blk_drewN ?_ _ | refine blk_drew ?_ | refine blk_alloc ?_ _)); refine blk_put (cs := #[.slice Ao28 t319.length co28, .int .i64 t322, .int .i64 0]) ?_ 2 _ rfl; refine blk_put (cs := #[.slice Ao28 t319.length co28, .int .i64 0, .int .i64 0]) ?_ 1 _ rfl; refine blk_put (cs := #[.slice none 0 0, .int .i64 0, .int .i64 0]) ?_ 0 _ rfl; (with_reducible repeat (first | refine blk_drewN ?_ _ | refine blk_drew ?_ | refine blk_alloc ?_ _)); exact BK325.out⟩
     have n5_ : Aside0 (Below w.heap.size w (((w27.setCell ⟨gb325, 0, none⟩ (.slice Ao28 t319.length co28)).setCell ⟨gb325, 1, none⟩ (.int .i64 t322)).setCell ⟨gb325, 2, none⟩ (.int .i64 t323))) := ⟨blw HB.out⟩; (try clear HO314); (try clear HO321); (try clear BK309); (try clear BK318); (try clear BK325); (try clear HB)
     generalize (((w27.setCell ⟨gb325, 0, none⟩ (.slice Ao28 t319.length co28)).setCell ⟨gb325, 1, none⟩ (.int .i64 t322)).setCell ⟨gb325, 2, none⟩ (.int .i64 t323)) = w60 at n0_ n1_ n2_ n3_ n4_ n5_ ⊢
     have HO314 := n0_; have HO321 := n1_; have BK309 := n2_; have BK318 := n3_; have BK325 := n4_; have HB := n5_; clear n0_ n1_ n2_ n3_ n4_ n5_; replace HO314 := Aside0.mk (Kd.V_drew HO314.out); replace HO321 := Aside0.mk (Kd.N_drew HO321.out); replace BK309 := Aside0.mk (blk_drew BK309.out); replace BK318 := Aside0.mk (blk_drew BK318.out); replace BK325 := Aside0.mk (blk_drew BK325.out); replace HB := Aside0.mk (below_drew1 HB.out)
     refine start_ (n := 23) (S := fun w' => w'.cell? ⟨gb309, 0, none⟩ = some (.slice A0_0 l0_0.length c0_0) ∧ w'.cell? ⟨gb309, 1, none⟩ = some (.int .i64 a0_1) ∧ w'.cell? ⟨gb309, 2, none⟩ = some (.int .i64 a0_2)) (ds := []) #[N,N,N,N,N,N,N,N,N,N,N,N,N,N,N,N,N,N,N,N,N,N,N] (by kernel_rfl) rfl rfl ⟨bc BK309 0, bc BK309 1, bc BK309 2⟩ (fun hHeld => ?_); refine with_tabW fastilaw05_JournalAppendSpec.tab7 fastilaw05_JournalAppendSpec.bits7 (fun HT_ HW_ => ?_)
     generalize w60.drew = w61 at HO314 HO321 BK309 BK318 BK325 HB hHeld ⊢
     refine takeA (i := 0) (N := some 33) (ar 23 1) rfl (take_ofW HT_.out HW_.out (by kernel_rfl)) hHeld (by rintro w' ⟨s0, s1, s2⟩; go_simp; with_reducible rfl) ?_; refine takeA (i := 2) (N := some 35) (ar 23 5) rfl (take_ofW HT_.out HW_.out (by kernel_rfl)) hHeld (by rintro w' ⟨s0, s1, s2⟩; go_simp; with_reducible rfl) ?_
     refine one_ (i := 1) (N := some 34) #[Y,Y,Y,N,N,N,N,N,N,N,N,N,N,N,N,N,N,N,N,N,N,N,N] rfl rfl (one_of HT_.out (by kernel_rfl)) (by decide) (fun K hK => ?_)
     refine goes_ Try.func17 (by kernel_rfl) rfl #[.agg #[.slice A0_0 l0_0.length c0_0, .int .i64 a0_1, .int .i64 a0_2]] (by rfl) rfl rfl (by (try simp only [List.map_toArray, List.map_cons, List.map_nil]); first | done | rfl | (simp only [List.length_drop, List.length_take]; rfl)) ?_
     with_reducible refine (journal_Check.calls kj4 _ _ l0_0 a0_1 a0_2 t326 _ ?side1 ?side2 A32.out).mono ?_
     (case side1 => repeat (first | exact (Kd.C_below HR0_0.out HB.out) | (with_reducible refine Kd.C_alloc ?_ _) | (with_reducible refine Kd.C_drewN ?_ _) | (with_reducible refine Kd.C_drew ?_)))
     (case side2 => exact HC0_0.out)
     rintro e w62 ⟨rfl, hb⟩
     refine ⟨_, rfl, ?_⟩
     replace HO314 := Aside0.mk (Kd.V_below (vmv HO314.out) hb); replace HO321 := Aside0.mk (Kd.N_below (by (with_reducible repeat (first | apply Kd.N_alloc | apply Kd.N_drewN | apply Kd.N_drew)); exact HO321.out) hb); replace BK309 := Aside0.mk (zb BK309.out hb); replace BK318 := Aside0.mk (zb BK318.out hb); replace BK325 := Aside0.mk (zb BK325.out hb); replace HB := Aside0.mk (below_step (blw HB.out) hb); (try clear hb); (try clear hb2); (try clear hk); (try clear hi)
     refine hK.out _ _ ⟨bc BK309 0, bc BK309 1, bc BK309 2⟩ (fun hHeld => ?_)
     clear hK K
     refine norm_ (a' := ?_) ?_ ?_
     rotate_left
     ·show Act.put _ (some 34) _ = _
      simp only [Act.put, List.setIfInBounds_toArray, List.set_cons_zero, List.set_cons_succ, i64_w, i32_w]
      rfl
     refine one_ (i := 3) (N := some 36) #[Y,Y,Y,Y,N,N,N,N,N,N,N,N,N,N,N,N,N,N,N,N,N,N,N] rfl rfl (one_of HT_.out (by kernel_rfl)) (by decide) (fun K hK => ?_)
     refine goes_ Try.func18 (by kernel_rfl) rfl #[.agg #[.slice A0_0 l0_0.length c0_0, .int .i64 a0_1, .int .i64 a0_2]] (by rfl) rfl rfl (by (try simp only [List.map_toArray, List.map_cons, List.map_nil]); first | done | rfl | (simp only [List.length_drop, List.length_take]; rfl)) ?_
     with_reducible refine (fastiref05_Check.calls kj4 _ _ l0_0 a0_1 a0_2 t327 _ ?side1 ?side2 A33.out).mono ?_
     (case side1 => repeat (first | exact (Kd.C_below HR0_0.out HB.out) | (with_reducible refine Kd.C_alloc ?_ _) | (with_reducible refine Kd.C_drewN ?_ _) | (with_reducible refine Kd.C_drew ?_)))
     (case side2 => exact HC0_0.out)
     rintro e w63 ⟨rfl, hb⟩
     refine ⟨_, rfl, ?_⟩
     replace HO314 := Aside0.mk (Kd.V_below (vmv HO314.out) hb); replace HO321 := Aside0.mk (Kd.N_below (by (with_reducible repeat (first | apply Kd.N_alloc | apply Kd.N_drewN | apply Kd.N_drew)); exact HO321.out) hb); replace BK309 := Aside0.mk (zb BK309.out hb); replace BK318 := Aside0.mk (zb BK318.out hb); replace BK325 := Aside0.mk (zb BK325.out hb); replace HB := Aside0.mk (below_step (blw HB.out) hb); (try clear hb); (try clear hb2); (try clear hk); (try clear hi)
     refine hK.out _ _ ⟨bc BK309 0, bc BK309 1, bc BK309 2⟩ (fun hHeld => ?_)
     clear hK K
     refine norm_ (a' := ?_) ?_ ?_
     rotate_left
     ·show Act.put _ (some 36) _ = _
      simp only [Act.put, List.setIfInBounds_toArray, List.set_cons_zero, List.set_cons_succ, i64_w, i32_w]
      rfl
     refine pureA (i := 4) (N := some 37) (ar 23 31) (any_of HT_.out (by kernel_rfl)) ?_; refine pureA (i := 5) (N := some 38) (ar 23 63) (any_of HT_.out (by kernel_rfl)) ?_; refine pureU (i := 6) (N := some 39) (ar 23 127) (any_of HT_.out (by kernel_rfl)) ?_; refine pureU (i := 7) (N := some 40) (ar 23 255) (any_of HT_.out (by kernel_rfl)) ?_; refine pureU (i := 8) (N := some 41) (ar 23 511) (any_of HT_.out (by kernel_rfl)) ?_; refine pureU (i := 9) (N := some 42) (ar 23 1023) (any_of HT_.out (by kernel_rfl)) ?_; refine pureU (i := 10) (N := some 43) (ar 23 2047) (any_of HT_.out (by kernel_rfl)) ?_; refine pureA (i := 11) (N := some 44) (ar 23 4095) (any_of HT_.out (by kernel_rfl)) ?_; refine pureA (i := 12) (N := some 45) (ar 23 8191) (any_of HT_.out (by kernel_rfl)) ?_; refine pureU (i := 13) (N := some 46) (ar 23 16383) (any_of HT_.out (by kernel_rfl)) ?_; refine pureU (i := 14) (N := some 47) (ar 23 32767) (any_of HT_.out (by kernel_rfl)) ?_; refine pureU (i := 15) (N := some 48) (ar 23 65535) (any_of HT_.out (by kernel_rfl)) ?_
     refine pureA (i := 16) (N := some 49) (ar 23 131071) (any_of HT_.out (by kernel_rfl)) ?_; refine pureA (i := 17) (N := some 50) (ar 23 262143) (any_of HT_.out (by kernel_rfl)) ?_; refine pureU (i := 18) (N := some 51) (ar 23 524287) (any_of HT_.out (by kernel_rfl)) ?_; refine pureU (i := 19) (N := some 52) (ar 23 1048575) (any_of HT_.out (by kernel_rfl)) ?_; refine pureU (i := 20) (N := some 53) (ar 23 2097151) (any_of HT_.out (by kernel_rfl)) ?_; refine pureA (i := 21) (N := some 54) (ar 23 4194303) (any_of HT_.out (by kernel_rfl)) ?_; refine pureA (i := 22) (N := some 4) (ar 23 8388607) (any_of HT_.out (by kernel_rfl)) ?_
     refine done_ (done_of HT_.out (by kernel_rfl)) ?_
     try go_wp2
     go_meet
     case rel => exact ⟨_, (false), (by first | rfl | (simp; done) | (simp [*]; done)), H', ⟨by have := HJ4.out; first | omega | exact Nat.le_refl _⟩, ⟨vmv HO314.out⟩, ⟨by (with_reducible repeat (first | apply Kd.N_alloc | apply Kd.N_drewN | apply Kd.N_drew)); exact HO321.out⟩, ⟨zk BK309.out⟩, ⟨zk BK318.out⟩, ⟨zk BK325.out⟩, ⟨blw HB.out⟩⟩
   case rest =>
    clear HC17; (try clear c1); (try clear c2); (try clear p2); (try clear c3); (try clear c17); (try clear c18); (try clear c19); (try clear c20); (try clear c34); (try clear c34b0); (try clear c34b1); (try clear c37); (try clear c37b0); (try clear c37b1); obtain ⟨kq, x4_16, rfl, HA, HJ16, HO_319000, HO_326000, BK309, BK318, BK325, HB⟩ := hcut
    cases kq with
    | zero => exact absurd HA.out (by simp [fastilaw05_JournalAppendSpec.j1])
    | succ kj16 =>
     have H := HA.out; clear HA
     simp only [fastilaw05_JournalAppendSpec.j1] at H
     obtain rfl := Option.some.inj H
     go_wp2
     go_ret
     exact ⟨by first | rfl | (simp [errW_none, errW_some] <;> rfl) | (simp [*, errW_none, errW_some] <;> rfl), blw HB.out⟩

end Go.Proofs.Ytljmdkeeppikhaa.Q
