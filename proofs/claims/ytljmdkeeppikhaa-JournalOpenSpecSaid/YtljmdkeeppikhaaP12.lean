/- Functions of the translation as plain Lean functions, and proofs that the calls do what these say; written by a program of this session round the kit's print. -/
import Derived.Test.YtljmdkeeppikhaaQ0
import Derived.Test.YtljmdkeeppikhaaAidB
import Derived.Test.YtljmdkeeppikhaaAidC
import Derived.Test.YtljmdkeeppikhaaQ7
import Derived.Test.YtljmdkeeppikhaaP8
import Derived.Test.YtljmdkeeppikhaaP11
import Derived.Test.YtljmdkeeppikhaaJOq
namespace Go.Proofs.Ytljmdkeeppikhaa.Q
open Go.RowKit Go.Proofs.YtljmdkeeppikhaaW.PrintWords Go.Proofs.YtljmdkeeppikhaaW.PrintLast Go.Proofs.YtljmdkeeppikhaaW.PrintMore
attribute [local go_sem] max2_int min2_int max_two min_two max_three min_three max_four min_four   -- for this text's walks alone
set_option linter.unusedVariables false
set_option linter.unusedSimpArgs false

/-! ### fastiref05_Records: function 34 -/
def fastiref05_Records.l0 : Nat → List (List Int) → List (List Int) → Int → Int → Option ((List (List Int)))
  | 0, _, _, _, _ => none
  | k + 1, x0, x3, x4, x5 => (fastiref05_record.f k x0 x4).bind fun bt327 => (if bt327.2 = 0 then (some x3) else (if 0 ≤ x4 then (if x4 < (x0.length : Int) then (if 4 ≤ ((rd_L1 x0 x4).length : Int) then ((fastiref05_number.f k ((rd_L1 x0 x4).take 4)).bind fun t333 => (if t333 < x5 then (some x3) else ((fastiref05_number.f k ((rd_L1 x0 x4).take 4)).bind fun t336 => (if x3.length < 5864062014805 then (fastiref05_Records.l0 k x0 (x3 ++ [bt327.1]) (wrap64 (x4 + bt327.2)) t336) else (none))))) else (none)) else (none)) else (none)))
def fastiref05_Records.f (k : Nat) (l0 : List (List Int)) : Option ((List (List Int))) := fastiref05_Records.l0 k l0 (([] : List (List Int))) 0 0
theorem fastiref05_Records.mono_l : ∀ k, (∀ y0 y1 y2 y3, LeO (fastiref05_Records.l0 k y0 y1 y2 y3) (fastiref05_Records.l0 (k + 1) y0 y1 y2 y3))
  | 0 => fun _ _ _ _ r h => by simp [fastiref05_Records.l0] at h
  | k + 1 => by
    have ih0 := fastiref05_Records.mono_l k
    · intro y0 y1 y2 y3
      unfold fastiref05_Records.l0
      repeat' first
      | (with_reducible exact ih0 _ _ _ _)
      | (with_reducible exact fastiref05_number.mono _ _)
      | (with_reducible exact fastiref05_record.mono _ _ _)
      | (with_reducible exact LeO.refl _)
      | (with_reducible exact LeO.none _)
      | (with_reducible refine LeO.ite ?_ ?_)
      | (with_reducible refine LeO.bind ?_ (fun _ => ?_))
      | exact ih0 _ _ _ _
      | exact fastiref05_number.mono _ _
      | exact fastiref05_record.mono _ _ _
      | exact LeO.none _
      | refine LeO.ite ?_ ?_
      | refine LeO.bind ?_ (fun _ => ?_)
theorem fastiref05_Records.mono : ∀ a0 k, LeO (fastiref05_Records.f k a0) (fastiref05_Records.f (k + 1) a0) := by
  intro a0 k
  have ih0 := fastiref05_Records.mono_l k
  unfold fastiref05_Records.f
  repeat' first
      | (with_reducible exact ih0 _ _ _ _)
      | (with_reducible exact fastiref05_number.mono _ _)
      | (with_reducible exact fastiref05_record.mono _ _ _)
      | (with_reducible exact LeO.refl _)
      | (with_reducible exact LeO.none _)
      | (with_reducible refine LeO.ite ?_ ?_)
      | (with_reducible refine LeO.bind ?_ (fun _ => ?_))
      | exact ih0 _ _ _ _
      | exact fastiref05_number.mono _ _
      | exact fastiref05_record.mono _ _ _
      | exact LeO.none _
      | refine LeO.ite ?_ ?_
      | refine LeO.bind ?_ (fun _ => ?_)
set_option maxHeartbeats 8000000 in
set_option maxRecDepth 100000 in
theorem fastiref05_Records.calls (k : Nat) (A0 : Option Addr) (c0 : Nat) (l0 : List (List Int)) (r : List (List Int)) (w : World) (hr0 : Kd.C (Kd.slice 5 (Kd.int .u8)) w A0 l0.length l0) (hc0 : l0.length ≤ c0) (h : fastiref05_Records.f k l0 = some r) :
    Calls Try.prog 34 #[.slice A0 l0.length c0] w fun e w' => ∃ v0_ : Value, e = .returned (v0_) ∧ Kd.S (Kd.slice 5 (Kd.int .u8)) 35 w' w.heap.size (fun _ => True) v0_ r ∧ Below w.heap.size w w' := by
 have HR0 := Aside0.mk hr0; have HC0 := Aside0.mk hc0; clear hr0 hc0; have HB := Aside0.mk (Below.refl w.heap.size w); have H : (fastiref05_Records.l0 k l0 (([] : List (List Int))) 0 0) = some r := h; clear h; obtain ⟨y324, hy324⟩ : ∃ y_ : List (List Int), y_ = (([] : List (List Int))) := ⟨_, rfl⟩
 replace H : (fastiref05_Records.l0 k l0 y324 0 0) = some r := by first | (rw [hy324]; with_reducible exact H) | (have H2_ := (Option.bind_some _ _).symm.trans H; rw [hy324]; with_reducible exact H2_) | (have H2_ := (Option.bind_some _ _).symm.trans H; with_reducible exact H2_) | with_reducible exact H | (rw [hy324]; exact H) | exact H
 have Ny324 := Aside0.mk hy324; clear hy324; have H' := Aside0.mk H; clear H
 go_enter Try.func34, Try.ntmps34
 go_wp2_with (first | ((with_reducible refine gate_dst (N := 8) rfl ?_); refine Kd.S_lit (Kd.slice 5 (Kd.int .u8)) _ 35 ?hg (N := 8) ?hd (xs := ([] : List (List Int))) (inner := []) (ok := fun _ => True) (okp := fun _ => True) ?hr ?hp (fun _ hk => hk) trivial (Below.refl _ _) (Nat.le_refl _) (by simp) ?_; (case hd => rfl); (case hg => rfl); (case hr => first | (go_simp; done) | (go_simp; rfl)); (case hp => exact (Reps.none _ _)); intro v325 w2 ho3 hb hg_ hnew_; clear hg_ hnew_; (first | rw [← Ny324.out] at ho3 | (simp only [Int.reduceToNat] at ho3; rw [← Ny324.out] at ho3)); have HO326 := Aside0.mk (Kd.S_lower ho3 (below_size (blw HB.out))); replace HB := sB HB hb; clear hb ho3))
 go_loopg [3, 4, 5] k (fun kq v3 v4 v5 w' => ∃ (x3_1 : List (List Int)) (x4_1 : Int) (x5_1 : Int), v4 = .int .i64 x4_1 ∧ v5 = .int .u64 x5_1 ∧ Aside0 (fastiref05_Records.l0 kq l0 x3_1 x4_1 x5_1 = some r) ∧ Aside0 (kq ≤ k) ∧ Aside0 (Kd.S (Kd.slice 5 (Kd.int .u8)) 35 w' w.heap.size (fun _ => True) v3 x3_1) ∧ Aside0 (Below w.heap.size w w'))
 case atStart => exact ⟨(y324), (0), (0), (by first | rfl | (simp; done) | (simp [*]; done)), (by first | rfl | (simp; done) | (simp [*]; done)), H', ⟨Nat.le_refl _⟩, ⟨by (with_reducible repeat (first | apply Kd.S_alloc | apply Kd.S_drewN | apply Kd.S_drew)); exact HO326.out⟩, ⟨blw HB.out⟩⟩
 clear H'; (try clear p2); (try clear c3); obtain ⟨x3_1, x4_1, x5_1, rfl, rfl, HA, HK1, HO_3, HB⟩ := hrel
 cases gk with
 | zero => exact absurd HA.out (by simp [fastiref05_Records.l0])
 | succ k1 =>
   have H := HA.out; clear HA
   simp only [fastiref05_Records.l0] at H
   replace H := Option.bind_eq_some_iff.mp H; obtain ⟨⟨t327, t328⟩, A40, H⟩ := H; replace H : (if t328 = 0 then (some x3_1) else (if 0 ≤ x4_1 then (if x4_1 < (l0.length : Int) then (if 4 ≤ ((rd_L1 l0 x4_1).length : Int) then ((fastiref05_number.f k1 ((rd_L1 l0 x4_1).take 4)).bind fun t333 => (if t333 < x5_1 then (some x3_1) else ((fastiref05_number.f k1 ((rd_L1 l0 x4_1).take 4)).bind fun t336 => (if x3_1.length < 5864062014805 then (fastiref05_Records.l0 k1 l0 (x3_1 ++ [t327]) (wrap64 (x4_1 + t328)) t336) else (none))))) else (none)) else (none)) else (none))) = some r := H; have A4 := Aside0.mk A40; clear A40
   by_cases c5 : t328 = 0
   · rw [if_pos c5] at H
     have c5b0 : (t328 == 0) = true := beq_iff_eq.mpr c5; have c5b1 : (t328 != 0) = false := bne_eq_false_iff_eq.mpr c5; clear c5; obtain rfl := Option.some.inj H
     go_wp2_with (first | (refine goesC 12 Try.func62 #[.slice A0 l0.length c0, .int .i64 x4_1] ?_; (with_reducible refine (fastiref05_record.calls k1 _ _ l0 x4_1 t327 t328 _ ?side1 ?side2 A4.out).mono ?_); (case side1 => exact cB HR0 HB); (case side2 => exact HC0.out); rintro e w6 ⟨v329, rfl, ho0, hb⟩; refine ⟨_, rfl, ?_⟩; replace HO_3 := Aside0.mk (Kd.S_elder' (by (with_reducible repeat (first | apply Kd.S_alloc | apply Kd.S_drewN | apply Kd.S_drew)); exact HO_3.out) (Kd.R_base ho0) hb); have HO330 := Aside0.mk (Kd.R_lower ho0 (below_size (blw HB.out))); replace HB := sB HB hb; (try clear hb); (try clear hb2); (try clear hk); (try clear hi); (try clear ho0)))
     go_ret
     exact ⟨_, by first | rfl | (simp [errW_none, errW_some] <;> rfl) | (simp [*, errW_none, errW_some] <;> rfl), by (with_reducible repeat (first | apply Kd.S_alloc | apply Kd.S_drewN | apply Kd.S_drew)); exact Kd.S_mono HO_3.out (fun _ hk => trivial), blw HB.out⟩
   · rw [if_neg c5] at H
     have c5b0 : (t328 == 0) = false := beq_eq_false_iff_ne.mpr c5; have c5b1 : (t328 != 0) = true := bne_iff_ne.mpr c5
     by_cases c7 : 0 ≤ x4_1
     · rw [if_pos c7] at H
       have c7b0 : decide (0 ≤ x4_1) = true := decide_eq_true c7; clear c7
       by_cases c8 : x4_1 < (l0.length : Int)
       · rw [if_pos c8] at H
         have c8b0 : decide (x4_1 < (l0.length : Int)) = true := decide_eq_true c8; clear c8
         by_cases c9 : 4 ≤ ((rd_L1 l0 x4_1).length : Int)
         · rw [if_pos c9] at H
           have c9b0 := eq_true c9; have c9b1 : decide (4 ≤ ((rd_L1 l0 x4_1).length : Int)) = true := decide_eq_true c9; clear c9; replace H := Option.bind_eq_some_iff.mp H; obtain ⟨t333, A100, H⟩ := H; replace H : (if t333 < x5_1 then (some x3_1) else ((fastiref05_number.f k1 ((rd_L1 l0 x4_1).take 4)).bind fun t336 => (if x3_1.length < 5864062014805 then (fastiref05_Records.l0 k1 l0 (x3_1 ++ [t327]) (wrap64 (x4_1 + t328)) t336) else (none)))) = some r := H; have A10 := Aside0.mk A100; clear A100
           by_cases c11 : t333 < x5_1
           · rw [if_pos c11] at H
             have c11b0 : decide (t333 < x5_1) = true := decide_eq_true c11; clear c11; obtain rfl := Option.some.inj H
             go_wp2_with (first | (refine goesC 12 Try.func62 #[.slice A0 l0.length c0, .int .i64 x4_1] ?_; (with_reducible refine (fastiref05_record.calls k1 _ _ l0 x4_1 t327 t328 _ ?side1 ?side2 A4.out).mono ?_); (case side1 => exact cB HR0 HB); (case side2 => exact HC0.out); rintro e w12 ⟨v329, rfl, ho0, hb⟩; refine ⟨_, rfl, ?_⟩; replace HO_3 := Aside0.mk (Kd.S_elder' (by (with_reducible repeat (first | apply Kd.S_alloc | apply Kd.S_drewN | apply Kd.S_drew)); exact HO_3.out) (Kd.R_base ho0) hb); have HO330 := Aside0.mk (Kd.R_lower ho0 (below_size (blw HB.out))); replace HB := sB HB hb; (try clear hb); (try clear hb2); (try clear hk); (try clear hi); (try clear ho0); have p331 : 0 ≤ (x4_1 : Int) := of_decide_eq_true (by first | (with_reducible assumption) | assumption); have q331 : x4_1 < (l0.length : Int) := of_decide_eq_true (by first | (with_reducible assumption) | assumption); obtain ⟨ad331, A331_0, c331_0, e331, hx331_0, hl331_0, hi331_0⟩ := at_L1 HR0.out x4_1 p331 q331; cases e331; replace hx331_0 := (HB.out.cell (World.block_lt_of_cell? w _ hx331_0)).trans hx331_0; have HR331_0 := Aside0.mk hi331_0; have HC331_0 := Aside0.mk hl331_0; clear hi331_0 hl331_0; replace p331 := eq_true p331; replace q331 := eq_true q331; obtain ⟨i013, hi013, _, hsz13, _⟩ := info_parts info5; obtain ⟨hcut13, hA13, hC13⟩ := print_take_of (P := Try.prog) (Value.int .u8) 0 35 5 .i64 Try.underlying35 hi013 hsz13 A331_0 c331_0 (rd_L1 l0 x4_1) 4 (by omega) (of_decide_eq_true (by first | (with_reducible assumption) | assumption)) HC331_0.out; have HR332 := Aside0.mk (Kd.C_of_reads (h1 := fun _ => rfl) (hA13 _ (Kd.reads_of_C HR331_0.out))); have HC332 := Aside0.mk hC13; clear hA13 hC13 hi013 hsz13) | ((with_reducible refine gate_callee (f := 63) rfl ?_); (try (refine gate_guard (by rfl) ?_; dsimp only)); refine goesL_ (some 23) rfl rfl Try.func63 (by kernel_rfl) rfl #[.slice A331_0 ((rd_L1 l0 x4_1).take 4).length c331_0] rfl (by (try simp only [List.map_toArray, List.map_cons, List.map_nil]); first | done | (rw [show ((rd_L1 l0 x4_1).take 4).length = 4 from (by rw [List.length_take]; have h_ : (4 : Int) ≤ ((rd_L1 l0 x4_1).length : Int) := of_decide_eq_true (by first | (with_reducible assumption) | assumption); omega)] <;> rfl) | rfl | (simp only [List.length_drop, List.length_take]; rfl)) ?_; (with_reducible refine (fastiref05_number.calls k1 _ _ ((rd_L1 l0 x4_1).take 4) t333 _ ?side1 ?side2 A10.out).mono ?_); (case side1 => exact cB HR332 HB); (case side2 => exact HC332.out); rintro e w' ⟨rfl, ⟨nd, rfl⟩⟩; refine ⟨_, rfl, ?_⟩))
             go_ret
             exact ⟨_, by first | rfl | (simp [errW_none, errW_some] <;> rfl) | (simp [*, errW_none, errW_some] <;> rfl), by (with_reducible repeat (first | apply Kd.S_alloc | apply Kd.S_drewN | apply Kd.S_drew)); exact Kd.S_mono HO_3.out (fun _ hk => trivial), blw HB.out⟩
           · rw [if_neg c11] at H
             have c11b0 : decide (t333 < x5_1) = false := decide_eq_false c11; clear c11; have c14b0 := eq_true (of_decide_eq_true (by first | (with_reducible assumption) | assumption) : 4 ≤ ((rd_L1 l0 x4_1).length : Int)); replace H := Option.bind_eq_some_iff.mp H; obtain ⟨t336, A150, H⟩ := H; replace H : (if x3_1.length < 5864062014805 then (fastiref05_Records.l0 k1 l0 (x3_1 ++ [t327]) (wrap64 (x4_1 + t328)) t336) else (none)) = some r := H; have A15 := Aside0.mk A150; clear A150
             by_cases c16 : x3_1.length < 5864062014805
             · rw [if_pos c16] at H
               have LMc16 := Aside0.mk c16; clear c16; obtain ⟨y337, hy337⟩ : ∃ y_ : List (List Int), y_ = (x3_1 ++ [t327]) := ⟨_, rfl⟩
               replace H : (fastiref05_Records.l0 k1 l0 y337 (wrap64 (x4_1 + t328)) t336) = some r := by first | (rw [hy337]; with_reducible exact H) | (have H2_ := (Option.bind_some _ _).symm.trans H; rw [hy337]; with_reducible exact H2_) | (have H2_ := (Option.bind_some _ _).symm.trans H; with_reducible exact H2_) | with_reducible exact H | (rw [hy337]; exact H) | exact H
               have Ny337 := Aside0.mk hy337; clear hy337; have H' := Aside0.mk H; clear H
               go_wp2_with (first | (refine goesC 12 Try.func62 #[.slice A0 l0.length c0, .int .i64 x4_1] ?_; (with_reducible refine (fastiref05_record.calls k1 _ _ l0 x4_1 t327 t328 _ ?side1 ?side2 A4.out).mono ?_); (case side1 => exact cB HR0 HB); (case side2 => exact HC0.out); rintro e w17 ⟨v329, rfl, ho0, hb⟩; refine ⟨_, rfl, ?_⟩; replace HO_3 := Aside0.mk (Kd.S_elder' (by (with_reducible repeat (first | apply Kd.S_alloc | apply Kd.S_drewN | apply Kd.S_drew)); exact HO_3.out) (Kd.R_base ho0) hb); have HO330 := Aside0.mk (Kd.R_lower ho0 (below_size (blw HB.out))); replace HB := sB HB hb; (try clear hb); (try clear hb2); (try clear hk); (try clear hi); (try clear ho0); have p331 : 0 ≤ (x4_1 : Int) := of_decide_eq_true (by first | (with_reducible assumption) | assumption); have q331 : x4_1 < (l0.length : Int) := of_decide_eq_true (by first | (with_reducible assumption) | assumption); obtain ⟨ad331, A331_0, c331_0, e331, hx331_0, hl331_0, hi331_0⟩ := at_L1 HR0.out x4_1 p331 q331; cases e331; replace hx331_0 := (HB.out.cell (World.block_lt_of_cell? w _ hx331_0)).trans hx331_0; have HR331_0 := Aside0.mk hi331_0; have HC331_0 := Aside0.mk hl331_0; clear hi331_0 hl331_0; replace p331 := eq_true p331; replace q331 := eq_true q331; obtain ⟨i018, hi018, _, hsz18, _⟩ := info_parts info5; obtain ⟨hcut18, hA18, hC18⟩ := print_take_of (P := Try.prog) (Value.int .u8) 0 35 5 .i64 Try.underlying35 hi018 hsz18 A331_0 c331_0 (rd_L1 l0 x4_1) 4 (by omega) (of_decide_eq_true (by first | (with_reducible assumption) | assumption)) HC331_0.out; have HR332 := Aside0.mk (Kd.C_of_reads (h1 := fun _ => rfl) (hA18 _ (Kd.reads_of_C HR331_0.out))); have HC332 := Aside0.mk hC18; clear hA18 hC18 hi018 hsz18) | ((with_reducible refine gate_callee (f := 63) rfl ?_); (try (refine gate_guard (by rfl) ?_; dsimp only)); refine goesL_ (some 23) rfl rfl Try.func63 (by kernel_rfl) rfl #[.slice A331_0 ((rd_L1 l0 x4_1).take 4).length c331_0] rfl (by (try simp only [List.map_toArray, List.map_cons, List.map_nil]); first | done | (rw [show ((rd_L1 l0 x4_1).take 4).length = 4 from (by rw [List.length_take]; have h_ : (4 : Int) ≤ ((rd_L1 l0 x4_1).length : Int) := of_decide_eq_true (by first | (with_reducible assumption) | assumption); omega)] <;> rfl) | rfl | (simp only [List.length_drop, List.length_take]; rfl)) ?_; (with_reducible refine (fastiref05_number.calls k1 _ _ ((rd_L1 l0 x4_1).take 4) t333 _ ?side1 ?side2 A10.out).mono ?_); (case side1 => exact cB HR332 HB); (case side2 => exact HC332.out); rintro e w' ⟨rfl, ⟨nd, rfl⟩⟩; refine ⟨_, rfl, ?_⟩; have p334 : 0 ≤ (x4_1 : Int) := of_decide_eq_true (by first | (with_reducible assumption) | assumption); have q334 : x4_1 < (l0.length : Int) := of_decide_eq_true (by first | (with_reducible assumption) | assumption); obtain ⟨ad334, A334_0, c334_0, e334, hx334_0, hl334_0, hi334_0⟩ := at_L1 HR0.out x4_1 p334 q334; obtain rfl : ad331 = ad334 := (by injection e334); replace hx334_0 := (HB.out.cell (World.block_lt_of_cell? w _ hx334_0)).trans hx334_0; have HR334_0 := Aside0.mk hi334_0; have HC334_0 := Aside0.mk hl334_0; clear hi334_0 hl334_0; replace p334 := eq_true p334; replace q334 := eq_true q334; have ea_ := Option.some.inj (hx331_0.symm.trans hx334_0); injection ea_ with ea_ en_ ec_; subst ea_; subst ec_; clear en_; obtain ⟨i019, hi019, _, hsz19, _⟩ := info_parts info5; obtain ⟨hcut19, hA19, hC19⟩ := print_take_of (P := Try.prog) (Value.int .u8) 0 35 5 .i64 Try.underlying35 hi019 hsz19 A331_0 c331_0 (rd_L1 l0 x4_1) 4 (by omega) (of_decide_eq_true (by first | (with_reducible assumption) | assumption)) HC334_0.out; have HR335 := Aside0.mk (Kd.C_of_reads (h1 := fun _ => rfl) (hA19 _ (Kd.reads_of_C HR334_0.out))); have HC335 := Aside0.mk hC19; clear hA19 hC19 hi019 hsz19) | ((with_reducible refine gate_callee (f := 63) rfl ?_); refine goesL_ (some 33) rfl rfl Try.func63 (by kernel_rfl) rfl #[.slice A331_0 ((rd_L1 l0 x4_1).take 4).length c331_0] rfl (by (try simp only [List.map_toArray, List.map_cons, List.map_nil]); first | done | (rw [show ((rd_L1 l0 x4_1).take 4).length = 4 from (by rw [List.length_take]; have h_ : (4 : Int) ≤ ((rd_L1 l0 x4_1).length : Int) := of_decide_eq_true (by first | (with_reducible assumption) | assumption); omega)] <;> rfl) | rfl | (simp only [List.length_drop, List.length_take]; rfl)) ?_; (with_reducible refine (fastiref05_number.calls k1 _ _ ((rd_L1 l0 x4_1).take 4) t336 _ ?side1 ?side2 A15.out).mono ?_); (case side1 => exact cB HR335 HB); (case side2 => exact HC335.out); rintro e w' ⟨rfl, ⟨nd, rfl⟩⟩; refine ⟨_, rfl, ?_⟩; obtain ⟨Ao21, co21, eo21⟩ := Kd.R_slice HO330.out; subst eo21) | ((with_reducible refine gate_builtin (b := .append) (xs := #[.tmp 34, .tmp 36]) rfl ?_); at_builtin; refine Kd.S_append (Kd.slice 5 (Kd.int .u8)) (w0 := w) w.heap.size rfl (.tmp 34) (.tmp 36) 22 35 (.slice none 0 0) 24 rfl Try.underlying22 info35 rfl (by decide) (by omega) u3 x3_1 t327 [.slice Ao21 t327.length co21] (fun _ => True) (fun k_ => some k_ = (.slice Ao21 t327.length co21 : Value).ownBlock) rfl rfl ?aP (fun k_ hk_ => ((Kd.R_mono (ok' := fun k_ => ((fun _ => True)) k_ ∧ some k_ ≠ (u3 : Value).ownBlock) (Kd.R_apart' (HO330.out) (Kd.S_typed HO_3.out) (by decide)) (fun k_ hk => ⟨trivial, hk.2⟩))).1 k_ hk_.symm) ?aF ?aO ?aB ?aS ?aL ?_; (case aP => exact Kd.M_row (Kd.R_mono (Kd.R_tight rfl (Kd.R_mono (ok' := fun k_ => ((fun _ => True)) k_ ∧ some k_ ≠ (u3 : Value).ownBlock) (Kd.R_apart' (HO330.out) (Kd.S_typed HO_3.out) (by decide)) (fun k_ hk => ⟨trivial, hk.2⟩))) (fun _ h_ => h_))); (case aB => exact (blw HB.out)); (case aF => exact (fun _ _ => trivial)); (case aO => exact (by (with_reducible repeat (first | apply Kd.S_alloc | apply Kd.S_drewN | apply Kd.S_drew)); exact Kd.S_mono HO_3.out (fun k_ hk => ⟨trivial, fun e_ => hk.2 e_⟩))); (case aS => exact (below_size (blw HB.out))); (case aL => have := LMc16.out; omega); intro v338 w20 ho hb hg hat; rw [← Ny337.out] at ho; replace HB := Aside0.mk (hb); have HO339 := Aside0.mk (ho); clear HO_3; clear HO330; clear ho hb hg hat))
               go_roundg k1
               case measure => have := HK1.out; omega
               case rel => exact ⟨(y337), (wrap64 (x4_1 + t328)), (t336), (by first | rfl | (simp; done) | (simp [*]; done)), (by first | rfl | (simp; done) | (simp [*]; done)), H', ⟨by have := HK1.out; omega⟩, ⟨by (with_reducible repeat (first | apply Kd.S_alloc | apply Kd.S_drewN | apply Kd.S_drew)); exact HO339.out⟩, ⟨blw HB.out⟩⟩
             · rw [if_neg c16] at H
               exact absurd H (by simp)
         · rw [if_neg c9] at H
           exact absurd H (by simp)
       · rw [if_neg c8] at H
         exact absurd H (by simp)
     · rw [if_neg c7] at H
       exact absurd H (by simp)

/-! ### fastiref05_Open: function 13 -/
def fastiref05_Open.f (k : Nat) (l0_0 : List (List Int)) (l0_1 : List (S76)) (a0_2 : Int) (a0_3 : Bool) : Option ((List (List Int)) × Int × Int × Int) := (fastiref04_Check.f k l0_0 l0_1 a0_2 a0_3).bind fun t342 => (if t342 = 0 then (if a0_3 = true then (some (([] : List (List Int)), 0, 0, 40)) else (if (l0_1.length : Int) > 0 then (some (([] : List (List Int)), 0, 0, 1)) else ((fastiref05_Records.f k l0_0).bind fun t343 => (some (t343, (l0_0.length : Int), (t343.length : Int), 0))))) else (some (([] : List (List Int)), 0, 0, t342)))
theorem fastiref05_Open.mono : ∀ a0 a1 a2 a3 k, LeO (fastiref05_Open.f k a0 a1 a2 a3) (fastiref05_Open.f (k + 1) a0 a1 a2 a3) := by
  intro a0 a1 a2 a3 k
  unfold fastiref05_Open.f
  repeat' first
      | (with_reducible exact fastiref04_Check.mono _ _ _ _ _)
      | (with_reducible exact fastiref05_Records.mono _ _)
      | (with_reducible exact LeO.refl _)
      | (with_reducible exact LeO.none _)
      | (with_reducible refine LeO.ite ?_ ?_)
      | (with_reducible refine LeO.bind ?_ (fun _ => ?_))
      | exact fastiref04_Check.mono _ _ _ _ _
      | exact fastiref05_Records.mono _ _
      | exact LeO.none _
      | refine LeO.ite ?_ ?_
      | refine LeO.bind ?_ (fun _ => ?_)
set_option maxHeartbeats 8000000 in
set_option maxRecDepth 100000 in
theorem fastiref05_Open.calls (k : Nat) (A0_0 : Option Addr) (c0_0 : Nat) (l0_0 : List (List Int)) (A0_1 : Option Addr) (c0_1 : Nat) (l0_1 : List (S76)) (a0_2 : Int) (a0_3 : Bool) (r1 : List (List Int)) (r2 : Int) (r3 : Int) (r4 : Int) (w : World) (hr0_0 : Kd.C (Kd.slice 5 (Kd.int .u8)) w A0_0 l0_0.length l0_0) (hc0_0 : l0_0.length ≤ c0_0) (hr0_1 : Kd.C k76 w A0_1 l0_1.length l0_1) (hc0_1 : l0_1.length ≤ c0_1) (h : fastiref05_Open.f k l0_0 l0_1 a0_2 a0_3 = some (r1, r2, r3, r4)) :
    Calls Try.prog 13 #[.agg #[.slice A0_0 l0_0.length c0_0, .slice A0_1 l0_1.length c0_1, .int .i64 a0_2, .bool a0_3]] w fun e w' => ∃ v0_ : Value, e = .returned (.tuple #[.agg #[v0_, .int .i64 r2, .int .i64 r3], .int .i64 r4]) ∧ Kd.S (Kd.slice 5 (Kd.int .u8)) 35 w' w.heap.size (fun _ => True) v0_ r1 ∧ Below w.heap.size w w' := by
 have hu25 := Try.underlying25; have hu29 := Try.underlying29; have HR0_0 := Aside0.mk hr0_0; have HC0_0 := Aside0.mk hc0_0; clear hr0_0 hc0_0; have HR0_1 := Aside0.mk hr0_1; have HC0_1 := Aside0.mk hc0_1; clear hr0_1 hc0_1; have HB := Aside0.mk (Below.refl w.heap.size w); have H : ((fastiref04_Check.f k l0_0 l0_1 a0_2 a0_3).bind fun t342 => (if t342 = 0 then (if a0_3 = true then (some (([] : List (List Int)), 0, 0, 40)) else (if (l0_1.length : Int) > 0 then (some (([] : List (List Int)), 0, 0, 1)) else ((fastiref05_Records.f k l0_0).bind fun t343 => (some (t343, (l0_0.length : Int), (t343.length : Int), 0))))) else (some (([] : List (List Int)), 0, 0, t342)))) = some (r1, r2, r3, r4) := h; clear h; replace H := Option.bind_eq_some_iff.mp H; obtain ⟨t342, A20, H⟩ := H; replace H : (if t342 = 0 then (if a0_3 = true then (some (([] : List (List Int)), 0, 0, 40)) else (if (l0_1.length : Int) > 0 then (some (([] : List (List Int)), 0, 0, 1)) else ((fastiref05_Records.f k l0_0).bind fun t343 => (some (t343, (l0_0.length : Int), (t343.length : Int), 0))))) else (some (([] : List (List Int)), 0, 0, t342))) = some (r1, r2, r3, r4) := H; have A2 := Aside0.mk A20; clear A20
 by_cases c3 : t342 = 0
 rotate_left
 ·rw [if_neg c3] at H
  have c3b0 : (t342 == 0) = false := beq_eq_false_iff_ne.mpr c3; have c3b1 : (t342 != 0) = true := bne_iff_ne.mpr c3
  simp only [Option.some.injEq, Prod.mk.injEq] at H
  obtain ⟨rfl, rfl, rfl, rfl⟩ := H
  go_enter Try.func13, Try.ntmps13
  go_wp2_with (first | ((with_reducible refine gate_dst (N := 1) rfl ?_); refine boxA (N := 1) #[.slice A0_0 l0_0.length c0_0, .slice A0_1 l0_1.length c0_1, .int .i64 a0_2, .bool a0_3] 25 ?_; intro gb340 hg w31 hbox hb; have BK340 := Aside0.mk (hbox); have GW340 := gW HB hg; have GE340 := gW HB hg; replace HB := sB HB hb; clear hb hbox hg) | ((with_reducible refine gate_dst (N := 2) rfl ?_); refine boxA (N := 2) #[.slice none 0 0, .int .i64 0, .int .i64 0] 29 ?_; intro gb341 hg w32 hbox hb; have BK341 := Aside0.mk (hbox); have GW341 := gW HB hg; have GE341 := gW HB hg; replace HB := sB HB hb; have NB340_341 := nL BK340 hg; have NB341_340 := nG NB340_341; replace BK340 := bB BK340 hb; clear hb hbox hg; have hnb33 := NB340_341.out; have hnc33 := NB341_340.out; have hcz34_0 := bc0 BK340; have hcz34_1 := bc1 BK340; have hcz34_2 := bc2 BK340; have hcz34_3 := bc3 BK340; have hfz34_0 := fz BK340 0; have hfz34_1 := fz BK340 1; have hfz34_2 := fz BK340 2; have hfz34_3 := fz BK340 3) | (refine goesC 7 Try.func33 #[.agg #[.slice A0_0 l0_0.length c0_0, .slice A0_1 l0_1.length c0_1, .int .i64 a0_2, .bool a0_3]] ?_; (with_reducible refine (fastiref04_Check.calls k _ _ l0_0 _ _ l0_1 a0_2 a0_3 t342 _ ?side1 ?side2 ?side3 ?side4 A2.out).mono ?_); (case side1 => exact cB HR0_0 HB); (case side2 => exact HC0_0.out); (case side3 => exact cB HR0_1 HB); (case side4 => exact HC0_1.out); rintro e w35 ⟨rfl, hb⟩; refine ⟨_, rfl, ?_⟩; replace BK340 := bB BK340 hb; replace BK341 := bB BK341 hb; replace HB := sB HB hb; (try clear hb); (try clear hb2); (try clear hk); (try clear hi); have hcz36_0 := bc0 BK341; have hcz36_1 := bc1 BK341; have hcz36_2 := bc2 BK341; have hfz36_0 := fz BK341 0; have hfz36_1 := fz BK341 1; have hfz36_2 := fz BK341 2))
  refine bodyPost_ret (results_ct rfl _ _ gb341 29 #[.slice none 0 0, .int .i64 0, .int .i64 0] (0, 0) _ rfl (bp3 (zk BK341.out)) Try.underlying29 rfl (by kernel_rfl)) rfl ?_
  exact ⟨_, by first | rfl | (simp [errW_none, errW_some] <;> rfl) | (simp [*, errW_none, errW_some] <;> rfl), by first | exact Kd.S_nil _ _ _ _ _ | exact Kd.N_nil _ _ _ _ _ | exact Kd.V_nil _ _ _ _ _ | exact Kd.Q_nil _ _ _ _ _ | exact Kd.R_nil _ _ _ _ _, blw HB.out⟩
 rw [if_pos c3] at H; have c3b0 : (t342 == 0) = true := beq_iff_eq.mpr c3; have c3b1 : (t342 != 0) = false := bne_eq_false_iff_eq.mpr c3; clear c3
 by_cases c4 : a0_3 = true
 ·subst c4
  have H1 : (some (([] : List (List Int)), 0, 0, 40)) = some (r1, r2, r3, r4) := by rw [if_pos rfl] at H; exact H
  clear H; have H := H1; clear H1
  simp only [Option.some.injEq, Prod.mk.injEq] at H
  obtain ⟨rfl, rfl, rfl, rfl⟩ := H
  go_enter Try.func13, Try.ntmps13
  go_wp2_with (first | ((with_reducible refine gate_dst (N := 1) rfl ?_); refine boxA (N := 1) #[.slice A0_0 l0_0.length c0_0, .slice A0_1 l0_1.length c0_1, .int .i64 a0_2, .bool true] 25 ?_; intro gb340 hg w5 hbox hb; have BK340 := Aside0.mk (hbox); have GW340 := gW HB hg; have GE340 := gW HB hg; replace HB := sB HB hb; clear hb hbox hg) | ((with_reducible refine gate_dst (N := 2) rfl ?_); refine boxA (N := 2) #[.slice none 0 0, .int .i64 0, .int .i64 0] 29 ?_; intro gb341 hg w6 hbox hb; have BK341 := Aside0.mk (hbox); have GW341 := gW HB hg; have GE341 := gW HB hg; replace HB := sB HB hb; have NB340_341 := nL BK340 hg; have NB341_340 := nG NB340_341; replace BK340 := bB BK340 hb; clear hb hbox hg; have hnb7 := NB340_341.out; have hnc7 := NB341_340.out; have hcz8_0 := bc0 BK340; have hcz8_1 := bc1 BK340; have hcz8_2 := bc2 BK340; have hcz8_3 := bc3 BK340; have hfz8_0 := fz BK340 0; have hfz8_1 := fz BK340 1; have hfz8_2 := fz BK340 2; have hfz8_3 := fz BK340 3) | (refine goesC 7 Try.func33 #[.agg #[.slice A0_0 l0_0.length c0_0, .slice A0_1 l0_1.length c0_1, .int .i64 a0_2, .bool true]] ?_; (with_reducible refine (fastiref04_Check.calls k _ _ l0_0 _ _ l0_1 a0_2 true t342 _ ?side1 ?side2 ?side3 ?side4 A2.out).mono ?_); (case side1 => exact cB HR0_0 HB); (case side2 => exact HC0_0.out); (case side3 => exact cB HR0_1 HB); (case side4 => exact HC0_1.out); rintro e w9 ⟨rfl, hb⟩; refine ⟨_, rfl, ?_⟩; replace BK340 := bB BK340 hb; replace BK341 := bB BK341 hb; replace HB := sB HB hb; (try clear hb); (try clear hb2); (try clear hk); (try clear hi); have hcz10_0 := bc0 BK340; have hcz10_1 := bc1 BK340; have hcz10_2 := bc2 BK340; have hcz10_3 := bc3 BK340; have hfz10_0 := fz BK340 0; have hfz10_1 := fz BK340 1; have hfz10_2 := fz BK340 2; have hfz10_3 := fz BK340 3; have hcz11_0 := bc0 BK341; have hcz11_1 := bc1 BK341; have hcz11_2 := bc2 BK341; have hfz11_0 := fz BK341 0; have hfz11_1 := fz BK341 1; have hfz11_2 := fz BK341 2))
  refine bodyPost_ret (results_ct rfl _ _ gb341 29 #[.slice none 0 0, .int .i64 0, .int .i64 0] (0, 0) _ rfl (bp3 (zk BK341.out)) Try.underlying29 rfl (by kernel_rfl)) rfl ?_
  exact ⟨_, by first | rfl | (simp [errW_none, errW_some] <;> rfl) | (simp [*, errW_none, errW_some] <;> rfl), by first | exact Kd.S_nil _ _ _ _ _ | exact Kd.N_nil _ _ _ _ _ | exact Kd.V_nil _ _ _ _ _ | exact Kd.Q_nil _ _ _ _ _ | exact Kd.R_nil _ _ _ _ _, blw HB.out⟩
 replace c4 := Bool.eq_false_iff.mpr c4; subst c4
 have H1 : (if (l0_1.length : Int) > 0 then (some (([] : List (List Int)), 0, 0, 1)) else ((fastiref05_Records.f k l0_0).bind fun t343 => (some (t343, (l0_0.length : Int), (t343.length : Int), 0)))) = some (r1, r2, r3, r4) := by rw [if_neg (show ¬ (false = true) by decide)] at H; exact H
 clear H; have H := H1; clear H1
 by_cases c12 : (l0_1.length : Int) > 0
 ·rw [if_pos c12] at H
  have c12b0 : decide (0 < (l0_1.length : Int)) = true := decide_eq_true c12; have c12b1 : decide (0 < l0_1.length) = true := decide_eq_true (by omega); clear c12
  simp only [Option.some.injEq, Prod.mk.injEq] at H
  obtain ⟨rfl, rfl, rfl, rfl⟩ := H
  go_enter Try.func13, Try.ntmps13
  go_wp2_with (first | ((with_reducible refine gate_dst (N := 1) rfl ?_); refine boxA (N := 1) #[.slice A0_0 l0_0.length c0_0, .slice A0_1 l0_1.length c0_1, .int .i64 a0_2, .bool false] 25 ?_; intro gb340 hg w13 hbox hb; have BK340 := Aside0.mk (hbox); have GW340 := gW HB hg; have GE340 := gW HB hg; replace HB := sB HB hb; clear hb hbox hg) | ((with_reducible refine gate_dst (N := 2) rfl ?_); refine boxA (N := 2) #[.slice none 0 0, .int .i64 0, .int .i64 0] 29 ?_; intro gb341 hg w14 hbox hb; have BK341 := Aside0.mk (hbox); have GW341 := gW HB hg; have GE341 := gW HB hg; replace HB := sB HB hb; have NB340_341 := nL BK340 hg; have NB341_340 := nG NB340_341; replace BK340 := bB BK340 hb; clear hb hbox hg; have hnb15 := NB340_341.out; have hnc15 := NB341_340.out; have hcz16_0 := bc0 BK340; have hcz16_1 := bc1 BK340; have hcz16_2 := bc2 BK340; have hcz16_3 := bc3 BK340; have hfz16_0 := fz BK340 0; have hfz16_1 := fz BK340 1; have hfz16_2 := fz BK340 2; have hfz16_3 := fz BK340 3) | (refine goesC 7 Try.func33 #[.agg #[.slice A0_0 l0_0.length c0_0, .slice A0_1 l0_1.length c0_1, .int .i64 a0_2, .bool false]] ?_; (with_reducible refine (fastiref04_Check.calls k _ _ l0_0 _ _ l0_1 a0_2 false t342 _ ?side1 ?side2 ?side3 ?side4 A2.out).mono ?_); (case side1 => exact cB HR0_0 HB); (case side2 => exact HC0_0.out); (case side3 => exact cB HR0_1 HB); (case side4 => exact HC0_1.out); rintro e w17 ⟨rfl, hb⟩; refine ⟨_, rfl, ?_⟩; replace BK340 := bB BK340 hb; replace BK341 := bB BK341 hb; replace HB := sB HB hb; (try clear hb); (try clear hb2); (try clear hk); (try clear hi); have hcz18_0 := bc0 BK340; have hcz18_1 := bc1 BK340; have hcz18_2 := bc2 BK340; have hcz18_3 := bc3 BK340; have hfz18_0 := fz BK340 0; have hfz18_1 := fz BK340 1; have hfz18_2 := fz BK340 2; have hfz18_3 := fz BK340 3; have hcz19_0 := bc0 BK341; have hcz19_1 := bc1 BK341; have hcz19_2 := bc2 BK341; have hfz19_0 := fz BK341 0; have hfz19_1 := fz BK341 1; have hfz19_2 := fz BK341 2))
  refine bodyPost_ret (results_ct rfl _ _ gb341 29 #[.slice none 0 0, .int .i64 0, .int .i64 0] (0, 0) _ rfl (bp3 (zk BK341.out)) Try.underlying29 rfl (by kernel_rfl)) rfl ?_
  exact ⟨_, by first | rfl | (simp [errW_none, errW_some] <;> rfl) | (simp [*, errW_none, errW_some] <;> rfl), by first | exact Kd.S_nil _ _ _ _ _ | exact Kd.N_nil _ _ _ _ _ | exact Kd.V_nil _ _ _ _ _ | exact Kd.Q_nil _ _ _ _ _ | exact Kd.R_nil _ _ _ _ _, blw HB.out⟩
 rw [if_neg c12] at H; have c12b0 : decide (0 < (l0_1.length : Int)) = false := decide_eq_false c12; have c12b1 : decide (0 < l0_1.length) = false := decide_eq_false (by omega)
 have c12n : ¬ 0 < l0_1.length := by omega
 clear c12; replace H := Option.bind_eq_some_iff.mp H; obtain ⟨t343, A200, H⟩ := H; replace H : (some (t343, (l0_0.length : Int), (t343.length : Int), 0)) = some (r1, r2, r3, r4) := H; have A20 := Aside0.mk A200; clear A200
 simp only [Option.some.injEq, Prod.mk.injEq] at H
 obtain ⟨rfl, rfl, rfl, rfl⟩ := H
 go_enter Try.func13, Try.ntmps13
 go_wp2_with (first | ((with_reducible refine gate_dst (N := 1) rfl ?_); refine boxA (N := 1) #[.slice A0_0 l0_0.length c0_0, .slice A0_1 l0_1.length c0_1, .int .i64 a0_2, .bool false] 25 ?_; intro gb340 hg w21 hbox hb; have BK340 := Aside0.mk (hbox); have GW340 := gW HB hg; have GE340 := gW HB hg; replace HB := sB HB hb; clear hb hbox hg) | ((with_reducible refine gate_dst (N := 2) rfl ?_); refine boxA (N := 2) #[.slice none 0 0, .int .i64 0, .int .i64 0] 29 ?_; intro gb341 hg w22 hbox hb; have BK341 := Aside0.mk (hbox); have GW341 := gW HB hg; have GE341 := gW HB hg; replace HB := sB HB hb; have NB340_341 := nL BK340 hg; have NB341_340 := nG NB340_341; replace BK340 := bB BK340 hb; clear hb hbox hg; have hnb23 := NB340_341.out; have hnc23 := NB341_340.out; have hcz24_0 := bc0 BK340; have hcz24_1 := bc1 BK340; have hcz24_2 := bc2 BK340; have hcz24_3 := bc3 BK340; have hfz24_0 := fz BK340 0; have hfz24_1 := fz BK340 1; have hfz24_2 := fz BK340 2; have hfz24_3 := fz BK340 3) | (refine goesC 7 Try.func33 #[.agg #[.slice A0_0 l0_0.length c0_0, .slice A0_1 l0_1.length c0_1, .int .i64 a0_2, .bool false]] ?_; (with_reducible refine (fastiref04_Check.calls k _ _ l0_0 _ _ l0_1 a0_2 false t342 _ ?side1 ?side2 ?side3 ?side4 A2.out).mono ?_); (case side1 => exact cB HR0_0 HB); (case side2 => exact HC0_0.out); (case side3 => exact cB HR0_1 HB); (case side4 => exact HC0_1.out); rintro e w25 ⟨rfl, hb⟩; refine ⟨_, rfl, ?_⟩; replace BK340 := bB BK340 hb; replace BK341 := bB BK341 hb; replace HB := sB HB hb; (try clear hb); (try clear hb2); (try clear hk); (try clear hi); have hcz26_0 := bc0 BK340; have hcz26_1 := bc1 BK340; have hcz26_2 := bc2 BK340; have hcz26_3 := bc3 BK340; have hfz26_0 := fz BK340 0; have hfz26_1 := fz BK340 1; have hfz26_2 := fz BK340 2; have hfz26_3 := fz BK340 3) | (refine goesC 22 Try.func34 #[.slice A0_0 l0_0.length c0_0] ?_; (with_reducible refine (fastiref05_Records.calls k _ _ l0_0 t343 _ ?side1 ?side2 A20.out).mono ?_); (case side1 => exact cB HR0_0 HB); (case side2 => exact HC0_0.out); rintro e w27 ⟨v344, rfl, ho0, hb⟩; refine ⟨_, rfl, ?_⟩; have HO345 := Aside0.mk (Kd.S_lower ho0 (below_size (blw HB.out))); replace BK340 := bB BK340 hb; replace BK341 := bB BK341 hb; replace HB := sB HB hb; (try clear hb); (try clear hb2); (try clear hk); (try clear hi); (try clear ho0); have hcz28_0 := bc0 BK340; have hcz28_1 := bc1 BK340; have hcz28_2 := bc2 BK340; have hcz28_3 := bc3 BK340; have hfz28_0 := fz BK340 0; have hfz28_1 := fz BK340 1; have hfz28_2 := fz BK340 2; have hfz28_3 := fz BK340 3; obtain ⟨Ao29, co29, eo29⟩ := Kd.S_slice HO345.out; subst eo29; have hcz30_0 := bc0 BK341; have hcz30_1 := bc1 BK341; have hcz30_2 := bc2 BK341; have hfz30_0 := fz BK341 0; have hfz30_1 := fz BK341 1; have hfz30_2 := fz BK341 2))
 refine bodyPost_ret (results_ct rfl _ _ gb341 29 #[.slice Ao29 t343.length co29, .int .i64 (l0_0.length : Int), .int .i64 (t343.length : Int)] (0, 0) _ rfl (bp3 (zk BK341.out)) Try.underlying29 rfl (by kernel_rfl)) rfl ?_
 exact ⟨_, by first | rfl | (simp [errW_none, errW_some] <;> rfl) | (simp [*, errW_none, errW_some] <;> rfl), by (with_reducible repeat (first | apply Kd.S_alloc | apply Kd.S_drewN | apply Kd.S_drew)); exact Kd.S_mono (Kd.S_far (p := ⟨gb341, 2, none⟩) (Kd.S_far (p := ⟨gb341, 1, none⟩) (Kd.S_far (p := ⟨gb341, 0, none⟩) (Kd.S_types HO345.out BK341.out (by decide)) (fun _ hk => hk.2) (.slice Ao29 t343.length co29)) (fun _ hk => hk.2) (.int .i64 (l0_0.length : Int))) (fun _ hk => hk.2) (.int .i64 (t343.length : Int))) (fun _ hk => trivial), blw HB.out⟩

/-! ### fastiref05_SameRecords: function 24 -/
def fastiref05_SameRecords.l0 : Nat → List (List Int) → List (List Int) → Int → Option (Bool)
  | 0, _, _, _ => none
  | k + 1, x0, x1, x5 => if x5 < (x0.length : Int) then (if 0 ≤ x5 then (if x5 < (x1.length : Int) then (if (strOfNums (rd_L1 x0 x5)).toList = (strOfNums (rd_L1 x1 x5)).toList then (fastiref05_SameRecords.l0 k x0 x1 (wrap64 (x5 + 1))) else (some false)) else (none)) else (none)) else (some true)
def fastiref05_SameRecords.f (k : Nat) (l0 : List (List Int)) (l1 : List (List Int)) : Option (Bool) := if (l0.length : Int) = (l1.length : Int) then (fastiref05_SameRecords.l0 k l0 l1 0) else (some false)
set_option maxRecDepth 100000 in
theorem fastiref05_SameRecords.mono_l : ∀ k, (∀ y0 y1 y2, LeO (fastiref05_SameRecords.l0 k y0 y1 y2) (fastiref05_SameRecords.l0 (k + 1) y0 y1 y2))
  | 0 => fun _ _ _ r h => by simp [fastiref05_SameRecords.l0] at h
  | k + 1 => by
    have ih0 := fastiref05_SameRecords.mono_l k
    · intro y0 y1 y2
      unfold fastiref05_SameRecords.l0
      repeat' first
      | (with_reducible exact ih0 _ _ _)
      | (with_reducible exact LeO.refl _)
      | (with_reducible exact LeO.none _)
      | (with_reducible refine LeO.ite ?_ ?_)
      | (with_reducible refine LeO.bind ?_ (fun _ => ?_))
      | exact ih0 _ _ _
      | exact LeO.none _
      | refine LeO.ite ?_ ?_
      | refine LeO.bind ?_ (fun _ => ?_)
theorem fastiref05_SameRecords.mono : ∀ a0 a1 k, LeO (fastiref05_SameRecords.f k a0 a1) (fastiref05_SameRecords.f (k + 1) a0 a1) := by
  intro a0 a1 k
  have ih0 := fastiref05_SameRecords.mono_l k
  unfold fastiref05_SameRecords.f
  repeat' first
      | (with_reducible exact ih0 _ _ _)
      | (with_reducible exact LeO.refl _)
      | (with_reducible exact LeO.none _)
      | (with_reducible refine LeO.ite ?_ ?_)
      | (with_reducible refine LeO.bind ?_ (fun _ => ?_))
      | exact ih0 _ _ _
      | exact LeO.none _
      | refine LeO.ite ?_ ?_
      | refine LeO.bind ?_ (fun _ => ?_)
set_option maxHeartbeats 8000000 in
set_option maxRecDepth 100000 in
theorem fastiref05_SameRecords.calls (k : Nat) (A0 : Option Addr) (c0 : Nat) (l0 : List (List Int)) (A1 : Option Addr) (c1 : Nat) (l1 : List (List Int)) (r : Bool) (w : World) (hr0 : Kd.C (Kd.slice 5 (Kd.int .u8)) w A0 l0.length l0) (hc0 : l0.length ≤ c0) (hr1 : Kd.C (Kd.slice 5 (Kd.int .u8)) w A1 l1.length l1) (hc1 : l1.length ≤ c1) (h : fastiref05_SameRecords.f k l0 l1 = some r) :
    Calls Try.prog 24 #[.slice A0 l0.length c0, .slice A1 l1.length c1] w fun e w' => e = .returned (.bool r) ∧ Drawn0 w w' := by
 have HR0 := Aside0.mk hr0; have HC0 := Aside0.mk hc0; clear hr0 hc0; have HR1 := Aside0.mk hr1; have HC1 := Aside0.mk hc1; clear hr1 hc1; have H : (if (l0.length : Int) = (l1.length : Int) then (fastiref05_SameRecords.l0 k l0 l1 0) else (some false)) = some r := h; clear h
 by_cases c3 : (l0.length : Int) = (l1.length : Int)
 rotate_left
 ·rw [if_neg c3] at H
  have c3b0 : ((l0.length : Int) == (l1.length : Int)) = false := beq_eq_false_iff_ne.mpr c3; have c3b1 : ((l0.length : Int) != (l1.length : Int)) = true := bne_iff_ne.mpr c3
  have c3b2 : (l0.length == l1.length) = false := by first | simpa using c3 | (simp at c3 ⊢; omega)
  obtain rfl := Option.some.inj H
  go_enter Try.func24, Try.ntmps24
  go_wp2
  repeat (go_quiet (fail); try go_wp2)
  go_ret
  exact ⟨by first | rfl | (simp; done) | (simp [*]; done), by repeat (first | exact Drawn0.refl _ | apply Drawn0.step)⟩
 rw [if_pos c3] at H; have c3b0 : ((l0.length : Int) == (l1.length : Int)) = true := beq_iff_eq.mpr c3; have c3b1 : ((l0.length : Int) != (l1.length : Int)) = false := bne_eq_false_iff_eq.mpr c3
 have c3b2 : (l0.length == l1.length) = true := by first | simpa using c3 | (simp at c3 ⊢; omega)
 clear c3; have H' := Aside0.mk H; clear H
 go_enter Try.func24, Try.ntmps24
 go_wp2
 repeat (go_quiet (fail); try go_wp2)
 go_loopg [5] k (fun kq v5 w' => ∃ (x5_1 : Int), v5 = .int .i64 x5_1 ∧ Aside0 (fastiref05_SameRecords.l0 kq l0 l1 x5_1 = some r) ∧ Aside0 (kq ≤ k) ∧ Drawn0 w w')
 case atStart => exact ⟨(0), (by first | rfl | (simp; done) | (simp [*]; done)), H', ⟨Nat.le_refl _⟩, by repeat (first | exact Drawn0.refl _ | apply Drawn0.step)⟩
 clear H'; (try clear c1); (try clear c2); (try clear p2); (try clear c3); (try clear c3b0); (try clear c3b1); (try clear c3b2); obtain ⟨x5_1, rfl, HA, HK1, ⟨m1, rfl⟩⟩ := hrel
 cases gk with
 | zero => exact absurd HA.out (by simp [fastiref05_SameRecords.l0])
 | succ k1 =>
   have H := HA.out; clear HA
   simp only [fastiref05_SameRecords.l0] at H
   by_cases c4 : x5_1 < (l0.length : Int)
   · rw [if_pos c4] at H
     have c4b0 : decide (x5_1 < (l0.length : Int)) = true := decide_eq_true c4; clear c4
     by_cases c5 : 0 ≤ x5_1
     · rw [if_pos c5] at H
       have c5b0 : decide (0 ≤ x5_1) = true := decide_eq_true c5; clear c5
       by_cases c6 : x5_1 < (l1.length : Int)
       · rw [if_pos c6] at H
         have c6b0 : decide (x5_1 < (l1.length : Int)) = true := decide_eq_true c6; clear c6
         by_cases c7 : (strOfNums (rd_L1 l0 x5_1)).toList = (strOfNums (rd_L1 l1 x5_1)).toList
         · rw [if_pos c7] at H
           have c7b0 : ((strOfNums (rd_L1 l0 x5_1)).toList == (strOfNums (rd_L1 l1 x5_1)).toList) = true := beq_iff_eq.mpr c7; have c7b1 : ((strOfNums (rd_L1 l0 x5_1)).toList != (strOfNums (rd_L1 l1 x5_1)).toList) = false := bne_eq_false_iff_eq.mpr c7; clear c7; have H' := Aside0.mk H; clear H; have p346 : 0 ≤ (x5_1 : Int) := of_decide_eq_true (by first | (with_reducible assumption) | assumption); have q346 : x5_1 < (l0.length : Int) := of_decide_eq_true (by first | (with_reducible assumption) | assumption); obtain ⟨ad346, A346_0, c346_0, e346, hx346_0, hl346_0, hi346_0⟩ := at_L1 HR0.out x5_1 p346 q346; cases e346; have HR346_0 := Aside0.mk hi346_0; have HC346_0 := Aside0.mk hl346_0; clear hi346_0 hl346_0; replace p346 := eq_true p346; replace q346 := eq_true q346; have hcv8 := Kd.C_string (P := Try.prog) (A := A346_0) (c := c346_0) Try.underlying35 Try.underlying5 Try.underlying9 HR346_0.out; have hcq8 := fun n_ : Nat => Kd.C_string (P := Try.prog) (A := A346_0) (c := c346_0) Try.underlying35 Try.underlying5 Try.underlying9 (Kd.C_drewN HR346_0.out n_); have p347 : 0 ≤ (x5_1 : Int) := of_decide_eq_true (by first | (with_reducible assumption) | assumption); have q347 : x5_1 < (l1.length : Int) := of_decide_eq_true (by first | (with_reducible assumption) | assumption); obtain ⟨ad347, A347_0, c347_0, e347, hx347_0, hl347_0, hi347_0⟩ := at_L1 HR1.out x5_1 p347 q347; cases e347; have HR347_0 := Aside0.mk hi347_0; have HC347_0 := Aside0.mk hl347_0; clear hi347_0 hl347_0
           replace p347 := eq_true p347; replace q347 := eq_true q347; have hcv9 := Kd.C_string (P := Try.prog) (A := A347_0) (c := c347_0) Try.underlying35 Try.underlying5 Try.underlying9 HR347_0.out; have hcq9 := fun n_ : Nat => Kd.C_string (P := Try.prog) (A := A347_0) (c := c347_0) Try.underlying35 Try.underlying5 Try.underlying9 (Kd.C_drewN HR347_0.out n_)
           go_wp2
           repeat (go_quiet (fail); try go_wp2)
           go_roundg k1
           case measure => have := HK1.out; omega
           case rel => exact ⟨(wrap64 (x5_1 + 1)), (by first | rfl | (simp; done) | (simp [*]; done)), H', ⟨by have := HK1.out; omega⟩, by repeat (first | exact Drawn0.refl _ | apply Drawn0.step)⟩
         · rw [if_neg c7] at H
           have c7b0 : ((strOfNums (rd_L1 l0 x5_1)).toList == (strOfNums (rd_L1 l1 x5_1)).toList) = false := beq_eq_false_iff_ne.mpr c7; have c7b1 : ((strOfNums (rd_L1 l0 x5_1)).toList != (strOfNums (rd_L1 l1 x5_1)).toList) = true := bne_iff_ne.mpr c7; obtain rfl := Option.some.inj H; have p346 : 0 ≤ (x5_1 : Int) := of_decide_eq_true (by first | (with_reducible assumption) | assumption); have q346 : x5_1 < (l0.length : Int) := of_decide_eq_true (by first | (with_reducible assumption) | assumption); obtain ⟨ad346, A346_0, c346_0, e346, hx346_0, hl346_0, hi346_0⟩ := at_L1 HR0.out x5_1 p346 q346; cases e346; have HR346_0 := Aside0.mk hi346_0; have HC346_0 := Aside0.mk hl346_0; clear hi346_0 hl346_0; replace p346 := eq_true p346; replace q346 := eq_true q346; have hcv10 := Kd.C_string (P := Try.prog) (A := A346_0) (c := c346_0) Try.underlying35 Try.underlying5 Try.underlying9 HR346_0.out; have hcq10 := fun n_ : Nat => Kd.C_string (P := Try.prog) (A := A346_0) (c := c346_0) Try.underlying35 Try.underlying5 Try.underlying9 (Kd.C_drewN HR346_0.out n_); have p347 : 0 ≤ (x5_1 : Int) := of_decide_eq_true (by first | (with_reducible assumption) | assumption); have q347 : x5_1 < (l1.length : Int) := of_decide_eq_true (by first | (with_reducible assumption) | assumption); obtain ⟨ad347, A347_0, c347_0, e347, hx347_0, hl347_0, hi347_0⟩ := at_L1 HR1.out x5_1 p347 q347; cases e347; have HR347_0 := Aside0.mk hi347_0; have HC347_0 := Aside0.mk hl347_0; clear hi347_0 hl347_0
           replace p347 := eq_true p347; replace q347 := eq_true q347; have hcv11 := Kd.C_string (P := Try.prog) (A := A347_0) (c := c347_0) Try.underlying35 Try.underlying5 Try.underlying9 HR347_0.out; have hcq11 := fun n_ : Nat => Kd.C_string (P := Try.prog) (A := A347_0) (c := c347_0) Try.underlying35 Try.underlying5 Try.underlying9 (Kd.C_drewN HR347_0.out n_)
           go_wp2
           repeat (go_quiet (fail); try go_wp2)
           go_ret
           exact ⟨by first | rfl | (simp; done) | (simp [*]; done), by repeat (first | exact Drawn0.refl _ | apply Drawn0.step)⟩
       · rw [if_neg c6] at H
         exact absurd H (by simp)
     · rw [if_neg c5] at H
       exact absurd H (by simp)
   · rw [if_neg c4] at H
     have c4b0 : decide (x5_1 < (l0.length : Int)) = false := decide_eq_false c4; clear c4; obtain rfl := Option.some.inj H
     go_wp2
     repeat (go_quiet (fail); try go_wp2)
     go_ret
     exact ⟨by first | rfl | (simp; done) | (simp [*]; done), by repeat (first | exact Drawn0.refl _ | apply Drawn0.step)⟩

/-! ### fastiref05_Same: function 14 -/
def fastiref05_Same.f (k : Nat) (l0_0 : List (List Int)) (a0_1 : Int) (a0_2 : Int) (l1_0 : List (List Int)) (a1_1 : Int) (a1_2 : Int) : Option (Bool) := if a0_1 = a1_1 then (if a0_2 = a1_2 then ((fastiref05_SameRecords.f k l0_0 l1_0).bind fun t350 => (some t350)) else (some false)) else (some false)
theorem fastiref05_Same.mono : ∀ a0 a1 a2 a3 a4 a5 k, LeO (fastiref05_Same.f k a0 a1 a2 a3 a4 a5) (fastiref05_Same.f (k + 1) a0 a1 a2 a3 a4 a5) := by
  intro a0 a1 a2 a3 a4 a5 k
  unfold fastiref05_Same.f
  repeat' first
      | (with_reducible exact fastiref05_SameRecords.mono _ _ _)
      | (with_reducible exact LeO.refl _)
      | (with_reducible exact LeO.none _)
      | (with_reducible refine LeO.ite ?_ ?_)
      | (with_reducible refine LeO.bind ?_ (fun _ => ?_))
      | exact fastiref05_SameRecords.mono _ _ _
      | exact LeO.none _
      | refine LeO.ite ?_ ?_
      | refine LeO.bind ?_ (fun _ => ?_)
set_option maxHeartbeats 8000000 in
set_option maxRecDepth 100000 in
theorem fastiref05_Same.calls (k : Nat) (A0_0 : Option Addr) (c0_0 : Nat) (l0_0 : List (List Int)) (a0_1 : Int) (a0_2 : Int) (A1_0 : Option Addr) (c1_0 : Nat) (l1_0 : List (List Int)) (a1_1 : Int) (a1_2 : Int) (r : Bool) (w : World) (hr0_0 : Kd.C (Kd.slice 5 (Kd.int .u8)) w A0_0 l0_0.length l0_0) (hc0_0 : l0_0.length ≤ c0_0) (hr1_0 : Kd.C (Kd.slice 5 (Kd.int .u8)) w A1_0 l1_0.length l1_0) (hc1_0 : l1_0.length ≤ c1_0) (h : fastiref05_Same.f k l0_0 a0_1 a0_2 l1_0 a1_1 a1_2 = some r) :
    Calls Try.prog 14 #[.agg #[.slice A0_0 l0_0.length c0_0, .int .i64 a0_1, .int .i64 a0_2], .agg #[.slice A1_0 l1_0.length c1_0, .int .i64 a1_1, .int .i64 a1_2]] w fun e w' => e = .returned (.bool r) ∧ Below w.heap.size w w' := by
 have hu29 := Try.underlying29; have HR0_0 := Aside0.mk hr0_0; have HC0_0 := Aside0.mk hc0_0; clear hr0_0 hc0_0; have HR1_0 := Aside0.mk hr1_0; have HC1_0 := Aside0.mk hc1_0; clear hr1_0 hc1_0; have HB := Aside0.mk (Below.refl w.heap.size w); have H : (if a0_1 = a1_1 then (if a0_2 = a1_2 then ((fastiref05_SameRecords.f k l0_0 l1_0).bind fun t350 => (some t350)) else (some false)) else (some false)) = some r := h; clear h
 by_cases c3 : a0_1 = a1_1
 rotate_left
 ·rw [if_neg c3] at H
  have c3b0 : (a0_1 == a1_1) = false := beq_eq_false_iff_ne.mpr c3; have c3b1 : (a0_1 != a1_1) = true := bne_iff_ne.mpr c3; obtain rfl := Option.some.inj H
  go_enter Try.func14, Try.ntmps14
  go_wp2_with (first | ((with_reducible refine gate_dst (N := 2) rfl ?_); refine boxA (N := 2) #[.slice A0_0 l0_0.length c0_0, .int .i64 a0_1, .int .i64 a0_2] 29 ?_; intro gb348 hg w16 hbox hb; have BK348 := Aside0.mk (hbox); have GW348 := gW HB hg; have GE348 := gW HB hg; replace HB := sB HB hb; clear hb hbox hg) | ((with_reducible refine gate_dst (N := 3) rfl ?_); refine boxA (N := 3) #[.slice A1_0 l1_0.length c1_0, .int .i64 a1_1, .int .i64 a1_2] 29 ?_; intro gb349 hg w17 hbox hb; have BK349 := Aside0.mk (hbox); have GW349 := gW HB hg; have GE349 := gW HB hg; replace HB := sB HB hb; have NB348_349 := nL BK348 hg; have NB349_348 := nG NB348_349; replace BK348 := bB BK348 hb; clear hb hbox hg; have hnb18 := NB348_349.out; have hnc18 := NB349_348.out; have hcz19_0 := bc0 BK348; have hcz19_1 := bc1 BK348; have hcz19_2 := bc2 BK348; have hfz19_0 := fz BK348 0; have hfz19_1 := fz BK348 1; have hfz19_2 := fz BK348 2; have hcz20_0 := bc0 BK349; have hcz20_1 := bc1 BK349; have hcz20_2 := bc2 BK349; have hfz20_0 := fz BK349 0; have hfz20_1 := fz BK349 1; have hfz20_2 := fz BK349 2))
  go_ret
  exact ⟨by first | rfl | (simp [errW_none, errW_some] <;> rfl) | (simp [*, errW_none, errW_some] <;> rfl), blw HB.out⟩
 rw [if_pos c3] at H; have c3b0 : (a0_1 == a1_1) = true := beq_iff_eq.mpr c3; have c3b1 : (a0_1 != a1_1) = false := bne_eq_false_iff_eq.mpr c3; clear c3
 by_cases c4 : a0_2 = a1_2
 rotate_left
 ·rw [if_neg c4] at H
  have c4b0 : (a0_2 == a1_2) = false := beq_eq_false_iff_ne.mpr c4; have c4b1 : (a0_2 != a1_2) = true := bne_iff_ne.mpr c4; obtain rfl := Option.some.inj H
  go_enter Try.func14, Try.ntmps14
  go_wp2_with (first | ((with_reducible refine gate_dst (N := 2) rfl ?_); refine boxA (N := 2) #[.slice A0_0 l0_0.length c0_0, .int .i64 a0_1, .int .i64 a0_2] 29 ?_; intro gb348 hg w11 hbox hb; have BK348 := Aside0.mk (hbox); have GW348 := gW HB hg; have GE348 := gW HB hg; replace HB := sB HB hb; clear hb hbox hg) | ((with_reducible refine gate_dst (N := 3) rfl ?_); refine boxA (N := 3) #[.slice A1_0 l1_0.length c1_0, .int .i64 a1_1, .int .i64 a1_2] 29 ?_; intro gb349 hg w12 hbox hb; have BK349 := Aside0.mk (hbox); have GW349 := gW HB hg; have GE349 := gW HB hg; replace HB := sB HB hb; have NB348_349 := nL BK348 hg; have NB349_348 := nG NB348_349; replace BK348 := bB BK348 hb; clear hb hbox hg; have hnb13 := NB348_349.out; have hnc13 := NB349_348.out; have hcz14_0 := bc0 BK348; have hcz14_1 := bc1 BK348; have hcz14_2 := bc2 BK348; have hfz14_0 := fz BK348 0; have hfz14_1 := fz BK348 1; have hfz14_2 := fz BK348 2; have hcz15_0 := bc0 BK349; have hcz15_1 := bc1 BK349; have hcz15_2 := bc2 BK349; have hfz15_0 := fz BK349 0; have hfz15_1 := fz BK349 1; have hfz15_2 := fz BK349 2))
  go_ret
  exact ⟨by first | rfl | (simp [errW_none, errW_some] <;> rfl) | (simp [*, errW_none, errW_some] <;> rfl), blw HB.out⟩
 rw [if_pos c4] at H; have c4b0 : (a0_2 == a1_2) = true := beq_iff_eq.mpr c4; have c4b1 : (a0_2 != a1_2) = false := bne_eq_false_iff_eq.mpr c4; clear c4; replace H := Option.bind_eq_some_iff.mp H; obtain ⟨t350, A50, H⟩ := H; replace H : (some t350) = some r := H; have A5 := Aside0.mk A50; clear A50; obtain rfl := Option.some.inj H
 go_enter Try.func14, Try.ntmps14
 go_wp2_with (first | ((with_reducible refine gate_dst (N := 2) rfl ?_); refine boxA (N := 2) #[.slice A0_0 l0_0.length c0_0, .int .i64 a0_1, .int .i64 a0_2] 29 ?_; intro gb348 hg w6 hbox hb; have BK348 := Aside0.mk (hbox); have GW348 := gW HB hg; have GE348 := gW HB hg; replace HB := sB HB hb; clear hb hbox hg) | ((with_reducible refine gate_dst (N := 3) rfl ?_); refine boxA (N := 3) #[.slice A1_0 l1_0.length c1_0, .int .i64 a1_1, .int .i64 a1_2] 29 ?_; intro gb349 hg w7 hbox hb; have BK349 := Aside0.mk (hbox); have GW349 := gW HB hg; have GE349 := gW HB hg; replace HB := sB HB hb; have NB348_349 := nL BK348 hg; have NB349_348 := nG NB348_349; replace BK348 := bB BK348 hb; clear hb hbox hg; have hnb8 := NB348_349.out; have hnc8 := NB349_348.out; have hcz9_0 := bc0 BK348; have hcz9_1 := bc1 BK348; have hcz9_2 := bc2 BK348; have hfz9_0 := fz BK348 0; have hfz9_1 := fz BK348 1; have hfz9_2 := fz BK348 2; have hcz10_0 := bc0 BK349; have hcz10_1 := bc1 BK349; have hcz10_2 := bc2 BK349; have hfz10_0 := fz BK349 0; have hfz10_1 := fz BK349 1; have hfz10_2 := fz BK349 2) | (go_at_call 24; (with_reducible refine (fastiref05_SameRecords.calls k _ _ l0_0 _ _ l1_0 t350 _ ?side1 ?side2 ?side3 ?side4 A5.out).mono ?_); (case side1 => exact cB HR0_0 HB); (case side2 => exact HC0_0.out); (case side3 => exact cB HR1_0 HB); (case side4 => exact HC1_0.out); rintro e w' ⟨rfl, ⟨nd, rfl⟩⟩))
 go_ret
 exact ⟨by first | rfl | (simp [errW_none, errW_some] <;> rfl) | (simp [*, errW_none, errW_some] <;> rfl), blw HB.out⟩

/-! ### fastilaw05_JournalOpenSpec: function 3 -/
def fastilaw05_JournalOpenSpec.f (k : Nat) (l0_0 : List (List Int)) (l0_1 : List (S76)) (a0_2 : Int) (a0_3 : Bool) : Option (Bool) := (fastilaw05_sane.f k).bind fun t352 => (if t352 = true then ((fastilaw05_few.f k l0_0 l0_1 a0_2 a0_3 ([] : List (List Int))).bind fun t353 => (if t353 = true then ((journal_Open.f l0_0 l0_1 a0_2 a0_3).bind fun bt354 => ((fastiref05_Open.f k l0_0 l0_1 a0_2 a0_3).bind fun bt361 => ((fastiref05_Same.f k bt354.1 bt354.2.1 bt354.2.2.1 bt361.1 bt361.2.1 bt361.2.2.1).bind fun t368 => (if t368 = true then (some (bt354.2.2.2 == bt361.2.2.2)) else (none))))) else (some true))) else (none))
theorem fastilaw05_JournalOpenSpec.mono : ∀ a0 a1 a2 a3 k, LeO (fastilaw05_JournalOpenSpec.f k a0 a1 a2 a3) (fastilaw05_JournalOpenSpec.f (k + 1) a0 a1 a2 a3) := by
  intro a0 a1 a2 a3 k
  unfold fastilaw05_JournalOpenSpec.f
  repeat' first
      | (with_reducible exact fastilaw05_few.mono _ _ _ _ _ _)
      | (with_reducible exact fastilaw05_sane.mono _)
      | (with_reducible exact fastiref05_Open.mono _ _ _ _ _)
      | (with_reducible exact fastiref05_Same.mono _ _ _ _ _ _ _)
      | (with_reducible exact LeO.refl _)
      | (with_reducible exact LeO.none _)
      | (with_reducible refine LeO.ite ?_ ?_)
      | (with_reducible refine LeO.bind ?_ (fun _ => ?_))
      | exact fastilaw05_few.mono _ _ _ _ _ _
      | exact fastilaw05_sane.mono _
      | exact fastiref05_Open.mono _ _ _ _ _
      | exact fastiref05_Same.mono _ _ _ _ _ _ _
      | exact LeO.none _
      | refine LeO.ite ?_ ?_
      | refine LeO.bind ?_ (fun _ => ?_)
set_option maxHeartbeats 8000000 in
set_option maxRecDepth 100000 in
theorem fastilaw05_JournalOpenSpec.calls (k : Nat) (A0_0 : Option Addr) (c0_0 : Nat) (l0_0 : List (List Int)) (A0_1 : Option Addr) (c0_1 : Nat) (l0_1 : List (S76)) (a0_2 : Int) (a0_3 : Bool) (r : Bool) (w : World) (hr0_0 : Kd.C (Kd.slice 5 (Kd.int .u8)) w A0_0 l0_0.length l0_0) (hc0_0 : l0_0.length ≤ c0_0) (hr0_1 : Kd.C k76 w A0_1 l0_1.length l0_1) (hc0_1 : l0_1.length ≤ c0_1) (h : fastilaw05_JournalOpenSpec.f k l0_0 l0_1 a0_2 a0_3 = some r) :
    Calls Try.prog 3 #[.agg #[.slice A0_0 l0_0.length c0_0, .slice A0_1 l0_1.length c0_1, .int .i64 a0_2, .bool a0_3]] w fun e w' => e = .returned (.bool r) ∧ Below w.heap.size w w' := by
 have hu25 := Try.underlying25; have hu29 := Try.underlying29; have HR0_0 := Aside0.mk hr0_0; have HC0_0 := Aside0.mk hc0_0; clear hr0_0 hc0_0; have HR0_1 := Aside0.mk hr0_1; have HC0_1 := Aside0.mk hc0_1; clear hr0_1 hc0_1; have HB := Aside0.mk (Below.refl w.heap.size w); have H : ((fastilaw05_sane.f k).bind fun t352 => (if t352 = true then ((fastilaw05_few.f k l0_0 l0_1 a0_2 a0_3 ([] : List (List Int))).bind fun t353 => (if t353 = true then ((journal_Open.f l0_0 l0_1 a0_2 a0_3).bind fun bt354 => ((fastiref05_Open.f k l0_0 l0_1 a0_2 a0_3).bind fun bt361 => ((fastiref05_Same.f k bt354.1 bt354.2.1 bt354.2.2.1 bt361.1 bt361.2.1 bt361.2.2.1).bind fun t368 => (if t368 = true then (some (bt354.2.2.2 == bt361.2.2.2)) else (none))))) else (some true))) else (none))) = some r := h; clear h; replace H := Option.bind_eq_some_iff.mp H; obtain ⟨t352, A20, H⟩ := H; replace H : (if t352 = true then ((fastilaw05_few.f k l0_0 l0_1 a0_2 a0_3 ([] : List (List Int))).bind fun t353 => (if t353 = true then ((journal_Open.f l0_0 l0_1 a0_2 a0_3).bind fun bt354 => ((fastiref05_Open.f k l0_0 l0_1 a0_2 a0_3).bind fun bt361 => ((fastiref05_Same.f k bt354.1 bt354.2.1 bt354.2.2.1 bt361.1 bt361.2.1 bt361.2.2.1).bind fun t368 => (if t368 = true then (some (bt354.2.2.2 == bt361.2.2.2)) else (none))))) else (some true))) else (none)) = some r := H; have A2 := Aside0.mk A20; clear A20
 by_cases c3 : t352 = true
 rotate_left
 ·replace c3 := Bool.eq_false_iff.mpr c3
  subst c3
  have H1 : (none) = some r := by rw [if_neg (show ¬ (false = true) by decide)] at H; exact H
  clear H; have H := H1; clear H1
  exact absurd H (by simp)
 subst c3
 have H1 : ((fastilaw05_few.f k l0_0 l0_1 a0_2 a0_3 ([] : List (List Int))).bind fun t353 => (if t353 = true then ((journal_Open.f l0_0 l0_1 a0_2 a0_3).bind fun bt354 => ((fastiref05_Open.f k l0_0 l0_1 a0_2 a0_3).bind fun bt361 => ((fastiref05_Same.f k bt354.1 bt354.2.1 bt354.2.2.1 bt361.1 bt361.2.1 bt361.2.2.1).bind fun t368 => (if t368 = true then (some (bt354.2.2.2 == bt361.2.2.2)) else (none))))) else (some true))) = some r := by rw [if_pos rfl] at H; exact H
 clear H; have H := H1; clear H1; replace H := Option.bind_eq_some_iff.mp H; obtain ⟨t353, A40, H⟩ := H; replace H : (if t353 = true then ((journal_Open.f l0_0 l0_1 a0_2 a0_3).bind fun bt354 => ((fastiref05_Open.f k l0_0 l0_1 a0_2 a0_3).bind fun bt361 => ((fastiref05_Same.f k bt354.1 bt354.2.1 bt354.2.2.1 bt361.1 bt361.2.1 bt361.2.2.1).bind fun t368 => (if t368 = true then (some (bt354.2.2.2 == bt361.2.2.2)) else (none))))) else (some true)) = some r := H; have A4 := Aside0.mk A40; clear A40
 by_cases c5 : t353 = true
 rotate_left
 ·replace c5 := Bool.eq_false_iff.mpr c5
  subst c5
  have H1 : (some true) = some r := by rw [if_neg (show ¬ (false = true) by decide)] at H; exact H
  clear H; have H := H1; clear H1; obtain rfl := Option.some.inj H
  go_enter Try.func3, Try.ntmps3
  go_wp2_with (first | ((with_reducible refine gate_dst (N := 1) rfl ?_); refine boxA (N := 1) #[.slice A0_0 l0_0.length c0_0, .slice A0_1 l0_1.length c0_1, .int .i64 a0_2, .bool a0_3] 25 ?_; intro gb351 hg w29 hbox hb; have BK351 := Aside0.mk (hbox); have GW351 := gW HB hg; have GE351 := gW HB hg; replace HB := sB HB hb; clear hb hbox hg) | (refine goesC 7 Try.func10 #[] ?_; (with_reducible refine (fastilaw05_sane.calls k  true _ A2.out).mono ?_); rintro e w30 ⟨rfl, hb⟩; refine ⟨_, rfl, ?_⟩; replace BK351 := bB BK351 hb; replace HB := sB HB hb; (try clear hb); (try clear hb2); (try clear hk); (try clear hi); have hcz31_0 := bc0 BK351; have hcz31_1 := bc1 BK351; have hcz31_2 := bc2 BK351; have hcz31_3 := bc3 BK351; have hfz31_0 := fz BK351 0; have hfz31_1 := fz BK351 1; have hfz31_2 := fz BK351 2; have hfz31_3 := fz BK351 3) | (refine goesC 10 Try.func11 #[.agg #[.slice A0_0 l0_0.length c0_0, .slice A0_1 l0_1.length c0_1, .int .i64 a0_2, .bool a0_3], .slice none 0 0] ?_; (refine (fastilaw05_few.calls k _ _ l0_0 _ _ l0_1 a0_2 a0_3 _ _ ([] : List (List Int)) false _ ?side1 ?side2 ?side3 ?side4 ?side5 ?side6 A4.out).mono ?_); (case side1 => exact cB HR0_0 HB); (case side2 => exact HC0_0.out); (case side3 => exact cB HR0_1 HB); (case side4 => exact HC0_1.out); (case side5 => exact Kd.C_nil _ _); (case side6 => exact Nat.le_refl _); rintro e w32 ⟨rfl, hb⟩; refine ⟨_, rfl, ?_⟩; replace BK351 := bB BK351 hb; replace HB := sB HB hb; (try clear hb); (try clear hb2); (try clear hk); (try clear hi)))
  go_ret
  exact ⟨by first | rfl | (simp [errW_none, errW_some] <;> rfl) | (simp [*, errW_none, errW_some] <;> rfl), blw HB.out⟩
 subst c5
 have H1 : ((journal_Open.f l0_0 l0_1 a0_2 a0_3).bind fun bt354 => ((fastiref05_Open.f k l0_0 l0_1 a0_2 a0_3).bind fun bt361 => ((fastiref05_Same.f k bt354.1 bt354.2.1 bt354.2.2.1 bt361.1 bt361.2.1 bt361.2.2.1).bind fun t368 => (if t368 = true then (some (bt354.2.2.2 == bt361.2.2.2)) else (none))))) = some r := by rw [if_pos rfl] at H; exact H
 clear H; have H := H1; clear H1; replace H := Option.bind_eq_some_iff.mp H; obtain ⟨⟨t354, t357, t358, t359⟩, A60, H⟩ := H; replace H : ((fastiref05_Open.f k l0_0 l0_1 a0_2 a0_3).bind fun bt361 => ((fastiref05_Same.f k t354 t357 t358 bt361.1 bt361.2.1 bt361.2.2.1).bind fun t368 => (if t368 = true then (some (t359 == bt361.2.2.2)) else (none)))) = some r := H; have A6 := Aside0.mk A60; clear A60; replace H := Option.bind_eq_some_iff.mp H; obtain ⟨⟨t361, t364, t365, t366⟩, A70, H⟩ := H; replace H : ((fastiref05_Same.f k t354 t357 t358 t361 t364 t365).bind fun t368 => (if t368 = true then (some (t359 == t366)) else (none))) = some r := H; have A7 := Aside0.mk A70; clear A70; replace H := Option.bind_eq_some_iff.mp H; obtain ⟨t368, A80, H⟩ := H; replace H : (if t368 = true then (some (t359 == t366)) else (none)) = some r := H; have A8 := Aside0.mk A80; clear A80
 by_cases c9 : t368 = true
 rotate_left
 ·replace c9 := Bool.eq_false_iff.mpr c9
  subst c9
  have H1 : (none) = some r := by rw [if_neg (show ¬ (false = true) by decide)] at H; exact H
  clear H; have H := H1; clear H1
  exact absurd H (by simp)
 subst c9
 have H1 : (some (t359 == t366)) = some r := by rw [if_pos rfl] at H; exact H
 clear H; have H := H1; clear H1; obtain rfl := Option.some.inj H
 go_enter Try.func3, Try.ntmps3
 go_wp2_with (first | ((with_reducible refine gate_dst (N := 1) rfl ?_); refine boxA (N := 1) #[.slice A0_0 l0_0.length c0_0, .slice A0_1 l0_1.length c0_1, .int .i64 a0_2, .bool a0_3] 25 ?_; intro gb351 hg w10 hbox hb; have BK351 := Aside0.mk (hbox); have GW351 := gW HB hg; have GE351 := gW HB hg; replace HB := sB HB hb; clear hb hbox hg) | (refine goesC 7 Try.func10 #[] ?_; (with_reducible refine (fastilaw05_sane.calls k  true _ A2.out).mono ?_); rintro e w11 ⟨rfl, hb⟩; refine ⟨_, rfl, ?_⟩; replace BK351 := bB BK351 hb; replace HB := sB HB hb; (try clear hb); (try clear hb2); (try clear hk); (try clear hi); have hcz12_0 := bc0 BK351; have hcz12_1 := bc1 BK351; have hcz12_2 := bc2 BK351; have hcz12_3 := bc3 BK351; have hfz12_0 := fz BK351 0; have hfz12_1 := fz BK351 1; have hfz12_2 := fz BK351 2; have hfz12_3 := fz BK351 3) | (refine goesC 10 Try.func11 #[.agg #[.slice A0_0 l0_0.length c0_0, .slice A0_1 l0_1.length c0_1, .int .i64 a0_2, .bool a0_3], .slice none 0 0] ?_; (refine (fastilaw05_few.calls k _ _ l0_0 _ _ l0_1 a0_2 a0_3 _ _ ([] : List (List Int)) true _ ?side1 ?side2 ?side3 ?side4 ?side5 ?side6 A4.out).mono ?_); (case side1 => exact cB HR0_0 HB); (case side2 => exact HC0_0.out); (case side3 => exact cB HR0_1 HB); (case side4 => exact HC0_1.out); (case side5 => exact Kd.C_nil _ _); (case side6 => exact Nat.le_refl _); rintro e w13 ⟨rfl, hb⟩; refine ⟨_, rfl, ?_⟩; replace BK351 := bB BK351 hb; replace HB := sB HB hb; (try clear hb); (try clear hb2); (try clear hk); (try clear hi); have hcz14_0 := bc0 BK351; have hcz14_1 := bc1 BK351; have hcz14_2 := bc2 BK351; have hcz14_3 := bc3 BK351; have hfz14_0 := fz BK351 0; have hfz14_1 := fz BK351 1; have hfz14_2 := fz BK351 2; have hfz14_3 := fz BK351 3) | (refine goesC 14 Try.func12 #[.agg #[.slice A0_0 l0_0.length c0_0, .slice A0_1 l0_1.length c0_1, .int .i64 a0_2, .bool a0_3]] ?_; (with_reducible refine (journal_Open.calls (fun k_ => k_ < w.heap.size) _ _ l0_0 (fun k_ => k_ < w.heap.size) _ _ l0_1 a0_2 a0_3 t354 t357 t358 t359 _ ?side1 ?side2 A6.out).mono ?_); (case side1 => exact Kd.V_mk HC0_0.out (Kd.F_below (Kd.C_F (Kd.heap_slice 5 (Kd.heap_int .u8)) HR0_0.out) (blw HB.out))); (case side2 => exact Kd.V_mk HC0_1.out (Kd.F_below (Kd.C_F k76_heap HR0_1.out) (blw HB.out))); rintro e w15 ⟨v355, rfl, ho0, hb⟩; refine ⟨_, rfl, ?_⟩; have HO356 := Aside0.mk (Kd.V_lower (Kd.V_mono (ok' := fun k_ => k_ ≠ gb351) ho0 (fun k_ hk_ => Or.elim hk_ (fun hs_ => Or.elim hs_ (fun hs_ => fun e_ => Nat.not_le.2 hs_ (by rw [e_]; exact GW351.out)) (fun hs_ => fun e_ => Nat.not_le.2 hs_ (by rw [e_]; exact GW351.out))) (fun hn_ => (Kd.freshB (zk BK351.out) k_ hn_)))) (below_size (blw HB.out))); replace BK351 := bB BK351 hb; replace HB := sB HB hb; (try clear hb); (try clear hb2); (try clear hk); (try clear hi); (try clear ho0)) | ((with_reducible refine gate_dst (N := 3) rfl ?_); refine boxA (N := 3) #[.slice none 0 0, .int .i64 0, .int .i64 0] 29 ?_; intro gb360 hg w16 hbox hb; replace HO356 := vE HO356 gb360 hg hb; have BK360 := Aside0.mk (hbox); have GW360 := gW HB hg; have GE360 := gW HB hg; replace HB := sB HB hb; have NB351_360 := nL BK351 hg; have NB360_351 := nG NB351_360; replace BK351 := bB BK351 hb; clear hb hbox hg; obtain ⟨Ao17, co17, eo17⟩ := Kd.V_slice HO356.out; subst eo17; have hnb18 := NB360_351.out; have hnc18 := NB351_360.out; have hcz19_0 := bc0 BK360; have hcz19_1 := bc1 BK360; have hcz19_2 := bc2 BK360; have hfz19_0 := fz BK360 0; have hfz19_1 := fz BK360 1; have hfz19_2 := fz BK360 2; have hcz20_0 := bc0 BK351; have hcz20_1 := bc1 BK351; have hcz20_2 := bc2 BK351; have hcz20_3 := bc3 BK351; have hfz20_0 := fz BK351 0; have hfz20_1 := fz BK351 1; have hfz20_2 := fz BK351 2; have hfz20_3 := fz BK351 3) | (refine goesC 19 Try.func13 #[.agg #[.slice A0_0 l0_0.length c0_0, .slice A0_1 l0_1.length c0_1, .int .i64 a0_2, .bool a0_3]] ?_; (with_reducible refine (fastiref05_Open.calls k _ _ l0_0 _ _ l0_1 a0_2 a0_3 t361 t364 t365 t366 _ ?side1 ?side2 ?side3 ?side4 A7.out).mono ?_); (case side1 => exact Kd.C_below HR0_0.out (blw HB.out)); (case side2 => exact HC0_0.out); (case side3 => exact Kd.C_below HR0_1.out (blw HB.out)); (case side4 => exact HC0_1.out); rintro e w21 ⟨v362, rfl, ho0, hb⟩; refine ⟨_, rfl, ?_⟩; replace HO356 := Aside0.mk (Kd.V_elder' (vfa HO356.out (fun _ hk => hk.2)) (Kd.S_base ho0) hb); have HO363 := Aside0.mk (Kd.S_lower ho0 (below_size (blw HB.out))); replace BK351 := Aside0.mk (zfb BK351.out hb); replace BK360 := Aside0.mk (blk_below (g := gb360) (o := .cells #[.slice Ao17 t354.length co17, .int .i64 t357, .int .i64 t358] 29 (0, 0)) (by (with_reducible repeat (first | refine blk_drewN ?_ _ | refine blk_drew ?_ | refine blk_alloc ?_ _)); refine blk_put (cs := #[.slice Ao17 t354.length co17, .int .i64 t357, .int .i64 0]) ?_ 2 _ rfl; refine blk_put (cs := #[.slice Ao17 t354.length co17, .int .i64 0, .int .i64 0]) ?_ 1 _ rfl; refine blk_put (cs := #[.slice none 0 0, .int .i64 0, .int .i64 0]) ?_ 0 _ rfl; (with_reducible repeat (first | refine blk_drewN ?_ _ | refine blk_drew ?_ | refine blk_alloc ?_ _)); exact BK360.out) hb); replace HB := sB HB hb; (try clear hb); (try clear hb2); (try clear hk); (try clear hi); (try clear ho0)) | ((with_reducible refine gate_dst (N := 5) rfl ?_); refine boxA (N := 5) #[.slice none 0 0, .int .i64 0, .int .i64 0] 29 ?_; intro gb367 hg w22 hbox hb; replace HO356 := vE HO356 gb367 hg hb; replace HO363 := Aside0.mk (Kd.S_below (by (with_reducible repeat (first | apply Kd.S_alloc | apply Kd.S_drewN | apply Kd.S_drew)); exact HO363.out) hb); have BK367 := Aside0.mk (hbox); have GW367 := gW HB hg; have GE367 := gW HB hg; replace HB := sB HB hb; have NB351_367 := nL BK351 hg; have NB367_351 := nG NB351_367; have NB360_367 := nL BK360 hg; have NB367_360 := nG NB360_367; replace BK360 := bB BK360 hb; clear hb hbox hg; obtain ⟨Ao23, co23, eo23⟩ := Kd.S_slice HO363.out; subst eo23; have hnb24 := NB367_351.out; have hnc24 := NB351_367.out; have hnb25 := NB367_360.out; have hnc25 := NB360_367.out; have hcz26_0 := bc0 BK367; have hcz26_1 := bc1 BK367; have hcz26_2 := bc2 BK367; have hfz26_0 := fz BK367 0; have hfz26_1 := fz BK367 1; have hfz26_2 := fz BK367 2; have hcz27_0 := bc0 BK360; have hcz27_1 := bc1 BK360; have hcz27_2 := bc2 BK360; have hfz27_0 := fz BK360 0; have hfz27_1 := fz BK360 1; have hfz27_2 := fz BK360 2) | (refine goesC 24 Try.func14 #[.agg #[.slice Ao17 t354.length co17, .int .i64 t357, .int .i64 t358], .agg #[.slice Ao23 t361.length co23, .int .i64 t364, .int .i64 t365]] ?_; (with_reducible refine (fastiref05_Same.calls k _ _ t354 t357 t358 _ _ t361 t364 t365 true _ ?side1 ?side2 ?side3 ?side4 A8.out).mono ?_); (case side1 => refine (Kd.V_reads' (e := 35) (base := w.heap.size) (ok := fun k_ => (((k_ ≠ gb351 ∧ k_ ≠ gb360) ∧ some k_ ≠ (.slice Ao23 t361.length co23 : Value).ownBlock) ∧ k_ ≠ gb367)) (n := t354.length) (c := co17) ?_).2.2; exact (vfa HO356.out (fun _ hk => hk.2))); (case side2 => exact lV HO356); (case side3 => refine (Kd.S_reads' (e := 35) (base := w.heap.size) (ok := fun k_ => True) (n := t361.length) (c := co23) ?_).2.2; exact (by (with_reducible repeat (first | apply Kd.S_alloc | apply Kd.S_drewN | apply Kd.S_drew)); exact (Kd.S_mono (Kd.S_far (p := ⟨gb367, 2, none⟩) (Kd.S_far (p := ⟨gb367, 1, none⟩) (Kd.S_far (p := ⟨gb367, 0, none⟩) (Kd.S_types HO363.out BK367.out (by decide)) (fun _ hk => hk.2) (.slice Ao23 t361.length co23)) (fun _ hk => hk.2) (.int .i64 t364)) (fun _ hk => hk.2) (.int .i64 t365)) (fun _ h_ => h_.1)))); (case side4 => exact (Kd.S_reads' HO363.out).2.1); rintro e w28 ⟨rfl, hb⟩; refine ⟨_, rfl, ?_⟩; replace HB := sB HB hb; (try clear hb); (try clear hb2); (try clear hk); (try clear hi)))
 go_ret
 exact ⟨by first | rfl | (simp [errW_none, errW_some] <;> rfl) | (simp [*, errW_none, errW_some] <;> rfl), blw HB.out⟩

end Go.Proofs.Ytljmdkeeppikhaa.Q
