/- By hand: what disk.New computes: the library's Repeat of one sector. -/
import Derived.Test.YtljmdkeeppikhaaDSy
import Derived.Laws.Bits64b
namespace Go.Proofs.Ytljmdkeeppikhaa.Q
open Go.RowKit Go.Proofs.YtljmdkeeppikhaaW.PrintWords Go.Proofs.YtljmdkeeppikhaaW.PrintLast Go.Proofs.YtljmdkeeppikhaaW.PrintMore
attribute [local go_sem] max2_int min2_int max_two min_two
set_option linter.unusedVariables false
set_option linter.unusedSimpArgs false

theorem u64_in {x : Int} (h0 : 0 ≤ x) (h1 : x < 18446744073709551616) : IntKind.u64.wrap x = x := by
  rw [IntKind.wrap_u64]
  omega
theorem mask32 (n : Nat) (h : n < 4294967296) : bits BinOp.and IntKind.u64 (n : Int) 4294967295 = (n : Int) := by
  have := bits_and_u64_nat n 4294967295 (by omega) (by omega)
  rw [show ((4294967295 : Nat) : Int) = 4294967295 from rfl] at this
  rw [this]
  have h2 : n &&& 4294967295 = n := by
    have := Nat.and_two_pow_sub_one_of_lt_two_pow (x := n) (n := 32) (by omega)
    simpa using this
  rw [h2]
set_option maxHeartbeats 1000000 in
theorem mul64_one (n : Nat) (h0 : n ≤ 4096) (w : World) :
    Calls Try.prog 74 #[.int .u64 1, .int .u64 n] w fun e w' => e = .returned (.tuple #[.int .u64 0, .int .u64 n]) ∧ w' = w := by
  have m1 : bits BinOp.and IntKind.u64 1 4294967295 = 1 := mask32 1 (by omega)
  have m0 : bits BinOp.and IntKind.u64 0 4294967295 = 0 := mask32 0 (by omega)
  have mn := mask32 n (by omega)
  have dn : (n : Int) / 4294967296 = 0 := by omega
  have wn : IntKind.u64.wrap (n : Int) = (n : Int) := u64_in (by omega) (by omega)
  have w0 : IntKind.u64.wrap 0 = 0 := by decide
  go_enter Try.func74, Try.ntmps74
  go_wp2
  go_ret2
  exact ⟨rfl, rfl⟩
theorem mul_one (n : Nat) (h0 : n ≤ 4096) (w : World) :
    Calls Try.prog 68 #[.int .u64 1, .int .u64 n] w fun e w' => e = .returned (.tuple #[.int .u64 0, .int .u64 n]) ∧ w' = w := by
  have h := mul64_one n h0
  go_enter Try.func68, Try.ntmps68
  go_wp2_with (go_at_call 74; refine (h _).mono ?_; rintro e w' ⟨rfl, rfl⟩)
  all_goals
    go_ret2
    exact ⟨rfl, rfl⟩
def rep.T9 : Bool × List (List Nat × List Nat) := (true, [([], []), ([], []), ([], []), ([1, 2], [1, 2]), ([], []), ([], []), ([4, 5], [4, 5]), ([3, 6], [3, 6]), ([0, 7], [0, 7]), ([8, 7, 0, 1, 2, 3, 4, 5, 6, 7, 8], [0, 2, 5, 8])])
def rep.B9 : List Nat := [0, 0, 0, 6, 0, 0, 48, 126, 255, 511]
theorem rep.tab9 : rtab .any (opsOf Try.f49 9) = rep.T9 := by kernel_rfl
theorem rep.bits9 : waitsOk rep.T9.2 rep.B9 = true := by kernel_rfl

/-- A row whose first k cells are v. -/
def RepI (w : World) (g n k : Nat) (v : Value) (W : World) : Prop := ∃ cur : Array Value, W.heap[g]? = some (.cells cur 35 (0, 0)) ∧ cur.size = n ∧ (∀ j, j < k → cur[j]? = some v) ∧ Below w.heap.size w W
theorem RepI.below {w : World} {g n k : Nat} {v : Value} {W V : World} (h : RepI w g n k v W) (hb : Below W.heap.size W V) : RepI w g n k v V := by
  obtain ⟨cur, h1, h2, h3, h4⟩ := h
  exact ⟨cur, heap_below hb h1, h2, h3, below_step h4 hb⟩

set_option maxHeartbeats 4000000 in
set_option maxRecDepth 100000 in
theorem repeat_ (n g1 : Nat) (v : Value) (hv : v.oneCell' = true) (w : World) (h1 : 1 ≤ n) (hn : n ≤ 4096) (hg : w.heap[g1]? = some (.cells #[v] 35 (0, 0))) :
    Calls Try.prog 49 #[.slice (some ⟨g1, 0, none⟩) 1 1, .int .i64 n] w fun e w' => e = .returned (.slice (some ⟨w.heap.size, 0, none⟩) n n) ∧ RepI w w.heap.size n n v w' := by
  have hu := Try.underlying22
  obtain ⟨i0, hi, hzz⟩ := Option.map_eq_some_iff.1 infS
  simp only [Prod.mk.injEq] at hzz
  obtain ⟨hz0, hz1, hz2⟩ := hzz
  have Hg := Aside0.mk hg
  have Hm := Aside0.mk (mul_one n hn)
  have hwn : IntKind.u64.wrap (n : Int) = (n : Int) := u64_in (by omega) (by omega)
  have hmk0 := run_make (P := Try.prog) w 22 35 i0 _ Try.underlying22 hi hz0 .i64 .i64 (n : Int) (n : Int) (by omega) (Int.le_refl _) (by rw [hz2]; omega) (by omega)
  rw [hz1, Nat.mul_one, Int.toNat_natCast] at hmk0
  obtain ⟨Z, hZ, hZs⟩ : ∃ Z : Array Value, madeCells (Value.slice none 0 0).cells n = Z ∧ Z.size = n := ⟨_, rfl, size_madeCells _ _⟩
  rw [hZ] at hmk0
  clear hZ hi hz0 hz1 hz2 hg
  have HZs := Aside0.mk hZs
  have hB1 := Aside0.mk (below_alloc (Below.refl w.heap.size w) (.cells Z 35 (0, 0)))
  have hG1 := Aside0.mk (heap_at_new w (.cells Z 35 (0, 0)) _ rfl)
  have hcp := copy_blk (P := Try.prog) (w.alloc (.cells Z 35 (0, 0))) 22 22 3 35 1 w.heap.size 0 n n ⟨g1, 0, none⟩ 1 1 [v] Z 35 Try.underlying22 (by kernel_rfl) (by rw [Nat.mul_one]; exact (Nat.min_eq_left h1).symm)
    (fun j u hj => by
      rw [Addr.add_lit, Nat.zero_add, blk_cell (heap_at_old w _ g1 _ Hg.out) j]
      simpa using hj) hG1.out (by rw [hZs]; show 0 + 1 ≤ n; omega) (fun u hu => by rw [List.mem_singleton.1 hu]; exact hv)
  rw [show Nat.min 1 n = 1 from Nat.min_eq_left h1] at hcp
  have hset := Aside0.mk (setCells_blk [v] 0 _ Z hG1.out)
  have hR0 : Aside0 (RepI w w.heap.size n 1 v ((w.alloc (.cells Z 35 (0, 0))).setCells w.heap.size 0 [v])) := ⟨_, hset.out, by rw [putL_size]; exact hZs, fun j hj => by
    obtain rfl : j = 0 := by omega
    rw [putL_get _ _ _ _ (by rw [hZs]; show 0 + 1 ≤ n; omega), if_pos (by simp)]
    rfl, below_setCells (Nat.le_refl _) _ _ _ hB1.out⟩
  clear hset hG1 hB1 hZs
  have hn1 := Aside0.mk h1
  have hn2 := Aside0.mk hn
  have hnp : ¬ (n : Int) < 0 := by omega
  have hnq : ¬ (9223372036854775807 : Int) < (n : Int) := by omega
  have hwi : wrap64 (n : Int) = (n : Int) := by unfold wrap64; omega
  clear h1 hn
  go_enter Try.func49, Try.ntmps49
  go_wp2_with (go_at_call 68; refine (Hm.out _).mono ?_; rintro e w1 ⟨rfl, hq⟩; rw [hq]; clear hq)
  clear hcp hmk0
  go_loopw [8] (fun i wr => ∃ k : Nat, 1 ≤ k ∧ k ≤ n ∧ i = .int .i64 k ∧ Aside0 (RepI w w.heap.size n k v wr)) (fun i _ => n - (intOf i).toNat)
  case atStart => exact ⟨1, Nat.le_refl _, hn1.out, rfl, hR0⟩
  case round =>
    clear hR0
    obtain ⟨k, hk1, hk, rfl, HR⟩ := hrel
    by_cases hlt : k < n
    · obtain ⟨cur, hcb, hcs, hcv, hB⟩ := HR.out
      have Hcb := Aside0.mk hcb
      have Hcs := Aside0.mk hcs
      have Hcv := Aside0.mk hcv
      have HB := Aside0.mk hB
      have hk0 := Aside0.mk hk1
      have hw1 : (k : Int) ≤ (n : Int) := by omega
      have hw2 : (0 : Int) ≤ (k : Int) := by omega
      have hw3 : (k : Int) < (n : Int) := by omega
      have hw4 : ¬ n = k := by omega
      clear hcb hcs hcv hB HR hk1
      go_upto_region 9 with fail
      refine start_ (n := 10) (S := fun w' => w'.heap[w.heap.size]? = some (.cells cur 35 (0, 0)) ∧ Below w.heap.size w w') (ds := [7]) #[false, false, false, false, false, false, false, false, false, false] (by kernel_rfl) rfl rfl ⟨(blk_drew Hcb.out), (below_step HB.out (below_drew1 (Below.refl _ _)))⟩ (fun hHeld => ?_)
      refine with_tabW rep.tab9 rep.bits9 (fun HT_ HW_ => ?_)
      generalize World.drew _ = Wd at hHeld ⊢
      refine pure_ (i := 0) (N := some 38) (v := ?_) (a' := ?_) #[true, false, false, false, false, false, false, false, false, false] rfl rfl (any_of HT_.out (by kernel_rfl)) (fun _ _ _ h => h) (Or.inl ⟨by rfl, ?_⟩) ?_ ?_
      rotate_left
      · intro w'
        go_simp
        with_reducible rfl
      rotate_left
      · simp only [Act.put, List.setIfInBounds_toArray, List.set_cons_zero, List.set_cons_succ, i64_w, i32_w]
        rfl
      refine pure_ (i := 1) (N := some 39) (v := ?_) (a' := ?_) #[true, true, false, false, false, false, false, false, false, false] rfl rfl (any_of HT_.out (by kernel_rfl)) (fun _ _ _ h => h) (Or.inl ⟨by rfl, ?_⟩) ?_ ?_
      rotate_left
      · intro w'
        go_simp
        with_reducible rfl
      rotate_left
      · simp only [Act.put, List.setIfInBounds_toArray, List.set_cons_zero, List.set_cons_succ, i64_w, i32_w]
        rfl
      refine pure_ (i := 2) (N := some 40) (v := ?_) (a' := ?_) #[true, true, true, false, false, false, false, false, false, false] rfl rfl (any_of HT_.out (by kernel_rfl)) (fun _ _ _ h => h) (Or.inl ⟨by rfl, ?_⟩) ?_ ?_
      rotate_left
      · intro w'
        go_simp
        with_reducible rfl
      rotate_left
      · simp only [Act.put, List.setIfInBounds_toArray, List.set_cons_zero, List.set_cons_succ, i64_w, i32_w]
        rfl
      refine pure_ (i := 3) (N := some 41) (v := ?_) (a' := ?_) #[true, true, true, true, false, false, false, false, false, false] rfl rfl (any_of HT_.out (by kernel_rfl)) (fun _ _ _ h => h) (Or.inl ⟨by rfl, ?_⟩) ?_ ?_
      rotate_left
      · intro w'
        go_simp
        with_reducible rfl
      rotate_left
      · simp only [Act.put, List.setIfInBounds_toArray, List.set_cons_zero, List.set_cons_succ, i64_w, i32_w]
        rfl
      refine pure_ (i := 4) (N := some 42) (v := ?_) (a' := ?_) #[true, true, true, true, true, false, false, false, false, false] rfl rfl (any_of HT_.out (by kernel_rfl)) (fun _ _ _ h => h) (Or.inl ⟨by rfl, ?_⟩) ?_ ?_
      rotate_left
      · intro w'
        go_simp
        with_reducible rfl
      rotate_left
      · simp only [Act.put, List.setIfInBounds_toArray, List.set_cons_zero, List.set_cons_succ, i64_w, i32_w]
        rfl
      refine pure_ (i := 5) (N := some 43) (v := ?_) (a' := ?_) #[true, true, true, true, true, true, false, false, false, false] rfl rfl (any_of HT_.out (by kernel_rfl)) (fun _ _ _ h => h) (Or.inl ⟨by rfl, ?_⟩) ?_ ?_
      rotate_left
      · intro w'
        go_simp
        with_reducible rfl
      rotate_left
      · simp only [Act.put, List.setIfInBounds_toArray, List.set_cons_zero, List.set_cons_succ, i64_w, i32_w]
        rfl
      refine pure_ (i := 6) (N := some 44) (v := ?_) (a' := ?_) #[true, true, true, true, true, true, true, false, false, false] rfl rfl (any_of HT_.out (by kernel_rfl)) (fun _ _ _ h => h) (Or.inl ⟨by rfl, ?_⟩) ?_ ?_
      rotate_left
      · intro w'
        go_simp
        with_reducible rfl
      rotate_left
      · simp only [Act.put, List.setIfInBounds_toArray, List.set_cons_zero, List.set_cons_succ, i64_w, i32_w]
        rfl
      have hCd := Aside0.mk hHeld.1
      have HBd := Aside0.mk hHeld.2
      refine last_ (i := 7) (N := some 45) #[true, true, true, true, true, true, true, true, false, false] rfl rfl (one_of HT_.out (by kernel_rfl)) (by decide) (fun K hK => ?_)
      refine copy_one (v := .slice (some ⟨w.heap.size, k, none⟩) (n - k) (n - k)) (u := .slice (some ⟨w.heap.size, 0, none⟩) k n) (by rfl) rfl _ _ 22 22 rfl (by rfl) (by rfl) (copy_blk (P := Try.prog) Wd 22 22 _ 35 1 w.heap.size k (n - k) (n - k) ⟨w.heap.size, 0, none⟩ k n (List.replicate (Nat.min k (n - k)) v) cur 35 hu (by kernel_rfl) (by rw [List.length_replicate, Nat.mul_one]) (fun j u hj => by
          rw [List.getElem?_replicate] at hj
          split at hj
          · cases hj
            rename_i hj
            have h5 : Nat.min k (n - k) ≤ k := Nat.min_le_left _ _
            rw [Addr.add_lit, Nat.zero_add, blk_cell hCd.out j]
            exact Hcv.out j (by omega)
          · cases hj) hCd.out (by rw [List.length_replicate, Hcs.out]; have h5 : Nat.min k (n - k) ≤ n - k := Nat.min_le_right _ _; omega) (fun u hu_ => by rw [(List.mem_replicate.1 hu_).2]; exact hv)) ?_
      refine hK.out _ _ ?_
      clear hK K
      refine norm_ (a' := ?_) ?_ ?_
      rotate_left
      · show Act.put _ (some 45) _ = _
        simp only [Act.put, List.setIfInBounds_toArray, List.set_cons_zero, List.set_cons_succ, i64_w, i32_w]
        rfl
      refine pure_ (i := 8) (N := some 46) (v := ?_) (a' := ?_) #[true, true, true, true, true, true, true, true, true, false] rfl rfl (any_of HT_.out (by kernel_rfl)) (fun _ _ _ h => h) (Or.inl ⟨by rfl, ?_⟩) ?_ ?_
      rotate_left
      · intro w'
        go_simp
        with_reducible rfl
      rotate_left
      · simp only [Act.put, List.setIfInBounds_toArray, List.set_cons_zero, List.set_cons_succ, i64_w, i32_w]
        rfl
      refine pure_ (i := 9) (N := some 8) (v := ?_) (a' := ?_) #[true, true, true, true, true, true, true, true, true, true] rfl rfl (any_of HT_.out (by kernel_rfl)) (fun _ _ _ h => h) (Or.inl ⟨by rfl, ?_⟩) ?_ ?_
      rotate_left
      · intro w'
        go_simp
        with_reducible rfl
      rotate_left
      · simp only [Act.put, List.setIfInBounds_toArray, List.set_cons_zero, List.set_cons_succ, i64_w, i32_w]
        rfl
      refine done_ (done_of HT_.out (by kernel_rfl)) ?_
      clear hHeld
      obtain ⟨m, hm⟩ : ∃ m, Nat.min k (n - k) = m := ⟨_, rfl⟩
      have hm1 : 0 < m ∧ m ≤ n - k := by
        have h5 := hk0.out
        rw [← hm]
        exact ⟨Nat.lt_min.2 ⟨by omega, by omega⟩, Nat.min_le_right _ _⟩
      rw [hm]
      clear hm
      have hwk : wrap64 ((k : Int) + (m : Int)) = ((k + m : Nat) : Int) := by
        have h5 := hn2.out
        unfold wrap64
        omega
      rw [hwk]
      have hR2 : Aside0 (RepI w w.heap.size n (k + m) v (Wd.setCells w.heap.size k (List.replicate m v))) := ⟨_, setCells_blk (List.replicate m v) k Wd cur hCd.out, by rw [putL_size]; exact Hcs.out, fun j hj => by
        rw [putL_get _ _ _ _ (by rw [List.length_replicate, Hcs.out]; omega), List.length_replicate]
        by_cases h6 : k ≤ j
        · rw [if_pos ⟨h6, hj⟩, List.getElem?_replicate, if_pos (by omega)]
        · rw [if_neg (by omega)]
          exact Hcv.out j (by omega), below_setCells (Nat.le_refl _) _ _ _ HBd.out⟩
      clear hwk hCd HBd Hcb Hcs Hcv HB hw1 hw2 hw3 hw4 HT_ HW_
      go_wp2
      go_round
      case rel => exact ⟨k + m, by omega, by omega, rfl, hR2⟩
      case measure => simp [intOf]; omega
    · go_wp2
      go_ret
      have e := HR.out
      obtain rfl : k = n := by omega
      exact ⟨rfl, e⟩

def newV (n : Int) : (List (List Int)) × (List SW) × Int × Bool × Int := if n < 1 ∨ 4096 < n then ([], [], 0, false, 1) else (List.replicate n.toNat (List.replicate 128 0), [], -1, false, 0)
def disk_New.f (a0 : Int) : Option ((List (List Int)) × (List SW) × Int × Bool × Int) := some (newV a0)
/-- One box laid first of all. -/
theorem own_S {w : World} {base bx : Nat} (hzx : bx < base)  {g n : Nat} {cur : Array Value} {z : Nat} (hz : base ≤ z) (hb : base ≤ g) (hg : w.heap[g]? = some (.cells cur 35 (0, 0))) (hn : n ≤ 4096) (hcs : cur.size = n) (hv : ∀ j, j < n → cur[j]? = some (.slice (some ⟨z, 0, none⟩) 128 128)) (hzb : w.heap[z]? = some (.cells z128 5 (0, 0))) (hne : z ≠ g) :
    Kd.N kSec 35 w base (fun k => k ≠ bx ∧ bx ≤ k) (.slice (some ⟨g, 0, none⟩) n n) (List.replicate n (List.replicate 128 (0 : Int))) := by
  have hF : Kd.F (Kd.int .u8) w (fun i => i = z) (some ⟨z, 0, none⟩) (List.replicate 128 (0 : Int)).length (List.replicate 128 (0 : Int)) := blk_F _ hzb (by rw [List.length_replicate]; decide) (fun j p hj => by
    rw [List.getElem?_replicate] at hj
    split at hj
    · cases hj
      exact z128_get j (by assumption)
    · cases hj)
  have hlen : (List.replicate n (List.replicate 128 (0 : Int))).length = n := List.length_replicate
  refine own_N (inner := cur.toList) (okp := fun k => k = z) ⟨?_, .inr ⟨g, n, cur, ?_, hb, hg, ?_, ?_, ?_, ?_⟩⟩ ⟨?_, fun j p hj => ?_⟩ (fun k hk => ⟨by omega, ?_⟩) (fun k hk => by simp only [Value.ownBlock, Option.some.injEq] at hk; omega)
  · rw [hlen, show kSec.sz = 1 from rfl, Nat.mul_one, Array.length_toList]; exact hcs
  · rw [hlen]
  · rw [hlen]; exact Nat.le_refl _
  · simp only [maxLen]; omega
  · rw [show kSec.sz = 1 from rfl, Nat.mul_one]; exact hcs
  · rw [hlen, show kSec.sz = 1 from rfl, Nat.mul_one, List.take_of_length_le (by rw [Array.length_toList]; omega)]
  · rw [hlen, show kSec.sz = 1 from rfl, Nat.mul_one, Array.length_toList]; exact hcs
  · rw [List.getElem?_replicate] at hj
    split at hj
    · rename_i hj2
      cases hj
      have h1 := hv j hj2
      rw [show kSec.sz = 1 from rfl, Nat.mul_one]
      have h2 : (cur.toList.drop j).take 1 = [.slice (some ⟨z, 0, none⟩) 128 128] := by
        have : cur.toList[j]? = some (.slice (some ⟨z, 0, none⟩) 128 128) := by simpa using h1
        obtain ⟨hl, he⟩ := List.getElem?_eq_some_iff.1 this
        rw [List.drop_eq_getElem_cons hl, List.take_succ_cons, List.take_zero, he]
      rw [h2]
      have := Kd.FK_slice_mk (e := 5) (c := 128) (l := List.replicate 128 (0 : Int)) (by rw [List.length_replicate]; exact Nat.le_refl _) hF
      rwa [List.length_replicate] at this
    · cases hj
  · subst hk
    simp only [Value.ownBlock, ne_eq, Option.some.injEq]
    exact hne

set_option maxHeartbeats 4000000 in
set_option maxRecDepth 100000 in
theorem new_no (P : Nat → Prop) (n : Int) (w : World) (h : n < 1 ∨ 4096 < n) :
    Calls Try.prog 25 #[.int .i64 n] w (DskOut w P ([], [], 0, false, 1)) := by
  have hu := Try.underlying25
  have hb := Aside0.mk (heap_at_new w (.cells dk0 25 (0, 0)) _ rfl)
  have HB := Aside0.mk (below_alloc (Below.refl w.heap.size w) (.cells dk0 25 (0, 0)))
  by_cases h1 : n < 1
  · clear h
    have d0_ := (blk_cell hb.out 0).trans rfl
    have d1_ := (blk_cell hb.out 1).trans rfl
    have d2_ := (blk_cell hb.out 2).trans rfl
    have d3_ := (blk_cell hb.out 3).trans rfl
    have df0_ := blk_frozen hb.out 0
    have df1_ := blk_frozen hb.out 1
    have df2_ := blk_frozen hb.out 2
    have df3_ := blk_frozen hb.out 3
    go_enter Try.func25, Try.ntmps25
    go_wp2
    refine bodyPost_ret (results_ct rfl _ _ w.heap.size 25 dk0 (0, 0) _ rfl hb.out hu rfl (by kernel_rfl)) rfl ?_
    exact ⟨_, _, rfl, Kd.V_nil _ _ _ _ _, Kd.V_nil _ _ _ _ _, HB.out⟩
  · have h2 : (4096 : Int) < n := by omega
    clear h
    have d0_ := (blk_cell hb.out 0).trans rfl
    have d1_ := (blk_cell hb.out 1).trans rfl
    have d2_ := (blk_cell hb.out 2).trans rfl
    have d3_ := (blk_cell hb.out 3).trans rfl
    have df0_ := blk_frozen hb.out 0
    have df1_ := blk_frozen hb.out 1
    have df2_ := blk_frozen hb.out 2
    have df3_ := blk_frozen hb.out 3
    go_enter Try.func25, Try.ntmps25
    go_wp2
    refine bodyPost_ret (results_ct rfl _ _ w.heap.size 25 dk0 (0, 0) _ rfl hb.out hu rfl (by kernel_rfl)) rfl ?_
    exact ⟨_, _, rfl, Kd.V_nil _ _ _ _ _, Kd.V_nil _ _ _ _ _, HB.out⟩

set_option maxHeartbeats 4000000 in
set_option maxRecDepth 100000 in
theorem new_ok (n : Nat) (w : World) (h1 : 1 ≤ n) (hn : n ≤ 4096) :
    Calls Try.prog 25 #[.int .i64 n] w (DskOut w (fun k => w.heap.size ≤ k) (List.replicate n (List.replicate 128 0), [], -1, false, 0)) := by
  have hu := Try.underlying25
  have hmk := make128 (w.alloc (.cells dk0 25 (0, 0)))
  have h1a : ¬ (n : Int) < 1 := by omega
  have h2a : ¬ (4096 : Int) < (n : Int) := by omega
  have h1b := Aside0.mk h1
  have h2b := Aside0.mk hn
  clear h1 hn
  go_enter Try.func25, Try.ntmps25
  go_wp2_with fail
  refine (repeat_ n (w.heap.size + 1 + 1) (.slice (some ⟨w.heap.size + 1, 0, none⟩) 128 128) rfl _ h1b.out h2b.out (heap_at_new _ _ _ (by simp))).mono ?_
  rintro e w5 ⟨rfl, hR⟩
  obtain ⟨cur, hc1, hc2, hc3, hc4⟩ := hR
  have hs2 : (((w.alloc (.cells dk0 25 (0, 0))).alloc (.cells z128 5 (0, 0))).alloc (.cells #[.slice (some ⟨w.heap.size + 1, 0, none⟩) 128 128] 35 (0, 0))).heap.size = w.heap.size + 3 := by simp
  have hbx := Aside0.mk (heap_below hc4 (heap_at_old _ (.cells #[.slice (some ⟨w.heap.size + 1, 0, none⟩) 128 128] 35 (0, 0)) _ _ (heap_at_old _ (.cells z128 5 (0, 0)) _ _ (heap_at_new w (.cells dk0 25 (0, 0)) _ rfl))))
  have hzx := Aside0.mk (heap_below hc4 (heap_at_old _ (.cells #[.slice (some ⟨w.heap.size + 1, 0, none⟩) 128 128] 35 (0, 0)) _ _ (heap_at_new (w.alloc (.cells dk0 25 (0, 0))) (.cells z128 5 (0, 0)) (w.heap.size + 1) (by simp))))
  have hB5 := Aside0.mk (below_step (below_alloc (below_alloc (below_alloc (Below.refl w.heap.size w) (.cells dk0 25 (0, 0))) (.cells z128 5 (0, 0))) (.cells #[.slice (some ⟨w.heap.size + 1, 0, none⟩) 128 128] 35 (0, 0))) hc4)
  rw [hs2] at hc1 ⊢
  have hN := Aside0.mk ((own_S (base := w.heap.size + 1) (bx := w.heap.size) (z := w.heap.size + 1) (g := w.heap.size + 3) (by omega) (Nat.le_refl _) (by omega) hc1 h2b.out hc2 hc3 hzx.out (by omega)))
  clear hc1 hc2 hc3 hc4 hs2 hmk
  have d0_ := (blk_cell hbx.out 0).trans rfl
  have d1_ := (blk_cell hbx.out 1).trans rfl
  have d2_ := (blk_cell hbx.out 2).trans rfl
  have d3_ := (blk_cell hbx.out 3).trans rfl
  have df0_ := blk_frozen hbx.out 0
  have df1_ := blk_frozen hbx.out 1
  have df2_ := blk_frozen hbx.out 2
  have df3_ := blk_frozen hbx.out 3
  go_wp2
  have hblk := blk_put (blk_put (blk_put (blk_put hbx.out 0 (.slice (some ⟨w.heap.size + 3, 0, none⟩) n n) rfl) 1 (.slice none 0 0) rfl) 2 (.int .i64 (-1)) rfl) 3 (.bool false) rfl
  refine bodyPost_ret (results_ct rfl _ _ w.heap.size 25 _ (0, 0) _ rfl hblk hu rfl (by kernel_rfl)) rfl ?_
  exact ⟨_, _, rfl, Kd.V_mono (Kd.V_far (Kd.V_far (Kd.V_far (Kd.V_far (Kd.N_V hN.out) (fun k hk => hk.1) _) (fun k hk => hk.1) _) (fun k hk => hk.1) _) (fun k hk => hk.1) _) (fun k hk => hk.2), Kd.V_nil _ _ _ _ _, below_setCell (below_setCell (below_setCell (below_setCell hB5.out (Nat.le_refl _) _ _) (Nat.le_refl _) _ _) (Nat.le_refl _) _ _) (Nat.le_refl _) _ _⟩
theorem disk_New.calls (a0 : Int) (r1 : List (List Int)) (r2 : List SW) (r3 : Int) (r4 : Bool) (r5 : Int) (w : World) (h : disk_New.f a0 = some (r1, r2, r3, r4, r5)) :
    Calls Try.prog 25 #[.int .i64 a0] w fun e w' => ∃ v0_ v1_ : Value, e = .returned (.tuple #[.agg #[v0_, v1_, .int .i64 r3, .bool r4], .int .i64 r5]) ∧ Kd.V kSec 35 w' w.heap.size (fun k_ => (w.heap.size ≤ k_)) v0_ r1 ∧ Kd.V kW 76 w' w.heap.size (fun k_ => (w.heap.size ≤ k_)) v1_ r2 ∧ Below w.heap.size w w' := by
  have e : newV a0 = (r1, r2, r3, r4, r5) := Option.some.inj h
  show Calls _ _ _ _ (DskOut w (fun k_ => (w.heap.size ≤ k_)) (r1, r2, r3, r4, r5))
  rw [← e]
  unfold newV
  by_cases h1 : a0 < 1 ∨ 4096 < a0
  · rw [if_pos h1]
    exact new_no _ a0 w h1
  · rw [if_neg h1]
    obtain ⟨n, rfl⟩ : ∃ n : Nat, a0 = (n : Int) := ⟨a0.toNat, by omega⟩
    rw [Int.toNat_natCast]
    exact new_ok n w (by omega) (by omega)
end Go.Proofs.Ytljmdkeeppikhaa.Q
