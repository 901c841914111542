/- By hand: assign.lists as an iterator: the increasing lists of k numbers below n, in order. -/
import Derived.Test.YtgiinjfandeddaaGCl
import Derived.Test.YtgiinjfandeddaaRngF
import Derived.Test.YtgiinjfandeddaaAid
import Derived.Shelf.Abstract
import Derived.OwnWalkIn
import Derived.TacticsInMore
import Derived.LoopNIn
import Derived.LoopIn
import Derived.WalkMore
namespace Go.Proofs.Ytgiinjfandeddaa.Q
open Go.RowKit Go.Proofs.YtgiinjfandeddaaW.PrintWords Go.Proofs.YtgiinjfandeddaaW.PrintLast Go.Proofs.YtgiinjfandeddaaW.PrintMore Go.Proofs.Ytgiinjfandeddaa.Rng
attribute [local go_sem] max2_int min2_int max_two min_two
set_option linter.unusedVariables false
set_option linter.unusedSimpArgs false

theorem run_store_func {P : Program} {w : World} {a : Addr} {m : Mode} (f : Fn) (rs caps : Array Value) : (store a (.func f rs caps) m).run P w = stored P w a (.func f rs caps) m := run_store P w a _ m rfl
attribute [local go_sem] run_store_func
/-- c numbers from a on -/
def iota (a : Int) : Nat → List Int
  | 0 => []
  | c + 1 => a :: iota (a + 1) c
/-- where a list goes on -/
def fromV (p : List Int) : Int := if 0 < p.length then p.getD (p.length - 1) 0 + 1 else 0
/-- the lists with d numbers more than p -/
def exts (n k : Int) : Nat → List Int → List (List Int)
  | 0, p => [p]
  | d + 1, p => (iota (fromV p) (n - k + (p.length : Int) - fromV p + 1).toNat).flatMap (fun i => exts n k d (p ++ [i]))

theorem drop_cons' {α : Type} {R : List α} {k : Nat} {x d : α} {r : List α} (hk : k ≤ R.length) (h : R.drop k = x :: r) : k < R.length ∧ R.getD k d = x ∧ R.drop (k + 1) = r := by
  have hl : k < R.length := by
    rcases Nat.lt_or_ge k R.length with h2 | h2
    · exact h2
    · rw [List.drop_eq_nil_of_le h2] at h; cases h
  rw [List.drop_eq_getElem_cons hl] at h
  injection h with h1 h2
  exact ⟨hl, by rw [List.getD_eq_getElem?_getD, List.getElem?_eq_getElem hl, Option.getD_some, h1], h2⟩

/-- What a round is handed: a row of its own with the list. -/
def LEnc (base : Nat) (R : List (List Int)) (j : Nat) (vs : Array Value) (A : World) : Prop := ∃ v, vs = #[v] ∧ Kd.R (Kd.int .i64) 3 A base (fun _ => True) v (R.getD j [])

/-- The boxes of the iterator. -/
def LBox (n k : Int) (l bk bn by_ be : Nat) (W : World) : Prop :=
  W.heap[bk]? = some (.cells #[.int .i64 k] 3 (0, 0)) ∧ W.heap[bn]? = some (.cells #[.int .i64 n] 3 (0, 0)) ∧
  W.heap[by_]? = some (.cells #[.func (.yield l) #[] #[]] 55 (0, 0)) ∧
  W.heap[be]? = some (.cells #[.func (.func 49) #[] #[.pointer (some ⟨bk, 0, none⟩), .pointer (some ⟨by_, 0, none⟩), .pointer (some ⟨bn, 0, none⟩), .pointer (some ⟨be, 0, none⟩)]] 55 (0, 0))
theorem LBox.below {n k : Int} {l bk bn by_ be : Nat} {W V : World} (h : LBox n k l bk bn by_ be W) (hb : Below W.heap.size W V) : LBox n k l bk bn by_ be V := ⟨heap_below hb h.1, heap_below hb h.2.1, heap_below hb h.2.2.1, heap_below hb h.2.2.2⟩
theorem LBox.st {n k : Int} {l bk bn by_ be : Nat} {U : Nat → Prop} {W V : World} (h : LBox n k l bk bn by_ be W) (hU : ¬ U bk ∧ ¬ U bn ∧ ¬ U by_ ∧ ¬ U be) (hs : St U W V) : LBox n k l bk bn by_ be V :=
  ⟨hs.blk h.1 hU.1, hs.blk h.2.1 hU.2.1, hs.blk h.2.2.1 hU.2.2.1, hs.blk h.2.2.2 hU.2.2.2⟩

section
variable {P : Program} {ops : Array Oper} {Q : Exit → Act → World → Prop}
/-- A call of a closure in a drawing region. -/
theorem goesF_ {oi : Oper} {N : Option Tmp} {a : Act} {w : World} {K : Act → World → Prop} {f : FuncId} {fn : Func} {xs_ : Array Operand} {ts : Array TypeId} {x : Operand} (hf : P.funcs[f]? = some fn) (hname : (fn.name == "runtime.NumGoroutine") = false) (hb : fn.body.isSome = true) (args caps all_ : Array Value) (hall : args ++ caps = all_)
    (hw : Region.wanted oi (yielded ops a.tmps) = true) (hN : oi.dst = N) (hop : oi.op = .call { callee := .value x, args := xs_, argTypes := ts }) (hx : a.eval x = .func (.func f) #[] caps) (hargs : xs_.map a.eval = args)
    (h : Calls P f all_ w fun e w' => ∃ v, e = .returned v ∧ K (a.put N v) w') : if Region.wanted oi (yielded ops a.tmps) = true then Oper.wp P oi a w K Q else K (a.put N undef) w := by
  subst hall
  refine call_ f (args ++ caps) hw hN ?_ h
  have he := enters_ hf hname hb (args ++ caps) w
  unfold execOp
  simp [hop, resolve, Deferred.ofValue, invoke, hx, hargs, he]
end

def lists.T9 : Bool × List (List Nat × List Nat) := (true, [([], []), ([], []), ([1], [1]), ([], []), ([3], [3]), ([2, 4, 2], [2, 4]), ([0, 5, 5], [0, 5]), ([6], [6])])
def lists.B9 : List Nat := [0, 0, 2, 0, 8, 30, 63, 127]
theorem lists.tab9 : rtab .any (opsOf Try.f49 9) = lists.T9 := by kernel_rfl
theorem lists.bits9 : waitsOk lists.T9.2 lists.B9 = true := by kernel_rfl

set_option maxHeartbeats 8000000 in
set_option maxRecDepth 100000 in
theorem ext_c (q l : Nat) (n k : Int) (hn : 0 ≤ n ∧ n ≤ 1000) (hk : 0 ≤ k ∧ k ≤ 1000) (bk bn by_ be base : Nat) (U : Nat → Prop) (R : List (List Int)) (J Jx : Nat → World → Prop)
    (hU : ¬ U bk ∧ ¬ U bn ∧ ¬ U by_ ∧ ¬ U be) (hUb : ∀ j, base ≤ j → ¬ U j) (hJ : ∀ k A B, J k A → St (fun _ => False) A B → J k B)
    (hY : ∀ j A vs, j < R.length → J j A → LEnc base R j vs A → YieldAt Fence.wide (q - 1) Try.prog l vs A fun e B => (e = .returned (.bool true) ∧ J (j + 1) B ∧ St U A B) ∨ (e = .returned (.bool false) ∧ Jx j B)) :
    ∀ (d : Nat) (l0 : List Int) (A0 : Option Addr) (c0 : Nat) (W : World) (rest : List (List Int)) (jj : Nat), (l0.length : Int) + d = k → 0 ≤ fromV l0 → fromV l0 ≤ 2000 → R.drop jj = exts n k d l0 ++ rest → jj ≤ R.length → J jj W → LBox n k l bk bn by_ be W → base ≤ W.heap.size →
      Kd.R (Kd.int .i64) 3 W base (fun _ => True) (.slice A0 l0.length c0) l0 →
      Calls Try.prog 49 #[.slice A0 l0.length c0, .pointer (some ⟨bk, 0, none⟩), .pointer (some ⟨by_, 0, none⟩), .pointer (some ⟨bn, 0, none⟩), .pointer (some ⟨be, 0, none⟩)] W fun e B =>
        (e = .returned (.bool true) ∧ St U W B ∧ ∃ j2, R.drop j2 = rest ∧ j2 ≤ R.length ∧ J j2 B) ∨ (e = .returned (.bool false) ∧ ∃ j2, j2 < R.length ∧ Jx j2 B) := by
  intro d
  induction d with
  | zero =>
    intro l0 A0 c0 W rest jj hd hf0 hf1 hR hjj h0 hbx hbase hl
    have ck_ := (blk_cell hbx.1 0).trans rfl
    have cy_ := (blk_cell hbx.2.2.1 0).trans rfl
    obtain ⟨hlt, hget, hrest⟩ := drop_cons' (d := []) hjj (show R.drop jj = l0 :: rest from hR)
    have HREST := Aside0.mk hrest
    have HLT := Aside0.mk hlt
    obtain ⟨fn, tmps, assign, body, hy, hRI⟩ := hY jj W #[.slice A0 l0.length c0] hlt h0 ⟨_, rfl, by rw [hget]; exact hl⟩
    have hke : (k == (l0.length : Int)) = true := by simp; omega
    have hkd : (l0.length : Int) = k := by omega
    clear hY hR hjj h0 hbx hl hget hrest hlt hd
    generalize l0.length = len at *
    subst hkd
    clear hke
    refine (callsIn_wide (n := q)).1 ?_
    refine callsIn_of_wp Try.func49 rfl trivial ?_ rfl
    simp only [Try.ntmps49, List.size_toArray, List.length_cons, List.length_nil, Nat.reduceAdd, Nat.reduceSub, Array.replicate_succ, Array.replicate_zero, List.push_toArray, List.append_toArray, List.nil_append, List.cons_append]
    gi_wp2
    refine ⟨fun h => by simp [Fence.wide] at h, hRI.mono ?_⟩
    rintro e W3 (⟨rfl, hJ3, hk3⟩ | ⟨rfl, hJx3⟩)
    · have HJ3 := Aside0.mk hJ3
      have HK3 := Aside0.mk hk3
      clear hJ3 hk3
      gi_wp2
      go_ret
      exact .inl ⟨rfl, HK3.out, jj + 1, HREST.out, HLT.out, HJ3.out⟩
    · have HJ3 := Aside0.mk hJx3
      clear hJx3
      gi_wp2
      go_ret
      exact .inr ⟨rfl, jj, HLT.out, HJ3.out⟩
  | succ d ih =>
    intro l0 A0 c0 W rest jj hd hf0 hf1 hR hjj h0 hbx hbase hl
    have ck_ := (blk_cell hbx.1 0).trans rfl
    have HR00 := Aside0.mk (Kd.R_reads' hl).2.2
    have HC0 := Aside0.mk (Kd.R_reads' hl).2.1
    have HL := Aside0.mk hl
    have HX := Aside0.mk hbx
    have HF := Aside0.mk (And.intro hf0 hf1)
    have HRR := Aside0.mk hR
    have HJJ := Aside0.mk hjj
    have HJ0 := Aside0.mk h0
    have HBS := Aside0.mk hbase
    have HD := Aside0.mk hd
    have hlk : ((l0.length : Int) == k) = false := by simp; omega
    clear hl hbx hf0 hf1 hR hjj h0 hbase hd
    go_enter Try.func49, Try.ntmps49
    go_upto_if 18 with (fail)
    go_cut [7] (fun v7 wc => v7 = .int .i64 (fromV l0) ∧ W = wc)
    case first =>
      by_cases c10 : (l0.length : Int) > 0
      · have c10b0 : decide (0 < (l0.length : Int)) = true := decide_eq_true c10
        have c10b1 : decide (0 < l0.length) = true := decide_eq_true (by omega)
        have hfv : fromV l0 = wrap64 (rd l0 (wrap64 ((l0.length : Int) - 1)) + 1) := by
          have h1 := HF.out
          have h2 : wrap64 ((l0.length : Int) - 1) = ((l0.length - 1 : Nat) : Int) := by unfold wrap64; have := HD.out; omega
          unfold fromV at h1 ⊢
          rw [if_pos (by omega)] at h1 ⊢
          rw [h2]
          simp only [rd, Int.toNat_natCast]
          unfold wrap64
          omega
        have hji : (wrap64 ((l0.length : Int) - 1)) = ((l0.length - 1 : Nat) : Int) := by unfold wrap64; have := HD.out; omega
        obtain ⟨ji11, hji11⟩ : ∃ j_ : Int, (wrap64 ((l0.length : Int) - 1)) = j_ := ⟨_, rfl⟩
        have hji11w : (IntKind.i64.wrap ((l0.length : Int) - 1)) = ji11 := (i64_w _).trans hji11
        rw [hji11] at hfv
        have c12b0 : decide (0 ≤ (ji11)) = true := decide_eq_true (by omega)
        have c13b0 : decide ((ji11) < (l0.length : Int)) = true := decide_eq_true (by omega)
        obtain ⟨ad102, e102, hx102_0⟩ := Kd.at_int HR00.out (ji11) (of_decide_eq_true c12b0) (of_decide_eq_true c13b0)
        cases e102
        have p102 := eq_true (of_decide_eq_true c12b0)
        have q102 := eq_true (of_decide_eq_true c13b0)
        have HFV := Aside0.mk hfv
        clear hfv hji c10
        (first | rw [c10b0] | rw [c10b1] | (simp only [i64_w, i32_w]; rw [c10b0]) | skip)
        go_wp2
        go_meet
        case rel => exact ⟨by rw [HFV.out], rfl⟩
      · have c10b0 : decide (0 < (l0.length : Int)) = false := decide_eq_false c10
        have c10b1 : decide (0 < l0.length) = false := decide_eq_false (by omega)
        have hfv : fromV l0 = 0 := by unfold fromV; rw [if_neg (by omega)]
        have HFV := Aside0.mk hfv
        clear hfv c10
        (first | rw [c10b0] | rw [c10b1] | (simp only [i64_w, i32_w]; rw [c10b0]) | skip)
        go_wp2
        go_meet
        case rel => exact ⟨by rw [HFV.out], rfl⟩
    case rest =>
      obtain ⟨rfl, rfl⟩ := hcut
      clear ck_ hlk
      go_wp2
      go_loopw [8] (fun i wr => ∃ (x : Int) (j2 : Nat), i = .int .i64 x ∧ Aside0 (0 ≤ x ∧ x ≤ 2000) ∧ Aside0 (R.drop j2 = (iota x (n - k + (l0.length : Int) - x + 1).toNat).flatMap (fun i => exts n k d (l0 ++ [i])) ++ rest) ∧ Aside0 (j2 ≤ R.length) ∧ Aside0 (J j2 wr) ∧ Aside0 (St U W wr)) (fun i _ => (n - k + (l0.length : Int) + 1 - intOf i).toNat)
      case atStart => exact ⟨_, jj, rfl, HF, HRR, HJJ, HJ0, ⟨St.refl _ _⟩⟩
      case round =>
        clear HRR HJJ HJ0 HF
        obtain ⟨x8_2, j2, rfl, HF, HRR, HJJ, HJ0, HST⟩ := hrel
        have HX1 := Aside0.mk (HX.out.st hU HST.out)
        have HL1 := Aside0.mk (R_st HL.out (fun k_ hk_ => HST.out.2.2.2.2 k_ (Kd.R_lt HL.out k_ hk_) (hUb k_ (Kd.R_base HL.out k_ hk_))))
        have HBS1 := Aside0.mk (Nat.le_trans HBS.out HST.out.2.2.2.1)
        generalize wr = w at *
        have HR0 := Aside0.mk (Kd.R_reads' HL1.out).2.2
        have HB := Aside0.mk (Below.refl w.heap.size w)
        have ck_ := (blk_cell HX1.out.1 0).trans rfl
        have cn_ := (blk_cell HX1.out.2.1 0).trans rfl
        have hw1 : wrap64 (n - k) = n - k := by unfold wrap64; omega
        have hw2 : wrap64 (n - k + (l0.length : Int)) = n - k + (l0.length : Int) := by unfold wrap64; have := HD.out; omega
        by_cases c14 : x8_2 ≤ n - k + (l0.length : Int)
        · have c14b0 : decide (x8_2 ≤ n - k + (l0.length : Int)) = true := decide_eq_true c14
          have hc : (n - k + (l0.length : Int) - x8_2 + 1).toNat = (n - k + (l0.length : Int) - (x8_2 + 1) + 1).toNat + 1 := by omega
          have hRR := HRR.out
          rw [hc] at hRR
          simp only [iota, List.flatMap_cons, List.append_assoc] at hRR
          have HRR2 := Aside0.mk hRR
          have HC14 := Aside0.mk c14
          obtain ⟨CV, hCV⟩ : ∃ CV, CV = Value.func (.func 49) #[] #[.pointer (some ⟨bk, 0, none⟩), .pointer (some ⟨by_, 0, none⟩), .pointer (some ⟨bn, 0, none⟩), .pointer (some ⟨be, 0, none⟩)] := ⟨_, rfl⟩
          have HBE := Aside0.mk (show (⟨be, 0, none⟩ : Addr).block < w.heap.size from (Array.getElem?_eq_some_iff.1 HX1.out.2.2.2).1)
          have HCE := Aside0.mk (show w.cell? ⟨be, 0, none⟩ = some CV from by rw [hCV]; exact (blk_cell HX1.out.2.2.2 0).trans rfl)
          have HCV := Aside0.mk hCV
          obtain ⟨t103, hA15, ht103⟩ : ∃ t, slices_Clone_int_int.f l0 = some t ∧ t = l0 := ⟨l0, by unfold slices_Clone_int_int.f; rw [if_pos (by have := HD.out; omega)], rfl⟩
          have A15 := Aside0.mk hA15
          obtain ⟨y106, hy106⟩ : ∃ y_ : List Int, y_ = (([x8_2] : List Int)) := ⟨_, rfl⟩
          have Ny106 := Aside0.mk hy106
          have LMc16 := Aside0.mk (show t103.length + y106.length < 17592186044416 from by rw [ht103, hy106]; have := HD.out; simp; omega)
          obtain ⟨y109, hy109⟩ : ∃ y_ : List Int, y_ = (t103 ++ y106) := ⟨_, rfl⟩
          have Ny109 := Aside0.mk hy109
          have HY9 := Aside0.mk (show y109 = l0 ++ [x8_2] from by rw [hy109, ht103, hy106])
          clear hA15 ht103 hy106 hy109 hCV hRR hc c14 HRR
          go_wp2
          have n0_ := Aside0.mk (below_drew1 HB.out)
          clear HB
          have HB := n0_
          clear n0_
          refine start_ (n := 8) (S := fun w' => w'.cell? ⟨be, 0, none⟩ = some CV) (ds := [6]) #[false, false, false, false, false, false, false, false] (by kernel_rfl) rfl rfl ((HB.out.cell HBE.out).trans HCE.out) (fun hHeld => ?_); refine with_tabW lists.tab9 lists.bits9 (fun HT_ HW_ => ?_)
          generalize w.drew = w19 at HB hHeld ⊢
          refine take_ (i := 0) (N := some 37) (v := ?_) (a' := ?_) #[true, false, false, false, false, false, false, false] rfl rfl (take_ofW HT_.out HW_.out (by kernel_rfl)) (fun _ _ _ h => h) (Or.inl ⟨by rfl, ?_⟩) hHeld ?_ ?_
          rotate_left
          · rintro w' s0
            go_simp
            with_reducible rfl
          rotate_left
          · simp only [Act.put, List.setIfInBounds_toArray, List.set_cons_zero, List.set_cons_succ, i64_w, i32_w]
            rfl
          refine pure_ (i := 1) (N := some 38) (v := ?_) (a' := ?_) #[true, true, false, false, false, false, false, false] rfl rfl (any_of HT_.out (by kernel_rfl)) (fun _ _ _ h => h) (Or.inl ⟨by rfl, ?_⟩) ?_ ?_
          rotate_left
          · intro w'
            go_simp
            with_reducible rfl
          rotate_left
          · simp only [Act.put, List.setIfInBounds_toArray, List.set_cons_zero, List.set_cons_succ, i64_w, i32_w]
            rfl
          refine pure_ (i := 3) (N := some 40) (v := ?_) (a' := ?_) #[true, true, false, true, false, false, false, false] rfl rfl (any_of HT_.out (by kernel_rfl)) (fun _ _ _ h => h) (Or.inl ⟨by rfl, ?_⟩) ?_ ?_
          rotate_left
          · intro w'
            go_simp
            with_reducible rfl
          rotate_left
          · simp only [Act.put, List.setIfInBounds_toArray, List.set_cons_zero, List.set_cons_succ, i64_w, i32_w]
            rfl
          refine join_ (σ := Value × Value) 3 #[true, true, true, true, true, false, false, false] (fun s_ => [(39, s_.1), (41, s_.2)]) (fun s_ w' => (Kd.R (Kd.int .i64) 3 w' w.heap.size (fun k_ => some k_ ≠ (s_.2 : Value).ownBlock) s_.1 t103) ∧ (Kd.R (Kd.int .i64) 3 w' w.heap.size (fun k_ => some k_ ≠ (s_.1 : Value).ownBlock) s_.2 y106) ∧ (Below w.heap.size w w')) ?_ ?_
          rotate_left
          · intro hCont
            refine two_ (i := 2) (j := 4) (Ni := some 39) (Nj := some 41) #[true, true, true, true, false, false, false, false] #[true, true, false, true, true, false, false, false] rfl rfl rfl rfl (two_of HT_.out (by kernel_rfl)) (by decide) (by decide) (fun K hK => ?_) (fun K hK => ?_)
            · skip
              refine goes_ Try.func33 (by kernel_rfl) rfl #[.slice A0 l0.length c0] (by rfl) rfl rfl (by (try simp only [List.map_toArray, List.map_cons, List.map_nil]); first | done | rfl | (simp only [List.length_drop, List.length_take]; rfl)) ?_
              with_reducible refine (slices_Clone_int_int.calls _ _ l0 t103 _ ?side1 ?side2 A15.out).mono ?_
              (case side1 => repeat (first | exact (Kd.C_below HR0.out HB.out) | (with_reducible refine Kd.C_alloc ?_ _) | (with_reducible refine Kd.C_drewN ?_ _) | (with_reducible refine Kd.C_drew ?_)))
              (case side2 => exact HC0.out)
              rintro e w20 ⟨v104, rfl, ho0, hb⟩
              refine ⟨_, rfl, ?_⟩
              have n0_ := Aside0.mk (Kd.R_lower ho0 (below_size (by repeat (first | (with_reducible first | exact HB.out | apply below_alloc | apply pw_below_drewN | apply below_drew1) | exact HB.out))))
              have n1_ := Aside0.mk (below_step (by repeat (first | (with_reducible first | exact HB.out | apply below_alloc | apply pw_below_drewN | apply below_drew1) | exact HB.out)) hb)
              clear HB
              have HO105 := n0_
              have HB := n1_
              clear n0_ n1_
              (try clear hb)
              (try clear hb2)
              (try clear hk)
              (try clear hi)
              (try clear ho0)
              refine hK.out _ _ ((HB.out.cell HBE.out).trans HCE.out) (fun hHeld => ?_)
              clear hK K
              refine norm_ (a' := ?_) ?_ ?_
              rotate_left
              · show Act.put _ (some 39) _ = _
                simp only [Act.put, List.setIfInBounds_toArray, List.set_cons_zero, List.set_cons_succ, i64_w, i32_w]
                rfl
              refine one_ (i := 4) (N := some 41) #[true, true, true, true, true, false, false, false] rfl rfl (one_of HT_.out (by kernel_rfl)) (by decide) (fun K hK => ?_)
              refine Kd.R_lit_step (Kd.int .i64) _ 3 ?hg (N := 41) ?hd (xs := ([x8_2] : List Int)) (inner := [.int .i64 x8_2]) (ok := fun _ => True) (okp := fun _ => True) ?hr ?hp (fun _ hk => hk) trivial (Below.refl _ _) (Nat.le_refl _) (by simp) ?_; (case hd => rfl); (case hg => rfl); (case hr => first | (go_simp; done) | (go_simp; rfl)); (case hp => exact (Reps.one (show Kd.M (Kd.int .i64) _ _ _ x8_2 [.int .i64 x8_2] from rfl) (Reps.none _ _)))
              intro v107 w21 ho22 hb hg_ hnew_
              clear hg_ hnew_
              (first | rw [← Ny106.out] at ho22 | (simp only [Int.reduceToNat] at ho22; rw [← Ny106.out] at ho22))
              have n0_ := Aside0.mk (Kd.R_elder' (by (with_reducible repeat (first | apply Kd.R_alloc | apply Kd.R_drewN | apply Kd.R_drew)); exact HO105.out) (Kd.R_base ho22) hb)
              have n1_ := Aside0.mk (Kd.R_lower (Kd.R_new' ho22 (Kd.R_lt (by (with_reducible repeat (first | apply Kd.R_alloc | apply Kd.R_drewN | apply Kd.R_drew)); exact HO105.out))) (below_size (by repeat (first | (with_reducible first | exact HB.out | apply below_alloc | apply pw_below_drewN | apply below_drew1) | exact HB.out))))
              have n2_ := Aside0.mk (below_step (by repeat (first | (with_reducible first | exact HB.out | apply below_alloc | apply pw_below_drewN | apply below_drew1) | exact HB.out)) hb)
              clear HO105
              clear HB
              have HO105 := n0_
              have HO108 := n1_
              have HB := n2_
              clear n0_ n1_ n2_
              clear hb ho22
              refine hK.out _ _ ((HB.out.cell HBE.out).trans HCE.out) (fun hHeld => ?_)
              clear hK K
              refine norm_ (a' := ?_) ?_ ?_
              rotate_left
              · show Act.put _ (some 41) _ = _
                simp only [Act.put, List.setIfInBounds_toArray, List.set_cons_zero, List.set_cons_succ, i64_w, i32_w]
                rfl
              exact norm_ (by simp only [putAll, Act.put, List.setIfInBounds_toArray, List.set_cons_zero, List.set_cons_succ]) (hCont (v104, v107) _ ⟨(by (with_reducible repeat (first | apply Kd.R_alloc | apply Kd.R_drewN | apply Kd.R_drew)); exact Kd.R_mono HO105.out (fun _ hk => hk.2)), (by (with_reducible repeat (first | apply Kd.R_alloc | apply Kd.R_drewN | apply Kd.R_drew)); exact Kd.R_mono HO108.out (fun _ hk => hk.2)), (by repeat (first | (with_reducible first | exact HB.out | apply below_alloc | apply pw_below_drewN | apply below_drew1) | exact HB.out))⟩)
            · skip
              refine Kd.R_lit_step (Kd.int .i64) _ 3 ?hg (N := 41) ?hd (xs := ([x8_2] : List Int)) (inner := [.int .i64 x8_2]) (ok := fun _ => True) (okp := fun _ => True) ?hr ?hp (fun _ hk => hk) trivial (Below.refl _ _) (Nat.le_refl _) (by simp) ?_; (case hd => rfl); (case hg => rfl); (case hr => first | (go_simp; done) | (go_simp; rfl)); (case hp => exact (Reps.one (show Kd.M (Kd.int .i64) _ _ _ x8_2 [.int .i64 x8_2] from rfl) (Reps.none _ _)))
              intro v107 w20 ho21 hb hg_ hnew_
              clear hg_ hnew_
              (first | rw [← Ny106.out] at ho21 | (simp only [Int.reduceToNat] at ho21; rw [← Ny106.out] at ho21))
              have n0_ := Aside0.mk (Kd.R_lower ho21 (below_size (by repeat (first | (with_reducible first | exact HB.out | apply below_alloc | apply pw_below_drewN | apply below_drew1) | exact HB.out))))
              have n1_ := Aside0.mk (below_step (by repeat (first | (with_reducible first | exact HB.out | apply below_alloc | apply pw_below_drewN | apply below_drew1) | exact HB.out)) hb)
              clear HB
              have HO108 := n0_
              have HB := n1_
              clear n0_ n1_
              clear hb ho21
              refine hK.out _ _ ((HB.out.cell HBE.out).trans HCE.out) (fun hHeld => ?_)
              clear hK K
              refine norm_ (a' := ?_) ?_ ?_
              rotate_left
              · show Act.put _ (some 41) _ = _
                simp only [Act.put, List.setIfInBounds_toArray, List.set_cons_zero, List.set_cons_succ, i64_w, i32_w]
                rfl
              refine one_ (i := 2) (N := some 39) #[true, true, true, true, true, false, false, false] rfl rfl (one_of HT_.out (by kernel_rfl)) (by decide) (fun K hK => ?_)
              refine goes_ Try.func33 (by kernel_rfl) rfl #[.slice A0 l0.length c0] (by rfl) rfl rfl (by (try simp only [List.map_toArray, List.map_cons, List.map_nil]); first | done | rfl | (simp only [List.length_drop, List.length_take]; rfl)) ?_
              with_reducible refine (slices_Clone_int_int.calls _ _ l0 t103 _ ?side1 ?side2 A15.out).mono ?_
              (case side1 => repeat (first | exact (Kd.C_below HR0.out HB.out) | (with_reducible refine Kd.C_alloc ?_ _) | (with_reducible refine Kd.C_drewN ?_ _) | (with_reducible refine Kd.C_drew ?_)))
              (case side2 => exact HC0.out)
              rintro e w22 ⟨v104, rfl, ho0, hb⟩
              refine ⟨_, rfl, ?_⟩
              have n0_ := Aside0.mk (Kd.R_elder' (by (with_reducible repeat (first | apply Kd.R_alloc | apply Kd.R_drewN | apply Kd.R_drew)); exact HO108.out) (Kd.R_base ho0) hb)
              have n1_ := Aside0.mk (Kd.R_lower (Kd.R_new' ho0 (Kd.R_lt (by (with_reducible repeat (first | apply Kd.R_alloc | apply Kd.R_drewN | apply Kd.R_drew)); exact HO108.out))) (below_size (by repeat (first | (with_reducible first | exact HB.out | apply below_alloc | apply pw_below_drewN | apply below_drew1) | exact HB.out))))
              have n2_ := Aside0.mk (below_step (by repeat (first | (with_reducible first | exact HB.out | apply below_alloc | apply pw_below_drewN | apply below_drew1) | exact HB.out)) hb)
              clear HO108
              clear HB
              have HO108 := n0_
              have HO105 := n1_
              have HB := n2_
              clear n0_ n1_ n2_
              (try clear hb)
              (try clear hb2)
              (try clear hk)
              (try clear hi)
              (try clear ho0)
              refine hK.out _ _ ((HB.out.cell HBE.out).trans HCE.out) (fun hHeld => ?_)
              clear hK K
              refine norm_ (a' := ?_) ?_ ?_
              rotate_left
              · show Act.put _ (some 39) _ = _
                simp only [Act.put, List.setIfInBounds_toArray, List.set_cons_zero, List.set_cons_succ, i64_w, i32_w]
                rfl
              exact norm_ (by simp only [putAll, Act.put, List.setIfInBounds_toArray, List.set_cons_zero, List.set_cons_succ]) (hCont (v104, v107) _ ⟨(by (with_reducible repeat (first | apply Kd.R_alloc | apply Kd.R_drewN | apply Kd.R_drew)); exact Kd.R_mono HO105.out (fun _ hk => hk.2)), (by (with_reducible repeat (first | apply Kd.R_alloc | apply Kd.R_drewN | apply Kd.R_drew)); exact Kd.R_mono HO108.out (fun _ hk => hk.2)), (by repeat (first | (with_reducible first | exact HB.out | apply below_alloc | apply pw_below_drewN | apply below_drew1) | exact HB.out))⟩)
          rintro ⟨v104, v107⟩ w23 ⟨h0_, h1_, h2_⟩
          have n0_ : Aside0 (Kd.R (Kd.int .i64) 3 w23 w.heap.size (fun k_ => some k_ ≠ (v107 : Value).ownBlock) v104 t103) := ⟨h0_⟩
          have n1_ : Aside0 (Kd.R (Kd.int .i64) 3 w23 w.heap.size (fun k_ => some k_ ≠ (v104 : Value).ownBlock) v107 y106) := ⟨h1_⟩
          have n2_ : Aside0 (Below w.heap.size w w23) := ⟨h2_⟩
          clear HB
          clear h0_ h1_ h2_
          have HO105 := n0_
          have HO108 := n1_
          have HB := n2_
          clear n0_ n1_ n2_
          have hHeld := ((HB.out.cell HBE.out).trans HCE.out)
          obtain ⟨Ao25, co25, eo25⟩ := Kd.R_slice HO108.out
          (first | subst eo25 | (injection eo25 with f1_ f2_ f3_; have f4_ := f1_.symm; have f5_ := f3_.symm; clear f1_ f2_ f3_; subst f4_; subst f5_))
          refine norm_ (a' := ?_) ?_ ?_
          rotate_left
          · simp only [putAll, Act.put, List.setIfInBounds_toArray, List.set_cons_zero, List.set_cons_succ]
            rfl
          refine one_ (i := 5) (N := some 42) #[true, true, true, true, true, true, false, false] rfl rfl (one_of HT_.out (by kernel_rfl)) (by decide) (fun K hK => ?_)
          refine Kd.R_append_rows_step (Kd.int .i64) (w0 := w) w.heap.size (by rfl) (.tmp 39) (.tmp 41) 23 3 (.int .i64 0) 8 rfl Try.underlying23 info3 rfl (by decide) (by omega) v104 t103 y106 _ _ _ (fun k_ => some k_ ≠ (.slice Ao25 y106.length co25 : Value).ownBlock) (fun _ => False) rfl rfl ?aO ?aR (fun _ _ h => h) (fun _ h => h.elim) ?aF ?aB ?aS ?aL ?_
          (case aR => repeat (first | exact (Kd.R_reads' HO108.out).2.2 | (with_reducible refine Kd.C_alloc ?_ _) | (with_reducible refine Kd.C_drewN ?_ _) | (with_reducible refine Kd.C_drew ?_)))
          (case aB => exact (by repeat (first | (with_reducible first | exact HB.out | apply below_alloc | apply pw_below_drewN | apply below_drew1) | exact HB.out)))
          (case aF => exact (fun k_ hk => Kd.fresh' (Kd.R_lt (by (with_reducible repeat (first | apply Kd.R_alloc | apply Kd.R_drewN | apply Kd.R_drew)); exact HO108.out)) k_ hk))
          (case aO => exact (by (with_reducible repeat (first | apply Kd.R_alloc | apply Kd.R_drewN | apply Kd.R_drew)); exact HO105.out))
          (case aS => exact (below_size (by repeat (first | (with_reducible first | exact HB.out | apply below_alloc | apply pw_below_drewN | apply below_drew1) | exact HB.out))))
          (case aL => have := LMc16.out; omega)
          intro v110 w24 ho hb hg hat
          rw [← Ny109.out] at ho
          have n0_ := Aside0.mk (Kd.R_after (ok := (fun _ => True)) (by (with_reducible repeat (first | apply Kd.R_alloc | apply Kd.R_drewN | apply Kd.R_drew)); exact Kd.R_mono HO108.out (fun _ hk => ⟨trivial, hk⟩)) hg hat)
          have n1_ := Aside0.mk (hb)
          have n2_ := Aside0.mk (ho)
          clear HO108
          clear HB
          clear HO105
          have HO108 := n0_
          have HB := n1_
          have HO111 := n2_
          clear n0_ n1_ n2_
          clear ho hb hg hat
          obtain ⟨Ao26, co26, eo26⟩ := Kd.R_slice HO111.out
          (first | subst eo26 | (injection eo26 with f1_ f2_ f3_; have f4_ := f1_.symm; have f5_ := f3_.symm; clear f1_ f2_ f3_; subst f4_; subst f5_))
          refine hK.out _ _ ((HB.out.cell HBE.out).trans HCE.out) (fun hHeld => ?_)
          clear hK K
          refine norm_ (a' := ?_) ?_ ?_
          rotate_left
          · show Act.put _ (some 42) _ = _
            simp only [Act.put, List.setIfInBounds_toArray, List.set_cons_zero, List.set_cons_succ, i64_w, i32_w]
            rfl
          refine last_ (i := 6) (N := some 43) #[true, true, true, true, true, true, true, false] rfl rfl (one_of HT_.out (by kernel_rfl)) (by decide) (fun K hK => ?_)
          refine goesF_ Try.func49 (by kernel_rfl) rfl #[.slice Ao26 y109.length co26] #[.pointer (some ⟨bk, 0, none⟩), .pointer (some ⟨by_, 0, none⟩), .pointer (some ⟨bn, 0, none⟩), .pointer (some ⟨be, 0, none⟩)] #[.slice Ao26 y109.length co26, .pointer (some ⟨bk, 0, none⟩), .pointer (some ⟨by_, 0, none⟩), .pointer (some ⟨bn, 0, none⟩), .pointer (some ⟨be, 0, none⟩)] rfl (by rfl) rfl rfl HCV.out (by (try simp only [List.map_toArray, List.map_cons, List.map_nil]); first | done | rfl) ?_
          have hlen9 : y109.length = l0.length + 1 := by rw [HY9.out]; simp
          have hfv9 : fromV y109 = x8_2 + 1 := by
            rw [HY9.out]
            unfold fromV
            rw [if_pos (by simp)]
            simp
          with_reducible refine (ih y109 Ao26 co26 _ ((iota (x8_2 + 1) (n - k + (l0.length : Int) - (x8_2 + 1) + 1).toNat).flatMap (fun i => exts n k d (l0 ++ [i])) ++ rest) j2 ?s1 ?s2 ?s3 ?s4 HJJ.out ?s5 ?s6 ?s7 ?s8).mono ?_
          case s1 => rw [hlen9]; have := HD.out; omega
          case s2 => rw [hfv9]; have := HF.out; omega
          case s3 => rw [hfv9]; have := HC14.out; have := HD.out; omega
          case s4 => rw [HY9.out]; exact HRR2.out
          case s5 => exact hJ _ _ _ HJ0.out (St.of_below HB.out)
          case s6 => exact HX1.out.below HB.out
          case s7 => exact Nat.le_trans HBS1.out HB.out.size
          case s8 => exact Kd.R_mono (Kd.R_lower HO111.out HBS1.out) (fun _ _ => trivial)
          clear hlen9 hfv9
          rintro e w27 (⟨rfl, hS27, j3, h3, h4, h5⟩ | ⟨rfl, j3, h3, h4⟩)
          · refine ⟨_, rfl, ?_⟩
            have HS27 := Aside0.mk hS27
            have H3 := Aside0.mk h3
            have H4 := Aside0.mk h4
            have H5 := Aside0.mk h5
            have HX27 := Aside0.mk ((HX1.out.below HB.out).st hU hS27)
            have HST27 := Aside0.mk ((HST.out.trans (St.of_below HB.out)).trans hS27)
            clear hS27 h3 h4 h5
            refine hK.out _ _ ?_
            clear hK K
            refine norm_ (a' := ?_) ?_ ?_
            rotate_left
            · show Act.put _ (some 43) _ = _
              simp only [Act.put, List.setIfInBounds_toArray, List.set_cons_zero, List.set_cons_succ, i64_w, i32_w]
              rfl
            refine pure_ (i := 7) (N := some 44) (v := ?_) (a' := ?_) #[true, true, true, true, true, true, true, true] rfl rfl (any_of HT_.out (by kernel_rfl)) (fun _ _ _ h => h) (Or.inl ⟨by rfl, ?_⟩) ?_ ?_
            rotate_left
            · intro w'
              go_simp
              with_reducible rfl
            rotate_left
            · simp only [Act.put, List.setIfInBounds_toArray, List.set_cons_zero, List.set_cons_succ, i64_w, i32_w]
              rfl
            refine done_ (done_of HT_.out (by kernel_rfl)) ?_
            have hw3 : wrap64 (x8_2 + 1) = x8_2 + 1 := by unfold wrap64; have := HF.out; omega
            go_wp2
            go_round
            case rel => exact ⟨x8_2 + 1, j3, by rw [hw3], ⟨by have := HF.out; have := HC14.out; have := HD.out; omega⟩, H3, H4, H5, HST27⟩
            case measure => have := HC14.out; simp [intOf]; omega
          · refine ⟨_, rfl, ?_⟩
            have H3 := Aside0.mk h3
            have H4 := Aside0.mk h4
            clear h3 h4
            refine hK.out _ _ ?_
            clear hK K
            refine norm_ (a' := ?_) ?_ ?_
            rotate_left
            · show Act.put _ (some 43) _ = _
              simp only [Act.put, List.setIfInBounds_toArray, List.set_cons_zero, List.set_cons_succ, i64_w, i32_w]
              rfl
            refine pure_ (i := 7) (N := some 44) (v := ?_) (a' := ?_) #[true, true, true, true, true, true, true, true] rfl rfl (any_of HT_.out (by kernel_rfl)) (fun _ _ _ h => h) (Or.inl ⟨by rfl, ?_⟩) ?_ ?_
            rotate_left
            · intro w'
              go_simp
              with_reducible rfl
            rotate_left
            · simp only [Act.put, List.setIfInBounds_toArray, List.set_cons_zero, List.set_cons_succ, i64_w, i32_w]
              rfl
            refine done_ (done_of HT_.out (by kernel_rfl)) ?_
            go_wp2
            go_ret
            exact .inr ⟨rfl, j3, H3.out, H4.out⟩
        · have c14b0 : decide (x8_2 ≤ n - k + (l0.length : Int)) = false := decide_eq_false c14
          have hRR := HRR.out
          rw [show (n - k + (l0.length : Int) - x8_2 + 1).toNat = 0 by omega] at hRR
          have HRR2 := Aside0.mk (show R.drop j2 = rest from hRR)
          clear hRR c14
          go_wp2
          go_ret
          exact .inl ⟨rfl, HST.out, j2, HRR2.out, HJJ.out, HJ0.out⟩

theorem lists_c (n k : Int) (w : World) : Calls Try.prog 41 #[.int .i64 n, .int .i64 k] w fun e w' =>
    e = .returned (.func (.func 48) #[] #[.pointer (some ⟨w.heap.size + 1, 0, none⟩), .pointer (some ⟨w.heap.size, 0, none⟩)]) ∧ w' = (w.alloc (.cells #[.int .i64 n] 3 (0, 0))).alloc (.cells #[.int .i64 k] 3 (0, 0)) := by
  go_enter Try.func41, Try.ntmps41
  go_wp2
  go_ret
  exact ⟨by simp, rfl⟩

def LPre (n k : Int) (bk bn base : Nat) (W : World) : Prop := base ≤ W.heap.size ∧ W.heap[bk]? = some (.cells #[.int .i64 k] 3 (0, 0)) ∧ W.heap[bn]? = some (.cells #[.int .i64 n] 3 (0, 0))

set_option maxHeartbeats 2000000 in
set_option maxRecDepth 100000 in
theorem lists_iter (n k : Int) (hn : 0 ≤ n ∧ n ≤ 1000) (hk : 0 ≤ k ∧ k ≤ 1000) (bk bn base : Nat) (U : Nat → Prop) (hU : ¬ U bk ∧ ¬ U bn) (hUb : ∀ j, base ≤ j → ¬ U j) :
    IterE Try.prog 48 #[.pointer (some ⟨bk, 0, none⟩), .pointer (some ⟨bn, 0, none⟩)] (LEnc base (exts n k k.toNat [])) (exts n k k.toNat []).length U (fun _ => False) (LPre n k bk bn base) := by
  intro q l J Jx W hJ hJx hY h0 hpre
  obtain ⟨hb0, hbk, hbn⟩ := hpre
  obtain ⟨R, hR⟩ : ∃ R, R = exts n k k.toNat [] := ⟨_, rfl⟩
  rw [← hR] at hY ⊢
  have hne1 : ∀ b (o1 o2 : Obj), b < W.heap.size → (((W.alloc o1).alloc o2).heap[b]? = W.heap[b]?) := fun b o1 o2 hb => by
    rw [Below.heap_alloc _ _ _ (by simp; omega), Below.heap_alloc _ _ _ hb]
  have hlk : bk < W.heap.size := (Array.getElem?_eq_some_iff.1 hbk).1
  have hln : bn < W.heap.size := (Array.getElem?_eq_some_iff.1 hbn).1
  have HE := Aside0.mk (ext_c q l n k hn hk bk bn W.heap.size (W.heap.size + 1) base U R J Jx ⟨hU.1, hU.2, hUb _ hb0, hUb _ (by omega)⟩ hUb hJ hY k.toNat [] none 0)
  refine callsIn_of_wp Try.func48 rfl trivial ?_ rfl
  simp only [Try.ntmps48, List.size_toArray, List.length_cons, List.length_nil, Nat.reduceAdd, Nat.reduceSub, Array.replicate_succ, Array.replicate_zero, List.push_toArray, List.append_toArray, List.nil_append, List.cons_append]
  refine wpIn_wide.2 ?_
  have hny := heap_at_old (W.alloc (.cells #[Value.func (Fn.yield l) #[] #[]] 55 (0, 0))) (.cells #[Value.func (.func 49) #[] #[.pointer (some ⟨bk, 0, none⟩), .pointer (some ⟨W.heap.size, 0, none⟩), .pointer (some ⟨bn, 0, none⟩), .pointer (some ⟨W.heap.size + 1, 0, none⟩)]] 55 (0, 0)) _ _ (heap_at_new W (.cells #[Value.func (Fn.yield l) #[] #[]] 55 (0, 0)) _ rfl)
  have hne := heap_at_new (W.alloc (.cells #[Value.func (Fn.yield l) #[] #[]] 55 (0, 0))) (.cells #[Value.func (.func 49) #[] #[.pointer (some ⟨bk, 0, none⟩), .pointer (some ⟨W.heap.size, 0, none⟩), .pointer (some ⟨bn, 0, none⟩), .pointer (some ⟨W.heap.size + 1, 0, none⟩)]] 55 (0, 0)) (W.heap.size + 1) (by simp)
  have hB2 := below_alloc (below_alloc (Below.refl W.heap.size W) (.cells #[Value.func (Fn.yield l) #[] #[]] 55 (0, 0))) (.cells #[Value.func (.func 49) #[] #[.pointer (some ⟨bk, 0, none⟩), .pointer (some ⟨W.heap.size, 0, none⟩), .pointer (some ⟨bn, 0, none⟩), .pointer (some ⟨W.heap.size + 1, 0, none⟩)]] 55 (0, 0))
  have HNY := Aside0.mk hny
  have HNE := Aside0.mk hne
  have HB2 := Aside0.mk hB2
  have HBK := Aside0.mk hbk
  have HBN := Aside0.mk hbn
  have HB0 := Aside0.mk hb0
  have HJ0 := Aside0.mk h0
  have HR := Aside0.mk hR
  clear hny hne hB2 hbk hbn hb0 h0 hne1 hlk hln hR
  go_wp2_with fail
  obtain ⟨W2, hW2⟩ : ∃ W2, W2 = ((W.alloc (.cells #[Value.func (Fn.yield l) #[] #[]] 55 (0, 0))).alloc (.cells #[Value.func (.func 49) #[] #[.pointer (some ⟨bk, 0, none⟩), .pointer (some ⟨W.heap.size, 0, none⟩), .pointer (some ⟨bn, 0, none⟩), .pointer (some ⟨W.heap.size + 1, 0, none⟩)]] 55 (0, 0))) := ⟨_, rfl⟩
  rw [← hW2]
  have hBW : Below W.heap.size W W2 := by rw [hW2]; exact HB2.out
  have hbx : LBox n k l bk bn W.heap.size (W.heap.size + 1) W2 := ⟨heap_below hBW HBK.out, heap_below hBW HBN.out, by rw [hW2]; exact HNY.out, by rw [hW2]; exact HNE.out⟩
  refine (HE.out W2 [] 0 ?_ (by decide) (by decide) (by rw [HR.out]; simp) (Nat.zero_le _) (hJ _ _ _ HJ0.out (St.of_below hBW)) hbx (Nat.le_trans HB0.out hBW.size) (Kd.R_nil _ _ _ _ _)).mono ?_
  · simp; omega
  clear hbx hBW hW2
  rintro e B (⟨rfl, _, j2, h1, h2, h3⟩ | ⟨rfl, j2, h1, h2⟩)
  · go_wp2
    first | go_end0 | ((try simp only [Exit.inBlock, Exit.then, Exit.noGoto_ret]); refine bodyPost_ret (results_none rfl _ _ _) rfl ?_)
    refine ⟨⟨_, rfl⟩, .inl ?_⟩
    have : R.length ≤ j2 := List.drop_eq_nil_iff.1 h1
    rwa [show R.length = j2 from Nat.le_antisymm this h2]
  · go_wp2
    first | go_end0 | ((try simp only [Exit.inBlock, Exit.then, Exit.noGoto_ret]); refine bodyPost_ret (results_none rfl _ _ _) rfl ?_)
    exact ⟨⟨_, rfl⟩, .inr ⟨j2, h1, h2⟩⟩
end Go.Proofs.Ytgiinjfandeddaa.Q
