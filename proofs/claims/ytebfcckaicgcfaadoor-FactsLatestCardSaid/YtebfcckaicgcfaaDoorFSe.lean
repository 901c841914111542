/- By hand: sort.Search over the facts' numbers. -/
import Derived.Test.YtebfcckaicgcfaaDoorFChk
import Derived.Test.YtebfcckaicgcfaaDoorFInsr
namespace Go.Proofs.YtebfcckaicgcfaaDoor.Q
open Go.RowKit Go.Proofs.YtebfcckaicgcfaaDoorW.PrintWords Go.Proofs.YtebfcckaicgcfaaDoorW.PrintLast Go.Proofs.YtebfcckaicgcfaaDoorW.PrintMore
attribute [local go_sem] max2_int min2_int max_two min_two
set_option linter.unusedVariables false
set_option linter.unusedSimpArgs false

/-- A call of a function value, in a plain region. -/
theorem goesVL_ {P : Program} {ops : Array Oper} {Q : Exit → Act → World → Prop} {rest : List Oper} {oi : Oper} {a : Act} {w : World} (N : Option Tmp) (hd : oi.dst = N) (hg : oi.guard = none) {f : FuncId} {fn : Func} {os : Array Operand} {ts : Array TypeId} (hf : P.funcs[f]? = some fn) (hname : (fn.name == "runtime.NumGoroutine") = false) (hb : fn.body.isSome = true)
    (v : Operand) (fs : Array Value) (args : Array Value) (hop : oi.op = .call { callee := .value v, args := os, argTypes := ts }) (hv : a.eval v = .func (.func f) #[] fs) (hargs : os.map a.eval ++ fs = args)
    (h : Calls P f args w fun e w' => ∃ v, e = .returned v ∧ wpList P ops Q rest (a.put N v) w') : wpList P ops Q (oi :: rest) a w := by
  refine wpList_plain hg fun K hK => ?_
  have he := enters_ hf hname hb args w
  have hrun : (execOp a.eval oi).run P w = .ok (.enter f args) w := by
    unfold execOp
    simp [hop, resolve, Deferred.ofValue, invoke, hv, hargs, he]
  unfold Oper.wp
  rw [hrun, Oper.upon_enter]
  refine h.mono fun e w'' hh => ?_
  obtain ⟨v, rfl, hk⟩ := hh
  subst hd
  exact hK _ _ hk
def noAt (l : List S24) (i : Nat) : Int := (rd_T24 l (i : Int)).f0
/-- The place of a number in the rising list. -/
def posV (l : List S24) (x : Int) : Nat := (l.takeWhile (fun r => decide (r.f0 < x))).length
theorem noAt_get (l : List S24) (i : Nat) (hi : i < l.length) : noAt l i = l[i].f0 := by
  simp [noAt, rd_T24, List.getD_eq_getElem?_getD, hi]
theorem posV_eq : ∀ (l : List S24) (x : Int) (k : Nat), k ≤ l.length → (∀ j, j < k → noAt l j < x) → (k < l.length → x ≤ noAt l k) → posV l x = k
  | [], x, k, hk, _, _ => by simp only [List.length_nil] at hk; simp [posV]; omega
  | a :: r, x, 0, _, _, h2 => by
    have := h2 (by simp)
    rw [noAt_get _ _ (by simp)] at this
    simp only [List.getElem_cons_zero] at this
    have h3 : decide (a.f0 < x) = false := decide_eq_false (by omega)
    simp [posV, List.takeWhile_cons, h3]
  | a :: r, x, k + 1, hk, h1, h2 => by
    have h0 := h1 0 (by omega)
    rw [noAt_get _ _ (by simp)] at h0
    simp only [List.getElem_cons_zero] at h0
    simp only [List.length_cons] at hk h2
    have ih := posV_eq r x k (by omega) (fun j hj => by
      have := h1 (j + 1) (by omega)
      rw [noAt_get _ _ (by simp; omega)] at this
      rw [noAt_get _ _ (by omega)]
      simpa using this) (fun hk' => by
      have := h2 (by omega)
      rw [noAt_get _ _ (by simp; omega)] at this
      rw [noAt_get _ _ (by omega)]
      simpa using this)
    unfold posV at ih ⊢
    rw [List.takeWhile_cons, if_pos (decide_eq_true h0), List.length_cons, ih]
/-- The two boxes that the closure holds. -/
def SeIn (w : World) (l : List S24) (A : Option Addr) (c : Nat) (x : S24) (bl bx : Nat) (W : World) : Prop :=
  W.heap[bl]? = some (.cells #[.slice A l.length c] 22 (0, 0)) ∧ W.heap[bx]? = some (.cells (facC x) 24 (0, 0)) ∧ Kd.C k24 W A l.length l ∧ Below w.heap.size w W
theorem SeIn.below {w : World} {l : List S24} {A : Option Addr} {c : Nat} {x : S24} {bl bx : Nat} {W V : World} (h : SeIn w l A c x bl bx W) (hb : Below W.heap.size W V) : SeIn w l A c x bl bx V :=
  ⟨heap_below hb h.1, heap_below hb h.2.1, Kd.C_below h.2.2.1 hb, below_step h.2.2.2 hb⟩

set_option maxRecDepth 100000 in
set_option maxHeartbeats 4000000 in
theorem add1 (l : List S24) (A : Option Addr) (c : Nat) (x : S24) (bl bx i : Nat) (hi : i < l.length) (w0 w : World) (hn : l.length ≤ 4096) (h : SeIn w0 l A c x bl bx w) :
    Calls Tryd.prog 26 #[.int .i64 (i : Nat), .pointer (some ⟨bl, 0, none⟩), .pointer (some ⟨bx, 0, none⟩)] w fun e w' => e = .returned (.bool (decide (x.f0 ≤ noAt l i))) ∧ Below w.heap.size w w' := by
  obtain ⟨hbl, hbx, hC, _⟩ := h
  obtain ⟨ad2, e2, q0, q1, q2, q3, q4, q5, q6, q7, q8⟩ := at_T24 hC (i : Int) (by omega) (by omega)
  rw [Int.toNat_natCast] at q0
  have hno : (rd_T24 l (i : Int)).f0 = noAt l i := rfl
  rw [hno] at q0
  clear q1 q2 q3 q4 q5 q6 q7 q8 hno
  generalize noAt l i = y at q0 ⊢
  subst e2
  have c0 := (blk_cell hbl 0).trans rfl
  have d0 : w.cell? ⟨bx, 0, none⟩ = some (.int .i64 x.f0) := (blk_cell hbx 0).trans rfl
  have hi' : (i : Int) < (l.length : Int) := by omega
  clear hbl hbx hC
  go_enter Tryd.func26, Tryd.ntmps26
  go_wp2
  go_quiet (fail)
  go_wp2
  go_ret
  exact ⟨rfl, pw_below_drewN (Below.refl _ _) _⟩

set_option maxRecDepth 100000 in
set_option maxHeartbeats 8000000 in
theorem search_ (l : List S24) (A : Option Addr) (c : Nat) (x : S24) (bl bx : Nat) (w : World) (hn : l.length ≤ 4096) (hs : ∀ i j, i < j → j < l.length → noAt l i < noAt l j) (h : SeIn w l A c x bl bx w) :
    Calls Tryd.prog 25 #[.int .i64 (l.length : Nat), .func (.func 26) #[] #[.pointer (some ⟨bl, 0, none⟩), .pointer (some ⟨bx, 0, none⟩)]] w
      fun e w' => e = .returned (.int .i64 (posV l x.f0 : Nat)) ∧ Below w.heap.size w w' := by
  have HS := Aside0.mk hs
  have H0 := Aside0.mk h
  clear hs h
  obtain ⟨pos, hpos⟩ : ∃ p, Aside0 (posV l x.f0 = p) := ⟨_, ⟨rfl⟩⟩
  rw [hpos.out]
  go_enter Tryd.func25, Tryd.ntmps25
  go_wp2
  go_loopw [5, 6] (fun s9 s10 wr => ∃ lo hi : Nat, s9 = .int .i64 lo ∧ s10 = .int .i64 hi ∧ lo ≤ hi ∧ hi ≤ l.length ∧ Aside0 (SeIn w l A c x bl bx wr) ∧ Aside0 ((∀ j, j < lo → noAt l j < x.f0) ∧ (∀ j, hi ≤ j → j < l.length → x.f0 ≤ noAt l j))) (fun s9 s10 _ => (intOf s10).toNat - (intOf s9).toNat)
  case atStart => exact ⟨0, l.length, rfl, rfl, Nat.zero_le _, Nat.le_refl _, H0, ⟨fun j hj => absurd hj (Nat.not_lt_zero _), fun j h1 h2 => by omega⟩⟩
  case round =>
    clear H0
    obtain ⟨lo, hi, rfl, rfl, hlh, hhn, HB, HI⟩ := hrel
    by_cases hlt : lo < hi
    · obtain ⟨m, hm⟩ : ∃ m, m = (lo + hi) / 2 := ⟨_, rfl⟩
      have hm1 : lo ≤ m ∧ m < hi := by omega
      have hm2 : ((lo : Int) + (hi : Int)) / 2 = (m : Int) := by omega
      have hm4 := Aside0.mk hm2
      have hm5 := Aside0.mk hm1
      clear hm hm1 hm2
      have HC := Aside0.mk (fun (hlt' : m < l.length) => add1 l A c x bl bx m hlt' w wr hn HB.out)
      by_cases hd : x.f0 ≤ noAt l m
      · have hdb : decide (x.f0 ≤ noAt l m) = true := decide_eq_true hd
        have HD := Aside0.mk hd
        clear hd
        rw [hdb] at HC
        clear hdb
        go_wp2_with fail
        rw [hm4.out]
        refine (HC.out (by have := hm5.out; omega)).mono ?_
        rintro e w1 ⟨rfl, hb⟩
        have HB1 := Aside0.mk (HB.out.below hb)
        clear hb HC
        go_wp2
        go_roundw
        case measure => have := hm5.out; simp [intOf]; omega
        case rel => exact ⟨lo, m, rfl, by go_num, by have := hm5.out; omega, by have := hm5.out; omega, HB1, ⟨HI.out.1, fun j hj hl => by
            rcases Nat.eq_or_lt_of_le hj with h2 | h2
            · subst h2; exact HD.out
            · have := HS.out m j h2 hl; have := HD.out; omega⟩⟩
      · have hdb : decide (x.f0 ≤ noAt l m) = false := decide_eq_false hd
        have HD := Aside0.mk hd
        clear hd
        rw [hdb] at HC
        clear hdb
        go_wp2_with fail
        rw [hm4.out]
        refine (HC.out (by have := hm5.out; omega)).mono ?_
        rintro e w1 ⟨rfl, hb⟩
        have HB1 := Aside0.mk (HB.out.below hb)
        clear hb HC
        go_wp2
        go_roundw
        case measure => have hmn := hm5.out; have hw := wr_in (x := (m : Int) + 1) (by omega); rw [hw]; simp [intOf]; omega
        case rel => exact ⟨m + 1, hi, by rw [wr_in (x := (m : Int) + 1) (by have := hm5.out; omega)]; exact congrArg (Value.int .i64) (by omega), rfl, by have := hm5.out; omega, hhn, HB1, ⟨fun j hj => by
            have h1 := HD.out
            rcases Nat.lt_or_ge j m with h2 | h2
            · have := HS.out j m h2 (by have := hm5.out; omega); omega
            · obtain rfl : j = m := by omega
              omega, HI.out.2⟩⟩
    · obtain rfl : lo = hi := by omega
      have hp := posV_eq l x.f0 lo hhn HI.out.1 (fun h => HI.out.2 lo (Nat.le_refl _) h)
      rw [hpos.out] at hp
      subst hp
      have hB := Aside0.mk HB.out.2.2.2
      clear HB HI
      go_wp2
      go_ret
      exact ⟨rfl, hB.out⟩
end Go.Proofs.YtebfcckaicgcfaaDoor.Q
