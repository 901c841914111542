/- By hand: what disk.perform computes. -/
import Derived.Test.YtljmdkeeppikhaaDCl
namespace Go.Proofs.Ytljmdkeeppikhaa.Q
open Go.RowKit Go.Proofs.YtljmdkeeppikhaaW.PrintWords Go.Proofs.YtljmdkeeppikhaaW.PrintLast Go.Proofs.YtljmdkeeppikhaaW.PrintMore
attribute [local go_sem] max2_int min2_int max_two min_two
set_option linter.unusedVariables false
set_option linter.unusedSimpArgs false

/-- A row of the call's own that is not empty has a block. -/
theorem N_own {α : Type} {d : Kd α} {e : Nat} {w : World} {base : Nat} {ok : Nat → Prop} {v : Value} {xs : List α} (h : Kd.N d e w base ok v xs) (h0 : 0 < xs.length) : ∃ g cap, v = .slice (some ⟨g, 0, none⟩) xs.length cap ∧ base ≤ g ∧ g < w.heap.size ∧ ok g := by
  have hb := Kd.N_base h
  have hlt := Kd.N_lt h
  obtain ⟨hok, rows, hl, hR, hf⟩ := h
  obtain ⟨inner, ho⟩ := Kd.R_own hR
  rcases ho.2 with ⟨_, h2⟩ | ⟨g, cap, cur, rfl, _⟩
  · rw [hl] at h2; omega
  · rw [hl] at hb hlt hok ⊢
    exact ⟨g, cap, rfl, hb g (by simp [Value.ownBlock]), hlt g (by simp [Value.ownBlock]), hok g (by simp [Value.ownBlock])⟩

theorem below_setCell {n : Nat} {w W : World} (h : Below n w W) {b : Nat} (hb : n ≤ b) (o : Nat) (v : Value) : Below n w (W.setCell ⟨b, o, none⟩ v) :=
  ⟨h.os, h.tape, h.output, by have := h.size; simpa [World.setCell] using this, fun j hj => (Below.heap_setCell W ⟨b, o, none⟩ v j (by show j ≠ b; omega)).trans (h.block j hj)⟩
theorem N_blk {α : Type} {d : Kd α} {e : Nat} {w : World} {base : Nat} {ok : Nat → Prop} {g n cap : Nat} {xs : List α} (h : Kd.N d e w base ok (.slice (some ⟨g, 0, none⟩) n cap) xs) : ∃ cur, w.heap[g]? = some (.cells cur e (0, 0)) ∧ n * d.sz ≤ cur.size := by
  obtain ⟨hok, rows, hl, hR, hf⟩ := h
  obtain ⟨inner, ho⟩ := Kd.R_own hR
  rcases ho.2 with ⟨h1, _⟩ | ⟨g', cap', cur, h1, _, hh, h2, _, h3, _⟩
  · cases h1
  · injection h1 with h1 h4 h5
    injection h1 with h1
    injection h1 with h1
    subst h1
    refine ⟨cur, hh, ?_⟩
    rw [h3, h4]
    exact Nat.mul_le_mul_right _ h2
/-- An element of one cell is written. -/
theorem N_set1 {α : Type} {d : Kd (List α)} {e : Nat} {w : World} {base : Nat} {ok okp : Nat → Prop} {g n cap : Nat} {xs : List (List α)} (h : Kd.N d e w base ok (.slice (some ⟨g, 0, none⟩) n cap) xs) (i : Int) (h0 : 0 ≤ i) (h1 : i < n) (x : List α) {old : Value} (v : Value)
    (hold : w.cell? ⟨g, i.toNat, none⟩ = some old) (hK : Kd.FK d w okp x [v]) (hok : ∀ k, okp k → ok k ∧ k ≠ g) (hsz : d.sz = 1 := by rfl) : Kd.N d e (w.setCell ⟨g, i.toNat, none⟩ v) base ok (.slice (some ⟨g, 0, none⟩) n cap) (xs.set i.toNat x) := by
  have h2 := (Kd.N_seg h i h0 h1 (c := [old]) (seg := [v]) (j := 0) (x' := x) (okp := okp) (by rw [hsz]; rfl) (fun j u hj => ?_) (by rw [hsz]; exact Nat.le_refl 1) hK hok).1
  · rw [hsz, Nat.mul_one, Nat.add_zero] at h2
    exact h2
  · rcases j with _ | j
    · rw [hsz, Nat.mul_one, Nat.add_zero]
      simp only [List.getElem?_cons_zero, Option.some.injEq] at hj
      rw [← hj]
      exact hold
    · simp at hj
/-- The sectors after some writes. -/
def perfV (l : List (List Int)) (ws : List SW) : List (List Int) := ws.foldl (fun s x => s.set x.f0.toNat x.f1) l
theorem perfV_length (ws : List SW) : ∀ l : List (List Int), (perfV l ws).length = l.length := by
  induction ws with
  | nil => intro l; rfl
  | cons a r ih => intro l; show (perfV (l.set _ _) r).length = _; rw [ih, List.length_set]
theorem perfV_take (l : List (List Int)) (ws : List SW) (k : Nat) (hk : k < ws.length) : perfV l (ws.take (k + 1)) = (perfV l (ws.take k)).set (ws.getD k z76).f0.toNat (ws.getD k z76).f1 := by
  unfold perfV
  rw [List.take_succ_eq_append_getElem hk, List.foldl_append]
  simp [List.getD, hk]

set_option maxHeartbeats 4000000 in
set_option maxRecDepth 100000 in
theorem perform_ (l0 : List (List Int)) (l1 : List SW) (A0 A1 : Option Addr) (c0 c1 : Nat) (P : Nat → Prop) (w : World) (h0 : Kd.V kSec 35 w w.heap.size P (.slice A0 l0.length c0) l0) (h1 : Kd.V kW 76 w w.heap.size P (.slice A1 l1.length c1) l1)
    (hn : 0 < l0.length) (hn0 : l0.length ≤ 4096) (hn1 : l1.length ≤ 4096) (hw : ∀ x ∈ l1, 0 ≤ x.f0 ∧ x.f0 < l0.length) :
    Calls Try.prog 54 #[.slice A0 l0.length c0, .slice A1 l1.length c1] w fun e w' => ∃ v', e = .returned v' ∧ Kd.N kSec 35 w' w.heap.size (fun k => P k ∨ w.heap.size ≤ k) v' (perfV l0 l1) ∧ Below w.heap.size w w' := by
  have HC := Aside0.mk (clS l0 A0 c0 P w h0 (by omega))
  have HV := Aside0.mk (Kd.F_bound (Kd.V_F h1))
  have HW := Aside0.mk hw
  clear h0 h1 hw
  go_enter Try.func54, Try.ntmps54
  go_wp2_with fail
  refine HC.out.mono ?_
  rintro e w1 ⟨v', rfl, hN, hb⟩
  have HN := Aside0.mk hN
  have HB := Aside0.mk hb
  obtain ⟨g, cap, rfl, hg1, hg2, _⟩ := N_own hN hn
  clear hN hb HC
  go_wp2
  go_loopw [12] (fun i wr => ∃ k : Nat, k ≤ l1.length ∧ i = .int .i64 k ∧ Aside0 (Kd.N kSec 35 wr w.heap.size (fun k => P k ∨ w.heap.size ≤ k) (.slice (some ⟨g, 0, none⟩) l0.length cap) (perfV l0 (l1.take k))) ∧ Aside0 (Below w.heap.size w wr)) (fun i _ => l1.length - (intOf i).toNat)
  case atStart => exact ⟨0, Nat.zero_le _, rfl, HN, HB⟩
  case round =>
    clear HN HB
    obtain ⟨k, hk, rfl, HN, HB⟩ := hrel
    by_cases hlt : k < l1.length
    · obtain ⟨ad, c, rfl, hcl, hFK, hcc, _⟩ := Kd.F_get (Kd.F_below HV.out HB.out) z76 (k : Int) (by omega) (by omega)
      obtain ⟨Ax, cx, rfl, hxl, hF⟩ := k76_openF hFK
      rw [Int.toNat_natCast] at hcc hxl hF hFK
      have q0 : wr.cell? (ad.add (k * 2)) = some (.int .i64 (l1.getD k z76).f0) := hcc 0 _ rfl
      have q1 : wr.cell? ⟨(ad.add (k * 2)).block, (ad.add (k * 2)).off + 1, none⟩ = some (.slice Ax (l1.getD k z76).f1.length cx) := by
        rw [← add_field _ _ 1 (by omega)]
        exact hcc 1 _ rfl
      have HF := Aside0.mk hF
      clear hcc hFK hF hcl
      have hx := HW.out (l1.getD k z76) (by simp [List.getD, hlt])
      have Hset := Aside0.mk (perfV_take l0 l1 k hlt)
      generalize l1.getD k z76 = x at *
      obtain ⟨cur, hblk, hcs⟩ := N_blk HN.out
      have hal := heap_at_old wr (.cells #[.int .i64 x.f0, .slice Ax x.f1.length cx] 76 (0, 0)) g _ hblk
      obtain ⟨old, hcz⟩ : ∃ old, (wr.alloc (.cells #[.int .i64 x.f0, .slice Ax x.f1.length cx] 76 (0, 0))).cell? ⟨g, x.f0.toNat, none⟩ = some old := ⟨_, (blk_cell hal x.f0.toNat).trans (Array.getElem?_eq_getElem (show x.f0.toNat < cur.size by have e : l0.length * kSec.sz = l0.length := Nat.mul_one _; omega))⟩
      have hfz := blk_frozen hal x.f0.toNat
      have HS := Aside0.mk (N_set1 (Kd.N_alloc HN.out (.cells #[.int .i64 x.f0, .slice Ax x.f1.length cx] 76 (0, 0))) x.f0 hx.1 hx.2 x.f1 (.slice Ax x.f1.length cx) hcz (Kd.FK_slice_mk hxl (Kd.F_alloc HF.out _)) (fun k hk => ⟨.inl hk.1, by have := hk.2; omega⟩))
      rw [← Hset.out] at HS
      have HB2 := Aside0.mk (below_setCell (below_alloc HB.out (.cells #[.int .i64 x.f0, .slice Ax x.f1.length cx] 76 (0, 0))) hg1 x.f0.toNat (.slice Ax x.f1.length cx))
      clear Hset HN HB hblk hal hcs HF hxl
      go_wp2
      go_round
      case rel => exact ⟨k + 1, by omega, by go_num, HS, HB2⟩
      case measure => simp [intOf]; omega
    · go_wp2
      go_ret
      have e := HN.out
      rw [List.take_of_length_le (by omega)] at e
      exact ⟨_, rfl, e, HB.out⟩
end Go.Proofs.Ytljmdkeeppikhaa.Q
