/- By hand: the package's table (block 0), which every function of the package facts finds as it was laid. -/
import Derived.Test.YtebfcckaicgcfaaDoorAidC
namespace Go.Proofs.YtebfcckaicgcfaaDoor.Q
open Go.RowKit Go.Proofs.YtebfcckaicgcfaaDoorW.PrintWords Go.Proofs.YtebfcckaicgcfaaDoorW.PrintLast Go.Proofs.YtebfcckaicgcfaaDoorW.PrintMore
set_option linter.unusedVariables false

/-- The table's numbers. -/
def rowsL : List Int := [0, 0, 0, 0, 0, 0, 0, 0, 0, 1023, 0, 0, 0, 99, 0, 99, 0, 0, 63, 73048, 1, 512, 0, 0, 63, 0, 0, 73048, 1, 512, 0, 0, 0, 0, 0, 73048, 1, 512, 0, 1440, 63, 0, 0, 73048, 0, 0, 0, 0, 0, 1023, 0, 0, 0, 73048, 0, 15]
/-- The table lies as it was laid. -/
def RowsAt (w : World) : Prop := ∀ i v, rowsL[i]? = some v → w.cell? ⟨0, i, none⟩ = some (.int .i64 v)
theorem RowsAt.pos {w : World} (h : RowsAt w) : 0 < w.heap.size := by
  have h0 := h 0 0 rfl
  rcases Nat.lt_or_ge 0 w.heap.size with h1 | h1
  · exact h1
  · exfalso
    simp [World.cell?, Array.getElem?_eq_none h1] at h0
theorem RowsAt.below {n : Nat} {w W : World} (h : RowsAt w) (hb : Below n w W) (hn : 0 < n) : RowsAt W := fun i v hi => by
  have h1 := h i v hi
  unfold World.cell? at h1 ⊢
  rw [hb.block 0 hn]
  exact h1
theorem rwB {w W V : World} (h : Aside0 (RowsAt w)) (HB : Aside0 (Below w.heap.size w W)) (k : Below w.heap.size w W → Below w.heap.size w V := by intro HB_; repeat (first | (with_reducible first | exact HB_ | apply below_alloc | apply pw_below_drewN | apply below_drew1 | refine below_set ?_ (Aside0.out (by assumption))) | exact HB_)) : RowsAt V :=
  h.out.below (k HB.out) h.out.pos

/-- A kind's row. -/
def api_Fact.f (k : Int) : Option (Int × Int × Int × Int × Int × Int × Int × Int) :=
  if 0 ≤ k ∧ k < 7 then some (rowsL.getD (k.toNat * 8) 0, rowsL.getD (k.toNat * 8 + 1) 0, rowsL.getD (k.toNat * 8 + 2) 0, rowsL.getD (k.toNat * 8 + 3) 0, rowsL.getD (k.toNat * 8 + 4) 0, rowsL.getD (k.toNat * 8 + 5) 0, rowsL.getD (k.toNat * 8 + 6) 0, rowsL.getD (k.toNat * 8 + 7) 0) else none
theorem row_bound {k : Int} {r : Int × Int × Int × Int × Int × Int × Int × Int} (h : api_Fact.f k = some r) : 0 ≤ k ∧ k < 7 := by
  unfold api_Fact.f at h
  split at h
  · assumption
  · cases h
theorem RowsAt.at' {w : World} (h : RowsAt w) (i : Nat) (hi : i < 56) : w.cell? ⟨0, i, none⟩ = some (.int .i64 (rowsL.getD i 0)) := by
  have hl : i < rowsL.length := hi
  refine h i _ ?_
  rw [List.getElem?_eq_getElem hl, List.getD_eq_getElem?_getD, List.getElem?_eq_getElem hl]
  rfl
theorem row_cells {k r1 r2 r3 r4 r5 r6 r7 r8 : Int} (h : api_Fact.f k = some (r1, r2, r3, r4, r5, r6, r7, r8)) {w : World} (hr : RowsAt w) :
    w.cell? ⟨0, k.toNat * 8, none⟩ = some (.int .i64 r1) ∧ w.cell? ⟨0, k.toNat * 8 + 1, none⟩ = some (.int .i64 r2) ∧ w.cell? ⟨0, k.toNat * 8 + 2, none⟩ = some (.int .i64 r3) ∧ w.cell? ⟨0, k.toNat * 8 + 3, none⟩ = some (.int .i64 r4) ∧
    w.cell? ⟨0, k.toNat * 8 + 4, none⟩ = some (.int .i64 r5) ∧ w.cell? ⟨0, k.toNat * 8 + 5, none⟩ = some (.int .i64 r6) ∧ w.cell? ⟨0, k.toNat * 8 + 6, none⟩ = some (.int .i64 r7) ∧ w.cell? ⟨0, k.toNat * 8 + 7, none⟩ = some (.int .i64 r8) := by
  obtain ⟨h0, h7⟩ := row_bound h
  unfold api_Fact.f at h
  rw [if_pos ⟨h0, h7⟩] at h
  simp only [Option.some.injEq, Prod.mk.injEq] at h
  obtain ⟨rfl, rfl, rfl, rfl, rfl, rfl, rfl, rfl⟩ := h
  exact ⟨hr.at' _ (by omega), hr.at' _ (by omega), hr.at' _ (by omega), hr.at' _ (by omega), hr.at' _ (by omega), hr.at' _ (by omega), hr.at' _ (by omega), hr.at' _ (by omega)⟩
end Go.Proofs.YtebfcckaicgcfaaDoor.Q
