/- By hand: from the row's condition on the package's table to its cells. -/
import Derived.Test.YtebfcckaicgcfaaDoorFRw
import Derived.Test.YtebfcckaicgcfaaDoorRows
import Derived.ProofKit
import Derived.LaidMore
import Derived.OpenShut
import Derived.Stop.Joined
namespace Go.Proofs.YtebfcckaicgcfaaDoor.Q
open Go.ChangeShapes Go.WideShapes Go.ChangeAt Go.RowKit Go.Proofs.YtebfcckaicgcfaaDoorW.PrintWords Go.Proofs.YtebfcckaicgcfaaDoorW.PrintLast Go.Proofs.YtebfcckaicgcfaaDoorW.PrintMore
set_option linter.unusedVariables false

section
variable {H : Type} {enc : TypeId × Value → H} {W : World} {base : Nat} {sp : Nat → Bool} {held : Bool} {m : Nat}
theorem la_int {c : Value} {x : DataW H × List MemPlace} (h : DataW.trod enc Tryd.prog W base sp held m 3 [c] = some x) {k : Int} (e : x.1 = .lit (.int .i64 k)) : c = .int .i64 k := by
  obtain ⟨n, e1, e2, _⟩ := DataW.trod_int Tryd.underlying3 h
  rw [e2] at e
  simp only [DataW.lit.injEq, Lit.int.injEq, true_and] at e
  rw [List.cons.injEq] at e1
  rw [e1.1, e]
theorem la_pair {c0 c1 : Value} {x : DataW H × List MemPlace} (h : DataW.trod enc Tryd.prog W base sp held m 61 [c0, c1] = some x) {a b : Int} (e : x.1 = .agg [.lit (.int .i64 a), .lit (.int .i64 b)]) : c0 = .int .i64 a ∧ c1 = .int .i64 b := by
  have hz : Tryd.prog.cellsOf 3 = 1 := by kernel_rfl
  obtain ⟨xs, n, rfl, rfl, _, hl, hx⟩ := DataW.trod_array Tryd.underlying61 h
  match xs, hl, hx, e with
  | [x0, x1], _, hx, e =>
    simp only [List.map_cons, List.map_nil, DataW.agg.injEq, List.cons.injEq, and_true] at e
    have h0 := hx 0 (by omega)
    have h1 := hx 1 (by omega)
    rw [hz] at h0 h1
    exact ⟨la_int h0 e.1, la_int h1 e.2⟩
theorem la_row {cs : List Value} {x : DataW H × List MemPlace} (h : DataW.trod enc Tryd.prog W base sp held m 63 cs = some x) {a b c d e0 e1 f0 f1 : Int}
    (e : x.1 = .agg [.lit (.int .i64 a), .lit (.int .i64 b), .lit (.int .i64 c), .lit (.int .i64 d), .agg [.lit (.int .i64 e0), .lit (.int .i64 e1)], .agg [.lit (.int .i64 f0), .lit (.int .i64 f1)]]) :
    cs = [a, b, c, d, e0, e1, f0, f1].map (Value.int .i64) := by
  have hz : Tryd.prog.cellsOf 3 = 1 := by kernel_rfl
  have hz2 : Tryd.prog.cellsOf 61 = 2 := by kernel_rfl
  have hz8 : Tryd.prog.cellsOf 63 = 8 := by kernel_rfl
  obtain ⟨xs, n, rfl, rfl, hc, hl, hx⟩ := DataW.trod_struct Tryd.underlying63 h
  rw [hz8] at hc
  match cs, hc, xs, hl, hx, e with
  | [c0, c1, c2, c3, c4, c5, c6, c7], _, [x0, x1, x2, x3, x4, x5], _, hx, e =>
    simp only [List.map_cons, List.map_nil, DataW.agg.injEq, List.cons.injEq, and_true] at e
    have h0 : DataW.trod enc Tryd.prog W base sp held n 3 (([c0, c1, c2, c3, c4, c5, c6, c7].drop 0).take (Tryd.prog.cellsOf 3)) = some x0 := hx 0 _ rfl
    have h1 : DataW.trod enc Tryd.prog W base sp held n 3 (([c0, c1, c2, c3, c4, c5, c6, c7].drop 1).take (Tryd.prog.cellsOf 3)) = some x1 := hx 1 _ rfl
    have h2 : DataW.trod enc Tryd.prog W base sp held n 3 (([c0, c1, c2, c3, c4, c5, c6, c7].drop 2).take (Tryd.prog.cellsOf 3)) = some x2 := hx 2 _ rfl
    have h3 : DataW.trod enc Tryd.prog W base sp held n 3 (([c0, c1, c2, c3, c4, c5, c6, c7].drop 3).take (Tryd.prog.cellsOf 3)) = some x3 := hx 3 _ rfl
    have h4 : DataW.trod enc Tryd.prog W base sp held n 61 (([c0, c1, c2, c3, c4, c5, c6, c7].drop 4).take (Tryd.prog.cellsOf 61)) = some x4 := hx 4 _ rfl
    have h5 : DataW.trod enc Tryd.prog W base sp held n 61 (([c0, c1, c2, c3, c4, c5, c6, c7].drop 6).take (Tryd.prog.cellsOf 61)) = some x5 := hx 5 _ rfl
    rw [hz] at h0 h1 h2 h3
    rw [hz2] at h4 h5
    obtain ⟨p0, p1⟩ := la_pair h4 e.2.2.2.2.1
    obtain ⟨p2, p3⟩ := la_pair h5 e.2.2.2.2.2
    rw [la_int h0 e.1, la_int h1 e.2.1, la_int h2 e.2.2.1, la_int h3 e.2.2.2.1, p0, p1, p2, p3]
    rfl
end
theorem gRows : Tryd.prog.globalNamed "fasti/facts.rows" = some 0 := by kernel_rfl
theorem tRows : (Tryd.prog.globals[0]?).map (·.type) = some 64 := by kernel_rfl
abbrev laidL : List (String × DataW Unit) := [("fasti/facts.rows", Rows.laid_fasti_facts_rows)]
theorem rows_of_laid {W : World} (h : laidMetH Tryd.prog laidL W) : RowsAt W := by
  rw [MakeChecks.laidMetH_plain _ _ _ (by kernel_rfl)] at h
  obtain ⟨ps, ⟨g0, t0, cs0, f0, p0, q0, hg0, ht0, hv0, hd0, _, _⟩, _, _⟩ := h
  obtain rfl := Option.some.inj (gRows.symm.trans hg0)
  obtain rfl := Option.some.inj (tRows.symm.trans ht0)
  have hz8 : Tryd.prog.cellsOf 63 = 8 := by kernel_rfl
  have hz56 : Tryd.prog.cellsOf 64 = 56 := by kernel_rfl
  obtain ⟨xs, n, rfl, e, hc, hl, hx⟩ := DataW.trod_array Tryd.underlying64 hd0
  simp only [Prod.mk.injEq] at e
  have e1 := e.1
  clear e hd0
  rw [hz8] at hx
  rw [hz56] at hc
  match xs, hl, hx, e1 with
  | [x0, x1, x2, x3, x4, x5, x6], _, hx, e1 =>
    unfold Rows.laid_fasti_facts_rows at e1
    simp only [List.map_cons, List.map_nil, DataW.agg.injEq, List.cons.injEq, and_true] at e1
    have r0 := la_row (hx 0 (by omega)) e1.1.symm
    have r1 := la_row (hx 1 (by omega)) e1.2.1.symm
    have r2 := la_row (hx 2 (by omega)) e1.2.2.1.symm
    have r3 := la_row (hx 3 (by omega)) e1.2.2.2.1.symm
    have r4 := la_row (hx 4 (by omega)) e1.2.2.2.2.1.symm
    have r5 := la_row (hx 5 (by omega)) e1.2.2.2.2.2.1.symm
    have r6 := la_row (hx 6 (by omega)) e1.2.2.2.2.2.2.symm
    have hrow : ∀ i, i < 7 → (cs0.toList.drop (i * 8)).take 8 = ((rowsL.drop (i * 8)).take 8).map (Value.int .i64) := by
      intro i hi
      match i, hi with
      | 0, _ => exact r0
      | 1, _ => exact r1
      | 2, _ => exact r2
      | 3, _ => exact r3
      | 4, _ => exact r4
      | 5, _ => exact r5
      | 6, _ => exact r6
    intro i v hi
    have hlt : i < 56 := (List.getElem?_eq_some_iff.1 hi).1
    have h1 := hrow (i / 8) (by omega)
    have h2 := congrArg (fun l => l[i % 8]?) h1
    have hm : i % 8 < 8 := Nat.mod_lt _ (by omega)
    simp only [List.getElem?_take, hm, if_true, List.getElem?_drop, List.getElem?_map] at h2
    rw [show i / 8 * 8 + i % 8 = i by omega, hi] at h2
    have h3 := World.var?_cell gRows hv0 i
    rw [h3, ← Array.getElem?_toList, h2]
    rfl
end Go.Proofs.YtebfcckaicgcfaaDoor.Q
