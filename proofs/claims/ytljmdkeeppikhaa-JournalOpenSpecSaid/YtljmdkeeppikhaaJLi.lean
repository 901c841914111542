/- A constant row of two bytes, converted to its own type: what the statements' sane lays (told to the driver as a call of a function that nothing else calls). -/
import Derived.Test.YtljmdkeeppikhaaDWr
import Derived.Lib.SlBytesConst
namespace Go.Proofs.Ytljmdkeeppikhaa.Q
open Go.RowKit Go.Proofs.YtljmdkeeppikhaaW.PrintWords Go.Proofs.YtljmdkeeppikhaaW.PrintLast Go.Proofs.YtljmdkeeppikhaaW.PrintMore
set_option linter.unusedVariables false

def slices_Repeat_byte_byte.f : Option (List Int) := some [97, 98]
theorem mark_F {W : World} {g : Nat} {cs : Array Value} {k : IntKind} {t : TypeId} {fr : Nat × Nat} (l : List Int) (hb : W.heap[g]? = some (.cells cs t fr)) (hl : l.length ≤ 9223372036854775807) (hc : ∀ (j : Nat) (p : Int), l[j]? = some p → cs[j]? = some (Value.int k p)) : Kd.F (Kd.int k) W (fun i => i = g) (some ⟨g, 0, none⟩) l.length l := fun W' hW => by
  have hb' : W'.heap[g]? = some (.cells cs t fr) := (hW g rfl (Array.getElem?_eq_some_iff.1 hb).1).trans hb
  refine ⟨rfl, hl, fun _ => ⟨⟨g, 0, none⟩, rfl, fun j p hj => ⟨[.int k p], rfl, rfl, fun i u hu => ?_⟩⟩⟩
  rcases i with _ | i
  · simp only [List.getElem?_cons_zero, Option.some.injEq] at hu
    subst hu
    rw [Nat.add_zero, show (Kd.int k).sz = 1 from rfl, Nat.mul_one, Addr.add_lit, Nat.zero_add]
    simp only [World.cell?, hb']
    exact hc j p hj
  · simp at hu
section
variable {P : Program} {ops : Array Oper} {rest : List Oper} {o o2 : Oper} {a : Act} {Q : Exit → Act → World → Prop}
theorem lit_conv {W : World} (hgd : o.guard = none) (hgd2 : o2.guard = none)
    (hrun : (execOp a.eval o).run P W = .ok (.value (.slice (some ⟨W.heap.size, 0, none⟩) 2 2)) (W.alloc (.cells #[.int .u8 97, .int .u8 98] 5)))
    (ho2 : o2.op = .convert 35 35 (.tmp 34)) (he : (a.put o.dst (.slice (some ⟨W.heap.size, 0, none⟩) 2 2)).eval (.tmp 34) = .slice (some ⟨W.heap.size, 0, none⟩) 2 2) (hu1 : P.underlying 35 = some (.slice 5)) (hu2 : P.underlying 5 = some (.int .u8))
    {r : List Int} (hr : slices_Repeat_byte_byte.f = some r)
    (h : ∀ v w1, Kd.V (Kd.int .u8) 5 w1 W.heap.size (fun k => W.heap.size ≤ k) v r → Below W.heap.size W w1 → wpList P ops Q rest ((a.put o.dst v).put o2.dst v) w1) : wpList P ops Q (o :: o2 :: rest) a W := by
  obtain rfl := Option.some.inj hr
  have hrun2 : (execOp (a.put o.dst (.slice (some ⟨W.heap.size, 0, none⟩) 2 2)).eval o2).run P (W.alloc (.cells #[.int .u8 97, .int .u8 98] 5)) = .ok (.value (.slice (some ⟨W.heap.size, 0, none⟩) 2 2)) (W.alloc (.cells #[.int .u8 97, .int .u8 98] 5 (2, 3))) := by
    have kc := Lib.run_convert_bytes_const (P := P) W 35 5 #[.int .u8 97, .int .u8 98] 2 2 hu1 hu2
    generalize hev : (a.put o.dst (.slice (some ⟨W.heap.size, 0, none⟩) 2 2)).eval = ev at he
    unfold execOp
    rw [ho2]
    show ((do let x ← convert 35 35 (ev (.tmp 34)); pure (Next.value x) : Sem Next)).run P _ = _
    rw [he]
    simp [kc, go_sem]
  refine Kd.event_run hgd hrun (Kd.event_run hgd2 hrun2 (h _ _ ?_ (below_alloc (Below.refl _ _) _)))
  have hF : Kd.F (Kd.int .u8) (W.alloc (.cells #[.int .u8 97, .int .u8 98] 5 (2, 3))) (fun i => i = W.heap.size) (some ⟨W.heap.size, 0, none⟩) ([97, 98] : List Int).length [97, 98] :=
    mark_F [97, 98] (heap_alloc_new W _) (by decide) (fun j p hj => by
      rcases j with _ | _ | j
      · simp at hj; subst hj; rfl
      · simp at hj; subst hj; rfl
      · simp at hj)
  exact Kd.V_mono (Kd.V_mk (c := 2) (by decide) hF) (fun k hk => Nat.le_of_eq hk.symm)
end
end Go.Proofs.Ytljmdkeeppikhaa.Q
