/- The plain statement that is left of the law JournalRoom. -/
import Derived.Test.YtljmdkeeppikhaaOpn
import Derived.Test.YtljmdkeeppikhaaRows
import Derived.Test.YtljmdkeeppikhaaQ0
import Derived.Test.YtljmdkeeppikhaaQ9

namespace Go.Proofs.Ytljmdkeeppikhaa.Opn
open Go.Proofs.YtljmdkeeppikhaaW.PrintWords Go.ChangeShapes Go.WideShapes Go.Proofs.Ytljmdkeeppikhaa
set_option linter.unusedVariables false

theorem bulk_one {H : Type} (d : DataW H) : 1 ≤ Rows.uptoBulk d := by
  cases d with
  | lit l => cases l <;> simp [Rows.uptoBulk]
  | nil => simp [Rows.uptoBulk]
  | ptr d => simp [Rows.uptoBulk]
  | slice elems spare => simp [Rows.uptoBulk]
  | agg parts => simp [Rows.uptoBulk]
  | iface t d => simp [Rows.uptoBulk]
  | map entries => simp [Rows.uptoBulk]
  | held h => simp [Rows.uptoBulk]
theorem bulk_append {H : Type} (l r : List (DataW H)) : Rows.uptoBulkAll (l ++ r) = Rows.uptoBulkAll l + Rows.uptoBulkAll r := by
  induction l with
  | nil => simp [Rows.uptoBulkAll]
  | cons x l ih => simp only [List.cons_append, Rows.uptoBulkAll, ih]; omega
def OpnM {α : Type} (P : Program) (t : TypeId) (d : Kd α) (B : α → Prop) (m : α → Nat) : Prop :=
  ∀ (H : Type) (enc : TypeId × Value → H) (W : World) (fuel : Nat) (cs : List Value) (x : DataW H × List MemPlace),
    DataW.trod enc P W 0 (fun _ => true) true fuel t cs = some x → (∀ n ∈ x.1.weights P t, n ≤ 140737488351232) → ∃ a : α, d.K W a cs ∧ B a ∧ m a ≤ Rows.uptoBulk x.1

section
variable {P : Program} {t e : TypeId}
theorem opnM_one {α : Type} {d : Kd α} {B : α → Prop} (h : Opn P t d B) : OpnM P t d B (fun _ => 1) := by
  intro H enc W fuel cs x hx hw
  obtain ⟨a, ha, hb⟩ := h H enc W fuel cs x hx hw
  exact ⟨a, ha, hb, bulk_one _⟩

theorem sum_bulk {α H : Type} (m : α → Nat) (D : Nat → DataW H) (l : List α) (h : ∀ i x, l[i]? = some x → m x ≤ Rows.uptoBulk (D i)) : (l.map m).sum ≤ Rows.uptoBulkAll ((List.range l.length).map D) := by
  have key : ∀ n, n ≤ l.length → ((l.take n).map m).sum ≤ Rows.uptoBulkAll ((List.range n).map D) := by
    intro n
    induction n with
    | zero => intro _; simp [Rows.uptoBulkAll]
    | succ n ih =>
      intro hn
      have h1 := ih (by omega)
      have h2 := h n (l[n]'(by omega)) (List.getElem?_eq_getElem (by omega))
      rw [List.take_succ_eq_append_getElem (by omega), List.range_succ, List.map_append, List.map_append, bulk_append, List.sum_append]
      simp only [List.map_cons, List.map_nil, List.sum_cons, List.sum_nil, Rows.uptoBulkAll]
      omega
  have := key l.length (Nat.le_refl _)
  rwa [List.take_length] at this

theorem opnM_slice {α : Type} {d : Kd α} {B : α → Prop} {m0 : α → Nat} {sz by_ : Nat} (hu : P.underlying t = some (.slice e)) (hc : P.cellsOf e = sz) (hs : d.sz = sz) (hby : P.bytesOf e = by_) (he : OpnM P e d B m0) :
    OpnM P t (Kd.slice e d) (fun l => l.length * by_ ≤ 140737488351232 ∧ ∀ a, a ∈ l → B a) (fun l => (l.map m0).sum + 1) := by
  intro H enc W fuel cs x h hw
  rcases Deep.open_slice hu h with ⟨rfl, rfl⟩ | ⟨a, len, cap, m, n, D, Pl, rfl, hb, hl, hm, hmm, rfl, hx⟩
  · exact ⟨[], ⟨none, 0, rfl, Nat.le_refl _, Kd.C_nil d W⟩, ⟨by simp, by simp⟩, bulk_one _⟩
  · have hmc : m = cap := by simpa using hmm
    subst hmc
    have hw1 : len * by_ ≤ 140737488351232 := by
      have z := hw ((len + (m - len)) * P.bytesOf e) (by simp [DataW.weights, hu])
      rw [hby] at z
      exact Nat.le_trans (Nat.mul_le_mul_right _ (Nat.le_add_right _ _)) z
    obtain ⟨l, hll, hlp⟩ := list_lt (α := α) len (p := fun i x => ∃ c, W.cells? 0 (a.add (i * P.cellsOf e)) (P.cellsOf e) = some c ∧ d.K W x c ∧ B x ∧ m0 x ≤ Rows.uptoBulk (D i)) (fun i hi => by
      obtain ⟨c, h1, h2⟩ := hx i (by omega)
      obtain ⟨y, hy1, hy2, hy3⟩ := he H enc W n c _ h2 (fun q hq => by
        refine hw q ?_
        simp only [DataW.weights, hu, List.mem_cons, List.mem_append]
        refine .inr (.inl (weights_all (List.mem_map.2 ⟨i, List.mem_range.2 hi, rfl⟩) q hq)))
      exact ⟨y, c, h1, hy1, hy2, hy3⟩)
    unfold maxLen at hm
    refine ⟨l, ⟨some a, m, by rw [hll], by omega, rfl, by omega, fun _ => ⟨a, rfl, fun j p hj => ?_⟩⟩, ⟨by rw [hll]; exact hw1, fun y hy => ?_⟩, ?_⟩
    · obtain ⟨c, h1, h2, _⟩ := hlp j p hj
      obtain ⟨_, h4, h5⟩ := World.cells?_some h1
      refine ⟨c, by rw [h4, hc, hs], h2, fun i u hu' => ?_⟩
      have hi : i < c.length := (List.getElem?_eq_some_iff.1 hu').1
      have h6 := h5 i (by omega)
      rw [Deep.add_add, hc, ← hs] at h6
      rw [h6]
      exact hu'
    · obtain ⟨i, hi⟩ := List.getElem?_of_mem hy
      obtain ⟨_, _, _, h3, _⟩ := hlp i y hi
      exact h3
    · have h1 := sum_bulk m0 D l (fun i x hi => (hlp i x hi).choose_spec.2.2.2)
      rw [hll] at h1
      simp only [Rows.uptoBulk]
      omega

def OpnFM {α : Type} (P : Program) (fs : List Field) (off : Nat) (d : Kd α) (B : α → Prop) (m : α → Nat) : Prop :=
  ∀ (H : Type) (enc : TypeId × Value → H) (W : World) (n : Nat) (cs : List Value) (xs : List (DataW H × List MemPlace)), cs.length = off + d.sz → xs.length = fs.length →
    (∀ (i : Nat) (f : Field), fs[i]? = some f → DataW.trod enc P W 0 (fun _ => true) true n f.type ((cs.drop f.offset).take (P.cellsOf f.type)) = xs[i]?) →
    (∀ q ∈ DataW.weightsEach P (fs.map (·.type)) (xs.map (·.1)), q ≤ 140737488351232) → ∃ a : α, d.K W a (cs.drop off) ∧ B a ∧ m a ≤ Rows.uptoBulkAll (xs.map (·.1))

theorem opnFM_one {α : Type} {d : Kd α} {B : α → Prop} {m : α → Nat} {f : Field} {off sz : Nat} (ho : f.offset = off) (hc : P.cellsOf f.type = sz) (hs : d.sz = sz) (h : OpnM P f.type d B m) : OpnFM P [f] off d B m := by
  intro H enc W n cs xs hl hx hf hw
  have h1 := hf 0 f rfl
  match xs, hx with
  | [x], _ =>
    simp only [List.getElem?_cons_zero] at h1
    rw [ho, List.take_of_length_le (by simp; omega)] at h1
    obtain ⟨a, ha, hb, hm⟩ := h H enc W n _ x h1 (fun q hq => hw q (by simp only [List.map_cons, DataW.weightsEach, List.mem_append]; exact .inl hq))
    exact ⟨a, ha, hb, by simp only [List.map_cons, List.map_nil, Rows.uptoBulkAll]; omega⟩

theorem opnFM_cons {α β : Type} {d : Kd α} {d2 : Kd β} {B : α → Prop} {B2 : β → Prop} {m : α → Nat} {m2 : β → Nat} {f : Field} {fs : List Field} {off sz : Nat} (ho : f.offset = off) (hc : P.cellsOf f.type = sz) (hs : d.sz = sz) (h : OpnM P f.type d B m) (h2 : OpnFM P fs (off + sz) d2 B2 m2) :
    OpnFM P (f :: fs) off (Kd.pair d d2) (fun a => B a.1 ∧ B2 a.2) (fun a => m a.1 + m2 a.2) := by
  intro H enc W n cs xs hl hx hf hw
  have hl' : cs.length = off + (d.sz + d2.sz) := hl
  match xs, hx with
  | x :: xs, hx =>
    have h1 := hf 0 f rfl
    simp only [List.getElem?_cons_zero] at h1
    rw [ho] at h1
    obtain ⟨a, ha, hb, hm⟩ := h H enc W n _ x h1 (fun q hq => hw q (by simp only [List.map_cons, DataW.weightsEach, List.mem_append]; exact .inl hq))
    obtain ⟨b, hb1, hb2, hm2⟩ := h2 H enc W n cs xs (by omega) (by simpa using hx) (fun i f' hf' => by
      have := hf (i + 1) f' (by simpa using hf')
      simpa using this) (fun q hq => hw q (by simp only [List.map_cons, DataW.weightsEach, List.mem_append]; exact .inr hq))
    refine ⟨(a, b), ⟨_, _, ?_, ha, hb1⟩, ⟨hb, hb2⟩, by simp only [List.map_cons, Rows.uptoBulkAll]; omega⟩
    rw [hc, ← List.drop_drop]
    exact (List.take_append_drop sz (cs.drop off)).symm

theorem opnM_struct {α : Type} {d : Kd α} {B : α → Prop} {m : α → Nat} {fs : Array Field} {sz : Nat} (hu : P.underlying t = some (.struct fs)) (hc : P.cellsOf t = sz) (hs : d.sz = sz) (h : OpnFM P fs.toList 0 d B m) : OpnM P t d B m := by
  intro H enc W fuel cs x hx hw
  obtain ⟨xs, n, _, rfl, h1, h2, h3⟩ := DataW.trod_struct hu hx
  obtain ⟨a, ha, hb, hm⟩ := h H enc W n cs xs (by omega) (by simpa using h2) (fun i f hf => h3 i f (by simpa using hf)) (fun q hq => hw q (by simpa [DataW.weights, hu] using hq))
  exact ⟨a, by simpa using ha, hb, by simp only [Rows.uptoBulk]; omega⟩

theorem opnM_iso {α β : Type} {d : Kd α} {B : α → Prop} {m : α → Nat} {f : β → α} (g : α → β) (hg : ∀ a, f (g a) = a) (h : OpnM P t d B m) : OpnM P t (Kd.iso d f) (fun b => B (f b)) (fun b => m (f b)) := by
  intro H enc W fuel cs x hx hw
  obtain ⟨a, ha, hb, hm⟩ := h H enc W fuel cs x hx hw
  exact ⟨g a, by show d.K W (f (g a)) cs; rw [hg]; exact ha, by show B (f (g a)); rw [hg]; exact hb, by show m (f (g a)) ≤ _; rw [hg]; exact hm⟩

theorem argM {α : Type} {d : Kd α} {B : α → Prop} {m : α → Nat} {H : Type} {enc : TypeId × Value → H} {W : World} {ts : List TypeId} {ds : List (DataW H)} {j : Nat} {v : Value} {dd : DataW H} {ps : List MemPlace} (ho : OpnM P t d B m)
    (hsz : (DataW.weightsEach P ts ds).all (· ≤ reachBytes) = true) (ht : ts[j]? = some t) (hd : ds[j]? = some dd) (h : DataW.Trod enc P W 0 (fun _ => true) true t v dd ps) : ∃ a : α, d.K W a v.cells.toList ∧ B a ∧ m a ≤ Rows.uptoBulk dd := by
  obtain ⟨fuel, hf⟩ := h
  refine ho H enc W fuel _ _ hf (fun n hn => ?_)
  have := List.all_eq_true.1 hsz _ (DataW.weights_mem_each ht hd n hn)
  exact of_decide_eq_true this
end
end Go.Proofs.Ytljmdkeeppikhaa.Opn

namespace Go.Proofs.Ytljmdkeeppikhaa.Q
open Go.RowKit Go.Proofs.Ytljmdkeeppikhaa.Opn Go.Proofs.YtljmdkeeppikhaaW.PrintWords Go.Proofs.YtljmdkeeppikhaaW.PrintLast
set_option maxRecDepth 100000
def B29 (x : S29) : Prop := (fun l_ : List (List Int) => l_.length * 24 ≤ 140737488351232 ∧ ∀ a, a ∈ l_ → (fun l_ : List Int => l_.length * 1 ≤ 140737488351232 ∧ ∀ a, a ∈ l_ → (fun a_ : Int => (Lit.int .u8 a_).wf = true) a) a) x.f0 ∧ (fun a_ : Int => (Lit.int .i64 a_).wf = true) x.f1 ∧ (fun a_ : Int => (Lit.int .i64 a_).wf = true) x.f2
theorem opn29 : Opn Try.prog 29 k29 B29 := opn_iso (fun a => ⟨a.1, a.2.1, a.2.2⟩) (fun _ => rfl) (opn_struct (sz := 3) Try.underlying29 (by kernel_rfl) rfl (opnF_cons (sz := 1) rfl (by kernel_rfl) rfl (opn_slice (sz := 1) Try.underlying22 (by kernel_rfl) rfl (by kernel_rfl) (opn_slice (sz := 1) Try.underlying35 (by kernel_rfl) rfl (by kernel_rfl) (opn_int Try.underlying5))) (opnF_cons (sz := 1) rfl (by kernel_rfl) rfl (opn_int Try.underlying3) (opnF_one (sz := 1) rfl (by kernel_rfl) rfl (opn_int Try.underlying3)))))

end Go.Proofs.Ytljmdkeeppikhaa.Q

namespace Go.Proofs.Ytljmdkeeppikhaa.Q
open Go.RowKit Go.Proofs.Ytljmdkeeppikhaa.Opn Go.Proofs.YtljmdkeeppikhaaW.PrintWords Go.Proofs.YtljmdkeeppikhaaW.PrintLast
set_option maxRecDepth 100000
def m29 (x : S29) : Nat := ((fun l_ => (l_.map (fun l_ => (l_.map (fun _ => 1)).sum + 1)).sum + 1) x.f0) + (((fun _ => 1) x.f1) + (((fun _ => 1) x.f2)))
theorem opnM29 : OpnM Try.prog 29 k29 B29 m29 := opnM_iso (fun a => ⟨a.1, a.2.1, a.2.2⟩) (fun _ => rfl) (opnM_struct (sz := 3) Try.underlying29 (by kernel_rfl) rfl (opnFM_cons (sz := 1) rfl (by kernel_rfl) rfl (opnM_slice (sz := 1) Try.underlying22 (by kernel_rfl) rfl (by kernel_rfl) (opnM_slice (sz := 1) Try.underlying35 (by kernel_rfl) rfl (by kernel_rfl) (opnM_one (opn_int Try.underlying5)))) (opnFM_cons (sz := 1) rfl (by kernel_rfl) rfl (opnM_one (opn_int Try.underlying3)) (opnFM_one (sz := 1) rfl (by kernel_rfl) rfl (opnM_one (opn_int Try.underlying3))))))
end Go.Proofs.Ytljmdkeeppikhaa.Q

namespace Go.Proofs.Ytljmdkeeppikhaa.Q
open Go.RowKit Go.Proofs.YtljmdkeeppikhaaW.PrintWords Go.Proofs.YtljmdkeeppikhaaW.PrintLast
def fastilaw05_JournalRoom.PureU : Prop := ∀ (x0 : S29) (l1 : List Int), B29 x0 → (fun l_ : List Int => l_.length * 1 ≤ 140737488351232 ∧ ∀ a, a ∈ l_ → (fun a_ : Int => (Lit.int .u8 a_).wf = true) a) l1 → m29 x0 + (fun l_ => (l_.map (fun _ => 1)).sum + 1) l1 ≤ 1048576 → ∃ k, fastilaw05_JournalRoom.f k x0.f0 x0.f1 x0.f2 l1 = some true
end Go.Proofs.Ytljmdkeeppikhaa.Q
