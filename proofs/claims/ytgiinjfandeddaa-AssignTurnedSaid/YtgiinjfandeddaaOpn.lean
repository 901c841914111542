/- From the form's reading of arguments to the words of the printed contracts: whatever reads as data at a type, within the reach, is of the type's kind, with bounds. -/
import Derived.Test.YtgiinjfandeddaaWWords
import Derived.Deep.Slices
import Derived.OpenShut
import Derived.SizedLaws
namespace Go.Proofs.Ytgiinjfandeddaa.Opn
open Go.Proofs.YtgiinjfandeddaaW.PrintWords Go.ChangeShapes Go.WideShapes

theorem okWide_array {P : Program} {w : World} {r : Reach} {base : Nat} {t e : TypeId} {n : Nat} {v : Value} (ht : P.underlying t = some (.array n e)) (h : Value.okWide P w r base t v) : ∃ cs, v = .agg cs ∧ cs.size = P.cellsOf t := by
  simp only [Value.okWide, ht] at h
  obtain ⟨cs, h1, h2, _⟩ := h
  exact ⟨cs, h1, h2⟩

def reachN : Nat := 140737488351232

/-- Whatever reads as data at type t, no part of it beyond the reach, is of kind d, and B holds of it. -/
def Opn {α : Type} (P : Program) (t : TypeId) (d : Kd α) (B : α → Prop) : Prop :=
  ∀ (H : Type) (enc : TypeId × Value → H) (W : World) (fuel : Nat) (cs : List Value) (x : DataW H × List MemPlace),
    DataW.trod enc P W 0 (fun _ => true) true fuel t cs = some x → (∀ n ∈ x.1.weights P t, n ≤ 140737488351232) → ∃ a : α, d.K W a cs ∧ B a

section
variable {P : Program} {t e : TypeId}

theorem opn_int {k : IntKind} (hu : P.underlying t = some (.int k)) : Opn P t (Kd.int k) (fun a => (Lit.int k a).wf = true) := by
  intro H enc W fuel cs x h _
  obtain ⟨n, rfl, _, hw⟩ := DataW.trod_int hu h
  exact ⟨n, rfl, hw⟩

theorem opn_bool (hu : P.underlying t = some .bool) : Opn P t Kd.bool (fun _ => True) := by
  intro H enc W fuel cs x h _
  obtain ⟨b, rfl, _⟩ := DataW.trod_bool hu h
  exact ⟨b, rfl, trivial⟩

theorem opn_string (hu : P.underlying t = some .string) : Opn P t Kd.string (fun s => s.size ≤ 140737488351232) := by
  intro H enc W fuel cs x h hw
  obtain ⟨s, rfl, rfl, _⟩ := DataW.trod_string hu h
  refine ⟨s, rfl, ?_⟩
  have := hw s.data.toList.length (by simp [DataW.weights])
  simpa using this

theorem list_lt {α : Type} (n : Nat) {p : Nat → α → Prop} (h : ∀ i, i < n → ∃ x, p i x) : ∃ l : List α, l.length = n ∧ ∀ i x, l[i]? = some x → p i x := by
  induction n with
  | zero => exact ⟨[], rfl, by simp⟩
  | succ n ih =>
    obtain ⟨l, hl, hp⟩ := ih (fun i hi => h i (Nat.lt_succ_of_lt hi))
    obtain ⟨x, hx⟩ := h n (Nat.lt_succ_self n)
    refine ⟨l ++ [x], by simp [hl], fun i y hy => ?_⟩
    by_cases hi : i < l.length
    · rw [List.getElem?_append_left hi] at hy
      exact hp i y hy
    · rw [List.getElem?_append_right (by omega)] at hy
      have h0 : i - l.length = 0 := by
        have := (List.getElem?_eq_some_iff.1 hy).1
        simp at this
        omega
      rw [h0] at hy
      simp at hy
      subst hy
      rw [show i = n by omega]
      exact hx

theorem weights_all {H : Type} : ∀ {ds : List (DataW H)} {d : DataW H}, d ∈ ds → ∀ n ∈ d.weights P e, n ∈ DataW.weightsAll P e ds
  | d0 :: ds, d, hd, n, hn => by
    simp only [DataW.weightsAll, List.mem_append]
    rcases List.mem_cons.1 hd with rfl | hd
    · exact .inl hn
    · exact .inr (weights_all hd n hn)

theorem opn_slice {α : Type} {d : Kd α} {B : α → Prop} {sz by_ : Nat} (hu : P.underlying t = some (.slice e)) (hc : P.cellsOf e = sz) (hs : d.sz = sz) (hby : P.bytesOf e = by_) (he : Opn P e d B) :
    Opn P t (Kd.slice e d) (fun l => l.length * by_ ≤ 140737488351232 ∧ ∀ a, a ∈ l → B a) := by
  intro H enc W fuel cs x h hw
  rcases Deep.open_slice hu h with ⟨rfl, rfl⟩ | ⟨a, len, cap, m, n, D, Pl, rfl, hb, hl, hm, hmm, rfl, hx⟩
  · exact ⟨[], ⟨none, 0, rfl, Nat.le_refl _, Kd.C_nil d W⟩, by simp, by simp⟩
  · have hmc : m = cap := by simpa using hmm
    subst hmc
    have hw1 : len * by_ ≤ 140737488351232 := by
      have z := hw ((len + (m - len)) * P.bytesOf e) (by simp [DataW.weights, hu])
      rw [hby] at z
      exact Nat.le_trans (Nat.mul_le_mul_right _ (Nat.le_add_right _ _)) z
    obtain ⟨l, hll, hlp⟩ := list_lt (α := α) len (p := fun i x => ∃ c, W.cells? 0 (a.add (i * P.cellsOf e)) (P.cellsOf e) = some c ∧ d.K W x c ∧ B x) (fun i hi => by
      obtain ⟨c, h1, h2⟩ := hx i (by omega)
      obtain ⟨y, hy1, hy2⟩ := he H enc W n c _ h2 (fun q hq => by
        refine hw q ?_
        simp only [DataW.weights, hu, List.mem_cons, List.mem_append]
        refine .inr (.inl (weights_all (List.mem_map.2 ⟨i, List.mem_range.2 hi, rfl⟩) q hq)))
      exact ⟨y, c, h1, hy1, hy2⟩)
    unfold maxLen at hm
    refine ⟨l, ⟨some a, m, by rw [hll], by omega, rfl, by omega, fun _ => ⟨a, rfl, fun j p hj => ?_⟩⟩, by rw [hll]; exact hw1, fun y hy => ?_⟩
    · obtain ⟨c, h1, h2, _⟩ := hlp j p hj
      obtain ⟨_, h4, h5⟩ := World.cells?_some h1
      refine ⟨c, by rw [h4, hc, hs], h2, fun i u hu' => ?_⟩
      have hi : i < c.length := (List.getElem?_eq_some_iff.1 hu').1
      have h6 := h5 i (by omega)
      rw [Deep.add_add, hc, ← hs] at h6
      rw [h6]
      exact hu'
    · obtain ⟨i, hi⟩ := List.getElem?_of_mem hy
      obtain ⟨_, _, _, h3⟩ := hlp i y hi
      exact h3

/-- The fields fs of a struct, from cell off on. -/
def OpnF {α : Type} (P : Program) (fs : List Field) (off : Nat) (d : Kd α) (B : α → Prop) : Prop :=
  ∀ (H : Type) (enc : TypeId × Value → H) (W : World) (n : Nat) (cs : List Value) (xs : List (DataW H × List MemPlace)), cs.length = off + d.sz → xs.length = fs.length →
    (∀ (i : Nat) (f : Field), fs[i]? = some f → DataW.trod enc P W 0 (fun _ => true) true n f.type ((cs.drop f.offset).take (P.cellsOf f.type)) = xs[i]?) →
    (∀ q ∈ DataW.weightsEach P (fs.map (·.type)) (xs.map (·.1)), q ≤ 140737488351232) → ∃ a : α, d.K W a (cs.drop off) ∧ B a

theorem opnF_one {α : Type} {d : Kd α} {B : α → Prop} {f : Field} {off sz : Nat} (ho : f.offset = off) (hc : P.cellsOf f.type = sz) (hs : d.sz = sz) (h : Opn P f.type d B) : OpnF P [f] off d B := by
  intro H enc W n cs xs hl hx hf hw
  have h1 := hf 0 f rfl
  match xs, hx with
  | [x], _ =>
    simp only [List.getElem?_cons_zero] at h1
    rw [ho, List.take_of_length_le (by simp; omega)] at h1
    exact h H enc W n _ x h1 (fun q hq => hw q (by simp only [List.map_cons, DataW.weightsEach, List.mem_append]; exact .inl hq))

theorem opnF_cons {α β : Type} {d : Kd α} {d2 : Kd β} {B : α → Prop} {B2 : β → Prop} {f : Field} {fs : List Field} {off sz : Nat} (ho : f.offset = off) (hc : P.cellsOf f.type = sz) (hs : d.sz = sz) (h : Opn P f.type d B) (h2 : OpnF P fs (off + sz) d2 B2) :
    OpnF P (f :: fs) off (Kd.pair d d2) (fun a => B a.1 ∧ B2 a.2) := by
  intro H enc W n cs xs hl hx hf hw
  have hl' : cs.length = off + (d.sz + d2.sz) := hl
  match xs, hx with
  | x :: xs, hx =>
    have h1 := hf 0 f rfl
    simp only [List.getElem?_cons_zero] at h1
    rw [ho] at h1
    obtain ⟨a, ha, hb⟩ := h H enc W n _ x h1 (fun q hq => hw q (by simp only [List.map_cons, DataW.weightsEach, List.mem_append]; exact .inl hq))
    obtain ⟨b, hb1, hb2⟩ := h2 H enc W n cs xs (by omega) (by simpa using hx) (fun i f' hf' => by
      have := hf (i + 1) f' (by simpa using hf')
      simpa using this) (fun q hq => hw q (by simp only [List.map_cons, DataW.weightsEach, List.mem_append]; exact .inr hq))
    refine ⟨(a, b), ⟨_, _, ?_, ha, hb1⟩, hb, hb2⟩
    rw [hc, ← List.drop_drop]
    exact (List.take_append_drop sz (cs.drop off)).symm

theorem opn_struct {α : Type} {d : Kd α} {B : α → Prop} {fs : Array Field} {sz : Nat} (hu : P.underlying t = some (.struct fs)) (hc : P.cellsOf t = sz) (hs : d.sz = sz) (h : OpnF P fs.toList 0 d B) : Opn P t d B := by
  intro H enc W fuel cs x hx hw
  obtain ⟨xs, n, _, rfl, h1, h2, h3⟩ := DataW.trod_struct hu hx
  obtain ⟨a, ha, hb⟩ := h H enc W n cs xs (by omega) (by simpa using h2) (fun i f hf => h3 i f (by simpa using hf)) (fun q hq => hw q (by simpa [DataW.weights, hu] using hq))
  exact ⟨a, by simpa using ha, hb⟩

theorem opn_iso {α β : Type} {d : Kd α} {B : α → Prop} {f : β → α} (g : α → β) (hg : ∀ a, f (g a) = a) (h : Opn P t d B) : Opn P t (Kd.iso d f) (fun b => B (f b)) := by
  intro H enc W fuel cs x hx hw
  obtain ⟨a, ha, hb⟩ := h H enc W fuel cs x hx hw
  exact ⟨g a, by show d.K W (f (g a)) cs; rw [hg]; exact ha, by show B (f (g a)); rw [hg]; exact hb⟩

theorem weights_arr {H : Type} : ∀ (ds : List (DataW H)) (fs : List Field), ds.length = fs.length → (∀ f ∈ fs, f.type = e) → DataW.weightsEach P (fs.map (·.type)) ds = DataW.weightsAll P e ds
  | [], [], _, _ => rfl
  | d :: ds, f :: fs, hl, hf => by
    simp only [List.map_cons, DataW.weightsEach, DataW.weightsAll]
    rw [weights_arr ds fs (by simpa using hl) (fun f' h' => hf f' (List.mem_cons_of_mem _ h')), hf f List.mem_cons_self]

/-- An array's elements as fields. -/
def arrFs (e : TypeId) (sz : Nat) (n : Nat) : List Field := (List.range n).map fun i => { name := "", type := e, offset := i * sz, embedded := false, tag := "", pkgPath := "", byteOffset := 0 }

theorem opn_array {α : Type} {d : Kd α} {B : α → Prop} {n sz esz : Nat} (hu : P.underlying t = some (.array n e)) (hc : P.cellsOf t = sz) (hs : d.sz = sz) (hce : P.cellsOf e = esz) (h : OpnF P (arrFs e esz n) 0 d B) : Opn P t d B := by
  intro H enc W fuel cs x hx hw
  obtain ⟨xs, m, _, rfl, h1, h2, h3⟩ := DataW.trod_array hu hx
  have hlen : (arrFs e esz n).length = n := by simp [arrFs]
  have hf : ∀ f ∈ arrFs e esz n, f.type = e := by
    intro f hf
    simp only [arrFs, List.mem_map] at hf
    obtain ⟨i, _, rfl⟩ := hf
    rfl
  obtain ⟨a, ha, hb⟩ := h H enc W m cs xs (by omega) (by omega) (fun i f hf' => by
    have hi : i < n := by have := (List.getElem?_eq_some_iff.1 hf').1; omega
    have h4 := h3 i hi
    rw [hce] at h4
    simp [arrFs, hi] at hf'
    subst hf'
    simpa [hce] using h4) (fun q hq => hw q (by
      rw [weights_arr _ _ (by simp; omega) hf] at hq
      simpa [DataW.weights, hu] using hq))
  exact ⟨a, by simpa using ha, hb⟩

/-- An argument. -/
theorem arg {α : Type} {d : Kd α} {B : α → Prop} {H : Type} {enc : TypeId × Value → H} {W : World} {ts : List TypeId} {ds : List (DataW H)} {j : Nat} {v : Value} {dd : DataW H} {ps : List MemPlace} (ho : Opn P t d B)
    (hsz : (DataW.weightsEach P ts ds).all (· ≤ reachBytes) = true) (ht : ts[j]? = some t) (hd : ds[j]? = some dd) (h : DataW.Trod enc P W 0 (fun _ => true) true t v dd ps) : ∃ a : α, d.K W a v.cells.toList ∧ B a := by
  obtain ⟨fuel, hf⟩ := h
  refine ho H enc W fuel _ _ hf (fun n hn => ?_)
  have := List.all_eq_true.1 hsz _ (DataW.weights_mem_each ht hd n hn)
  exact of_decide_eq_true this

theorem agg_of {cs : Array Value} {l : List Value} (h : (Value.agg cs).cells.toList = l) : cs = l.toArray := by
  subst h
  rfl
end
end Go.Proofs.Ytgiinjfandeddaa.Opn
