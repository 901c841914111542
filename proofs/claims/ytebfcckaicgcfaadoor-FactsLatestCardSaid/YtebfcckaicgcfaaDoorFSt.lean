/- By hand: what facts.Standing computes, where it answers. -/
import Derived.Test.YtebfcckaicgcfaaDoorFDu
import Derived.Test.YtebfcckaicgcfaaDoorQ1
import Derived.Carry
import Derived.Maps.OwnIn
import Derived.Test.YtebfcckaicgcfaaDoorRng
import Derived.RangeFuncWrites
import Derived.Sort.QuietTacIn
import Derived.Shelf.RegionOpenPlain

namespace Go.Proofs.YtebfcckaicgcfaaDoor.Q
open Go.RowKit Go.Proofs.YtebfcckaicgcfaaDoorW.PrintWords Go.Proofs.YtebfcckaicgcfaaDoorW.PrintLast Go.Proofs.YtebfcckaicgcfaaDoorW.PrintMore
attribute [local go_sem] max2_int min2_int max_two min_two
set_option linter.unusedVariables false
set_option linter.unusedSimpArgs false

/-- What a fact is about. -/
abbrev Sub := Int × Int × Int × Int × Int
def subOf (r : S24) : Sub := (r.f1, r.f2, r.f3, r.f4, r.f7)
def keyC (s : Sub) : Array Value := #[.int .i64 s.1, .int .i64 s.2.1, .int .i64 s.2.2.1, .int .i64 s.2.2.2.1, .int .i64 s.2.2.2.2]
theorem subC_key (r : S24) : subC r = keyC (subOf r) := rfl
def mget (m : List (Sub × S24)) (s : Sub) : Option S24 := (m.find? (fun p => decide (p.1 = s))).map (·.2)
def mput : List (Sub × S24) → Sub → S24 → List (Sub × S24)
  | [], s, v => [(s, v)]
  | p :: r, s, v => if p.1 = s then (s, v) :: r else p :: mput r s v
/-- Block b holds the map m. -/
def MapAt (W : World) (b : Nat) (m : List (Sub × S24)) : Prop :=
  ∃ es clock, W.heap[b]? = some (.map es clock) ∧ es.toList.map (fun e => (e.key, e.val)) = m.map (fun p => (Value.agg (keyC p.1), Value.agg (facC p.2)))

/-- The fields of what a fact is about, of a package. -/
def kfields (pp : String) : Array Field := #[{ name := "kind", type := 3, offset := 0, embedded := false, tag := "", pkgPath := pp, byteOffset := 0 }, { name := "team", type := 3, offset := 1, embedded := false, tag := "", pkgPath := pp, byteOffset := 8 },
  { name := "game", type := 3, offset := 2, embedded := false, tag := "", pkgPath := pp, byteOffset := 16 }, { name := "ground", type := 3, offset := 3, embedded := false, tag := "", pkgPath := pp, byteOffset := 24 }, { name := "at", type := 3, offset := 4, embedded := false, tag := "", pkgPath := pp, byteOffset := 32 }]
section
variable {pp : String} (T : TypeId) (hT : Tryd.prog.underlying T = some (.struct (kfields pp))) (hp : Tryd.prog.stoodInHeld T = false)
include hT hp
theorem eqK (d : Nat) (w : World) (s t : Sub) : (Op.equalIn (d + 2) T (.agg (keyC s)) (.agg (keyC t))).run Tryd.prog w = .ok (decide (s = t)) w := by
  obtain ⟨x0, x1, x2, x3, x4⟩ := s
  obtain ⟨y0, y1, y2, y3, y4⟩ := t
  have h : (Op.equalIn (d + 2) T (.agg (keyC (x0, x1, x2, x3, x4))) (.agg (keyC (y0, y1, y2, y3, y4)))).run Tryd.prog w = .ok (x0 == y0 && (x1 == y1 && (x2 == y2 && (x3 == y3 && (x4 == y4))))) w := by
    unfold keyC
    refine eqA_of hT hp ?_
    refine eqf_cons (by rfl) (by go_simp; rfl) (by go_simp; rfl) (by go_simp) ?_
    refine eqf_cons (by rfl) (by go_simp; rfl) (by go_simp; rfl) (by go_simp) ?_
    refine eqf_cons (by rfl) (by go_simp; rfl) (by go_simp; rfl) (by go_simp) ?_
    refine eqf_cons (by rfl) (by go_simp; rfl) (by go_simp; rfl) (by go_simp) ?_
    exact eqf_last (by rfl) (by go_simp; rfl) (by go_simp; rfl) (by go_simp)
  rw [h]
  congr 1
  by_cases a0 : x0 = y0 <;> by_cases a1 : x1 = y1 <;> by_cases a2 : x2 = y2 <;> by_cases a3 : x3 = y3 <;> by_cases a4 : x4 = y4 <;> simp [a0, a1, a2, a3, a4]
omit hp in
theorem checkN (em : Bool) (n : Nat) (w : World) (s : Sub) : (Instr.checkKey em (n + 2) T (.agg (keyC s))).run Tryd.prog w = .ok () w := by
  have h3 := Tryd.underlying3
  have ha := Tryd.isAgg3
  have hi : ∀ (x : Int), (Instr.checkKey em (n + 1) 3 (.int .i64 x)).run Tryd.prog w = .ok () w := fun x => by simp [Instr.checkKey, run_underlying h3]
  unfold keyC
  rw [Instr.checkKey]
  simp [run_underlying hT, kfields, part, ha, hi, go_sem]
omit hp in
theorem checkK (em : Bool) (w : World) (s : Sub) : (Instr.checkKey em 10000 T (.agg (keyC s))).run Tryd.prog w = .ok () w := checkN T hT em 9998 w s
omit hT hp in
theorem staysK (w : World) (s : Sub) : (Instr.keyThatStays (.agg (keyC s)) (.agg (keyC s))).run Tryd.prog w = .ok (.agg (keyC s)) w := by
  have h : Instr.sameBits 10000 (.agg (keyC s)) (.agg (keyC s)) = true := by
    show Instr.sameBits (9998 + 2) _ _ = true
    unfold keyC
    simp [Instr.sameBits]
  simp [Instr.keyThatStays, h]
/-- Where a key stands. -/
def mfind : List (Sub × S24) → Sub → Nat → Option (Nat × Value)
  | [], _, _ => none
  | p :: r, s, i => if p.1 = s then some (i, .agg (facC p.2)) else mfind r s (i + 1)
theorem findA (w : World) (s : Sub) : ∀ (m : List (Sub × S24)) (es : List MapEntry) (i : Nat), es.map (fun e => (e.key, e.val)) = m.map (fun p => (Value.agg (keyC p.1), Value.agg (facC p.2))) →
    (Instr.findAsking T (.agg (keyC s)) es i).run Tryd.prog w = .ok (mfind m s i) w
  | [], [], i, _ => by simp [Instr.findAsking, mfind]
  | [], e :: es, i, h => by simp at h
  | p :: m, [], i, h => by simp at h
  | p :: m, e :: es, i, h => by
    simp only [List.map_cons, List.cons.injEq, Prod.mk.injEq] at h
    obtain ⟨⟨h1, h2⟩, h3⟩ := h
    have ih := findA w s m es (i + 1) h3
    have he : (Op.equal T (.agg (keyC s)) (.agg (keyC p.1))).run Tryd.prog w = .ok (decide (s = p.1)) w := eqK T hT hp 9998 w s p.1
    unfold Instr.findAsking mfind
    rw [h1, h2]
    by_cases hs : p.1 = s
    · subst hs
      simp [he, Result.andThen]
    · have hs' : ¬ s = p.1 := fun h => hs h.symm
      simp [he, hs, hs', ih, Result.andThen]
theorem findK (w : World) (s : Sub) (m : List (Sub × S24)) (es : List MapEntry) (h : es.map (fun e => (e.key, e.val)) = m.map (fun p => (Value.agg (keyC p.1), Value.agg (facC p.2)))) :
    (Instr.findKey T (.agg (keyC s)) es).run Tryd.prog w = .ok (mfind m s 0) w := by
  have hA := findA T hT hp w s m es 0 h
  cases es with
  | nil =>
    cases m with
    | nil => simp [Instr.findKey, run_underlying hT, Instr.findNow, mfind]
    | cons p r => simp at h
  | cons e r => simp [Instr.findKey, run_underlying hT, Instr.findNow, Instr.sameNow, hA]
variable {M : TypeId} (hM : Tryd.prog.underlying M = some (.map T 24))
omit hT hp in
theorem mfind_get (s : Sub) : ∀ (m : List (Sub × S24)) (i : Nat), (mfind m s i).map (·.2) = (mget m s).map (fun v => Value.agg (facC v))
  | [], i => rfl
  | p :: m, i => by
    unfold mfind mget
    by_cases h : p.1 = s
    · simp [h]
    · have ih := mfind_get s m (i + 1)
      unfold mget at ih
      simp [h, ih]
/-- What a look-up hands over. -/
def lookV (c : Bool) (m : List (Sub × S24)) (s : Sub) : Value := if c then .tuple #[.agg (facC ((mget m s).getD z24)), .bool (mget m s).isSome] else .agg (facC ((mget m s).getD z24))
omit hT hp in
theorem zeroF (w : World) : (zeroValue 24).run Tryd.prog w = .ok (.agg (facC z24)) w := by kernel_rfl
include hM
theorem look_run (c : Bool) {W : World} {b : Nat} {m : List (Sub × S24)} (h : MapAt W b m) (s : Sub) : (Instr.lookup M (.map (some b)) (.agg (keyC s)) c).run Tryd.prog W = .ok (lookV c m s) W := by
  obtain ⟨es, clock, hb, he⟩ := h
  have hf := findK T hT hp W s m es.toList he
  have hg := mfind_get s m 0
  have hc := checkK T hT es.isEmpty W s
  have hz := zeroF W
  unfold lookV
  cases h1 : mfind m s 0 with
  | none =>
    rw [h1] at hf hg
    cases h2 : mget m s with
    | none => simp [Instr.lookup, run_underlying hM, MapKept.run_getObj_map hb, hc, hf, hz, Result.andThen]
    | some v => rw [h2] at hg; cases hg
  | some q =>
    rw [h1] at hf hg
    cases h2 : mget m s with
    | none => rw [h2] at hg; cases hg
    | some v =>
      rw [h2] at hg
      simp only [Option.map_some, Option.some.injEq] at hg
      simp [Instr.lookup, run_underlying hM, MapKept.run_getObj_map hb, hc, hf, hg, Result.andThen]
omit hT hp hM in
theorem mfind_none (s : Sub) (v : S24) : ∀ (m : List (Sub × S24)) (i : Nat), mfind m s i = none → mput m s v = m ++ [(s, v)]
  | [], i, _ => rfl
  | p :: m, i, h => by
    unfold mfind at h
    unfold mput
    by_cases h1 : p.1 = s
    · rw [if_pos h1] at h; cases h
    · rw [if_neg h1] at h
      rw [if_neg h1, mfind_none s v m (i + 1) h]
      rfl
omit hT hp hM in
theorem mfind_some (s : Sub) (v : S24) : ∀ (m : List (Sub × S24)) (i j : Nat) (x : Value), mfind m s i = some (j, x) → i ≤ j ∧ mput m s v = m.set (j - i) (s, v) ∧ ∃ p, m[j - i]? = some p ∧ p.1 = s
  | [], i, j, x, h => by cases h
  | p :: m, i, j, x, h => by
    unfold mfind at h
    unfold mput
    by_cases h1 : p.1 = s
    · rw [if_pos h1] at h
      cases h
      rw [if_pos h1, Nat.sub_self]
      exact ⟨Nat.le_refl _, rfl, p, rfl, h1⟩
    · rw [if_neg h1] at h
      obtain ⟨a, b, c⟩ := mfind_some s v m (i + 1) j x h
      have e : j - i = (j - (i + 1)) + 1 := by omega
      rw [if_neg h1, b, e]
      exact ⟨by omega, rfl, c⟩
theorem upd_run {W : World} {b : Nat} {m : List (Sub × S24)} (h : MapAt W b m) (s : Sub) (v : S24) :
    ∃ W', (Instr.mapUpdate M (.map (some b)) (.agg (keyC s)) (.agg (facC v))).run Tryd.prog W = .ok () W' ∧ MapAt W' b (mput m s v) ∧ W.grownBy W' (some b) := by
  obtain ⟨es, clock, hb, he⟩ := h
  have hf := findK T hT hp W s m es.toList he
  have hc := checkK T hT false W s
  have hs := staysK W s
  have hgr : ∀ o, W.grownBy (ChangeMaps.setBlock W b o) (some b) := fun o => ⟨rfl, rfl, rfl, by simp [ChangeMaps.setBlock], fun i _ hi => ChangeMaps.heap_setBlock_other hb _ (fun e => hi (by rw [e]))⟩
  cases h1 : mfind m s 0 with
  | none =>
    rw [h1] at hf
    refine ⟨ChangeMaps.setBlock W b (.map (es.push { key := .agg (keyC s), val := .agg (facC v), born := clock }) (clock + 1)), ?_, ⟨_, _, ChangeMaps.heap_setBlock_same hb _, ?_⟩, hgr _⟩
    · simp [Instr.mapUpdate, run_underlying hM, MapKept.run_getObj_map hb, hc, hf, MapKept.run_setObj_map _ hb, Result.andThen, ChangeMaps.setBlock]
    · rw [mfind_none s v m 0 h1, Array.toList_push, List.map_append, he, List.map_append]
      rfl
  | some q =>
    obtain ⟨j, x⟩ := q
    rw [h1] at hf
    obtain ⟨_, h2, p, h3, h4⟩ := mfind_some s v m 0 j x h1
    rw [Nat.sub_zero] at h2 h3
    have hlen : es.toList.length = m.length := by
      have := congrArg List.length he
      simpa using this
    have hjm : j < m.length := (List.getElem?_eq_some_iff.1 h3).1
    have hj : j < es.size := by rw [← Array.length_toList, hlen]; exact hjm
    have hkey : es[j].key = .agg (keyC s) := by
      have h5 := congrArg (fun l => l[j]?) he
      simp only [List.getElem?_map, h3, Option.map_some, Array.getElem?_toList, Array.getElem?_eq_getElem hj, Option.some.injEq, Prod.mk.injEq] at h5
      rw [h5.1, h4]
    refine ⟨ChangeMaps.setBlock W b (.map (es.modify j fun e => { e with key := .agg (keyC s), val := .agg (facC v) }) clock), ?_, ⟨_, _, ChangeMaps.heap_setBlock_same hb _, ?_⟩, hgr _⟩
    · simp [Instr.mapUpdate, run_underlying hM, MapKept.run_getObj_map hb, hc, hf, Array.getElem?_eq_getElem hj, hkey, hs, MapKept.run_setObj_map _ hb, Result.andThen, ChangeMaps.setBlock]
    · rw [h2, List.map_set, ← he, Array.toList_modify]
      apply List.ext_getElem?
      intro i
      rw [List.getElem?_map, List.getElem?_modify, List.getElem?_set, List.getElem?_map]
      by_cases hij : j = i
      · subst hij
        simp [hj]
      · simp [hij]

variable {F : Fence} {nF : Nat} {ops : Array Oper} {rest : List Oper} {o : Oper} {a : Act} {Q : Exit → Act → World → Prop} {w : World}
theorem lookIn {c : Bool} (x y : Operand) (b : Nat) (m : List (Sub × S24)) (s : Sub) (hop : o.op = Op.lookup M x y c) (hg : o.guard = none) (hm : a.eval x = .map (some b)) (hx : a.eval y = .agg (keyC s)) (h : MapAt w b m) (V : Value) (hV : lookV c m s = V)
    (hK : wpListIn F nF Tryd.prog ops Q rest (a.put o.dst V) w) : wpListIn F nF Tryd.prog ops Q (o :: rest) a w := by
  subst hV
  refine wpListIn_plain hg fun K' hK' => ?_
  have hrun := look_run T hT hp hM c h s
  unfold Oper.wpIn
  refine ⟨by simp [Oper.about, hop], ?_⟩
  rw [Oper.semAt_plain F _ _ (by rw [hop]; intro c hc'; cases hc')]
  simp [execOp, hop, hm, hx, hrun, Result.andThen]
  exact hK' _ _ hK
theorem updIn (x y z : Operand) (b : Nat) (m : List (Sub × S24)) (s : Sub) (v : S24) (hop : o.op = Op.mapUpdate M x y z) (hg : o.guard = none) (hm : a.eval x = .map (some b)) (hx : a.eval y = .agg (keyC s)) (hv : a.eval z = .agg (facC v)) (h : MapAt w b m)
    (hK : ∀ w', MapAt w' b (mput m s v) → w.grownBy w' (some b) → wpListIn F nF Tryd.prog ops Q rest (a.put o.dst undef) w') : wpListIn F nF Tryd.prog ops Q (o :: rest) a w := by
  refine wpListIn_plain hg fun K' hK' => ?_
  obtain ⟨w', hrun, r1, r2⟩ := upd_run T hT hp hM h s v
  unfold Oper.wpIn
  refine ⟨by simp [Oper.about, hop], ?_⟩
  rw [Oper.semAt_plain F _ _ (by rw [hop]; intro c hc'; cases hc')]
  simp [execOp, hop, hm, hx, hv, hrun, Result.andThen]
  exact hK' _ _ (hK w' r1 r2)
end
end Go.Proofs.YtebfcckaicgcfaaDoor.Q

namespace Go.Proofs.YtebfcckaicgcfaaDoor.Rng
open Go.RowKit Go.Proofs.YtebfcckaicgcfaaDoorW.PrintWords

/-- How a round's body may be left. -/
def bodyEndM (B : Nat) (U : Nat → Prop) (I Ix : Nat → World → Prop) (k : Nat) (W : World) : Exit → Act → World → Prop
  | .normal, _, W' => KeepsFrom B W W' ∧ St U W W' ∧ I (k + 1) W'
  | .ret, _, W' => KeepsFrom B W W' ∧ Ix k W'
  | _, _, _ => False

theorem range_lawM {P : Program} {n : Nat} {g : Operand} {ps : Array Tmp} {assign body : Code} {Q : Exit → Act → World → Prop} {a : Act} {w : World}
    {gf : Nat} {lb : Array Value} (hg : a.eval g = .func (.func gf) #[] lb) (eg : ∀ args w, (callFunc gf args).run P w = .ok (.enter gf args) w)
    {enc : Nat → Array Value} {N : Nat} {U S : Nat → Prop} {Pre : World → Prop} (hit : Iter P gf lb enc N U S Pre) (hps : ∀ k, (enc k).size = ps.size)
    (hU : ∀ j, w.heap.size ≤ j → U j) (hS : ∀ k, S k → k < w.heap.size) (hpre : ∀ o1 o2, Pre ((w.alloc o1).alloc o2))
    (I Ix : Nat → World → Prop) (hI : ∀ k A B, I k A → St S A B → I k B) (hIx : ∀ k A B, Ix k A → St S A B → Ix k B)
    (hIb : ∀ k A q o o', I k A → w.heap.size ≤ q → A.heap[q]? = some o → o.isCells = false → I k (A.putObj q o'))
    (hIxb : ∀ k A q o o', Ix k A → w.heap.size ≤ q → A.heap[q]? = some o → o.isCells = false → Ix k (A.putObj q o'))
    (h0 : ∀ o1 o2, I 0 ((w.alloc o1).alloc o2))
    (I1 : Nat → Act → World → Prop) (hI1b : ∀ k b A q o o', I1 k b A → w.heap.size ≤ q → A.heap[q]? = some o → o.isCells = false → I1 k b (A.putObj q o'))
    (hassign : ∀ l k W, k < N → I k W → assign.wpIn (Fence.wide.inRound l) (n - 1 - 1) P (Exit.then (fun b W₁ => KeepsFrom w.heap.size W W₁ ∧ St U W W₁ ∧ I1 k b W₁) (fun _ _ _ => False))
      { tmps := (ps.zip (enc k)).foldl (fun t (p, v) => t.setIfInBounds p v) a.tmps, defers := [] } W)
    (hbody : ∀ l k b W, k < N → I1 k b W → body.wpIn (Fence.wide.inRound l) (n - 1 - 1) P (bodyEndM w.heap.size U I Ix k W) b W)
    (hdone : ∀ D W, w.heap.size ≤ D → I N W → W.heap[D]? = some (.deferred (some [])) → Q .normal { a with defers := { target := .collected D, args := #[] } :: a.defers } W)
    (hstop : ∀ D k W, w.heap.size ≤ D → k < N → Ix k W → W.heap[D]? = some (.deferred (some [])) → Code.ret.wpIn Fence.wide n P Q { a with defers := { target := .collected D, args := #[] } :: a.defers } W) :
    (Code.rangeFunc g ps assign body).wpIn Fence.wide n P Q a w := by
  refine wpIn_rangeFunc ?_
  intro fn hfn
  obtain ⟨rec, hrec⟩ : ∃ rec : LoopState → Option Code → Loop, rec = fun st pe => { state := st, pending := pe, fn, tmps := a.tmps, params := ps, assign, body, defers := w.heap.size } := ⟨_, rfl⟩
  obtain ⟨D, hD⟩ : ∃ D, D = w.heap.size := ⟨_, rfl⟩
  obtain ⟨W1, hW1⟩ : ∃ W1, (w.alloc (.deferred (some []))).alloc (.loop (rec .ready none)) = W1 := ⟨_, rfl⟩
  have hL1 : W1.heap[D + 1]? = some (.loop (rec .ready none)) := by
    rw [← hW1, hD]
    have := World.alloc_heap_new (w.alloc (.deferred (some []))) (.loop (rec .ready none))
    rwa [World.size_alloc] at this
  have hK1 : W1.heap[D]? = some (.deferred (some [])) := by
    rw [← hW1, hD]
    exact (Below.heap_alloc _ _ _ (by simp)).trans (World.alloc_heap_new w _)
  -- what the iterator's own steps leave alone
  have keepSt : ∀ {A B : World} {q : Nat} {o : Obj}, St S A B → D ≤ q → A.heap[q]? = some o → B.heap[q]? = some o := fun {A B q o} hs hq h =>
    (hs.2.2.2.2 q (Array.getElem?_eq_some_iff.1 h).1 (fun hS' => by have := hS q hS'; omega)).trans h
  refine ⟨D + 1, [{ target := .collected D, args := #[] }], W1, { target := .fn (.func gf) lb, args := #[.func (.yield (D + 1)) #[] #[]] }, W1, gf,
    #[.func (.yield (D + 1)) #[] #[]] ++ lb, W1, ?_, ?_, ?_, ?_, fun h => by simp [Fence.wide] at h, ?_⟩
  · rw [← hW1, hrec, hD]
    exact run_enterLoop_outer _ _ _ _ _
  · simp only [resolve, hg]
    simp [go_sem]
  · intro f' _
    trivial
  · simp [invoke, go_sem, eg]
  · refine (hit (n - 1) (D + 1) (fun k W => I k W ∧ W.heap[D + 1]? = some (.loop (rec .ready none)) ∧ W.heap[D]? = some (.deferred (some [])))
      (fun k W => Ix k W ∧ W.heap[D + 1]? = some (.loop (rec .done (some .ret))) ∧ W.heap[D]? = some (.deferred (some []))) W1
      (fun k A B h hs => ⟨hI k A B h.1 hs, keepSt hs (by omega) h.2.1, keepSt hs (by omega) h.2.2⟩)
      (fun k A B h hs => ⟨hIx k A B h.1 hs, keepSt hs (by omega) h.2.1, keepSt hs (by omega) h.2.2⟩)
      ?_ ⟨by rw [← hW1]; exact h0 _ _, hL1, hK1⟩ (by rw [← hW1]; exact hpre _ _)).mono ?_
    · rintro k W hk ⟨hi, hl, hd⟩
      have hy := run_yield (P := P) (args := enc k) hl (by rw [hrec]; exact hps k)
      rw [hrec] at hy
      refine ⟨fn, _, assign, body, hy, roundIn_of_wpIn trivial (wpIn_mono (hassign (D + 1) k W hk hi) ?_)⟩
      intro e b W2 hp
      cases e with
      | normal =>
        obtain ⟨hko, hbl, hi1⟩ := hp
        have hl2 := hko.same _ _ (by omega) hl rfl
        have hd2 := hko.same _ _ (by omega) hd rfl
        refine ⟨_, run_beginRound hl2 (by rw [hrec]), ?_⟩
        have hlt : D + 1 < W2.heap.size := (Array.getElem?_eq_some_iff.1 hl2).1
        have hl3 : (W2.putObj (D + 1) (.loop { rec .ready none with state := .busy })).heap[D + 1]? = some (.loop { rec .ready none with state := .busy }) := World.putObj_heap_same hlt
        have hd3 : (W2.putObj (D + 1) (.loop { rec .ready none with state := .busy })).heap[D]? = some (.deferred (some [])) := (World.putObj_heap_other (by omega)).trans hd2
        have putBelow : ∀ (A : World) (o : Obj), St U A (A.putObj (D + 1) o) := fun A o => ⟨rfl, rfl, rfl, by simp, fun j hj hu => World.putObj_heap_other (fun e => hu (e ▸ hU _ (by omega)))⟩
        refine wpIn_mono (hbody (D + 1) k b _ hk (hI1b _ _ _ _ _ _ hi1 (by omega) hl2 rfl)) ?_
        intro e b3 W3 hp3
        cases e with
        | normal =>
          obtain ⟨hk3, hb3, hi3⟩ := hp3
          have hl4 := hk3.same _ _ (by omega) hl3 rfl
          have hd4 := hk3.same _ _ (by omega) hd3 rfl
          have hr := run_endRound (P := P) none hl4
          refine ⟨_, _, hr, .inl ⟨rfl, ⟨hIb _ _ _ _ _ hi3 (by omega) hl4 rfl, ?_, (World.putObj_heap_other (by omega)).trans hd4⟩, ?_⟩⟩
          · rw [hrec]
            exact World.putObj_heap_same (Array.getElem?_eq_some_iff.1 hl4).1
          · exact ((hbl.trans (putBelow _ _)).trans hb3).trans (putBelow _ _)
        | ret =>
          obtain ⟨hk3, hi3⟩ := hp3
          have hl4 := hk3.same _ _ (by omega) hl3 rfl
          have hd4 := hk3.same _ _ (by omega) hd3 rfl
          have hr := run_endRound (P := P) (some .ret) hl4
          refine ⟨_, _, hr, .inr ⟨rfl, hIxb _ _ _ _ _ hi3 (by omega) hl4 rfl, ?_, (World.putObj_heap_other (by omega)).trans hd4⟩⟩
          rw [hrec]
          exact World.putObj_heap_same (Array.getElem?_eq_some_iff.1 hl4).1
        | exit id => exact hp3.elim
        | goto t => exact hp3.elim
        | panic ch => exact hp3.elim
        | outgrown => exact hp3.elim
      | exit id => exact hp.elim
      | goto t => exact hp.elim
      | ret => exact hp.elim
      | panic ch => exact hp.elim
      | outgrown => exact hp.elim
    · rintro e W2 ⟨⟨v, rfl⟩, (⟨hi, hl, hd⟩ | ⟨k, hk, hi, hl, hd⟩)⟩
      · have hr := run_endLoop (P := P) hl (by rw [hrec]; simp)
        rw [hrec] at hr
        exact ⟨none, _, hr, hdone D _ (by omega) (hIb _ _ _ _ _ hi (by omega) hl rfl) ((World.putObj_heap_other (by omega)).trans hd)⟩
      · have hr := run_endLoop (P := P) hl (by rw [hrec]; simp)
        rw [hrec] at hr
        exact ⟨some .ret, _, hr, hstop D k _ (by omega) hk (hIxb _ _ _ _ _ hi (by omega) hl rfl) ((World.putObj_heap_other (by omega)).trans hd)⟩

section
variable {F : Fence} {n : Nat} {P : Program} {ops : Array Oper} {Q : Exit → Act → World → Prop}
/-- Operations inside a round of a range over a function run as those outside, where none defers. -/
theorem wpOpsIn_round (r : Nat) (hops : ∀ o ∈ ops.toList, ∀ c, o.op ≠ .defer c) : ∀ (l : List Nat), wpOpsIn (F.inRound r) n P ops Q l = wpOpsIn F n P ops Q l
  | [] => rfl
  | i :: rest => by
    have ih := wpOpsIn_round r hops rest
    funext a w
    simp only [wpOpsIn, ih]
    cases ho : ops[i]? with
    | none => rfl
    | some o =>
      have hm : o ∈ ops.toList := by
        rw [← Array.getElem?_toList] at ho
        exact List.mem_of_getElem? ho
      have h1 := Oper.semAt_eq (F.inRound r).round a.eval o (hops o hm)
      have h2 := Oper.semAt_eq F.round a.eval o (hops o hm)
      have h3 : ∀ next, o.wpIn (F.inRound r) n P a w next Q = o.wpIn F n P a w next Q := fun next => by
        unfold Oper.wpIn
        rw [h1, h2]
        rfl
      simp only [h3]
      rfl
def noDefer (l : List Oper) : Bool := l.all fun o => match o.op with | .defer _ => false | _ => true
theorem noDefer_spec {l : List Oper} (h : noDefer l = true) : ∀ o ∈ l, ∀ c, o.op ≠ .defer c := by
  intro o ho c hc
  have := List.all_eq_true.1 h o ho
  rw [hc] at this
  cases this
/-- A region that draws and only reads, in a round. -/
theorem wpIn_round_quiet {id r : Nat} {a : Act} {w : World} {l : List Oper} (hro : F.round = none) (hd : noDefer l = true) (hm : P.follows .mixedOrders = true) (hB : Region.lexB .any l.toArray = true)
    (h : wpQuietIn F n P l.toArray (fun w' => ∃ n, w' = w.drewN n) (fun a' => ∀ w', (∃ n, w' = w.drewN n) → Q .normal a' w') l a) : (Code.region id l.toArray true).wpIn (F.inRound r) n P Q a w := by
  simp only [Region.lexB, Bool.and_eq_true] at hB
  have h2 := wpAnyQIn_lex (F := F) (n := n) (C := fun w' => ∃ n, w' = w.drewN n) (md := .any) hB.1 l.toArray.toList 0 (Array.replicate l.toArray.size false) a (by simp) (by simpa using hB.2) (by simpa using h)
  have h3 := wpAnyIn_of_quiet (F := F) (n := n) (P := P) (ops := l.toArray) (md := .any) (C := fun w' => ∃ n, w' = w.drewN n) (Q := fun a' => ∀ w', (∃ n, w' = w.drewN n) → Q .normal a' w') (Q' := Q) hro (fun _ w' hw' h => h w' hw') _ _ _ { w with drawn := w.drawn + 1 } ⟨1, rfl⟩ (by simpa using h2)
  refine wpIn_region_draw fun t => ?_
  rw [wpOpsIn_round r (by simpa using noDefer_spec hd)]
  simp only [Region.schedule, hm, Bool.true_or, if_true]
  exact wpAnyIn_sound _ t _ a _ (by simpa using h3)
end
end Go.Proofs.YtebfcckaicgcfaaDoor.Rng

namespace Go.Proofs.YtebfcckaicgcfaaDoor.Q
open Go.RowKit Go.Proofs.YtebfcckaicgcfaaDoorW.PrintWords Go.Proofs.YtebfcckaicgcfaaDoorW.PrintLast Go.Proofs.YtebfcckaicgcfaaDoorW.PrintMore Go.Proofs.YtebfcckaicgcfaaDoor.Rng
attribute [local go_sem] Oper.semAt_some
attribute [local go_sem] max2_int min2_int max_two min_two
set_option linter.unusedVariables false
set_option linter.unusedSimpArgs false

/-- A fact comes into the map of the latest ones. -/
def stepM (m : List (Sub × S24)) (y : S24) : List (Sub × S24) :=
  match mget m (subOf y) with
  | none => mput m (subOf y) y
  | some z => if z.f8 ≤ y.f8 then mput m (subOf y) y else m
def mapL (L : List S24) : List (Sub × S24) := L.foldl stepM []
def fEq (x y : S24) : Bool := (x.f0 == y.f0 && (x.f1 == y.f1 && (x.f2 == y.f2 && (x.f3 == y.f3 && (x.f4 == y.f4 && (x.f5 == y.f5 && (x.f6 == y.f6 && (x.f7 == y.f7 && (x.f8 == y.f8)))))))))
def stB (m : List (Sub × S24)) (y : S24) : Bool := fEq ((mget m (subOf y)).getD z24) y && (y.f5 != -1)
def standV (l : List S24) (t : Int) : List S24 × Int :=
  if chkV l = 0 then (if wi t 0 134217727 = true then ((knownV t l).filter (stB (mapL (knownV t l))), 0) else ([], 1)) else ([], chkV l)
def facts_Standing.f (l0 : List (S24)) (a1 : Int) : Option ((List (S24)) × Int) := some (standV l0 a1)

/-- A result that lies in a cell of its own, and one in a slot. -/
theorem results_ct1 {P : Program} {fn : Func} {p u : Tmp} {ty : TypeId} (h : fn.results = #[.cell p ty, .tmp u]) (tmps : Array Value) (w : World) (a : Addr) (v : Value) (d : TypeDesc)
    (hp : tmps.getD p undef = .pointer (some a)) (hv : w.cell? a = some v) (hu : P.underlying ty = some d) (hd : (match d with | .struct _ | .array _ _ => false | _ => true) = true) :
    (results fn tmps).run P w = .ok (.tuple #[v, tmps.getD u undef]) w := by
  have h1 : tmps[p]?.getD undef = .pointer (some a) := by simpa using hp
  have e1 : (isAgg ty).run P w = .ok false w := by
    simp [isAgg, go_sem, run_underlying hu]
    cases d <;> simp_all
  simp [results, h, h1, asAddr, loadVar, go_sem, e1, hv]

/-- The block of the result. -/
def StIn (w W : World) : Prop := W.heap[w.heap.size]? = some (.cells #[.slice none 0 0] 22 (0, 0)) ∧ Below w.heap.size w W
theorem StIn.below {w W V : World} (h : StIn w W) (hb : Below W.heap.size W V) : StIn w V := ⟨heap_below hb h.1, below_step h.2 hb⟩
theorem StIn.new (w : World) : StIn w (w.alloc (.cells #[.slice none 0 0] 22 (0, 0))) := ⟨heap_at_new _ _ _ rfl, below_alloc (Below.refl _ _) _⟩

section
variable (A0 : Option Addr) (c0 : Nat) (l0 : List S24) (a1 : Int) (w : World) (hr0 : Kd.C k24 w A0 l0.length l0) (hc0 : l0.length ≤ c0) (hrw : RowsAt w)
include hr0 hc0 hrw
set_option maxRecDepth 100000 in
set_option maxHeartbeats 4000000 in
theorem st_no1 (h1 : chkV l0 ≠ 0) : Calls Tryd.prog 17 #[.slice A0 l0.length c0, .int .i64 a1] w (AddOut w [] (chkV l0)) := by
  have hu := Tryd.underlying22
  have HC := Aside0.mk (fun W hb => chk_calls A0 c0 l0 W (Kd.C_below hr0 hb) hc0 (hrw.below hb hrw.pos))
  have H0 := Aside0.mk (StIn.new w)
  generalize chkV l0 = x at HC h1 ⊢
  have hx : (x != 0) = true := bne_iff_ne.mpr h1
  clear hr0 hrw h1
  go_enter Tryd.func17, Tryd.ntmps17
  go_wp2_with fail
  refine (HC.out _ H0.out.2).mono ?_
  rintro e w1 ⟨rfl, hb⟩
  replace H0 := Aside0.mk (H0.out.below hb)
  clear hb
  have c0 := (blk_cell H0.out.1 0).trans rfl
  have f0 := blk_frozen H0.out.1 0
  go_wp2
  refine bodyPost_ret (results_ct1 rfl _ _ ⟨w.heap.size, 0, none⟩ (.slice none 0 0) _ rfl ((blk_cell (blk_put H0.out.1 0 _ rfl) 0).trans rfl) hu rfl) rfl ?_
  exact ⟨_, rfl, Kd.R_nil _ _ _ _ _, below_set H0.out.2 (by omega)⟩
set_option maxRecDepth 100000 in
set_option maxHeartbeats 4000000 in
theorem st_no2 (h1 : chkV l0 = 0) (h2 : wi a1 0 134217727 = false) : Calls Tryd.prog 17 #[.slice A0 l0.length c0, .int .i64 a1] w (AddOut w [] 1) := by
  have hu := Tryd.underlying22
  have HC := Aside0.mk (fun W hb => chk_calls A0 c0 l0 W (Kd.C_below hr0 hb) hc0 (hrw.below hb hrw.pos))
  have HM := Aside0.mk (moment_calls a1)
  have H0 := Aside0.mk (StIn.new w)
  rw [h1] at HC
  rw [h2] at HM
  clear hr0 hrw h1 h2
  go_enter Tryd.func17, Tryd.ntmps17
  go_wp2_with fail
  refine (HC.out _ H0.out.2).mono ?_
  rintro e w1 ⟨rfl, hb⟩
  replace H0 := Aside0.mk (H0.out.below hb)
  clear hb
  go_wp2_with fail
  refine (HM.out _).mono ?_
  rintro e w2 ⟨rfl, hb⟩
  replace H0 := Aside0.mk (H0.out.below hb)
  clear hb
  have c0 := (blk_cell H0.out.1 0).trans rfl
  have f0 := blk_frozen H0.out.1 0
  go_wp2
  refine bodyPost_ret (results_ct1 rfl _ _ ⟨w.heap.size, 0, none⟩ (.slice none 0 0) _ rfl ((blk_cell (blk_put H0.out.1 0 _ rfl) 0).trans rfl) hu rfl) rfl ?_
  exact ⟨_, rfl, Kd.R_nil _ _ _ _ _, below_set H0.out.2 (by omega)⟩
end
end Go.Proofs.YtebfcckaicgcfaaDoor.Q

namespace Go.Proofs.YtebfcckaicgcfaaDoor.Q
open Go.RowKit Go.Proofs.YtebfcckaicgcfaaDoorW.PrintWords Go.Proofs.YtebfcckaicgcfaaDoorW.PrintLast Go.Proofs.YtebfcckaicgcfaaDoorW.PrintMore Go.Proofs.YtebfcckaicgcfaaDoor.Rng
attribute [local go_sem] Oper.semAt_some
attribute [local go_sem] max2_int min2_int max_two min_two
set_option linter.unusedVariables false
set_option linter.unusedSimpArgs false

theorem put_other {A : World} {q g : Nat} {o o' : Obj} {cs : Array Value} {t : TypeId} {fr : Nat × Nat} (hq : A.heap[q]? = some o) (hc : o.isCells = false) (hg : A.heap[g]? = some (.cells cs t fr)) : (A.putObj q o').heap[g]? = A.heap[g]? :=
  World.putObj_heap_other (fun e => by subst e; rw [hg] at hq; cases hq; cases hc)
theorem below_put {b : Nat} {w A : World} {q : Nat} (o' : Obj) (h : Below b w A) (hq : b ≤ q) : Below b w (A.putObj q o') :=
  h.trans ⟨rfl, rfl, rfl, by simp, fun j hj => World.putObj_heap_other (by omega)⟩
theorem MapAt.blk {A B : World} {b : Nat} {m : List (Sub × S24)} (h : MapAt A b m) (e : B.heap[b]? = A.heap[b]?) : MapAt B b m := by
  obtain ⟨es, clock, h1, h2⟩ := h
  exact ⟨es, clock, e.trans h1, h2⟩
theorem MapAt.lt {A : World} {b : Nat} {m : List (Sub × S24)} (h : MapAt A b m) : b < A.heap.size := by
  obtain ⟨es, clock, h1, h2⟩ := h
  exact blk_lt h1

/-- Between two rounds of the first loop. -/
def St1 (w : World) (n₀ bm : Nat) (m : List (Sub × S24)) (W : World) : Prop :=
  Below w.heap.size w W ∧ n₀ ≤ W.heap.size ∧ W.heap[w.heap.size]? = some (.cells #[.slice none 0 0] 22 (0, 0)) ∧ W.heap[bm + 1]? = some (.cells #[.map (some bm)] 52 (0, 0)) ∧ MapAt W bm m
theorem St1.st {w : World} {n₀ bm : Nat} {m : List (Sub × S24)} {A B : World} (h : St1 w n₀ bm m A) (hs : St (fun _ => False) A B) : St1 w n₀ bm m B :=
  ⟨hs.base h.1 (Nat.le_refl _) (fun _ hk => hk.elim), Nat.le_trans h.2.1 hs.2.2.2.1, hs.blk h.2.2.1 (fun hk => hk), hs.blk h.2.2.2.1 (fun hk => hk), h.2.2.2.2.blk (hs.2.2.2.2 bm h.2.2.2.2.lt (fun hk => hk))⟩
theorem St1.put {w : World} {n₀ bm : Nat} {m : List (Sub × S24)} {A : World} {q : Nat} {o : Obj} (o' : Obj) (h : St1 w n₀ bm m A) (hb : w.heap.size ≤ q) (hbm : bm < q) (hq : A.heap[q]? = some o) (hc : o.isCells = false) : St1 w n₀ bm m (A.putObj q o') :=
  ⟨below_put o' h.1 hb, by simpa using h.2.1, (put_other hq hc h.2.2.1).trans h.2.2.1, (put_other hq hc h.2.2.2.1).trans h.2.2.2.1, h.2.2.2.2.blk (World.putObj_heap_other (by omega))⟩
/-- Between two rounds of the second loop. -/
def St2 (w : World) (n₀ bm D : Nat) (m : List (Sub × S24)) (xs : List S24) (W : World) : Prop :=
  Below w.heap.size w W ∧ n₀ ≤ W.heap.size ∧ (∃ v, W.heap[w.heap.size]? = some (.cells #[v] 22 (0, 0)) ∧ Kd.R k24 24 W n₀ (fun _ => True) v xs) ∧ W.heap[bm + 1]? = some (.cells #[.map (some bm)] 52 (0, 0)) ∧ MapAt W bm m ∧ W.heap[D]? = some (.deferred (some []))
theorem St2.st {w : World} {n₀ bm D : Nat} {m : List (Sub × S24)} {xs : List S24} {A B : World} (h : St2 w n₀ bm D m xs A) (hs : St (fun _ => False) A B) : St2 w n₀ bm D m xs B := by
  obtain ⟨h1, h2, ⟨v, h3, h4⟩, h5, h6, h7⟩ := h
  exact ⟨hs.base h1 (Nat.le_refl _) (fun _ hk => hk.elim), Nat.le_trans h2 hs.2.2.2.1, ⟨v, hs.blk h3 (fun hk => hk), Kd.R_mono (Kd.R_step (Kd.R_bound h4) (fun k ho hlt => hs.2.2.2.2 k hlt (fun hk => hk))) (fun _ _ => trivial)⟩, hs.blk h5 (fun hk => hk), h6.blk (hs.2.2.2.2 bm h6.lt (fun hk => hk)), hs.blk h7 (fun hk => hk)⟩
theorem St2.put {w : World} {n₀ bm D : Nat} {m : List (Sub × S24)} {xs : List S24} {A : World} {q : Nat} {o : Obj} (o' : Obj) (h : St2 w n₀ bm D m xs A) (hb : w.heap.size ≤ q) (hbm : bm < q) (hD : D < q) (hq : A.heap[q]? = some o) (hc : o.isCells = false) : St2 w n₀ bm D m xs (A.putObj q o') := by
  obtain ⟨h1, h2, ⟨v, h3, h4⟩, h5, h6, h7⟩ := h
  refine ⟨below_put o' h1 hb, by simpa using h2, ⟨v, (put_other hq hc h3).trans h3, ?_⟩, (put_other hq hc h5).trans h5, h6.blk (World.putObj_heap_other (by omega)), (World.putObj_heap_other (by omega)).trans h7⟩
  refine Kd.R_mono (Kd.R_step (Kd.R_bound h4) (fun k ho hlt => ?_)) (fun _ _ => trivial)
  obtain ⟨_, _, _, e, _, cells, hcells⟩ := ho
  exact put_other hq hc hcells
theorem mapL_succ (K : List S24) (k : Nat) (hk : k < K.length) : mapL (K.take (k + 1)) = stepM (mapL (K.take k)) (K.getD k z24) := by
  unfold mapL
  rw [List.take_succ_eq_append_getElem hk, List.foldl_append, List.getD_eq_getElem?_getD, List.getElem?_eq_getElem hk]
  rfl
theorem filter_succ (p : S24 → Bool) (K : List S24) (k : Nat) (hk : k < K.length) : (K.take (k + 1)).filter p = (K.take k).filter p ++ (if p (K.getD k z24) = true then [K.getD k z24] else []) := by
  rw [List.take_succ_eq_append_getElem hk, List.filter_append, List.getD_eq_getElem?_getD, List.getElem?_eq_getElem hk]
  simp only [Option.getD_some]
  by_cases h : p K[k] = true <;> simp [h]
section
variable {P : Program} {ops : Array Oper} {rest : List Oper} {o : Oper} {a : Act} {Q : Exit → Act → World → Prop} {α : Type} {F : Fence} {nF : Nat}
/-- The print's law of an append of one made thing, for a fenced walk. -/
theorem R_append_in (d : Kd α) {W : World} (base : Nat) (hgd : o.guard = none) (s x : Operand) (t e : TypeId) (z : Value) (bytes : Nat)
    (ho : o.op = .call { callee := .builtin .append, args := #[s, x], argTypes := #[t, t] })
    (ht : P.underlying t = some (.slice e)) (hinfo : (P.info? e).map (fun i => (i.zero, i.size, i.bytes)) = some (some z, d.sz, bytes)) (hz : z.cells.size = d.sz) (hs0 : 0 < d.sz) (hb0 : 0 < bytes)
    (v : Value) (xs : List α) (p : α) (cs : List Value) (ok okp : Nat → Prop) (hs : a.eval s = v) (hx : a.eval x = .slice (some ⟨W.heap.size, 0, none⟩) 1 1) (hp : d.M W base okp p cs) (hokp : ∀ k, okp k → ok k ∧ some k ≠ v.ownBlock) (hfresh : ∀ k, W.heap.size ≤ k → ok k)
    (HO : d.R e W base ok v xs) (hbase : base ≤ W.heap.size) (hl : (xs.length + 1) * bytes ≤ 140737488355328)
    (h : ∀ v1 w1, d.R e w1 base ok v1 (xs ++ [p]) → W.grownBy w1 v.ownBlock → wpListIn F nF P ops Q rest (a.put o.dst v1) w1) :
    wpListIn F nF P ops Q (o :: rest) a (W.alloc (.cells cs.toArray e)) := by
  obtain ⟨h0, inner, hown, hr⟩ := HO
  obtain ⟨i0, hi, hzz⟩ := Option.map_eq_some_iff.1 hinfo
  simp only [Prod.mk.injEq] at hzz
  obtain ⟨hz0, hz1, hz2⟩ := hzz
  have hlen : xs.length + 1 ≤ 140737488355328 := Nat.le_trans (Nat.le_mul_of_pos_right _ hb0) hl
  refine wpListIn_append_own_at (W.alloc (.cells cs.toArray e)) hgd s x t ho base e i0 z d.sz bytes ht hi hz0 hz1 hz2 hz hs0 v xs.length inner hs (hown.alloc _) ⟨W.heap.size, 0, none⟩ 1 1 cs hx (by rw [d.K_len (d.K_of_M hp)]; simp)
    (by simpa using World.news_of_block (cs := cs.toArray) (t := e) (fr := (0, 0)) (heap_alloc_new W (.cells cs.toArray e))) (d.K_one (d.K_of_M hp)) (by simp only [maxLen]; omega) hl (by simp; omega) ?_
  intro v1 w1 hown1 hg _ hat
  have hg1 := World.grownBy.trans (World.grownBy_alloc W _ v.ownBlock) hg
  refine h v1 w1 (Kd.R_appended h0 hr hp hokp hfresh hown1 hg1 ?_) hg1
  rcases hat with hat | hat
  · exact .inl hat
  · exact .inr ⟨_, hat, by simp⟩
end
theorem uK : Tryd.prog.underlying 57 = some (.struct (kfields "fasti/facts")) := Tryd.underlying57
theorem pK : Tryd.prog.stoodInHeld 57 = false := by kernel_rfl

set_option maxRecDepth 100000 in
set_option maxHeartbeats 8000000 in
theorem st_yes (A0 : Option Addr) (c0 : Nat) (l0 : List S24) (a1 : Int) (w : World) (hr0 : Kd.C k24 w A0 l0.length l0) (hc0 : l0.length ≤ c0) (hrw : RowsAt w) (h1 : chkV l0 = 0) (h2 : wi a1 0 134217727 = true) :
    Calls Tryd.prog 17 #[.slice A0 l0.length c0, .int .i64 a1] w (AddOut w ((knownV a1 l0).filter (stB (mapL (knownV a1 l0)))) 0) := by
  have hu := Tryd.underlying22
  have hmm := @run_makeMap Tryd.prog
  have HC := Aside0.mk (fun W hb => chk_calls A0 c0 l0 W (Kd.C_below hr0 hb) hc0 (hrw.below hb hrw.pos))
  have HM := Aside0.mk (moment_calls a1)
  have H0 := Aside0.mk (StIn.new w)
  have hn := (chk_ok h1).1
  have HR := Aside0.mk hr0
  have HA := Aside0.mk (known_ A0 l0.length c0 a1)
  rw [h1] at HC
  rw [h2] at HM
  clear hr0 hrw h1 h2
  obtain ⟨K, hK⟩ : ∃ K, Aside0 (knownV a1 l0 = K) := ⟨_, ⟨rfl⟩⟩
  have HIt := Aside0.mk (fun bl bt U => known_iter w l0 A0 c0 bl bt a1 U (fun _ => False) HR.out hn)
  have hKn : Aside0 (K.length ≤ 4096) := ⟨by rw [← hK.out]; unfold knownV; exact Nat.le_trans (List.length_filter_le _ _) hn⟩
  rw [hK.out] at HIt ⊢
  clear hK HR
  obtain ⟨q, _⟩ : ∃ q : Nat, q = 7 := ⟨_, rfl⟩
  refine (callsIn_wide (n := q)).1 ?_
  refine callsIn_of_wp_marks Tryd.func17 rfl trivial ?_ rfl
  simp only [Tryd.ntmps17, List.size_toArray, List.length_cons, List.length_nil, Nat.reduceAdd, Nat.reduceSub, Array.replicate_succ, Array.replicate_zero, List.push_toArray, List.append_toArray, List.nil_append, List.cons_append]
  gi_wp2
  refine ⟨trivial, callsIn_wide.2 ?_⟩
  refine (HC.out _ H0.out.2).mono ?_
  rintro e w1 ⟨rfl, hb⟩
  replace H0 := Aside0.mk (H0.out.below hb)
  clear hb
  gi_wp2_with fail
  refine ⟨trivial, callsIn_wide.2 ?_⟩
  refine (HM.out _).mono ?_
  rintro e w2 ⟨rfl, hb⟩
  replace H0 := Aside0.mk (H0.out.below hb)
  clear hb HC HM
  gi_wp2_with fail
  refine ⟨trivial, callsIn_wide.2 ?_⟩
  refine (HA.out _).mono ?_
  rintro e w3 ⟨rfl, hw3⟩
  have hs2 : w.heap.size + 1 ≤ w2.heap.size := blk_lt H0.out.1
  have BM : Aside0 (w3.heap[w2.heap.size]? = some (.map #[] 0)) := ⟨hw3 ▸ heap_at_old _ _ _ _ (heap_at_old _ _ _ _ (heap_at_old _ _ _ _ (heap_at_new _ _ _ rfl)))⟩
  have B6 : Aside0 (w3.heap[w2.heap.size + 1]? = some (.cells #[.map (some w2.heap.size)] 52 (0, 0))) := ⟨hw3 ▸ heap_at_old _ _ _ _ (heap_at_old _ _ _ _ (heap_at_new _ _ _ (by simp)))⟩
  have BL : Aside0 (w3.heap[w2.heap.size + 1 + 1]? = some (.cells #[.slice A0 l0.length c0] 22 (0, 0))) := ⟨hw3 ▸ heap_at_old _ _ _ _ (heap_at_new _ _ _ (by simp))⟩
  have BT : Aside0 (w3.heap[w2.heap.size + 1 + 1 + 1]? = some (.cells #[.int .i64 a1] 3 (0, 0))) := ⟨hw3 ▸ heap_at_new _ _ _ (by simp)⟩
  have hs3 : w3.heap.size = w2.heap.size + 4 := by rw [hw3]; simp
  have H3 : Aside0 (StIn w w3) := ⟨H0.out.below (hw3 ▸ below_alloc (below_alloc (below_alloc (below_alloc (Below.refl _ _) _) _) _) _)⟩
  clear hw3 H0
  gi_wp2_with fail
  obtain ⟨n₀, hn₀⟩ : ∃ n₀, w3.heap.size = n₀ := ⟨_, rfl⟩
  obtain ⟨rK, hrK⟩ : ∃ rK : Nat → S24, Aside0 (∀ k, K.getD k z24 = rK k) := ⟨_, ⟨fun _ => rfl⟩⟩
  simp only [hrK.out] at HIt
  refine range_lawM (gf := 41) rfl (enters_of Tryd.func41 (by kernel_rfl) rfl)
    (HIt.out (w2.heap.size + 1 + 1) (w2.heap.size + 1 + 1 + 1) (fun j => j = w2.heap.size ∨ n₀ ≤ j) (fun j hj => by omega) (by omega) (by omega))
    (fun _ => rfl) (fun j hj => .inr (by omega)) (fun k hk => hk.elim)
    (fun o1 o2 => ⟨below_alloc (below_alloc H3.out.2 _) _, heap_at_old _ _ _ _ (heap_at_old _ _ _ _ BL.out), heap_at_old _ _ _ _ (heap_at_old _ _ _ _ BT.out)⟩)
    (fun k => St1 w n₀ w2.heap.size (mapL (K.take k))) (fun _ _ => False)
    (fun k A B h hS => h.st hS) (fun _ _ _ h _ => h)
    (fun k A q o o' h hq hA hc => h.put o' (by omega) (by omega) hA hc) (fun _ _ _ _ _ h _ _ _ => h)
    (fun o1 o2 => ⟨below_alloc (below_alloc H3.out.2 _) _, by simp only [World.size_alloc]; omega, heap_at_old _ _ _ _ (heap_at_old _ _ _ _ H3.out.1), heap_at_old _ _ _ _ (heap_at_old _ _ _ _ B6.out), ⟨_, _, heap_at_old _ _ _ _ (heap_at_old _ _ _ _ BM.out), rfl⟩⟩)
    (fun k b W => St1 w n₀ w2.heap.size (mapL (K.take k)) W ∧ ∃ g7 g8, b = { tmps := #[.slice A0 l0.length c0, .int .i64 a1, undef, undef, .pointer (some ⟨w.heap.size, 0, none⟩), .int .i64 0, .pointer (some ⟨w2.heap.size + 1, 0, none⟩), .pointer (some ⟨g7, 0, none⟩), .pointer (some ⟨g8, 0, none⟩), undef, undef, undef, undef, .slice A0 l0.length c0, .int .i64 0, .int .i64 0, .bool false, undef, .int .i64 a1, .bool true, .bool false, .map (some w2.heap.size), .slice A0 l0.length c0, .int .i64 a1, .func (.func 41) #[] #[.pointer (some ⟨w2.heap.size + 1 + 1, 0, none⟩), .pointer (some ⟨w2.heap.size + 1 + 1 + 1, 0, none⟩)], .agg (subC (rK k)), .agg (facC (rK k)), undef, undef, undef, undef, undef, undef, undef, undef, undef, undef, undef, undef, undef, undef, undef, undef, undef, undef, undef, undef, undef, undef, undef, undef, undef, undef, undef, undef, undef, undef, undef, undef, undef, undef, undef, undef, undef, undef], defers := [] } ∧ W.heap[g7]? = some (.cells (subC (rK k)) 57 (0, 0)) ∧ W.heap[g8]? = some (.cells (facC (rK k)) 24 (0, 0)))
    (fun k b A q o o' h hq hA hc => ⟨h.1.put o' (by omega) (by omega) hA hc, ?_⟩) ?assign ?body ?done ?stop
  case assign =>
    intro l k W hk hI
    simp only [List.zip_toArray, List.zip_cons_cons, List.zip_nil_left, List.foldl_toArray, List.foldl_cons, List.foldl_nil, List.setIfInBounds_toArray, List.set_cons_succ, List.set_cons_zero]
    have hal := Aside0.mk (below_alloc (below_alloc (Below.refl W.heap.size W) (.cells (subC (rK k)) 57 (0, 0))) (.cells (facC (rK k)) 24 (0, 0)))
    have hI' := Aside0.mk hI
    clear hI
    have hb7 := Aside0.mk (heap_at_old (W.alloc (.cells (subC (rK k)) 57 (0, 0))) (.cells (facC (rK k)) 24 (0, 0)) _ _ (heap_at_new W (.cells (subC (rK k)) 57 (0, 0)) _ rfl))
    have hb8 := Aside0.mk (heap_at_new (W.alloc (.cells (subC (rK k)) 57 (0, 0))) (.cells (facC (rK k)) 24 (0, 0)) (W.heap.size + 1) (by simp))
    have hko := Aside0.mk ((KeepsOthers.alloc W (.cells (subC (rK k)) 57 (0, 0))).trans (KeepsOthers.alloc _ (.cells (facC (rK k)) 24 (0, 0))))
    unfold subC facC at *
    gi_wp2
    exact ⟨hko.out.from _, St.of_below hal.out, hI'.out.st (St.of_below hal.out), W.heap.size, W.heap.size + 1, rfl, hb7.out, hb8.out⟩
  case body =>
    rintro l k b W hk ⟨hI, g7, g8, rfl, hb7, hb8⟩
    obtain ⟨h1, h2, h3, h4, h5⟩ := hI
    have hsc := mapL_succ K k hk
    rw [hrK.out] at hsc
    generalize rK k = r at hb7 hb8 hsc ⊢
    generalize mapL (K.take k) = m at h5 hsc
    have HSC := Aside0.mk hsc
    unfold subC at hb7
    unfold facC at hb8
    have HB := Aside0.mk h1
    have H2 := Aside0.mk h2
    have H3b := Aside0.mk h3
    have H4 := Aside0.mk h4
    have HMp := Aside0.mk h5
    have HB7 := Aside0.mk hb7
    have HB8 := Aside0.mk hb8
    clear h1 h2 h3 h4 h5 hb7 hb8 hsc
    have c6 := (blk_cell H4.out 0).trans rfl
    have d0 := (blk_cell HB7.out 0).trans rfl
    have d1 := (blk_cell HB7.out 1).trans rfl
    have d2 := (blk_cell HB7.out 2).trans rfl
    have d3 := (blk_cell HB7.out 3).trans rfl
    have d4 := (blk_cell HB7.out 4).trans rfl
    have e0 := (blk_cell HB8.out 0).trans rfl
    have e1 := (blk_cell HB8.out 1).trans rfl
    have e2 := (blk_cell HB8.out 2).trans rfl
    have e3 := (blk_cell HB8.out 3).trans rfl
    have e4 := (blk_cell HB8.out 4).trans rfl
    have e5 := (blk_cell HB8.out 5).trans rfl
    have e6 := (blk_cell HB8.out 6).trans rfl
    have e7 := (blk_cell HB8.out 7).trans rfl
    have e8 := (blk_cell HB8.out 8).trans rfl
    unfold subC facC
    cases hg : mget m (subOf r) with
    | none =>
      have hlv : lookV true m (subOf r) = .tuple #[.agg #[.int .i64 0, .int .i64 0, .int .i64 0, .int .i64 0, .int .i64 0, .int .i64 0, .int .i64 0, .int .i64 0, .int .i64 0], .bool false] := by unfold lookV; rw [hg]; rfl
      have hst : stepM m r = mput m (subOf r) r := by unfold stepM; rw [hg]
      have HA7 := Aside0.mk (heap_at_old W (.cells #[.int .i64 0, .int .i64 0, .int .i64 0, .int .i64 0, .int .i64 0, .int .i64 0, .int .i64 0, .int .i64 0, .int .i64 0] 24 (0, 0)) _ _ HB7.out)
      have HA8 := Aside0.mk (heap_at_old W (.cells #[.int .i64 0, .int .i64 0, .int .i64 0, .int .i64 0, .int .i64 0, .int .i64 0, .int .i64 0, .int .i64 0, .int .i64 0] 24 (0, 0)) _ _ HB8.out)
      have HA6 := Aside0.mk (heap_at_old W (.cells #[.int .i64 0, .int .i64 0, .int .i64 0, .int .i64 0, .int .i64 0, .int .i64 0, .int .i64 0, .int .i64 0, .int .i64 0] 24 (0, 0)) _ _ H4.out)
      have HMa : Aside0 (MapAt (W.alloc (.cells #[.int .i64 0, .int .i64 0, .int .i64 0, .int .i64 0, .int .i64 0, .int .i64 0, .int .i64 0, .int .i64 0, .int .i64 0] 24 (0, 0))) w2.heap.size m) := ⟨HMp.out.blk (Below.heap_alloc _ _ _ HMp.out.lt)⟩
      have x0 := (blk_cell HA7.out 0).trans rfl
      have x1 := (blk_cell HA7.out 1).trans rfl
      have x2 := (blk_cell HA7.out 2).trans rfl
      have x3 := (blk_cell HA7.out 3).trans rfl
      have x4 := (blk_cell HA7.out 4).trans rfl
      have y0 := (blk_cell HA8.out 0).trans rfl
      have y1 := (blk_cell HA8.out 1).trans rfl
      have y2 := (blk_cell HA8.out 2).trans rfl
      have y3 := (blk_cell HA8.out 3).trans rfl
      have y4 := (blk_cell HA8.out 4).trans rfl
      have y5 := (blk_cell HA8.out 5).trans rfl
      have y6 := (blk_cell HA8.out 6).trans rfl
      have y7 := (blk_cell HA8.out 7).trans rfl
      have y8 := (blk_cell HA8.out 8).trans rfl
      have v6 := (blk_cell HA6.out 0).trans rfl
      have hsa : Aside0 (St (fun _ => False) W (W.alloc (.cells #[.int .i64 0, .int .i64 0, .int .i64 0, .int .i64 0, .int .i64 0, .int .i64 0, .int .i64 0, .int .i64 0, .int .i64 0] 24 (0, 0)))) := ⟨St.of_below (below_alloc (Below.refl _ _) _)⟩
      have hka : Aside0 (KeepsFrom w3.heap.size W (W.alloc (.cells #[.int .i64 0, .int .i64 0, .int .i64 0, .int .i64 0, .int .i64 0, .int .i64 0, .int .i64 0, .int .i64 0, .int .i64 0] 24 (0, 0)))) := ⟨(KeepsOthers.alloc _ _).from _⟩
      have HST := Aside0.mk hst
      clear hst hg
      gi_wp2_with (first | (refine lookIn 57 uK pK Tryd.underlying52 (.tmp 28) (.tmp 29) w2.heap.size m (subOf r) rfl rfl rfl rfl HMp.out _ hlv ?_) | (refine updIn 57 uK pK Tryd.underlying52 (.tmp 42) (.tmp 43) (.tmp 44) w2.heap.size m (subOf r) r rfl rfl rfl rfl rfl HMa.out ?_; intro w' hm' hgr'; have HM' := Aside0.mk hm'; have HG' := Aside0.mk hgr'; clear hm' hgr'))
      have hs' : St (fun j => j = w2.heap.size ∨ n₀ ≤ j) W w' := (hsa.out.mono (fun _ h => h.elim)).trans ⟨HG'.out.os, HG'.out.tape, HG'.out.output, HG'.out.size, fun i hi hU => HG'.out.block i hi (fun e => hU (.inl (Option.some.inj e)))⟩
      refine ⟨hka.out.trans (KeepsFrom.of_grownBy HG'.out (fun j hj => by have := Option.some.inj hj; omega)), hs', hs'.base HB.out (Nat.le_refl _) (fun j hj => by omega), Nat.le_trans H2.out hs'.2.2.2.1, hs'.blk H3b.out (by omega), hs'.blk H4.out (by omega), ?_⟩
      rw [HSC.out, HST.out]
      exact HM'.out
    | some z =>
      have hlv : lookV true m (subOf r) = .tuple #[.agg #[.int .i64 z.f0, .int .i64 z.f1, .int .i64 z.f2, .int .i64 z.f3, .int .i64 z.f4, .int .i64 z.f5, .int .i64 z.f6, .int .i64 z.f7, .int .i64 z.f8], .bool true] := by unfold lookV; rw [hg]; rfl
      have HA7 := Aside0.mk (heap_at_old W (.cells #[.int .i64 z.f0, .int .i64 z.f1, .int .i64 z.f2, .int .i64 z.f3, .int .i64 z.f4, .int .i64 z.f5, .int .i64 z.f6, .int .i64 z.f7, .int .i64 z.f8] 24 (0, 0)) _ _ HB7.out)
      have HA8 := Aside0.mk (heap_at_old W (.cells #[.int .i64 z.f0, .int .i64 z.f1, .int .i64 z.f2, .int .i64 z.f3, .int .i64 z.f4, .int .i64 z.f5, .int .i64 z.f6, .int .i64 z.f7, .int .i64 z.f8] 24 (0, 0)) _ _ HB8.out)
      have HA6 := Aside0.mk (heap_at_old W (.cells #[.int .i64 z.f0, .int .i64 z.f1, .int .i64 z.f2, .int .i64 z.f3, .int .i64 z.f4, .int .i64 z.f5, .int .i64 z.f6, .int .i64 z.f7, .int .i64 z.f8] 24 (0, 0)) _ _ H4.out)
      have HMa : Aside0 (MapAt (W.alloc (.cells #[.int .i64 z.f0, .int .i64 z.f1, .int .i64 z.f2, .int .i64 z.f3, .int .i64 z.f4, .int .i64 z.f5, .int .i64 z.f6, .int .i64 z.f7, .int .i64 z.f8] 24 (0, 0))) w2.heap.size m) := ⟨HMp.out.blk (Below.heap_alloc _ _ _ HMp.out.lt)⟩
      have x0 := (blk_cell HA7.out 0).trans rfl
      have x1 := (blk_cell HA7.out 1).trans rfl
      have x2 := (blk_cell HA7.out 2).trans rfl
      have x3 := (blk_cell HA7.out 3).trans rfl
      have x4 := (blk_cell HA7.out 4).trans rfl
      have y0 := (blk_cell HA8.out 0).trans rfl
      have y1 := (blk_cell HA8.out 1).trans rfl
      have y2 := (blk_cell HA8.out 2).trans rfl
      have y3 := (blk_cell HA8.out 3).trans rfl
      have y4 := (blk_cell HA8.out 4).trans rfl
      have y5 := (blk_cell HA8.out 5).trans rfl
      have y6 := (blk_cell HA8.out 6).trans rfl
      have y7 := (blk_cell HA8.out 7).trans rfl
      have y8 := (blk_cell HA8.out 8).trans rfl
      have v6 := (blk_cell HA6.out 0).trans rfl
      have hsa : Aside0 (St (fun _ => False) W (W.alloc (.cells #[.int .i64 z.f0, .int .i64 z.f1, .int .i64 z.f2, .int .i64 z.f3, .int .i64 z.f4, .int .i64 z.f5, .int .i64 z.f6, .int .i64 z.f7, .int .i64 z.f8] 24 (0, 0)))) := ⟨St.of_below (below_alloc (Below.refl _ _) _)⟩
      have hka : Aside0 (KeepsFrom w3.heap.size W (W.alloc (.cells #[.int .i64 z.f0, .int .i64 z.f1, .int .i64 z.f2, .int .i64 z.f3, .int .i64 z.f4, .int .i64 z.f5, .int .i64 z.f6, .int .i64 z.f7, .int .i64 z.f8] 24 (0, 0)))) := ⟨(KeepsOthers.alloc _ _).from _⟩
      by_cases hc : z.f8 ≤ r.f8
      · have hst : stepM m r = mput m (subOf r) r := by unfold stepM; rw [hg]; simp [hc]
        have hcd : decide (z.f8 ≤ r.f8) = true := decide_eq_true hc
        have HST := Aside0.mk hst
        clear hst hg hc
        gi_wp2_with (first | (refine lookIn 57 uK pK Tryd.underlying52 (.tmp 28) (.tmp 29) w2.heap.size m (subOf r) rfl rfl rfl rfl HMp.out _ hlv ?_) | (refine updIn 57 uK pK Tryd.underlying52 (.tmp 42) (.tmp 43) (.tmp 44) w2.heap.size m (subOf r) r rfl rfl rfl rfl rfl HMa.out ?_; intro w' hm' hgr'; have HM' := Aside0.mk hm'; have HG' := Aside0.mk hgr'; clear hm' hgr'))
        have hs' : St (fun j => j = w2.heap.size ∨ n₀ ≤ j) W w' := (hsa.out.mono (fun _ h => h.elim)).trans ⟨HG'.out.os, HG'.out.tape, HG'.out.output, HG'.out.size, fun i hi hU => HG'.out.block i hi (fun e => hU (.inl (Option.some.inj e)))⟩
        refine ⟨hka.out.trans (KeepsFrom.of_grownBy HG'.out (fun j hj => by have := Option.some.inj hj; omega)), hs', hs'.base HB.out (Nat.le_refl _) (fun j hj => by omega), Nat.le_trans H2.out hs'.2.2.2.1, hs'.blk H3b.out (by omega), hs'.blk H4.out (by omega), ?_⟩
        rw [HSC.out, HST.out]
        exact HM'.out
      · have hst : stepM m r = m := by unfold stepM; rw [hg]; simp [hc]
        have hcd : decide (z.f8 ≤ r.f8) = false := decide_eq_false hc
        have HST := Aside0.mk hst
        clear hst hg hc
        gi_wp2_with (first | (refine lookIn 57 uK pK Tryd.underlying52 (.tmp 28) (.tmp 29) w2.heap.size m (subOf r) rfl rfl rfl rfl HMp.out _ hlv ?_) | (refine updIn 57 uK pK Tryd.underlying52 (.tmp 42) (.tmp 43) (.tmp 44) w2.heap.size m (subOf r) r rfl rfl rfl rfl rfl HMa.out ?_; intro w' hm' hgr'; have HM' := Aside0.mk hm'; have HG' := Aside0.mk hgr'; clear hm' hgr'))
        refine ⟨hka.out, hsa.out.mono (fun _ h => h.elim), ?_⟩
        have hI2 : St1 w n₀ w2.heap.size m W := ⟨HB.out, H2.out, H3b.out, H4.out, HMp.out⟩
        show St1 w n₀ w2.heap.size (mapL (K.take (k + 1))) _
        rw [HSC.out, HST.out]
        exact hI2.st hsa.out
  case done =>
    intro D W0 hD hI hK
    obtain ⟨h1, h2, h3, h4, h5⟩ := hI
    rw [List.take_length] at h5
    obtain ⟨M, hM⟩ : ∃ M, mapL K = M := ⟨_, rfl⟩
    rw [hM] at h5
    have HB := Aside0.mk h1
    have H3b := Aside0.mk h3
    have H4 := Aside0.mk h4
    have HMp := Aside0.mk h5
    have HK := Aside0.mk hK
    have hDl := blk_lt hK
    clear h1 h3 h4 h5 hK
    gi_wp2_with fail
    refine ⟨trivial, callsIn_wide.2 ?_⟩
    refine (HA.out _).mono ?_
    rintro e w4 ⟨rfl, hw4⟩
    have hs4 : w4.heap.size = W0.heap.size + 2 := by rw [hw4]; simp
    have hb4 : Aside0 (Below W0.heap.size W0 w4) := ⟨hw4 ▸ below_alloc (below_alloc (Below.refl _ _) _) _⟩
    have BL2 : Aside0 (w4.heap[W0.heap.size]? = some (.cells #[.slice A0 l0.length c0] 22 (0, 0))) := ⟨hw4 ▸ heap_at_old _ _ _ _ (heap_at_new _ _ _ rfl)⟩
    have BT2 : Aside0 (w4.heap[W0.heap.size + 1]? = some (.cells #[.int .i64 a1] 3 (0, 0))) := ⟨hw4 ▸ heap_at_new _ _ _ (by simp)⟩
    replace H3b := Aside0.mk (heap_below hb4.out H3b.out)
    replace H4 := Aside0.mk (heap_below hb4.out H4.out)
    replace HK := Aside0.mk (heap_below hb4.out HK.out)
    replace HMp := Aside0.mk (HMp.out.blk (hb4.out.block _ HMp.out.lt))
    replace HB := Aside0.mk (below_step HB.out hb4.out)
    clear hw4 hb4 HA
    gi_wp2_with fail
    obtain ⟨n₁, hn₁⟩ : ∃ n₁, w4.heap.size = n₁ := ⟨_, rfl⟩
    refine range_lawM (gf := 41) rfl (enters_of Tryd.func41 (by kernel_rfl) rfl)
      (HIt.out W0.heap.size (W0.heap.size + 1) (fun j => j = w.heap.size ∨ n₁ ≤ j) (fun j hj => by omega) (by omega) (by omega))
      (fun _ => rfl) (fun j hj => .inr (by omega)) (fun k hk => hk.elim)
      (fun o1 o2 => ⟨below_alloc (below_alloc HB.out _) _, heap_at_old _ _ _ _ (heap_at_old _ _ _ _ BL2.out), heap_at_old _ _ _ _ (heap_at_old _ _ _ _ BT2.out)⟩)
      (fun k => St2 w n₁ w2.heap.size D M ((K.take k).filter (stB M))) (fun _ _ => False)
      (fun k A B h hS => h.st hS) (fun _ _ _ h _ => h)
      (fun k A q o o' h hq hA hc => h.put o' (by omega) (by omega) (by omega) hA hc) (fun _ _ _ _ _ h _ _ _ => h)
      (fun o1 o2 => ⟨below_alloc (below_alloc HB.out _) _, by simp only [World.size_alloc]; omega, ⟨_, heap_at_old _ _ _ _ (heap_at_old _ _ _ _ H3b.out), Kd.R_nil _ _ _ _ _⟩, heap_at_old _ _ _ _ (heap_at_old _ _ _ _ H4.out), (HMp.out.blk (Below.heap_alloc _ _ _ HMp.out.lt)).blk (Below.heap_alloc _ _ _ (by have := HMp.out.lt; simp only [World.size_alloc]; omega)), heap_at_old _ _ _ _ (heap_at_old _ _ _ _ HK.out)⟩)
      (fun k b W => St2 w n₁ w2.heap.size D M ((K.take k).filter (stB M)) W ∧ ∃ g7 g8, b = { tmps := #[.slice A0 l0.length c0, .int .i64 a1, undef, undef, .pointer (some ⟨w.heap.size, 0, none⟩), .int .i64 0, .pointer (some ⟨w2.heap.size + 1, 0, none⟩), undef, undef, undef, undef, .pointer (some ⟨g7, 0, none⟩), .pointer (some ⟨g8, 0, none⟩), .slice A0 l0.length c0, .int .i64 0, .int .i64 0, .bool false, undef, .int .i64 a1, .bool true, .bool false, .map (some w2.heap.size), .slice A0 l0.length c0, .int .i64 a1, .func (.func 41) #[] #[.pointer (some ⟨w2.heap.size + 1 + 1, 0, none⟩), .pointer (some ⟨w2.heap.size + 1 + 1 + 1, 0, none⟩)], undef, undef, undef, undef, undef, undef, undef, undef, undef, undef, undef, undef, undef, undef, undef, undef, undef, undef, undef, undef, .slice A0 l0.length c0, .int .i64 a1, .func (.func 41) #[] #[.pointer (some ⟨W0.heap.size, 0, none⟩), .pointer (some ⟨W0.heap.size + 1, 0, none⟩)], .agg (subC (rK k)), .agg (facC (rK k)), undef, undef, undef, undef, undef, undef, undef, undef, undef, undef, undef, undef, undef, undef, undef], defers := [] } ∧ W.heap[g7]? = some (.cells (subC (rK k)) 57 (0, 0)) ∧ W.heap[g8]? = some (.cells (facC (rK k)) 24 (0, 0)))
      (fun k b A q o o' h hq hA hc => ⟨h.1.put o' (by omega) (by omega) (by omega) hA hc, ?_⟩) ?assign2 ?body2 ?done2 ?stop2
    case assign2 =>
      intro l k W hk hI
      simp only [List.zip_toArray, List.zip_cons_cons, List.zip_nil_left, List.foldl_toArray, List.foldl_cons, List.foldl_nil, List.setIfInBounds_toArray, List.set_cons_succ, List.set_cons_zero]
      have hal := Aside0.mk (below_alloc (below_alloc (Below.refl W.heap.size W) (.cells (subC (rK k)) 57 (0, 0))) (.cells (facC (rK k)) 24 (0, 0)))
      have hI' := Aside0.mk hI
      clear hI
      have hb7 := Aside0.mk (heap_at_old (W.alloc (.cells (subC (rK k)) 57 (0, 0))) (.cells (facC (rK k)) 24 (0, 0)) _ _ (heap_at_new W (.cells (subC (rK k)) 57 (0, 0)) _ rfl))
      have hb8 := Aside0.mk (heap_at_new (W.alloc (.cells (subC (rK k)) 57 (0, 0))) (.cells (facC (rK k)) 24 (0, 0)) (W.heap.size + 1) (by simp))
      have hko := Aside0.mk ((KeepsOthers.alloc W (.cells (subC (rK k)) 57 (0, 0))).trans (KeepsOthers.alloc _ (.cells (facC (rK k)) 24 (0, 0))))
      unfold subC facC at *
      gi_wp2
      exact ⟨hko.out.from _, St.of_below hal.out, hI'.out.st (St.of_below hal.out), W.heap.size, W.heap.size + 1, rfl, hb7.out, hb8.out⟩
    case body2 =>
      rintro l k b W hk ⟨hI, g7, g8, rfl, hb7, hb8⟩
      obtain ⟨h1, h2', ⟨v, h3, h4⟩, h5, h6, h7⟩ := hI
      have hsc := filter_succ (stB M) K k hk
      rw [hrK.out] at hsc
      have hlen : Aside0 (((K.take k).filter (stB M)).length + 1 ≤ 4097) := ⟨by have a := List.length_filter_le (stB M) (K.take k); have b := hKn.out; rw [List.length_take] at a; omega⟩
      generalize rK k = r at hb7 hb8 hsc ⊢
      generalize (K.take k).filter (stB M) = xs at h4 hsc hlen
      have HSC := Aside0.mk hsc
      unfold subC at hb7
      unfold facC at hb8
      have HB := Aside0.mk h1
      have H2 := Aside0.mk h2'
      have H3 := Aside0.mk h3
      have HR := Aside0.mk h4
      have H5 := Aside0.mk h5
      have HMp := Aside0.mk h6
      have HD := Aside0.mk h7
      have HB7 := Aside0.mk hb7
      have HB8 := Aside0.mk hb8
      clear h1 h2' h3 h4 h5 h6 h7 hb7 hb8 hsc
      have hIW : Aside0 (St2 w n₁ w2.heap.size D M xs W) := ⟨⟨HB.out, H2.out, ⟨v, H3.out, HR.out⟩, H5.out, HMp.out, HD.out⟩⟩
      have c4 := (blk_cell H3.out 0).trans rfl
      have f4 := blk_frozen H3.out 0
      have c6 := (blk_cell H5.out 0).trans rfl
      have d0 := (blk_cell HB7.out 0).trans rfl
      have d1 := (blk_cell HB7.out 1).trans rfl
      have d2 := (blk_cell HB7.out 2).trans rfl
      have d3 := (blk_cell HB7.out 3).trans rfl
      have d4 := (blk_cell HB7.out 4).trans rfl
      have e0 := (blk_cell HB8.out 0).trans rfl
      have e1 := (blk_cell HB8.out 1).trans rfl
      have e2 := (blk_cell HB8.out 2).trans rfl
      have e3 := (blk_cell HB8.out 3).trans rfl
      have e4 := (blk_cell HB8.out 4).trans rfl
      have e5 := (blk_cell HB8.out 5).trans rfl
      have e6 := (blk_cell HB8.out 6).trans rfl
      have e7 := (blk_cell HB8.out 7).trans rfl
      have e8 := (blk_cell HB8.out 8).trans rfl
      unfold subC facC
      obtain ⟨z, hz⟩ : ∃ z, (mget M (subOf r)).getD z24 = z := ⟨_, rfl⟩
      have hlv : lookV false M (subOf r) = .agg (facC z) := by unfold lookV; rw [hz]; rfl
      have hl : ∀ n, (Instr.lookup 52 (.map (some w2.heap.size)) (.agg #[.int .i64 r.f1, .int .i64 r.f2, .int .i64 r.f3, .int .i64 r.f4, .int .i64 r.f7]) false).run Tryd.prog (W.drewN n) = .ok (.agg #[.int .i64 z.f0, .int .i64 z.f1, .int .i64 z.f2, .int .i64 z.f3, .int .i64 z.f4, .int .i64 z.f5, .int .i64 z.f6, .int .i64 z.f7, .int .i64 z.f8]) (W.drewN n) := fun n =>
        (look_run 57 uK pK Tryd.underlying52 false (W := W.drewN n) (HMp.out.blk rfl) (subOf r)).trans (by rw [hlv]; rfl)
      have hq : ∀ w, (binOp .eql 24 (.agg #[.int .i64 z.f0, .int .i64 z.f1, .int .i64 z.f2, .int .i64 z.f3, .int .i64 z.f4, .int .i64 z.f5, .int .i64 z.f6, .int .i64 z.f7, .int .i64 z.f8]) (.agg #[.int .i64 r.f0, .int .i64 r.f1, .int .i64 r.f2, .int .i64 r.f3, .int .i64 r.f4, .int .i64 r.f5, .int .i64 r.f6, .int .i64 r.f7, .int .i64 r.f8])).run Tryd.prog w = .ok (.bool (fEq z r)) w := fun w => by
        have h : (Op.equal 24 (.agg #[.int .i64 z.f0, .int .i64 z.f1, .int .i64 z.f2, .int .i64 z.f3, .int .i64 z.f4, .int .i64 z.f5, .int .i64 z.f6, .int .i64 z.f7, .int .i64 z.f8]) (.agg #[.int .i64 r.f0, .int .i64 r.f1, .int .i64 r.f2, .int .i64 r.f3, .int .i64 r.f4, .int .i64 r.f5, .int .i64 r.f6, .int .i64 r.f7, .int .i64 r.f8])).run Tryd.prog w = .ok (fEq z r) w := eqA24 9998 w _ _ _ _ _ _ _ _ _ _ _ _ _ _ _ _ _ _
        simp [binOp, h, go_sem]
      have hsB : stB M r = (fEq z r && (r.f5 != -1)) := by unfold stB; rw [hz]
      have HSB := Aside0.mk hsB
      clear hz hlv hsB
      generalize fEq z r = E at hq HSB
      cases E with
      | false =>
        gi_wp2
        refine wpIn_round_quiet (F := Fence.wide) rfl (by kernel_rfl) (by kernel_rfl) (by kernel_rfl) ?_
        repeat (quiet_step_in (fail))
        refine wpQuietIn_nil ?_
        rintro _ ⟨nq, rfl⟩
        gi_wp2
        refine ⟨⟨Nat.le_refl _, fun _ _ _ h _ => h⟩, (St.refl _ W).drewN nq, ?_⟩
        show St2 w n₁ w2.heap.size D M ((K.take (k + 1)).filter (stB M)) _
        rw [HSC.out, HSB.out, if_neg (by simp), List.append_nil]
        exact hIW.out.st ((St.refl _ W).drewN nq)
      | true =>
        by_cases hv5 : r.f5 = -1
        · have hb5 : (r.f5 != -1) = false := by simp [hv5]
          rw [hb5] at HSB
          clear hv5
          gi_wp2
          refine wpIn_round_quiet (F := Fence.wide) rfl (by kernel_rfl) (by kernel_rfl) (by kernel_rfl) ?_
          repeat (quiet_step_in (fail))
          refine wpQuietIn_nil ?_
          rintro _ ⟨nq, rfl⟩
          gi_wp2
          refine ⟨⟨Nat.le_refl _, fun _ _ _ h _ => h⟩, (St.refl _ W).drewN nq, ?_⟩
          show St2 w n₁ w2.heap.size D M ((K.take (k + 1)).filter (stB M)) _
          rw [HSC.out, HSB.out, if_neg (by simp), List.append_nil]
          exact hIW.out.st ((St.refl _ W).drewN nq)
        · have hb5 : (r.f5 != -1) = true := by simp [hv5]
          rw [hb5] at HSB
          clear hv5
          have hv : ∀ j, v.ownBlock = some j → n₁ ≤ j ∧ ∀ o, W.heap[j]? = some o → o.isCells = true := by
            intro j hj
            obtain ⟨_, h2, _, e, _, cells, hc⟩ := (Kd.R_bound HR.out).1 j hj
            refine ⟨h2, fun o ho => ?_⟩
            rw [hc] at ho
            cases ho
            rfl
          have HV := Aside0.mk hv
          clear hv
          gi_wp2
          refine wpIn_round_quiet (F := Fence.wide) rfl (by kernel_rfl) (by kernel_rfl) (by kernel_rfl) ?_
          repeat (quiet_step_in (fail))
          refine wpQuietIn_nil ?_
          rintro _ ⟨nq, rfl⟩
          have HRq : Aside0 (Kd.R k24 24 (W.drewN nq) n₁ (fun _ => True) v xs) := ⟨Kd.R_drewN HR.out nq⟩
          have H3q : Aside0 ((W.drewN nq).heap[w.heap.size]? = some (.cells #[v] 22 (0, 0))) := ⟨H3.out⟩
          gi_wp2_with (gi_at_builtin; refine R_append_in k24 n₁ rfl (.tmp 60) (.tmp 62) 22 24 (.agg #[.int .i64 0, .int .i64 0, .int .i64 0, .int .i64 0, .int .i64 0, .int .i64 0, .int .i64 0, .int .i64 0, .int .i64 0]) 72 rfl hu (by kernel_rfl) rfl (by decide) (by decide) v _ r [.int .i64 r.f0, .int .i64 r.f1, .int .i64 r.f2, .int .i64 r.f3, .int .i64 r.f4, .int .i64 r.f5, .int .i64 r.f6, .int .i64 r.f7, .int .i64 r.f8] (fun _ => True) (fun _ => False) rfl rfl (k24_mkM _ _ _ _) (fun _ h => h.elim) (fun _ _ => trivial) HRq.out H2.out (by have := hlen.out; omega) ?_; intro v1 w1 hr1 hg1; obtain ⟨A5, c5, hv1⟩ := Kd.R_slice hr1; rw [List.length_append, List.length_singleton] at hv1; subst hv1; have G0 := Aside0.mk (blk_grown H3q.out hg1 (Kd.R_ne HRq.out H3q.out (by decide))); have R1 := Aside0.mk hr1; have GG := Aside0.mk hg1; clear hr1 hg1 c4 f4; have c4 := (blk_cell G0.out 0).trans rfl; have f4 := blk_frozen G0.out 0)
          have hst : St (fun j => j = w.heap.size ∨ n₁ ≤ j) W (w1.setCell ⟨w.heap.size, 0, none⟩ (.slice A5 (xs.length + 1) c5)) :=
            St.setCell ⟨GG.out.os, GG.out.tape, GG.out.output, GG.out.size, fun i hi hU => GG.out.block i hi (fun e => hU (.inr (HV.out i e.symm).1))⟩ (.inl (.inl rfl)) _
          have hkf := ((KeepsOthers.of_grownBy GG.out (fun j o hj ho => (HV.out j hj).2 o ho)).trans (KeepsOthers.setCell _ ⟨w.heap.size, 0, none⟩ (.slice A5 (xs.length + 1) c5))).from w4.heap.size
          have hn0 := h2
          have hlo := H2.out
          refine ⟨⟨hkf.size, fun k o hB hk ho => hkf.same k o hB hk ho⟩, hst, ?_⟩
          show St2 w n₁ w2.heap.size D M ((K.take (k + 1)).filter (stB M)) _
          rw [HSC.out, HSB.out, if_pos (by simp)]
          exact ⟨hst.base HB.out (Nat.le_refl _) (fun j hj => by omega), Nat.le_trans H2.out hst.2.2.2.1, ⟨_, blk_put G0.out 0 _ rfl, Kd.R_mono (Kd.R_far (Kd.R_bound R1.out) (fun k hk => by have := hk.2.1; show k ≠ w.heap.size; omega) _) (fun _ _ => trivial)⟩,
            hst.blk H5.out (by omega), HMp.out.blk (hst.2.2.2.2 _ HMp.out.lt (by omega)), hst.blk HD.out (by omega)⟩
    case done2 =>
      intro D2 W hD2 hI hK2
      obtain ⟨h1, hlo, ⟨v, h3, h4⟩, h5, h6, h7⟩ := hI
      rw [List.take_length] at h4
      have HB := Aside0.mk h1
      have HR := Aside0.mk h4
      have H3 := Aside0.mk h3
      have K1 := Aside0.mk h7
      have K2 := Aside0.mk hK2
      clear h1 h3 h4 h5 h6 h7 hK2
      obtain ⟨A5, c5, rfl⟩ := Kd.R_slice HR.out
      have c4 := (blk_cell H3.out 0).trans rfl
      have f4 := blk_frozen H3.out 0
      gi_wp2
      have hn0 := h2
      have hfe : mapL K = M := hM
      rw [hfe]
      obtain ⟨W', hW'⟩ : ∃ W', W.setCell ⟨w.heap.size, 0, none⟩ (.slice A5 (List.filter (stB M) K).length c5) = W' := ⟨_, rfl⟩
      have hks := KeepsOthers.setCell W ⟨w.heap.size, 0, none⟩ (.slice A5 (List.filter (stB M) K).length c5)
      have hk2 := hW' ▸ hks.same D2 _ K2.out rfl
      have hk1 := hW' ▸ hks.same D _ K1.out rfl
      have B8 : W'.heap[w.heap.size]? = some (.cells #[.slice A5 (List.filter (stB M) K).length c5] 22 (0, 0)) := hW' ▸ blk_put H3.out 0 _ rfl
      have BR : Kd.R k24 24 W' n₁ (fun _ => True) (.slice A5 (List.filter (stB M) K).length c5) (List.filter (stB M) K) :=
        hW' ▸ Kd.R_mono (Kd.R_far (Kd.R_bound HR.out) (fun k hk => by have := hk.2.1; show k ≠ w.heap.size; omega) _) (fun _ _ => trivial)
      have B0 : Below w.heap.size w W' := hW' ▸ below_set HB.out (by omega)
      rw [hW']
      clear hW' hks
      have hk1' : (W'.putObj D2 (.deferred none)).heap[D]? = some (.deferred (some [])) := (World.putObj_heap_other (by omega)).trans hk1
      have B8' := (put_other (o' := .deferred none) hk2 rfl B8).trans B8
      have B8'' := (put_other (o' := .deferred none) hk1' rfl B8').trans B8'
      refine ⟨by simp, .inl ⟨_, _, rfl, run_takeDeferred hk2, ?_⟩⟩
      refine ⟨by simp, .inl ⟨_, _, rfl, run_takeDeferred hk1', ?_⟩⟩
      refine ⟨_, results_ct1 rfl _ _ ⟨w.heap.size, 0, none⟩ (.slice A5 (List.filter (stB M) K).length c5) _ rfl ((blk_cell B8'' 0).trans rfl) hu rfl, ?_⟩
      have BR1 : Kd.R k24 24 (W'.putObj D2 (.deferred none)) n₁ (fun _ => True) (.slice A5 (List.filter (stB M) K).length c5) (List.filter (stB M) K) :=
        Kd.R_mono (Kd.R_step (Kd.R_bound BR) (fun k ho hlt => by
          obtain ⟨_, _, _, e, _, cells, hcells⟩ := ho
          exact put_other hk2 rfl hcells)) (fun _ _ => trivial)
      have BR2 : Kd.R k24 24 ((W'.putObj D2 (.deferred none)).putObj D (.deferred none)) n₁ (fun _ => True) (.slice A5 (List.filter (stB M) K).length c5) (List.filter (stB M) K) :=
        Kd.R_mono (Kd.R_step (Kd.R_bound BR1) (fun k ho hlt => by
          obtain ⟨_, _, _, e, _, cells, hcells⟩ := ho
          exact put_other hk1' rfl hcells)) (fun _ _ => trivial)
      exact ⟨_, rfl, Kd.R_lower BR2 (by omega), below_put _ (below_put _ B0 (by omega)) (by omega)⟩
    case stop2 => exact fun D k W hD hk hX hK => hX.elim
    · obtain ⟨g7, g8, hb, h7, h8⟩ := h.2
      exact ⟨g7, g8, hb, (put_other hA hc h7).trans h7, (put_other hA hc h8).trans h8⟩
  case stop => exact fun D k W hD hk hX hK => hX.elim
  · obtain ⟨g7, g8, hb, h7, h8⟩ := h.2
    exact ⟨g7, g8, hb, (put_other hA hc h7).trans h7, (put_other hA hc h8).trans h8⟩

theorem facts_Standing.calls (A0 : Option Addr) (c0 : Nat) (l0 : List (S24)) (a1 : Int) (r1 : List (S24)) (r2 : Int) (w : World) (hr0 : Kd.C k24 w A0 l0.length l0) (hc0 : l0.length ≤ c0) (h : facts_Standing.f l0 a1 = some (r1, r2)) (hrw : RowsAt w := by exact rwB (by assumption) (by assumption)) :
    Calls Tryd.prog 17 #[.slice A0 l0.length c0, .int .i64 a1] w fun e w' => ∃ v0_ : Value, e = .returned (.tuple #[v0_, .int .i64 r2]) ∧ Kd.R k24 24 w' w.heap.size (fun _ => True) v0_ r1 ∧ Below w.heap.size w w' := by
  have h' := Option.some.inj h
  unfold standV at h'
  by_cases h1 : chkV l0 = 0
  · rw [if_pos h1] at h'
    cases h2 : wi a1 0 134217727 with
    | false =>
      rw [h2, if_neg (by simp)] at h'
      obtain ⟨rfl, rfl⟩ := Prod.mk.inj h'
      exact st_no2 A0 c0 l0 a1 w hr0 hc0 hrw h1 h2
    | true =>
      rw [h2, if_pos rfl] at h'
      obtain ⟨rfl, rfl⟩ := Prod.mk.inj h'
      exact st_yes A0 c0 l0 a1 w hr0 hc0 hrw h1 h2
  · rw [if_neg h1] at h'
    obtain ⟨rfl, rfl⟩ := Prod.mk.inj h'
    exact st_no1 A0 c0 l0 a1 w hr0 hc0 hrw h1
end Go.Proofs.YtebfcckaicgcfaaDoor.Q
