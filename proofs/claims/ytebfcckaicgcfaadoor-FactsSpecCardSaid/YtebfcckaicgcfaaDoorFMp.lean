/- By hand: a map from what facts are about (five numbers) to facts, as a list of pairs. -/
import Derived.Test.YtebfcckaicgcfaaDoorFDu
import Derived.Test.YtebfcckaicgcfaaDoorQ1
import Derived.Carry
import Derived.Maps.OwnIn
namespace Go.Proofs.YtebfcckaicgcfaaDoor.Q
open Go.RowKit Go.Proofs.YtebfcckaicgcfaaDoorW.PrintWords Go.Proofs.YtebfcckaicgcfaaDoorW.PrintLast Go.Proofs.YtebfcckaicgcfaaDoorW.PrintMore
attribute [local go_sem] max2_int min2_int max_two min_two
set_option linter.unusedVariables false
set_option linter.unusedSimpArgs false

/-- What a fact is about. -/
abbrev Sub := Int × Int × Int × Int × Int
def subOf (r : S24) : Sub := (r.f1, r.f2, r.f3, r.f4, r.f7)
def keyC (s : Sub) : Array Value := #[.int .i64 s.1, .int .i64 s.2.1, .int .i64 s.2.2.1, .int .i64 s.2.2.2.1, .int .i64 s.2.2.2.2]
theorem subC_key (r : S24) : subC r = keyC (subOf r) := rfl
def mget (m : List (Sub × S24)) (s : Sub) : Option S24 := (m.find? (fun p => decide (p.1 = s))).map (·.2)
def mput : List (Sub × S24) → Sub → S24 → List (Sub × S24)
  | [], s, v => [(s, v)]
  | p :: r, s, v => if p.1 = s then (s, v) :: r else p :: mput r s v
/-- Block b holds the map m. -/
def MapAt (W : World) (b : Nat) (m : List (Sub × S24)) : Prop :=
  ∃ es clock, W.heap[b]? = some (.map es clock) ∧ es.toList.map (fun e => (e.key, e.val)) = m.map (fun p => (Value.agg (keyC p.1), Value.agg (facC p.2)))

/-- The fields of what a fact is about, of a package. -/
def kfields (pp : String) : Array Field := #[{ name := "kind", type := 3, offset := 0, embedded := false, tag := "", pkgPath := pp, byteOffset := 0 }, { name := "team", type := 3, offset := 1, embedded := false, tag := "", pkgPath := pp, byteOffset := 8 },
  { name := "game", type := 3, offset := 2, embedded := false, tag := "", pkgPath := pp, byteOffset := 16 }, { name := "ground", type := 3, offset := 3, embedded := false, tag := "", pkgPath := pp, byteOffset := 24 }, { name := "at", type := 3, offset := 4, embedded := false, tag := "", pkgPath := pp, byteOffset := 32 }]
section
variable {pp : String} (T : TypeId) (hT : Tryd.prog.underlying T = some (.struct (kfields pp))) (hp : Tryd.prog.stoodInHeld T = false)
include hT hp
theorem eqK (d : Nat) (w : World) (s t : Sub) : (Op.equalIn (d + 2) T (.agg (keyC s)) (.agg (keyC t))).run Tryd.prog w = .ok (decide (s = t)) w := by
  obtain ⟨x0, x1, x2, x3, x4⟩ := s
  obtain ⟨y0, y1, y2, y3, y4⟩ := t
  have h : (Op.equalIn (d + 2) T (.agg (keyC (x0, x1, x2, x3, x4))) (.agg (keyC (y0, y1, y2, y3, y4)))).run Tryd.prog w = .ok (x0 == y0 && (x1 == y1 && (x2 == y2 && (x3 == y3 && (x4 == y4))))) w := by
    unfold keyC
    refine eqA_of hT hp ?_
    refine eqf_cons (by rfl) (by go_simp; rfl) (by go_simp; rfl) (by go_simp) ?_
    refine eqf_cons (by rfl) (by go_simp; rfl) (by go_simp; rfl) (by go_simp) ?_
    refine eqf_cons (by rfl) (by go_simp; rfl) (by go_simp; rfl) (by go_simp) ?_
    refine eqf_cons (by rfl) (by go_simp; rfl) (by go_simp; rfl) (by go_simp) ?_
    exact eqf_last (by rfl) (by go_simp; rfl) (by go_simp; rfl) (by go_simp)
  rw [h]
  congr 1
  by_cases a0 : x0 = y0 <;> by_cases a1 : x1 = y1 <;> by_cases a2 : x2 = y2 <;> by_cases a3 : x3 = y3 <;> by_cases a4 : x4 = y4 <;> simp [a0, a1, a2, a3, a4]
omit hp in
theorem checkN (em : Bool) (n : Nat) (w : World) (s : Sub) : (Instr.checkKey em (n + 2) T (.agg (keyC s))).run Tryd.prog w = .ok () w := by
  have h3 := Tryd.underlying3
  have ha := Tryd.isAgg3
  have hi : ∀ (x : Int), (Instr.checkKey em (n + 1) 3 (.int .i64 x)).run Tryd.prog w = .ok () w := fun x => by simp [Instr.checkKey, run_underlying h3]
  unfold keyC
  rw [Instr.checkKey]
  simp [run_underlying hT, kfields, part, ha, hi, go_sem]
omit hp in
theorem checkK (em : Bool) (w : World) (s : Sub) : (Instr.checkKey em 10000 T (.agg (keyC s))).run Tryd.prog w = .ok () w := checkN T hT em 9998 w s
omit hT hp in
theorem staysK (w : World) (s : Sub) : (Instr.keyThatStays (.agg (keyC s)) (.agg (keyC s))).run Tryd.prog w = .ok (.agg (keyC s)) w := by
  have h : Instr.sameBits 10000 (.agg (keyC s)) (.agg (keyC s)) = true := by
    show Instr.sameBits (9998 + 2) _ _ = true
    unfold keyC
    simp [Instr.sameBits]
  simp [Instr.keyThatStays, h]
/-- Where a key stands. -/
def mfind : List (Sub × S24) → Sub → Nat → Option (Nat × Value)
  | [], _, _ => none
  | p :: r, s, i => if p.1 = s then some (i, .agg (facC p.2)) else mfind r s (i + 1)
theorem findA (w : World) (s : Sub) : ∀ (m : List (Sub × S24)) (es : List MapEntry) (i : Nat), es.map (fun e => (e.key, e.val)) = m.map (fun p => (Value.agg (keyC p.1), Value.agg (facC p.2))) →
    (Instr.findAsking T (.agg (keyC s)) es i).run Tryd.prog w = .ok (mfind m s i) w
  | [], [], i, _ => by simp [Instr.findAsking, mfind]
  | [], e :: es, i, h => by simp at h
  | p :: m, [], i, h => by simp at h
  | p :: m, e :: es, i, h => by
    simp only [List.map_cons, List.cons.injEq, Prod.mk.injEq] at h
    obtain ⟨⟨h1, h2⟩, h3⟩ := h
    have ih := findA w s m es (i + 1) h3
    have he : (Op.equal T (.agg (keyC s)) (.agg (keyC p.1))).run Tryd.prog w = .ok (decide (s = p.1)) w := eqK T hT hp 9998 w s p.1
    unfold Instr.findAsking mfind
    rw [h1, h2]
    by_cases hs : p.1 = s
    · subst hs
      simp [he, Result.andThen]
    · have hs' : ¬ s = p.1 := fun h => hs h.symm
      simp [he, hs, hs', ih, Result.andThen]
theorem findK (w : World) (s : Sub) (m : List (Sub × S24)) (es : List MapEntry) (h : es.map (fun e => (e.key, e.val)) = m.map (fun p => (Value.agg (keyC p.1), Value.agg (facC p.2)))) :
    (Instr.findKey T (.agg (keyC s)) es).run Tryd.prog w = .ok (mfind m s 0) w := by
  have hA := findA T hT hp w s m es 0 h
  cases es with
  | nil =>
    cases m with
    | nil => simp [Instr.findKey, run_underlying hT, Instr.findNow, mfind]
    | cons p r => simp at h
  | cons e r => simp [Instr.findKey, run_underlying hT, Instr.findNow, Instr.sameNow, hA]
variable {M : TypeId} (hM : Tryd.prog.underlying M = some (.map T 24))
omit hT hp in
theorem mfind_get (s : Sub) : ∀ (m : List (Sub × S24)) (i : Nat), (mfind m s i).map (·.2) = (mget m s).map (fun v => Value.agg (facC v))
  | [], i => rfl
  | p :: m, i => by
    unfold mfind mget
    by_cases h : p.1 = s
    · simp [h]
    · have ih := mfind_get s m (i + 1)
      unfold mget at ih
      simp [h, ih]
/-- What a look-up hands over. -/
def lookV (c : Bool) (m : List (Sub × S24)) (s : Sub) : Value := if c then .tuple #[.agg (facC ((mget m s).getD z24)), .bool (mget m s).isSome] else .agg (facC ((mget m s).getD z24))
omit hT hp in
theorem zeroF (w : World) : (zeroValue 24).run Tryd.prog w = .ok (.agg (facC z24)) w := by kernel_rfl
include hM
theorem look_run (c : Bool) {W : World} {b : Nat} {m : List (Sub × S24)} (h : MapAt W b m) (s : Sub) : (Instr.lookup M (.map (some b)) (.agg (keyC s)) c).run Tryd.prog W = .ok (lookV c m s) W := by
  obtain ⟨es, clock, hb, he⟩ := h
  have hf := findK T hT hp W s m es.toList he
  have hg := mfind_get s m 0
  have hc := checkK T hT es.isEmpty W s
  have hz := zeroF W
  unfold lookV
  cases h1 : mfind m s 0 with
  | none =>
    rw [h1] at hf hg
    cases h2 : mget m s with
    | none => simp [Instr.lookup, run_underlying hM, MapKept.run_getObj_map hb, hc, hf, hz, Result.andThen]
    | some v => rw [h2] at hg; cases hg
  | some q =>
    rw [h1] at hf hg
    cases h2 : mget m s with
    | none => rw [h2] at hg; cases hg
    | some v =>
      rw [h2] at hg
      simp only [Option.map_some, Option.some.injEq] at hg
      simp [Instr.lookup, run_underlying hM, MapKept.run_getObj_map hb, hc, hf, hg, Result.andThen]
omit hT hp hM in
theorem mfind_none (s : Sub) (v : S24) : ∀ (m : List (Sub × S24)) (i : Nat), mfind m s i = none → mput m s v = m ++ [(s, v)]
  | [], i, _ => rfl
  | p :: m, i, h => by
    unfold mfind at h
    unfold mput
    by_cases h1 : p.1 = s
    · rw [if_pos h1] at h; cases h
    · rw [if_neg h1] at h
      rw [if_neg h1, mfind_none s v m (i + 1) h]
      rfl
omit hT hp hM in
theorem mfind_some (s : Sub) (v : S24) : ∀ (m : List (Sub × S24)) (i j : Nat) (x : Value), mfind m s i = some (j, x) → i ≤ j ∧ mput m s v = m.set (j - i) (s, v) ∧ ∃ p, m[j - i]? = some p ∧ p.1 = s
  | [], i, j, x, h => by cases h
  | p :: m, i, j, x, h => by
    unfold mfind at h
    unfold mput
    by_cases h1 : p.1 = s
    · rw [if_pos h1] at h
      cases h
      rw [if_pos h1, Nat.sub_self]
      exact ⟨Nat.le_refl _, rfl, p, rfl, h1⟩
    · rw [if_neg h1] at h
      obtain ⟨a, b, c⟩ := mfind_some s v m (i + 1) j x h
      have e : j - i = (j - (i + 1)) + 1 := by omega
      rw [if_neg h1, b, e]
      exact ⟨by omega, rfl, c⟩
theorem upd_run {W : World} {b : Nat} {m : List (Sub × S24)} (h : MapAt W b m) (s : Sub) (v : S24) :
    ∃ W', (Instr.mapUpdate M (.map (some b)) (.agg (keyC s)) (.agg (facC v))).run Tryd.prog W = .ok () W' ∧ MapAt W' b (mput m s v) ∧ W.grownBy W' (some b) := by
  obtain ⟨es, clock, hb, he⟩ := h
  have hf := findK T hT hp W s m es.toList he
  have hc := checkK T hT false W s
  have hs := staysK W s
  have hgr : ∀ o, W.grownBy (ChangeMaps.setBlock W b o) (some b) := fun o => ⟨rfl, rfl, rfl, by simp [ChangeMaps.setBlock], fun i _ hi => ChangeMaps.heap_setBlock_other hb _ (fun e => hi (by rw [e]))⟩
  cases h1 : mfind m s 0 with
  | none =>
    rw [h1] at hf
    refine ⟨ChangeMaps.setBlock W b (.map (es.push { key := .agg (keyC s), val := .agg (facC v), born := clock }) (clock + 1)), ?_, ⟨_, _, ChangeMaps.heap_setBlock_same hb _, ?_⟩, hgr _⟩
    · simp [Instr.mapUpdate, run_underlying hM, MapKept.run_getObj_map hb, hc, hf, MapKept.run_setObj_map _ hb, Result.andThen, ChangeMaps.setBlock]
    · rw [mfind_none s v m 0 h1, Array.toList_push, List.map_append, he, List.map_append]
      rfl
  | some q =>
    obtain ⟨j, x⟩ := q
    rw [h1] at hf
    obtain ⟨_, h2, p, h3, h4⟩ := mfind_some s v m 0 j x h1
    rw [Nat.sub_zero] at h2 h3
    have hlen : es.toList.length = m.length := by
      have := congrArg List.length he
      simpa using this
    have hjm : j < m.length := (List.getElem?_eq_some_iff.1 h3).1
    have hj : j < es.size := by rw [← Array.length_toList, hlen]; exact hjm
    have hkey : es[j].key = .agg (keyC s) := by
      have h5 := congrArg (fun l => l[j]?) he
      simp only [List.getElem?_map, h3, Option.map_some, Array.getElem?_toList, Array.getElem?_eq_getElem hj, Option.some.injEq, Prod.mk.injEq] at h5
      rw [h5.1, h4]
    refine ⟨ChangeMaps.setBlock W b (.map (es.modify j fun e => { e with key := .agg (keyC s), val := .agg (facC v) }) clock), ?_, ⟨_, _, ChangeMaps.heap_setBlock_same hb _, ?_⟩, hgr _⟩
    · simp [Instr.mapUpdate, run_underlying hM, MapKept.run_getObj_map hb, hc, hf, Array.getElem?_eq_getElem hj, hkey, hs, MapKept.run_setObj_map _ hb, Result.andThen, ChangeMaps.setBlock]
    · rw [h2, List.map_set, ← he, Array.toList_modify]
      apply List.ext_getElem?
      intro i
      rw [List.getElem?_map, List.getElem?_modify, List.getElem?_set, List.getElem?_map]
      by_cases hij : j = i
      · subst hij
        simp [hj]
      · simp [hij]

variable {F : Fence} {nF : Nat} {ops : Array Oper} {rest : List Oper} {o : Oper} {a : Act} {Q : Exit → Act → World → Prop} {w : World}
theorem lookIn {c : Bool} (x y : Operand) (b : Nat) (m : List (Sub × S24)) (s : Sub) (hop : o.op = Op.lookup M x y c) (hg : o.guard = none) (hm : a.eval x = .map (some b)) (hx : a.eval y = .agg (keyC s)) (h : MapAt w b m) (V : Value) (hV : lookV c m s = V)
    (hK : wpListIn F nF Tryd.prog ops Q rest (a.put o.dst V) w) : wpListIn F nF Tryd.prog ops Q (o :: rest) a w := by
  subst hV
  refine wpListIn_plain hg fun K' hK' => ?_
  have hrun := look_run T hT hp hM c h s
  unfold Oper.wpIn
  refine ⟨by simp [Oper.about, hop], ?_⟩
  rw [Oper.semAt_plain F _ _ (by rw [hop]; intro c hc'; cases hc')]
  simp [execOp, hop, hm, hx, hrun, Result.andThen]
  exact hK' _ _ hK
theorem updIn (x y z : Operand) (b : Nat) (m : List (Sub × S24)) (s : Sub) (v : S24) (hop : o.op = Op.mapUpdate M x y z) (hg : o.guard = none) (hm : a.eval x = .map (some b)) (hx : a.eval y = .agg (keyC s)) (hv : a.eval z = .agg (facC v)) (h : MapAt w b m)
    (hK : ∀ w', MapAt w' b (mput m s v) → w.grownBy w' (some b) → wpListIn F nF Tryd.prog ops Q rest (a.put o.dst undef) w') : wpListIn F nF Tryd.prog ops Q (o :: rest) a w := by
  refine wpListIn_plain hg fun K' hK' => ?_
  obtain ⟨w', hrun, r1, r2⟩ := upd_run T hT hp hM h s v
  unfold Oper.wpIn
  refine ⟨by simp [Oper.about, hop], ?_⟩
  rw [Oper.semAt_plain F _ _ (by rw [hop]; intro c hc'; cases hc')]
  simp [execOp, hop, hm, hx, hv, hrun, Result.andThen]
  exact hK' _ _ (hK w' r1 r2)
end
end Go.Proofs.YtebfcckaicgcfaaDoor.Q
