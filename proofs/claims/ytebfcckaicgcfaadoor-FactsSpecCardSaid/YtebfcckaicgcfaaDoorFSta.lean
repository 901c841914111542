/- By hand: what facts.Standing computes; where it refuses. -/
import Derived.Test.YtebfcckaicgcfaaDoorFMp
import Derived.Test.YtebfcckaicgcfaaDoorRngM
import Derived.Shelf.RegionOpenPlain
namespace Go.Proofs.YtebfcckaicgcfaaDoor.Q
open Go.RowKit Go.Proofs.YtebfcckaicgcfaaDoorW.PrintWords Go.Proofs.YtebfcckaicgcfaaDoorW.PrintLast Go.Proofs.YtebfcckaicgcfaaDoorW.PrintMore Go.Proofs.YtebfcckaicgcfaaDoor.Rng
attribute [local go_sem] Oper.semAt_some
attribute [local go_sem] max2_int min2_int max_two min_two
set_option linter.unusedVariables false
set_option linter.unusedSimpArgs false

/-- A fact comes into the map of the latest ones. -/
def stepM (m : List (Sub × S24)) (y : S24) : List (Sub × S24) :=
  match mget m (subOf y) with
  | none => mput m (subOf y) y
  | some z => if z.f8 ≤ y.f8 then mput m (subOf y) y else m
def mapL (L : List S24) : List (Sub × S24) := L.foldl stepM []
def fEq (x y : S24) : Bool := (x.f0 == y.f0 && (x.f1 == y.f1 && (x.f2 == y.f2 && (x.f3 == y.f3 && (x.f4 == y.f4 && (x.f5 == y.f5 && (x.f6 == y.f6 && (x.f7 == y.f7 && (x.f8 == y.f8)))))))))
def stB (m : List (Sub × S24)) (y : S24) : Bool := fEq ((mget m (subOf y)).getD z24) y && (y.f5 != -1)
def standV (l : List S24) (t : Int) : List S24 × Int :=
  if chkV l = 0 then (if wi t 0 134217727 = true then ((knownV t l).filter (stB (mapL (knownV t l))), 0) else ([], 1)) else ([], chkV l)
def facts_Standing.f (l0 : List (S24)) (a1 : Int) : Option ((List (S24)) × Int) := some (standV l0 a1)

/-- A result that lies in a cell of its own, and one in a slot. -/
theorem results_ct1 {P : Program} {fn : Func} {p u : Tmp} {ty : TypeId} (h : fn.results = #[.cell p ty, .tmp u]) (tmps : Array Value) (w : World) (a : Addr) (v : Value) (d : TypeDesc)
    (hp : tmps.getD p undef = .pointer (some a)) (hv : w.cell? a = some v) (hu : P.underlying ty = some d) (hd : (match d with | .struct _ | .array _ _ => false | _ => true) = true) :
    (results fn tmps).run P w = .ok (.tuple #[v, tmps.getD u undef]) w := by
  have h1 : tmps[p]?.getD undef = .pointer (some a) := by simpa using hp
  have e1 : (isAgg ty).run P w = .ok false w := by
    simp [isAgg, go_sem, run_underlying hu]
    cases d <;> simp_all
  simp [results, h, h1, asAddr, loadVar, go_sem, e1, hv]

/-- The block of the result. -/
def StIn (w W : World) : Prop := W.heap[w.heap.size]? = some (.cells #[.slice none 0 0] 22 (0, 0)) ∧ Below w.heap.size w W
theorem StIn.below {w W V : World} (h : StIn w W) (hb : Below W.heap.size W V) : StIn w V := ⟨heap_below hb h.1, below_step h.2 hb⟩
theorem StIn.new (w : World) : StIn w (w.alloc (.cells #[.slice none 0 0] 22 (0, 0))) := ⟨heap_at_new _ _ _ rfl, below_alloc (Below.refl _ _) _⟩

section
variable (A0 : Option Addr) (c0 : Nat) (l0 : List S24) (a1 : Int) (w : World) (hr0 : Kd.C k24 w A0 l0.length l0) (hc0 : l0.length ≤ c0) (hrw : RowsAt w)
include hr0 hc0 hrw
set_option maxRecDepth 100000 in
set_option maxHeartbeats 4000000 in
theorem st_no1 (h1 : chkV l0 ≠ 0) : Calls Tryd.prog 17 #[.slice A0 l0.length c0, .int .i64 a1] w (AddOut w [] (chkV l0)) := by
  have hu := Tryd.underlying22
  have HC := Aside0.mk (fun W hb => chk_calls A0 c0 l0 W (Kd.C_below hr0 hb) hc0 (hrw.below hb hrw.pos))
  have H0 := Aside0.mk (StIn.new w)
  generalize chkV l0 = x at HC h1 ⊢
  have hx : (x != 0) = true := bne_iff_ne.mpr h1
  clear hr0 hrw h1
  go_enter Tryd.func17, Tryd.ntmps17
  go_wp2_with fail
  refine (HC.out _ H0.out.2).mono ?_
  rintro e w1 ⟨rfl, hb⟩
  replace H0 := Aside0.mk (H0.out.below hb)
  clear hb
  have c0 := (blk_cell H0.out.1 0).trans rfl
  have f0 := blk_frozen H0.out.1 0
  go_wp2
  refine bodyPost_ret (results_ct1 rfl _ _ ⟨w.heap.size, 0, none⟩ (.slice none 0 0) _ rfl ((blk_cell (blk_put H0.out.1 0 _ rfl) 0).trans rfl) hu rfl) rfl ?_
  exact ⟨_, rfl, Kd.R_nil _ _ _ _ _, below_set H0.out.2 (by omega)⟩
set_option maxRecDepth 100000 in
set_option maxHeartbeats 4000000 in
theorem st_no2 (h1 : chkV l0 = 0) (h2 : wi a1 0 134217727 = false) : Calls Tryd.prog 17 #[.slice A0 l0.length c0, .int .i64 a1] w (AddOut w [] 1) := by
  have hu := Tryd.underlying22
  have HC := Aside0.mk (fun W hb => chk_calls A0 c0 l0 W (Kd.C_below hr0 hb) hc0 (hrw.below hb hrw.pos))
  have HM := Aside0.mk (moment_calls a1)
  have H0 := Aside0.mk (StIn.new w)
  rw [h1] at HC
  rw [h2] at HM
  clear hr0 hrw h1 h2
  go_enter Tryd.func17, Tryd.ntmps17
  go_wp2_with fail
  refine (HC.out _ H0.out.2).mono ?_
  rintro e w1 ⟨rfl, hb⟩
  replace H0 := Aside0.mk (H0.out.below hb)
  clear hb
  go_wp2_with fail
  refine (HM.out _).mono ?_
  rintro e w2 ⟨rfl, hb⟩
  replace H0 := Aside0.mk (H0.out.below hb)
  clear hb
  have c0 := (blk_cell H0.out.1 0).trans rfl
  have f0 := blk_frozen H0.out.1 0
  go_wp2
  refine bodyPost_ret (results_ct1 rfl _ _ ⟨w.heap.size, 0, none⟩ (.slice none 0 0) _ rfl ((blk_cell (blk_put H0.out.1 0 _ rfl) 0).trans rfl) hu rfl) rfl ?_
  exact ⟨_, rfl, Kd.R_nil _ _ _ _ _, below_set H0.out.2 (by omega)⟩
end
end Go.Proofs.YtebfcckaicgcfaaDoor.Q
