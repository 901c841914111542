/- Small lemmas for the walks that are typed by hand: blocks in memory, rows of numbers. -/
import Derived.Test.YtgiinjfandeddaaWMore
import Derived.WalkKit
namespace Go.Proofs.Ytgiinjfandeddaa.Q
open Go.RowKit Go.Proofs.YtgiinjfandeddaaW.PrintWords Go.Proofs.YtgiinjfandeddaaW.PrintLast Go.Proofs.YtgiinjfandeddaaW.PrintMore

theorem heap_at_new (W : World) (o : Obj) (n : Nat) (h : n = W.heap.size) : (W.alloc o).heap[n]? = some o := by
  subst h
  exact heap_alloc_new W o

theorem heap_at_old (W : World) (o : Obj) (n : Nat) (x : Obj) (h : W.heap[n]? = some x) : (W.alloc o).heap[n]? = some x :=
  (below_alloc (Below.refl W.heap.size W) o).block n (Array.getElem?_eq_some_iff.1 h).1 |>.trans h

theorem heap_below {W W1 : World} {n : Nat} {x : Obj} (hb : Below W.heap.size W W1) (h : W.heap[n]? = some x) : W1.heap[n]? = some x :=
  (hb.block n (Array.getElem?_eq_some_iff.1 h).1).trans h

/-- What lies in W lies in V: by the steps between. -/
class Lies (W V : World) : Prop where
  at_ : ∀ {g : Nat} {o : Obj}, W.heap[g]? = some o → V.heap[g]? = some o
instance liesSame (W : World) : Lies W W := ⟨fun h => h⟩
instance liesAlloc (W V : World) (o : Obj) [i : Lies W V] : Lies W (V.alloc o) := ⟨fun h => blk_alloc (i.at_ h) o⟩
instance liesDrew (W V : World) [i : Lies W V] : Lies W V.drew := ⟨fun h => blk_drew (i.at_ h)⟩
instance liesDrewN (W V : World) (n : Nat) [i : Lies W V] : Lies W (V.drewN n) := ⟨fun h => blk_drewN (i.at_ h) n⟩
theorem zk {W V : World} {g : Nat} {o : Obj} (h : W.heap[g]? = some o) [i : Lies W V] : V.heap[g]? = some o := i.at_ h
theorem zb {W V V1 : World} {g : Nat} {o : Obj} (h : W.heap[g]? = some o) (hb : Below V.heap.size V V1) [i : Lies W V] : V1.heap[g]? = some o := blk_below (i.at_ h) hb

/-- Of two numbers of rounds at which a function answers, the answers are one. -/
theorem lit_same {α : Type} {f : Nat → Option α} (hm : ∀ k, LeO (f k) (f (k + 1))) {k K : Nat} {x y : α} (hK : f K = some y) (hk : f k = some x) : x = y := by
  have up : ∀ (d j : Nat) (z : α), f j = some z → f (j + d) = some z := by
    intro d
    induction d with
    | zero => intro j z h; exact h
    | succ d ih => intro j z h; exact hm (j + d) z (ih j z h)
  rcases Nat.le_total k K with h | h
  · have e := up (K - k) k x hk
    rw [show k + (K - k) = K by omega, hK] at e
    exact (Option.some.inj e).symm
  · have e := up (k - K) K y hK
    rw [show K + (k - K) = k by omega, hk] at e
    exact Option.some.inj e

theorem ret_b {a b : Bool} (h : a = b) : Ending.returned (.bool a) = .returned (.bool b) := by rw [h]
theorem ret_i {k : IntKind} {a b : Int} (h : a = b) : Ending.returned (.int k a) = .returned (.int k b) := by rw [h]

theorem C_block {k : IntKind} {w : World} {g : Nat} {cs : Array Value} {t : TypeId} {fr : Nat × Nat} (xs : List Int) (h : w.heap[g]? = some (.cells cs t fr)) (hcs : cs = (xs.map (Value.int k)).toArray) (hl : xs.length ≤ 9223372036854775807) :
    Kd.C (Kd.int k) w (some ⟨g, 0, none⟩) xs.length xs := by
  subst hcs
  refine ⟨rfl, hl, fun _ => ⟨⟨g, 0, none⟩, rfl, fun j p hj => ⟨[.int k p], rfl, rfl, fun i u hu => ?_⟩⟩⟩
  have hi : i = 0 := by have := (List.getElem?_eq_some_iff.1 hu).1; simp at this; omega
  subst hi
  simp at hu
  subst hu
  simp only [Nat.add_zero, show (Kd.int k).sz = 1 from rfl, Nat.mul_one]
  rw [add_at, Nat.zero_add]
  simp [World.cell?, h, hj]

theorem all_take_succ (p : Int → Bool) (l : List Int) (k : Nat) (h : k < l.length) : (l.take (k + 1)).all p = ((l.take k).all p && p (l.getD k 0)) := by
  rw [List.take_succ_eq_append_getElem h, List.all_append]
  simp [List.getD, h]

theorem all_false (p : Int → Bool) (l : List Int) (k : Nat) (h : k < l.length) (hp : p (l.getD k 0) = false) : l.all p = false := by
  rw [List.all_eq_false]
  refine ⟨l.getD k 0, ?_, by rw [hp]; decide⟩
  simp [List.getD, h]

end Go.Proofs.Ytgiinjfandeddaa.Q
