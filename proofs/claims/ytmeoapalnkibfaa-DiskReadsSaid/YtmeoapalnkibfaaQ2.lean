/- Functions of the translation as plain Lean functions, and proofs that the calls do what these say; written by a program of this session round the kit's print. -/
import Derived.Test.YtmeoapalnkibfaaQ0
import Derived.Test.YtmeoapalnkibfaaQ1
import Derived.Test.YtmeoapalnkibfaaDCk
import Derived.Test.YtmeoapalnkibfaaDRd
import Derived.Test.YtmeoapalnkibfaaDSa
import Derived.Test.YtmeoapalnkibfaaDSy
import Derived.Test.YtmeoapalnkibfaaDWr
namespace Go.Proofs.Ytmeoapalnkibfaa.Q
open Go.RowKit Go.Proofs.YtmeoapalnkibfaaW.PrintWords Go.Proofs.YtmeoapalnkibfaaW.PrintLast Go.Proofs.YtmeoapalnkibfaaW.PrintMore
attribute [local go_sem] max2_int min2_int max_two min_two max_three min_three max_four min_four   -- for this text's walks alone
set_option linter.unusedVariables false
set_option linter.unusedSimpArgs false
private theorem V_string_ {P : Program} {W : World} {b c n k : Nat} {e' : Nat} {ok : Nat → Prop} {v : Value} {xs : List Int} (hs : P.underlying b = some (.slice c)) (he : P.underlying c = some (.int .u8)) (hd : P.underlying n = some .string) (h : Kd.V (Kd.int .u8) e' W k ok v xs) : (convert b n v).run P W = .ok (.string (strOfNums xs)) W := by
  obtain ⟨A, cap, rfl⟩ := Kd.V_slice h
  exact Kd.C_string hs he hd (Kd.V_reads' h).2.2

/-! ### fastilaw04_DiskReads: function 7 -/
mutual
def fastilaw04_DiskReads.j0 : Nat → Int → Int → List Int → List Int → Bool → List (List Int) → List (S54) → Int → Bool → Option (Bool)
 | 0, _, _, _, _, _, _, _, _, _ => none
 | k + 1, x1, x2, x3, x4, x42, x105000, x105001, x105002, x105003 => if x42 = true then (some true) else ((disk_Read.f x105000 x105001 x105002 x105003 x2).bind fun bt107 => ((disk_Write.f x105000 x105001 x105002 x105003 x1 x3).bind fun bt111 => (if bt107.2 = 0 then (fastilaw04_DiskReads.j1 k x1 x2 x3 x4 bt107.1 (bt111.2.2.2.2 != 0) x105000 x105001 x105002 x105003 bt111.1 bt111.2.1 bt111.2.2.1 bt111.2.2.2.1) else (fastilaw04_DiskReads.j1 k x1 x2 x3 x4 bt107.1 true x105000 x105001 x105002 x105003 bt111.1 bt111.2.1 bt111.2.2.1 bt111.2.2.2.1))))
def fastilaw04_DiskReads.j1 : Nat → Int → Int → List Int → List Int → List Int → Bool → List (List Int) → List (S54) → Int → Bool → List (List Int) → List (S54) → Int → Bool → Option (Bool)
 | 0, _, _, _, _, _, _, _, _, _, _, _, _, _, _ => none
 | k + 1, x1, x2, x3, x4, x11, x61, x105000, x105001, x105002, x105003, x121000, x121001, x121002, x121003 => if x61 = true then (some true) else ((disk_Read.f x121000 x121001 x121002 x121003 x2).bind fun bt121 => ((disk_Read.f x121000 x121001 x121002 x121003 x1).bind fun bt125 => (if bt121.2 = 0 then (if bt125.2 = 0 then (if (bt125.1.length : Int) = 128 then (if 0 ≤ (x3.length : Int) then (if (x3.length : Int) ≤ (bt125.1.length : Int) then (if (strOfNums (bt125.1.take ((x3.length : Int) : Int).toNat)).toList = (strOfNums x3).toList then (if x1 = x2 then (fastilaw04_DiskReads.j2 k x2 x4 false x105000 x105001 x105002 x105003 x121000 x121001 x121002 x121003) else (fastilaw04_DiskReads.j2 k x2 x4 ((strOfNums x11).toList != (strOfNums bt121.1).toList) x105000 x105001 x105002 x105003 x121000 x121001 x121002 x121003)) else (fastilaw04_DiskReads.j2 k x2 x4 true x105000 x105001 x105002 x105003 x121000 x121001 x121002 x121003)) else (none)) else (none)) else (fastilaw04_DiskReads.j2 k x2 x4 true x105000 x105001 x105002 x105003 x121000 x121001 x121002 x121003)) else (fastilaw04_DiskReads.j2 k x2 x4 true x105000 x105001 x105002 x105003 x121000 x121001 x121002 x121003)) else (fastilaw04_DiskReads.j2 k x2 x4 true x105000 x105001 x105002 x105003 x121000 x121001 x121002 x121003))))
def fastilaw04_DiskReads.j2 : Nat → Int → List Int → Bool → List (List Int) → List (S54) → Int → Bool → List (List Int) → List (S54) → Int → Bool → Option (Bool)
 | 0, _, _, _, _, _, _, _, _, _, _, _ => none
 | k + 1, x2, x4, x106, x105000, x105001, x105002, x105003, x121000, x121001, x121002, x121003 => if x106 = true then (some false) else ((disk_Write.f x121000 x121001 x121002 x121003 x2 x4).bind fun bt134 => (if bt134.2.2.2.2 = 0 then ((disk_Sync.f bt134.1 bt134.2.1 bt134.2.2.1 bt134.2.2.2.1).bind fun bt144 => (if bt144.2.2.2.2 = 0 then (fastilaw04_DiskReads.l0 k 0 x105000 x105001 x105002 x105003 bt134.1 bt134.2.1 bt134.2.2.1 bt134.2.2.2.1 bt144.1 bt144.2.1 bt144.2.2.1 bt144.2.2.2.1) else (if bt144.2.2.2.2 = 40 then (some bt144.2.2.2.1) else (some false)))) else (some (bt134.2.2.2.2 == 2))))
def fastilaw04_DiskReads.l0 : Nat → Int → List (List Int) → List (S54) → Int → Bool → List (List Int) → List (S54) → Int → Bool → List (List Int) → List (S54) → Int → Bool → Option (Bool)
 | 0, _, _, _, _, _, _, _, _, _, _, _, _, _ => none
 | k + 1, x23, x105000, x105001, x105002, x105003, x144000, x144001, x144002, x144003, x154000, x154001, x154002, x154003 => if x23 < (x105000.length : Int) then ((disk_Read.f x144000 x144001 x144002 x144003 x23).bind fun bt154 => ((disk_Read.f x154000 x154001 x154002 x154003 x23).bind fun bt158 => (if bt154.2 = 0 then (if bt158.2 = 0 then (fastilaw04_DiskReads.j4 k x23 ((strOfNums bt154.1).toList != (strOfNums bt158.1).toList) x105000 x105001 x105002 x105003 x144000 x144001 x144002 x144003 x154000 x154001 x154002 x154003) else (fastilaw04_DiskReads.j4 k x23 true x105000 x105001 x105002 x105003 x144000 x144001 x144002 x144003 x154000 x154001 x154002 x154003)) else (fastilaw04_DiskReads.j4 k x23 true x105000 x105001 x105002 x105003 x144000 x144001 x144002 x144003 x154000 x154001 x154002 x154003)))) else (if (x154001.length : Int) = 0 then ((disk_Check.f x154000 x154001 x154002 x154003).bind fun t162 => (some (t162 == 0))) else (some false))
def fastilaw04_DiskReads.j4 : Nat → Int → Bool → List (List Int) → List (S54) → Int → Bool → List (List Int) → List (S54) → Int → Bool → List (List Int) → List (S54) → Int → Bool → Option (Bool)
 | 0, _, _, _, _, _, _, _, _, _, _, _, _, _, _ => none
 | k + 1, x23, x162, x105000, x105001, x105002, x105003, x144000, x144001, x144002, x144003, x154000, x154001, x154002, x154003 => if x162 = true then (some false) else (fastilaw04_DiskReads.l0 k (wrap64 (x23 + 1)) x105000 x105001 x105002 x105003 x144000 x144001 x144002 x144003 x154000 x154001 x154002 x154003)
end
def fastilaw04_DiskReads.f (k : Nat) (l0_0 : List (List Int)) (l0_1 : List (S54)) (a0_2 : Int) (a0_3 : Bool) (a1 : Int) (a2 : Int) (l3 : List Int) (l4 : List Int) : Option (Bool) := (fastilaw04_sane.f).bind fun t105 => (if t105 = true then ((fastiref04_Few.f k l0_0 l0_1 a0_2 a0_3).bind fun t106 => (if t106 = true then (if (l3.length : Int) > 128 then (fastilaw04_DiskReads.j0 k a1 a2 l3 l4 true l0_0 l0_1 a0_2 a0_3) else (fastilaw04_DiskReads.j0 k a1 a2 l3 l4 (decide ((l4.length : Int) > 128)) l0_0 l0_1 a0_2 a0_3)) else (fastilaw04_DiskReads.j0 k a1 a2 l3 l4 true l0_0 l0_1 a0_2 a0_3))) else (some false))
set_option maxRecDepth 100000 in
theorem fastilaw04_DiskReads.mono_l : ∀ k, (∀ y0 y1 y2 y3 y4 y5 y6 y7 y8, LeO (fastilaw04_DiskReads.j0 k y0 y1 y2 y3 y4 y5 y6 y7 y8) (fastilaw04_DiskReads.j0 (k + 1) y0 y1 y2 y3 y4 y5 y6 y7 y8)) ∧ (∀ y0 y1 y2 y3 y4 y5 y6 y7 y8 y9 y10 y11 y12 y13, LeO (fastilaw04_DiskReads.j1 k y0 y1 y2 y3 y4 y5 y6 y7 y8 y9 y10 y11 y12 y13) (fastilaw04_DiskReads.j1 (k + 1) y0 y1 y2 y3 y4 y5 y6 y7 y8 y9 y10 y11 y12 y13)) ∧ (∀ y0 y1 y2 y3 y4 y5 y6 y7 y8 y9 y10, LeO (fastilaw04_DiskReads.j2 k y0 y1 y2 y3 y4 y5 y6 y7 y8 y9 y10) (fastilaw04_DiskReads.j2 (k + 1) y0 y1 y2 y3 y4 y5 y6 y7 y8 y9 y10)) ∧ (∀ y0 y1 y2 y3 y4 y5 y6 y7 y8 y9 y10 y11 y12, LeO (fastilaw04_DiskReads.l0 k y0 y1 y2 y3 y4 y5 y6 y7 y8 y9 y10 y11 y12) (fastilaw04_DiskReads.l0 (k + 1) y0 y1 y2 y3 y4 y5 y6 y7 y8 y9 y10 y11 y12)) ∧ (∀ y0 y1 y2 y3 y4 y5 y6 y7 y8 y9 y10 y11 y12 y13, LeO (fastilaw04_DiskReads.j4 k y0 y1 y2 y3 y4 y5 y6 y7 y8 y9 y10 y11 y12 y13) (fastilaw04_DiskReads.j4 (k + 1) y0 y1 y2 y3 y4 y5 y6 y7 y8 y9 y10 y11 y12 y13))
 | 0 => ⟨fun _ _ _ _ _ _ _ _ _ r h => by simp [fastilaw04_DiskReads.j0] at h, fun _ _ _ _ _ _ _ _ _ _ _ _ _ _ r h => by simp [fastilaw04_DiskReads.j1] at h, fun _ _ _ _ _ _ _ _ _ _ _ r h => by simp [fastilaw04_DiskReads.j2] at h, fun _ _ _ _ _ _ _ _ _ _ _ _ _ r h => by simp [fastilaw04_DiskReads.l0] at h, fun _ _ _ _ _ _ _ _ _ _ _ _ _ _ r h => by simp [fastilaw04_DiskReads.j4] at h⟩
 | k + 1 => by
  obtain ⟨ih0, ih1, ih2, ih3, ih4⟩ := fastilaw04_DiskReads.mono_l k
  refine ⟨?_, ?_, ?_, ?_, ?_⟩
  ·intro y0 y1 y2 y3 y4 y5 y6 y7 y8
   unfold fastilaw04_DiskReads.j0
   repeat' first
   | (with_reducible exact ih0 _ _ _ _ _ _ _ _ _)
   | (with_reducible exact ih1 _ _ _ _ _ _ _ _ _ _ _ _ _ _)
   | (with_reducible exact ih2 _ _ _ _ _ _ _ _ _ _ _)
   | (with_reducible exact ih3 _ _ _ _ _ _ _ _ _ _ _ _ _)
   | (with_reducible exact ih4 _ _ _ _ _ _ _ _ _ _ _ _ _ _)
   | (with_reducible exact fastiref04_Few.mono _ _ _ _ _)
   | (with_reducible exact LeO.refl _)
   | (with_reducible exact LeO.none _)
   | (with_reducible refine LeO.ite ?_ ?_)
   | (with_reducible refine LeO.bind ?_ (fun _ => ?_))
   | exact ih0 _ _ _ _ _ _ _ _ _
   | exact ih1 _ _ _ _ _ _ _ _ _ _ _ _ _ _
   | exact ih2 _ _ _ _ _ _ _ _ _ _ _
   | exact ih3 _ _ _ _ _ _ _ _ _ _ _ _ _
   | exact ih4 _ _ _ _ _ _ _ _ _ _ _ _ _ _
   | exact fastiref04_Few.mono _ _ _ _ _
   | exact LeO.none _
   | refine LeO.ite ?_ ?_
   | refine LeO.bind ?_ (fun _ => ?_)
  ·intro y0 y1 y2 y3 y4 y5 y6 y7 y8 y9 y10 y11 y12 y13
   unfold fastilaw04_DiskReads.j1
   repeat' first
   | (with_reducible exact ih0 _ _ _ _ _ _ _ _ _)
   | (with_reducible exact ih1 _ _ _ _ _ _ _ _ _ _ _ _ _ _)
   | (with_reducible exact ih2 _ _ _ _ _ _ _ _ _ _ _)
   | (with_reducible exact ih3 _ _ _ _ _ _ _ _ _ _ _ _ _)
   | (with_reducible exact ih4 _ _ _ _ _ _ _ _ _ _ _ _ _ _)
   | (with_reducible exact fastiref04_Few.mono _ _ _ _ _)
   | (with_reducible exact LeO.refl _)
   | (with_reducible exact LeO.none _)
   | (with_reducible refine LeO.ite ?_ ?_)
   | (with_reducible refine LeO.bind ?_ (fun _ => ?_))
   | exact ih0 _ _ _ _ _ _ _ _ _
   | exact ih1 _ _ _ _ _ _ _ _ _ _ _ _ _ _
   | exact ih2 _ _ _ _ _ _ _ _ _ _ _
   | exact ih3 _ _ _ _ _ _ _ _ _ _ _ _ _
   | exact ih4 _ _ _ _ _ _ _ _ _ _ _ _ _ _
   | exact fastiref04_Few.mono _ _ _ _ _
   | exact LeO.none _
   | refine LeO.ite ?_ ?_
   | refine LeO.bind ?_ (fun _ => ?_)
  ·intro y0 y1 y2 y3 y4 y5 y6 y7 y8 y9 y10
   unfold fastilaw04_DiskReads.j2
   repeat' first
   | (with_reducible exact ih0 _ _ _ _ _ _ _ _ _)
   | (with_reducible exact ih1 _ _ _ _ _ _ _ _ _ _ _ _ _ _)
   | (with_reducible exact ih2 _ _ _ _ _ _ _ _ _ _ _)
   | (with_reducible exact ih3 _ _ _ _ _ _ _ _ _ _ _ _ _)
   | (with_reducible exact ih4 _ _ _ _ _ _ _ _ _ _ _ _ _ _)
   | (with_reducible exact fastiref04_Few.mono _ _ _ _ _)
   | (with_reducible exact LeO.refl _)
   | (with_reducible exact LeO.none _)
   | (with_reducible refine LeO.ite ?_ ?_)
   | (with_reducible refine LeO.bind ?_ (fun _ => ?_))
   | exact ih0 _ _ _ _ _ _ _ _ _
   | exact ih1 _ _ _ _ _ _ _ _ _ _ _ _ _ _
   | exact ih2 _ _ _ _ _ _ _ _ _ _ _
   | exact ih3 _ _ _ _ _ _ _ _ _ _ _ _ _
   | exact ih4 _ _ _ _ _ _ _ _ _ _ _ _ _ _
   | exact fastiref04_Few.mono _ _ _ _ _
   | exact LeO.none _
   | refine LeO.ite ?_ ?_
   | refine LeO.bind ?_ (fun _ => ?_)
  ·intro y0 y1 y2 y3 y4 y5 y6 y7 y8 y9 y10 y11 y12
   unfold fastilaw04_DiskReads.l0
   repeat' first
   | (with_reducible exact ih0 _ _ _ _ _ _ _ _ _)
   | (with_reducible exact ih1 _ _ _ _ _ _ _ _ _ _ _ _ _ _)
   | (with_reducible exact ih2 _ _ _ _ _ _ _ _ _ _ _)
   | (with_reducible exact ih3 _ _ _ _ _ _ _ _ _ _ _ _ _)
   | (with_reducible exact ih4 _ _ _ _ _ _ _ _ _ _ _ _ _ _)
   | (with_reducible exact fastiref04_Few.mono _ _ _ _ _)
   | (with_reducible exact LeO.refl _)
   | (with_reducible exact LeO.none _)
   | (with_reducible refine LeO.ite ?_ ?_)
   | (with_reducible refine LeO.bind ?_ (fun _ => ?_))
   | exact ih0 _ _ _ _ _ _ _ _ _
   | exact ih1 _ _ _ _ _ _ _ _ _ _ _ _ _ _
   | exact ih2 _ _ _ _ _ _ _ _ _ _ _
   | exact ih3 _ _ _ _ _ _ _ _ _ _ _ _ _
   | exact ih4 _ _ _ _ _ _ _ _ _ _ _ _ _ _
   | exact fastiref04_Few.mono _ _ _ _ _
   | exact LeO.none _
   | refine LeO.ite ?_ ?_
   | refine LeO.bind ?_ (fun _ => ?_)
  ·intro y0 y1 y2 y3 y4 y5 y6 y7 y8 y9 y10 y11 y12 y13
   unfold fastilaw04_DiskReads.j4
   repeat' first
   | (with_reducible exact ih0 _ _ _ _ _ _ _ _ _)
   | (with_reducible exact ih1 _ _ _ _ _ _ _ _ _ _ _ _ _ _)
   | (with_reducible exact ih2 _ _ _ _ _ _ _ _ _ _ _)
   | (with_reducible exact ih3 _ _ _ _ _ _ _ _ _ _ _ _ _)
   | (with_reducible exact ih4 _ _ _ _ _ _ _ _ _ _ _ _ _ _)
   | (with_reducible exact fastiref04_Few.mono _ _ _ _ _)
   | (with_reducible exact LeO.refl _)
   | (with_reducible exact LeO.none _)
   | (with_reducible refine LeO.ite ?_ ?_)
   | (with_reducible refine LeO.bind ?_ (fun _ => ?_))
   | exact ih0 _ _ _ _ _ _ _ _ _
   | exact ih1 _ _ _ _ _ _ _ _ _ _ _ _ _ _
   | exact ih2 _ _ _ _ _ _ _ _ _ _ _
   | exact ih3 _ _ _ _ _ _ _ _ _ _ _ _ _
   | exact ih4 _ _ _ _ _ _ _ _ _ _ _ _ _ _
   | exact fastiref04_Few.mono _ _ _ _ _
   | exact LeO.none _
   | refine LeO.ite ?_ ?_
   | refine LeO.bind ?_ (fun _ => ?_)
theorem fastilaw04_DiskReads.mono : ∀ a0 a1 a2 a3 a4 a5 a6 a7 k, LeO (fastilaw04_DiskReads.f k a0 a1 a2 a3 a4 a5 a6 a7) (fastilaw04_DiskReads.f (k + 1) a0 a1 a2 a3 a4 a5 a6 a7) := by
 intro a0 a1 a2 a3 a4 a5 a6 a7 k
 obtain ⟨ih0, ih1, ih2, ih3, ih4⟩ := fastilaw04_DiskReads.mono_l k
 unfold fastilaw04_DiskReads.f
 repeat' first
   | (with_reducible exact ih0 _ _ _ _ _ _ _ _ _)
   | (with_reducible exact ih1 _ _ _ _ _ _ _ _ _ _ _ _ _ _)
   | (with_reducible exact ih2 _ _ _ _ _ _ _ _ _ _ _)
   | (with_reducible exact ih3 _ _ _ _ _ _ _ _ _ _ _ _ _)
   | (with_reducible exact ih4 _ _ _ _ _ _ _ _ _ _ _ _ _ _)
   | (with_reducible exact fastiref04_Few.mono _ _ _ _ _)
   | (with_reducible exact LeO.refl _)
   | (with_reducible exact LeO.none _)
   | (with_reducible refine LeO.ite ?_ ?_)
   | (with_reducible refine LeO.bind ?_ (fun _ => ?_))
   | exact ih0 _ _ _ _ _ _ _ _ _
   | exact ih1 _ _ _ _ _ _ _ _ _ _ _ _ _ _
   | exact ih2 _ _ _ _ _ _ _ _ _ _ _
   | exact ih3 _ _ _ _ _ _ _ _ _ _ _ _ _
   | exact ih4 _ _ _ _ _ _ _ _ _ _ _ _ _ _
   | exact fastiref04_Few.mono _ _ _ _ _
   | exact LeO.none _
   | refine LeO.ite ?_ ?_
   | refine LeO.bind ?_ (fun _ => ?_)
set_option maxHeartbeats 8000000 in
set_option maxRecDepth 100000 in
theorem fastilaw04_DiskReads.calls (k : Nat) (A0_0 : Option Addr) (c0_0 : Nat) (l0_0 : List (List Int)) (A0_1 : Option Addr) (c0_1 : Nat) (l0_1 : List (S54)) (a0_2 : Int) (a0_3 : Bool) (a1 : Int) (a2 : Int) (A3 : Option Addr) (c3 : Nat) (l3 : List Int) (A4 : Option Addr) (c4 : Nat) (l4 : List Int) (r : Bool) (w : World) (hr0_0 : Kd.C (Kd.slice 5 (Kd.int .u8)) w A0_0 l0_0.length l0_0) (hc0_0 : l0_0.length ≤ c0_0) (hr0_1 : Kd.C k54 w A0_1 l0_1.length l0_1) (hc0_1 : l0_1.length ≤ c0_1) (hr3 : Kd.C (Kd.int .u8) w A3 l3.length l3) (hc3 : l3.length ≤ c3) (hr4 : Kd.C (Kd.int .u8) w A4 l4.length l4) (hc4 : l4.length ≤ c4) (h : fastilaw04_DiskReads.f k l0_0 l0_1 a0_2 a0_3 a1 a2 l3 l4 = some r) :
  Calls Try.prog 7 #[.agg #[.slice A0_0 l0_0.length c0_0, .slice A0_1 l0_1.length c0_1, .int .i64 a0_2, .bool a0_3], .int .i64 a1, .int .i64 a2, .slice A3 l3.length c3, .slice A4 l4.length c4] w fun e w' => e = .returned (.bool r) ∧ Below w.heap.size w w' := by
 have hu25 := Try.underlying25
 have HR0_0 := Aside0.mk hr0_0
 have HC0_0 := Aside0.mk hc0_0
 clear hr0_0 hc0_0
 have HR0_1 := Aside0.mk hr0_1
 have HC0_1 := Aside0.mk hc0_1
 clear hr0_1 hc0_1
 have HR3 := Aside0.mk hr3
 have HC3 := Aside0.mk hc3
 clear hr3 hc3
 have HR4 := Aside0.mk hr4
 have HC4 := Aside0.mk hc4
 clear hr4 hc4
 have HB := Aside0.mk (Below.refl w.heap.size w)
 have H : ((fastilaw04_sane.f).bind fun t105 => (if t105 = true then ((fastiref04_Few.f k l0_0 l0_1 a0_2 a0_3).bind fun t106 => (if t106 = true then (if (l3.length : Int) > 128 then (fastilaw04_DiskReads.j0 k a1 a2 l3 l4 true l0_0 l0_1 a0_2 a0_3) else (fastilaw04_DiskReads.j0 k a1 a2 l3 l4 (decide ((l4.length : Int) > 128)) l0_0 l0_1 a0_2 a0_3)) else (fastilaw04_DiskReads.j0 k a1 a2 l3 l4 true l0_0 l0_1 a0_2 a0_3))) else (some false))) = some r := h
 clear h
 replace H := Option.bind_eq_some_iff.mp H
 obtain ⟨t105, A60, H⟩ := H
 replace H : (if t105 = true then ((fastiref04_Few.f k l0_0 l0_1 a0_2 a0_3).bind fun t106 => (if t106 = true then (if (l3.length : Int) > 128 then (fastilaw04_DiskReads.j0 k a1 a2 l3 l4 true l0_0 l0_1 a0_2 a0_3) else (fastilaw04_DiskReads.j0 k a1 a2 l3 l4 (decide ((l4.length : Int) > 128)) l0_0 l0_1 a0_2 a0_3)) else (fastilaw04_DiskReads.j0 k a1 a2 l3 l4 true l0_0 l0_1 a0_2 a0_3))) else (some false)) = some r := H
 have A6 := Aside0.mk A60
 clear A60
 by_cases c7 : t105 = true
 ·subst c7
  have H1 : ((fastiref04_Few.f k l0_0 l0_1 a0_2 a0_3).bind fun t106 => (if t106 = true then (if (l3.length : Int) > 128 then (fastilaw04_DiskReads.j0 k a1 a2 l3 l4 true l0_0 l0_1 a0_2 a0_3) else (fastilaw04_DiskReads.j0 k a1 a2 l3 l4 (decide ((l4.length : Int) > 128)) l0_0 l0_1 a0_2 a0_3)) else (fastilaw04_DiskReads.j0 k a1 a2 l3 l4 true l0_0 l0_1 a0_2 a0_3))) = some r := by rw [if_pos rfl] at H; exact H
  clear H
  have H := H1
  clear H1
  have HC8 := Aside0.mk H
  clear H
  go_enter Try.func7, Try.ntmps7
  go_upto_region 3 with (first | ((with_reducible refine gate_dst (N := 5) rfl ?_); (try (refine gate_guard (by rfl) ?_; dsimp only)); refine box_event ?hg (N := 5) ?hd (cs := #[.slice A0_0 l0_0.length c0_0, .slice A0_1 l0_1.length c0_1, .int .i64 a0_2, .bool a0_3]) (t := 25) ?hr ?_; (case hd => rfl); (case hg => rfl); (case hr => first | (go_simp; done) | (go_simp; rfl)); intro gb104 hg w9 hbox hb; have n0_ := Aside0.mk (below_step (by repeat (first | (with_reducible first | exact HB.out | apply below_alloc | apply pw_below_drewN | apply below_drew1) | exact HB.out)) hb); have n1_ := Aside0.mk (hbox); have n2_ := Aside0.mk ((by rw [hg]; exact (below_size (by repeat (first | (with_reducible first | exact HB.out | apply below_alloc | apply pw_below_drewN | apply below_drew1) | exact HB.out))) : w.heap.size ≤ gb104)); have n3_ := Aside0.mk ((by rw [hg]; exact (below_size (by repeat (first | (with_reducible first | exact HB.out | apply below_alloc | apply pw_below_drewN | apply below_drew1) | exact HB.out))) : w.heap.size ≤ gb104)); clear HB; have HB := n0_; have BK104 := n1_; have GW104 := n2_; have GE104 := n3_; clear n0_ n1_ n2_ n3_; clear hb hbox hg) | (go_at_call 10; (with_reducible refine (fastilaw04_sane.calls  true _ A6.out).mono ?_); rintro e w10 ⟨rfl, hb⟩; have n0_ := Aside0.mk (zb BK104.out hb); have n1_ := Aside0.mk (below_step (by repeat (first | (with_reducible first | exact HB.out | apply below_alloc | apply pw_below_drewN | apply below_drew1 | refine below_set ?_ GE104.out) | exact HB.out)) hb); clear BK104; clear HB; have BK104 := n0_; have HB := n1_; clear n0_ n1_; (try clear hb); (try clear hb2); (try clear hk); (try clear hi)))
  (try simp only [Act.put, List.setIfInBounds_toArray, List.set_cons_zero, List.set_cons_succ])
  go_cut [42] (fun v42 wc => ∃ (kq : Nat) (x42_7 : Bool), v42 = .bool x42_7 ∧ Aside0 (fastilaw04_DiskReads.j0 kq a1 a2 l3 l4 x42_7 l0_0 l0_1 a0_2 a0_3 = some r) ∧ Aside0 (kq ≤ k) ∧ Aside0 (wc.heap[gb104]? = some (.cells #[(.slice A0_0 l0_0.length c0_0), (.slice A0_1 l0_1.length c0_1), .int .i64 a0_2, .bool a0_3] 25 (0, 0))) ∧ Aside0 (Below w.heap.size w wc))
  case first =>
   have H := HC8.out
   clear HC8
   replace H := Option.bind_eq_some_iff.mp H
   obtain ⟨t106, A110, H⟩ := H
   replace H : (if t106 = true then (if (l3.length : Int) > 128 then (fastilaw04_DiskReads.j0 k a1 a2 l3 l4 true l0_0 l0_1 a0_2 a0_3) else (fastilaw04_DiskReads.j0 k a1 a2 l3 l4 (decide ((l4.length : Int) > 128)) l0_0 l0_1 a0_2 a0_3)) else (fastilaw04_DiskReads.j0 k a1 a2 l3 l4 true l0_0 l0_1 a0_2 a0_3)) = some r := H
   have A11 := Aside0.mk A110
   clear A110
   by_cases c12 : t106 = true
   ·subst c12
    have H1 : (if (l3.length : Int) > 128 then (fastilaw04_DiskReads.j0 k a1 a2 l3 l4 true l0_0 l0_1 a0_2 a0_3) else (fastilaw04_DiskReads.j0 k a1 a2 l3 l4 (decide ((l4.length : Int) > 128)) l0_0 l0_1 a0_2 a0_3)) = some r := by rw [if_pos rfl] at H; exact H
    clear H
    have H := H1
    clear H1
    by_cases c13 : (l3.length : Int) > 128
    ·rw [if_pos c13] at H
     have c13b0 : decide (128 < (l3.length : Int)) = true := decide_eq_true c13
     have c13b1 : decide (128 < l3.length) = true := decide_eq_true (by omega)
     clear c13
     (first | rw [c13b0] | (simp only [i64_w, i32_w]; rw [c13b0]) | skip)
     have H' := Aside0.mk H
     clear H
     have hcz14_0 : w10.cell? ⟨gb104, 0, none⟩ = some (.slice A0_0 l0_0.length c0_0) := (blk_cell BK104.out 0).trans rfl
     have hcz14_1 : w10.cell? ⟨gb104, 1, none⟩ = some (.slice A0_1 l0_1.length c0_1) := (blk_cell BK104.out 1).trans rfl
     have hcz14_2 : w10.cell? ⟨gb104, 2, none⟩ = some (.int .i64 a0_2) := (blk_cell BK104.out 2).trans rfl
     have hcz14_3 : w10.cell? ⟨gb104, 3, none⟩ = some (.bool a0_3) := (blk_cell BK104.out 3).trans rfl
     have hfz14_0 := blk_frozen BK104.out 0
     have hfz14_1 := blk_frozen BK104.out 1
     have hfz14_2 := blk_frozen BK104.out 2
     have hfz14_3 := blk_frozen BK104.out 3
     go_wp2_with (first | (go_at_call 11; (with_reducible refine (fastiref04_Few.calls k _ _ l0_0 _ _ l0_1 a0_2 a0_3 true _ ?side1 ?side2 ?side3 ?side4 A11.out).mono ?_); (case side1 => repeat (first | exact (Kd.C_below HR0_0.out HB.out) | (with_reducible refine Kd.C_alloc ?_ _) | (with_reducible refine Kd.C_drewN ?_ _) | (with_reducible refine Kd.C_drew ?_))); (case side2 => exact HC0_0.out); (case side3 => repeat (first | exact (Kd.C_below HR0_1.out HB.out) | (with_reducible refine Kd.C_alloc ?_ _) | (with_reducible refine Kd.C_drewN ?_ _) | (with_reducible refine Kd.C_drew ?_))); (case side4 => exact HC0_1.out); rintro e w15 ⟨rfl, hb⟩; have n0_ := Aside0.mk (zb BK104.out hb); have n1_ := Aside0.mk (below_step (by repeat (first | (with_reducible first | exact HB.out | apply below_alloc | apply pw_below_drewN | apply below_drew1 | refine below_set ?_ GE104.out) | exact HB.out)) hb); clear BK104; clear HB; have BK104 := n0_; have HB := n1_; clear n0_ n1_; (try clear hb); (try clear hb2); (try clear hk); (try clear hi)))
     go_meet
     case rel => exact ⟨_, (true), (by first | rfl | (simp; done) | (simp [*]; done)), H', ⟨by first | omega | exact Nat.le_refl _⟩, ⟨zk BK104.out⟩, ⟨by repeat (first | (with_reducible first | exact HB.out | apply below_alloc | apply pw_below_drewN | apply below_drew1 | refine below_set ?_ GE104.out) | exact HB.out)⟩⟩
    ·rw [if_neg c13] at H
     have c13b0 : decide (128 < (l3.length : Int)) = false := decide_eq_false c13
     have c13b1 : decide (128 < l3.length) = false := decide_eq_false (by omega)
     clear c13
     (first | rw [c13b0] | (simp only [i64_w, i32_w]; rw [c13b0]) | skip)
     have H' := Aside0.mk H
     clear H
     have hcz16_0 : w10.cell? ⟨gb104, 0, none⟩ = some (.slice A0_0 l0_0.length c0_0) := (blk_cell BK104.out 0).trans rfl
     have hcz16_1 : w10.cell? ⟨gb104, 1, none⟩ = some (.slice A0_1 l0_1.length c0_1) := (blk_cell BK104.out 1).trans rfl
     have hcz16_2 : w10.cell? ⟨gb104, 2, none⟩ = some (.int .i64 a0_2) := (blk_cell BK104.out 2).trans rfl
     have hcz16_3 : w10.cell? ⟨gb104, 3, none⟩ = some (.bool a0_3) := (blk_cell BK104.out 3).trans rfl
     have hfz16_0 := blk_frozen BK104.out 0
     have hfz16_1 := blk_frozen BK104.out 1
     have hfz16_2 := blk_frozen BK104.out 2
     have hfz16_3 := blk_frozen BK104.out 3
     go_wp2_with (first | (go_at_call 11; (with_reducible refine (fastiref04_Few.calls k _ _ l0_0 _ _ l0_1 a0_2 a0_3 true _ ?side1 ?side2 ?side3 ?side4 A11.out).mono ?_); (case side1 => repeat (first | exact (Kd.C_below HR0_0.out HB.out) | (with_reducible refine Kd.C_alloc ?_ _) | (with_reducible refine Kd.C_drewN ?_ _) | (with_reducible refine Kd.C_drew ?_))); (case side2 => exact HC0_0.out); (case side3 => repeat (first | exact (Kd.C_below HR0_1.out HB.out) | (with_reducible refine Kd.C_alloc ?_ _) | (with_reducible refine Kd.C_drewN ?_ _) | (with_reducible refine Kd.C_drew ?_))); (case side4 => exact HC0_1.out); rintro e w17 ⟨rfl, hb⟩; have n0_ := Aside0.mk (zb BK104.out hb); have n1_ := Aside0.mk (below_step (by repeat (first | (with_reducible first | exact HB.out | apply below_alloc | apply pw_below_drewN | apply below_drew1 | refine below_set ?_ GE104.out) | exact HB.out)) hb); clear BK104; clear HB; have BK104 := n0_; have HB := n1_; clear n0_ n1_; (try clear hb); (try clear hb2); (try clear hk); (try clear hi)))
     go_meet
     case rel => exact ⟨_, (decide ((l4.length : Int) > 128)), (by first | rfl | (simp; done) | (simp [*]; done)), H', ⟨by first | omega | exact Nat.le_refl _⟩, ⟨zk BK104.out⟩, ⟨by repeat (first | (with_reducible first | exact HB.out | apply below_alloc | apply pw_below_drewN | apply below_drew1 | refine below_set ?_ GE104.out) | exact HB.out)⟩⟩
   ·replace c12 := Bool.eq_false_iff.mpr c12
    subst c12
    have H1 : (fastilaw04_DiskReads.j0 k a1 a2 l3 l4 true l0_0 l0_1 a0_2 a0_3) = some r := by rw [if_neg (show ¬ (false = true) by decide)] at H; exact H
    clear H
    have H := H1
    clear H1
    have H' := Aside0.mk H
    clear H
    have hcz18_0 : w10.cell? ⟨gb104, 0, none⟩ = some (.slice A0_0 l0_0.length c0_0) := (blk_cell BK104.out 0).trans rfl
    have hcz18_1 : w10.cell? ⟨gb104, 1, none⟩ = some (.slice A0_1 l0_1.length c0_1) := (blk_cell BK104.out 1).trans rfl
    have hcz18_2 : w10.cell? ⟨gb104, 2, none⟩ = some (.int .i64 a0_2) := (blk_cell BK104.out 2).trans rfl
    have hcz18_3 : w10.cell? ⟨gb104, 3, none⟩ = some (.bool a0_3) := (blk_cell BK104.out 3).trans rfl
    have hfz18_0 := blk_frozen BK104.out 0
    have hfz18_1 := blk_frozen BK104.out 1
    have hfz18_2 := blk_frozen BK104.out 2
    have hfz18_3 := blk_frozen BK104.out 3
    go_wp2_with (first | (go_at_call 11; (with_reducible refine (fastiref04_Few.calls k _ _ l0_0 _ _ l0_1 a0_2 a0_3 false _ ?side1 ?side2 ?side3 ?side4 A11.out).mono ?_); (case side1 => repeat (first | exact (Kd.C_below HR0_0.out HB.out) | (with_reducible refine Kd.C_alloc ?_ _) | (with_reducible refine Kd.C_drewN ?_ _) | (with_reducible refine Kd.C_drew ?_))); (case side2 => exact HC0_0.out); (case side3 => repeat (first | exact (Kd.C_below HR0_1.out HB.out) | (with_reducible refine Kd.C_alloc ?_ _) | (with_reducible refine Kd.C_drewN ?_ _) | (with_reducible refine Kd.C_drew ?_))); (case side4 => exact HC0_1.out); rintro e w19 ⟨rfl, hb⟩; have n0_ := Aside0.mk (zb BK104.out hb); have n1_ := Aside0.mk (below_step (by repeat (first | (with_reducible first | exact HB.out | apply below_alloc | apply pw_below_drewN | apply below_drew1 | refine below_set ?_ GE104.out) | exact HB.out)) hb); clear BK104; clear HB; have BK104 := n0_; have HB := n1_; clear n0_ n1_; (try clear hb); (try clear hb2); (try clear hk); (try clear hi)))
    go_meet
    case rel => exact ⟨_, (true), (by first | rfl | (simp; done) | (simp [*]; done)), H', ⟨by first | omega | exact Nat.le_refl _⟩, ⟨zk BK104.out⟩, ⟨by repeat (first | (with_reducible first | exact HB.out | apply below_alloc | apply pw_below_drewN | apply below_drew1 | refine below_set ?_ GE104.out) | exact HB.out)⟩⟩
  case rest =>
   clear HC8
   try clear c1
   try clear p2
   try clear c3
   try clear c4
   try clear c7
   try clear c12
   try clear c13
   try clear c13b0
   try clear c13b1
   try clear hcz14_0
   try clear hcz14_1
   try clear hcz14_2
   try clear hcz14_3
   try clear hcz16_0
   try clear hcz16_1
   try clear hcz16_2
   try clear hcz16_3
   try clear hcz18_0
   try clear hcz18_1
   try clear hcz18_2
   try clear hcz18_3
   try clear hfz14_0
   try clear hfz14_1
   try clear hfz14_2
   try clear hfz14_3
   try clear hfz16_0
   try clear hfz16_1
   try clear hfz16_2
   try clear hfz16_3
   try clear hfz18_0
   try clear hfz18_1
   try clear hfz18_2
   try clear hfz18_3
   obtain ⟨kq, x42_7, rfl, HA, HJ7, BK104, HB⟩ := hcut
   cases kq with
   | zero => exact absurd HA.out (by simp [fastilaw04_DiskReads.j0])
   | succ kj7 =>
    have H := HA.out
    clear HA
    simp only [fastilaw04_DiskReads.j0] at H
    by_cases c20 : x42_7 = true
    ·subst c20
     have H1 : (some true) = some r := by rw [if_pos rfl] at H; exact H
     clear H
     have H := H1
     clear H1
     obtain rfl := Option.some.inj H
     go_wp2
     repeat (go_quiet (fail); try go_wp2)
     go_ret
     exact ⟨by first | rfl | (simp [errW_none, errW_some] <;> rfl) | (simp [*, errW_none, errW_some] <;> rfl), by repeat (first | (with_reducible first | exact HB.out | apply below_alloc | apply pw_below_drewN | apply below_drew1 | refine below_set ?_ GE104.out) | exact HB.out)⟩
    ·replace c20 := Bool.eq_false_iff.mpr c20
     subst c20
     have H1 : ((disk_Read.f l0_0 l0_1 a0_2 a0_3 a2).bind fun bt107 => ((disk_Write.f l0_0 l0_1 a0_2 a0_3 a1 l3).bind fun bt111 => (if bt107.2 = 0 then (fastilaw04_DiskReads.j1 kj7 a1 a2 l3 l4 bt107.1 (bt111.2.2.2.2 != 0) l0_0 l0_1 a0_2 a0_3 bt111.1 bt111.2.1 bt111.2.2.1 bt111.2.2.2.1) else (fastilaw04_DiskReads.j1 kj7 a1 a2 l3 l4 bt107.1 true l0_0 l0_1 a0_2 a0_3 bt111.1 bt111.2.1 bt111.2.2.1 bt111.2.2.2.1)))) = some r := by rw [if_neg (show ¬ (false = true) by decide)] at H; exact H
     clear H
     have H := H1
     clear H1
     replace H := Option.bind_eq_some_iff.mp H
     obtain ⟨⟨t107, t110⟩, A210, H⟩ := H
     replace H : ((disk_Write.f l0_0 l0_1 a0_2 a0_3 a1 l3).bind fun bt111 => (if t110 = 0 then (fastilaw04_DiskReads.j1 kj7 a1 a2 l3 l4 t107 (bt111.2.2.2.2 != 0) l0_0 l0_1 a0_2 a0_3 bt111.1 bt111.2.1 bt111.2.2.1 bt111.2.2.2.1) else (fastilaw04_DiskReads.j1 kj7 a1 a2 l3 l4 t107 true l0_0 l0_1 a0_2 a0_3 bt111.1 bt111.2.1 bt111.2.2.1 bt111.2.2.2.1))) = some r := H
     have A21 := Aside0.mk A210
     clear A210
     replace H := Option.bind_eq_some_iff.mp H
     obtain ⟨⟨t111, t114, t117, t118, t119⟩, A220, H⟩ := H
     replace H : (if t110 = 0 then (fastilaw04_DiskReads.j1 kj7 a1 a2 l3 l4 t107 (t119 != 0) l0_0 l0_1 a0_2 a0_3 t111 t114 t117 t118) else (fastilaw04_DiskReads.j1 kj7 a1 a2 l3 l4 t107 true l0_0 l0_1 a0_2 a0_3 t111 t114 t117 t118)) = some r := H
     have A22 := Aside0.mk A220
     clear A220
     have HC23 := Aside0.mk H
     clear H
     have hcz24_0 : wc.cell? ⟨gb104, 0, none⟩ = some (.slice A0_0 l0_0.length c0_0) := (blk_cell BK104.out 0).trans rfl
     have hcz24_1 : wc.cell? ⟨gb104, 1, none⟩ = some (.slice A0_1 l0_1.length c0_1) := (blk_cell BK104.out 1).trans rfl
     have hcz24_2 : wc.cell? ⟨gb104, 2, none⟩ = some (.int .i64 a0_2) := (blk_cell BK104.out 2).trans rfl
     have hcz24_3 : wc.cell? ⟨gb104, 3, none⟩ = some (.bool a0_3) := (blk_cell BK104.out 3).trans rfl
     have hfz24_0 := blk_frozen BK104.out 0
     have hfz24_1 := blk_frozen BK104.out 1
     have hfz24_2 := blk_frozen BK104.out 2
     have hfz24_3 := blk_frozen BK104.out 3
     go_upto_region 7 with (first | (go_at_call 21; (with_reducible refine (disk_Read.calls (fun k_ => k_ < w.heap.size) _ _ l0_0 (fun k_ => k_ < w.heap.size) _ _ l0_1 a0_2 a0_3 a2 t107 t110 _ ?side1 ?side2 A21.out).mono ?_); (case side1 => exact Kd.V_mk HC0_0.out (Kd.F_below (Kd.C_F (Kd.heap_slice 5 (Kd.heap_int .u8)) HR0_0.out) (by repeat (first | (with_reducible first | exact HB.out | apply below_alloc | apply pw_below_drewN | apply below_drew1 | refine below_set ?_ GE104.out) | exact HB.out)))); (case side2 => exact Kd.V_mk HC0_1.out (Kd.F_below (Kd.C_F k54_heap HR0_1.out) (by repeat (first | (with_reducible first | exact HB.out | apply below_alloc | apply pw_below_drewN | apply below_drew1 | refine below_set ?_ GE104.out) | exact HB.out)))); rintro e w25 ⟨v108, rfl, ho0, hb⟩; have n0_ := Aside0.mk (Kd.V_lower (Kd.V_mono (ok' := fun k_ => k_ ≠ gb104) ho0 (fun k_ hk_ => Or.elim hk_ (fun hs_ => Or.elim hs_ (fun hs_ => fun e_ => Nat.not_le.2 hs_ (by rw [e_]; exact GW104.out)) (fun hs_ => fun e_ => Nat.not_le.2 hs_ (by rw [e_]; exact GW104.out))) (fun hn_ => (Kd.freshB (g := gb104) (o := .cells #[.slice A0_0 l0_0.length c0_0, .slice A0_1 l0_1.length c0_1, .int .i64 a0_2, .bool a0_3] 25 (0, 0)) (zk BK104.out) k_ hn_)))) (below_size (by repeat (first | (with_reducible first | exact HB.out | apply below_alloc | apply pw_below_drewN | apply below_drew1 | refine below_set ?_ GE104.out) | exact HB.out)))); have n1_ := Aside0.mk (zb BK104.out hb); have n2_ := Aside0.mk (below_step (by repeat (first | (with_reducible first | exact HB.out | apply below_alloc | apply pw_below_drewN | apply below_drew1 | refine below_set ?_ GE104.out) | exact HB.out)) hb); clear BK104; clear HB; have HO109 := n0_; have BK104 := n1_; have HB := n2_; clear n0_ n1_ n2_; (try clear hb); (try clear hb2); (try clear hk); (try clear hi); (try clear ho0); have hcz26_0 : w25.cell? ⟨gb104, 0, none⟩ = some (.slice A0_0 l0_0.length c0_0) := (blk_cell BK104.out 0).trans rfl; have hcz26_1 : w25.cell? ⟨gb104, 1, none⟩ = some (.slice A0_1 l0_1.length c0_1) := (blk_cell BK104.out 1).trans rfl; have hcz26_2 : w25.cell? ⟨gb104, 2, none⟩ = some (.int .i64 a0_2) := (blk_cell BK104.out 2).trans rfl; have hcz26_3 : w25.cell? ⟨gb104, 3, none⟩ = some (.bool a0_3) := (blk_cell BK104.out 3).trans rfl; have hfz26_0 := blk_frozen BK104.out 0; have hfz26_1 := blk_frozen BK104.out 1; have hfz26_2 := blk_frozen BK104.out 2; have hfz26_3 := blk_frozen BK104.out 3) | (go_at_call 19; (with_reducible refine (disk_Write.calls (fun k_ => k_ < w.heap.size) _ _ l0_0 (fun k_ => k_ < w.heap.size) _ _ l0_1 a0_2 a0_3 a1 _ _ l3 t111 t114 t117 t118 t119 _ ?side1 ?side2 ?side3 ?side4 A22.out).mono ?_); (case side1 => exact Kd.V_mk HC0_0.out (Kd.F_below (Kd.C_F (Kd.heap_slice 5 (Kd.heap_int .u8)) HR0_0.out) (by repeat (first | (with_reducible first | exact HB.out | apply below_alloc | apply pw_below_drewN | apply below_drew1 | refine below_set ?_ GE104.out) | exact HB.out)))); (case side2 => exact Kd.V_mk HC0_1.out (Kd.F_below (Kd.C_F k54_heap HR0_1.out) (by repeat (first | (with_reducible first | exact HB.out | apply below_alloc | apply pw_below_drewN | apply below_drew1 | refine below_set ?_ GE104.out) | exact HB.out)))); (case side3 => repeat (first | exact (Kd.C_below HR3.out HB.out) | (with_reducible refine Kd.C_alloc ?_ _) | (with_reducible refine Kd.C_drewN ?_ _) | (with_reducible refine Kd.C_drew ?_))); (case side4 => exact HC3.out); rintro e w27 ⟨v112, v115, rfl, ho0, ho1, hb⟩; have n0_ := Aside0.mk (Kd.V_below (by (with_reducible repeat (first | apply Kd.V_alloc | apply Kd.V_drewN | apply Kd.V_drew)); exact HO109.out) hb); have n1_ := Aside0.mk (Kd.V_lower (Kd.V_mono (ok' := fun k_ => k_ ≠ gb104) ho0 (fun k_ hk_ => Or.elim hk_ (fun hs_ => Or.elim hs_ (fun hs_ => fun e_ => Nat.not_le.2 hs_ (by rw [e_]; exact GW104.out)) (fun hs_ => fun e_ => Nat.not_le.2 hs_ (by rw [e_]; exact GW104.out))) (fun hn_ => (Kd.freshB (g := gb104) (o := .cells #[.slice A0_0 l0_0.length c0_0, .slice A0_1 l0_1.length c0_1, .int .i64 a0_2, .bool a0_3] 25 (0, 0)) (zk BK104.out) k_ hn_)))) (below_size (by repeat (first | (with_reducible first | exact HB.out | apply below_alloc | apply pw_below_drewN | apply below_drew1 | refine below_set ?_ GE104.out) | exact HB.out)))); have n2_ := Aside0.mk (Kd.V_lower (Kd.V_mono (ok' := fun k_ => k_ ≠ gb104) ho1 (fun k_ hk_ => Or.elim hk_ (fun hs_ => Or.elim hs_ (fun hs_ => fun e_ => Nat.not_le.2 hs_ (by rw [e_]; exact GW104.out)) (fun hs_ => fun e_ => Nat.not_le.2 hs_ (by rw [e_]; exact GW104.out))) (fun hn_ => (Kd.freshB (g := gb104) (o := .cells #[.slice A0_0 l0_0.length c0_0, .slice A0_1 l0_1.length c0_1, .int .i64 a0_2, .bool a0_3] 25 (0, 0)) (zk BK104.out) k_ hn_)))) (below_size (by repeat (first | (with_reducible first | exact HB.out | apply below_alloc | apply pw_below_drewN | apply below_drew1 | refine below_set ?_ GE104.out) | exact HB.out)))); have n3_ := Aside0.mk (zb BK104.out hb); have n4_ := Aside0.mk (below_step (by repeat (first | (with_reducible first | exact HB.out | apply below_alloc | apply pw_below_drewN | apply below_drew1 | refine below_set ?_ GE104.out) | exact HB.out)) hb); clear HO109; clear BK104; clear HB; have HO109 := n0_; have HO113 := n1_; have HO116 := n2_; have BK104 := n3_; have HB := n4_; clear n0_ n1_ n2_ n3_ n4_; (try clear hb); (try clear hb2); (try clear hk); (try clear hi); (try clear ho0); (try clear ho1)) | ((with_reducible refine gate_dst (N := 13) rfl ?_); (try (refine gate_guard (by rfl) ?_; dsimp only)); refine box_event ?hg (N := 13) ?hd (cs := #[.slice none 0 0, .slice none 0 0, .int .i64 0, .bool false]) (t := 25) ?hr ?_; (case hd => rfl); (case hg => rfl); (case hr => first | (go_simp; done) | (go_simp; rfl)); intro gb120 hg w28 hbox hb; have n0_ := Aside0.mk (Kd.V_below (Kd.V_elderB (by (with_reducible repeat (first | apply Kd.V_alloc | apply Kd.V_drewN | apply Kd.V_drew)); exact HO109.out) gb120 (Nat.le_of_eq hg.symm)) hb); have n1_ := Aside0.mk (Kd.V_below (Kd.V_elderB (by (with_reducible repeat (first | apply Kd.V_alloc | apply Kd.V_drewN | apply Kd.V_drew)); exact HO113.out) gb120 (Nat.le_of_eq hg.symm)) hb); have n2_ := Aside0.mk (Kd.V_below (Kd.V_elderB (by (with_reducible repeat (first | apply Kd.V_alloc | apply Kd.V_drewN | apply Kd.V_drew)); exact HO116.out) gb120 (Nat.le_of_eq hg.symm)) hb); have n3_ := Aside0.mk (zb BK104.out hb); have n4_ := Aside0.mk (below_step (by repeat (first | (with_reducible first | exact HB.out | apply below_alloc | apply pw_below_drewN | apply below_drew1 | refine below_set ?_ GE104.out) | exact HB.out)) hb); have n5_ := Aside0.mk (hbox); have n6_ := Aside0.mk ((by rw [hg]; exact (below_size (by repeat (first | (with_reducible first | exact HB.out | apply below_alloc | apply pw_below_drewN | apply below_drew1 | refine below_set ?_ GE104.out) | exact HB.out))) : w.heap.size ≤ gb120)); have n7_ := Aside0.mk ((by rw [hg]; exact (below_size (by repeat (first | (with_reducible first | exact HB.out | apply below_alloc | apply pw_below_drewN | apply below_drew1 | refine below_set ?_ GE104.out) | exact HB.out))) : w.heap.size ≤ gb120)); have n8_ := Aside0.mk ((by rw [hg]; exact Nat.ne_of_lt (blk_lt (zk BK104.out)) : gb104 ≠ gb120)); have n9_ := Aside0.mk ((by rw [hg]; exact Nat.ne_of_gt (blk_lt (zk BK104.out)) : gb120 ≠ gb104)); clear HO109; clear HO113; clear HO116; clear BK104; clear HB; have HO109 := n0_; have HO113 := n1_; have HO116 := n2_; have BK104 := n3_; have HB := n4_; have BK120 := n5_; have GW120 := n6_; have GE120 := n7_; have NB104_120 := n8_; have NB120_104 := n9_; clear n0_ n1_ n2_ n3_ n4_ n5_ n6_ n7_ n8_ n9_; clear hb hbox hg; obtain ⟨Ao29, co29, eo29⟩ := Kd.V_slice HO113.out; subst eo29; have hnb30 := NB120_104.out; have hnc30 := NB104_120.out; have hcz31_0 : w28.cell? ⟨gb120, 0, none⟩ = some (.slice none 0 0) := (blk_cell BK120.out 0).trans rfl; have hcz31_1 : w28.cell? ⟨gb120, 1, none⟩ = some (.slice none 0 0) := (blk_cell BK120.out 1).trans rfl; have hcz31_2 : w28.cell? ⟨gb120, 2, none⟩ = some (.int .i64 0) := (blk_cell BK120.out 2).trans rfl; have hcz31_3 : w28.cell? ⟨gb120, 3, none⟩ = some (.bool false) := (blk_cell BK120.out 3).trans rfl; have hfz31_0 := blk_frozen BK120.out 0; have hfz31_1 := blk_frozen BK120.out 1; have hfz31_2 := blk_frozen BK120.out 2; have hfz31_3 := blk_frozen BK120.out 3; obtain ⟨Ao32, co32, eo32⟩ := Kd.V_slice HO116.out; subst eo32))
     (try simp only [Act.put, List.setIfInBounds_toArray, List.set_cons_zero, List.set_cons_succ])
     go_cut [61] (fun v61 wc => ∃ (kq : Nat) (x61_22 : Bool), v61 = .bool x61_22 ∧ Aside0 (fastilaw04_DiskReads.j1 kq a1 a2 l3 l4 t107 x61_22 l0_0 l0_1 a0_2 a0_3 t111 t114 t117 t118 = some r) ∧ Aside0 (kq ≤ kj7) ∧ Aside0 (Kd.V (Kd.int .u8) 5 wc w.heap.size (fun k_ => k_ ≠ gb104 ∧ k_ ≠ gb120) v108 t107) ∧ Aside0 (Kd.V (Kd.slice 5 (Kd.int .u8)) 35 wc w.heap.size (fun k_ => k_ ≠ gb104 ∧ k_ ≠ gb120) (.slice Ao29 t111.length co29) t111) ∧ Aside0 (Kd.V k54 54 wc w.heap.size (fun k_ => k_ ≠ gb104 ∧ k_ ≠ gb120) (.slice Ao32 t114.length co32) t114) ∧ Aside0 (wc.heap[gb104]? = some (.cells #[(.slice A0_0 l0_0.length c0_0), (.slice A0_1 l0_1.length c0_1), .int .i64 a0_2, .bool a0_3] 25 (0, 0))) ∧ Aside0 (wc.heap[gb120]? = some (.cells #[(.slice Ao29 t111.length co29), (.slice Ao32 t114.length co32), .int .i64 t117, .bool t118] 25 (0, 0))) ∧ Aside0 (Below w.heap.size w wc))
     case first =>
      have H := HC23.out
      clear HC23
      by_cases c33 : t110 = 0
      ·rw [if_pos c33] at H
       have c33b0 : (t110 == 0) = true := beq_iff_eq.mpr c33
       have c33b1 : (t110 != 0) = false := bne_eq_false_iff_eq.mpr c33
       clear c33
       (first | rw [c33b0] | (simp only [i64_w, i32_w]; rw [c33b0]) | skip)
       have H' := Aside0.mk H
       clear H
       go_wp2
       repeat (go_quiet (fail); try go_wp2)
       go_meet
       case rel => exact ⟨_, ((t119 != 0)), (by first | rfl | (simp; done) | (simp [*]; done)), H', ⟨by have := HJ7.out; first | omega | exact Nat.le_refl _⟩, ⟨by (with_reducible repeat (first | apply Kd.V_alloc | apply Kd.V_drewN | apply Kd.V_drew)); exact Kd.V_mono (Kd.V_far (p := ⟨gb120, 3, none⟩) (Kd.V_far (p := ⟨gb120, 2, none⟩) (Kd.V_far (p := ⟨gb120, 1, none⟩) (Kd.V_far (p := ⟨gb120, 0, none⟩) (Kd.V_mono HO109.out (fun k_ hk => (⟨hk, hk.2⟩ : _ ∧ k_ ≠ gb120))) (fun _ hk => hk.2) (.slice Ao29 t111.length co29)) (fun _ hk => hk.2) (.slice Ao32 t114.length co32)) (fun _ hk => hk.2) (.int .i64 t117)) (fun _ hk => hk.2) (.bool t118)) (fun _ hk => ⟨hk.1.1, hk.1.2⟩)⟩, ⟨by (with_reducible repeat (first | apply Kd.V_alloc | apply Kd.V_drewN | apply Kd.V_drew)); exact Kd.V_mono (Kd.V_far (p := ⟨gb120, 3, none⟩) (Kd.V_far (p := ⟨gb120, 2, none⟩) (Kd.V_far (p := ⟨gb120, 1, none⟩) (Kd.V_far (p := ⟨gb120, 0, none⟩) (Kd.V_mono HO113.out (fun k_ hk => (⟨hk, hk.2⟩ : _ ∧ k_ ≠ gb120))) (fun _ hk => hk.2) (.slice Ao29 t111.length co29)) (fun _ hk => hk.2) (.slice Ao32 t114.length co32)) (fun _ hk => hk.2) (.int .i64 t117)) (fun _ hk => hk.2) (.bool t118)) (fun _ hk => ⟨hk.1.1, hk.1.2⟩)⟩, ⟨by (with_reducible repeat (first | apply Kd.V_alloc | apply Kd.V_drewN | apply Kd.V_drew)); exact Kd.V_mono (Kd.V_far (p := ⟨gb120, 3, none⟩) (Kd.V_far (p := ⟨gb120, 2, none⟩) (Kd.V_far (p := ⟨gb120, 1, none⟩) (Kd.V_far (p := ⟨gb120, 0, none⟩) (Kd.V_mono HO116.out (fun k_ hk => (⟨hk, hk.2⟩ : _ ∧ k_ ≠ gb120))) (fun _ hk => hk.2) (.slice Ao29 t111.length co29)) (fun _ hk => hk.2) (.slice Ao32 t114.length co32)) (fun _ hk => hk.2) (.int .i64 t117)) (fun _ hk => hk.2) (.bool t118)) (fun _ hk => ⟨hk.1.1, hk.1.2⟩)⟩, ⟨by (with_reducible repeat (first | refine blk_drewN ?_ _ | refine blk_drew ?_ | refine blk_alloc ?_ _)); refine blk_far ?_ NB104_120.out _; (with_reducible repeat (first | refine blk_drewN ?_ _ | refine blk_drew ?_ | refine blk_alloc ?_ _)); refine blk_far ?_ NB104_120.out _; (with_reducible repeat (first | refine blk_drewN ?_ _ | refine blk_drew ?_ | refine blk_alloc ?_ _)); refine blk_far ?_ NB104_120.out _; (with_reducible repeat (first | refine blk_drewN ?_ _ | refine blk_drew ?_ | refine blk_alloc ?_ _)); refine blk_far ?_ NB104_120.out _; (with_reducible repeat (first | refine blk_drewN ?_ _ | refine blk_drew ?_ | refine blk_alloc ?_ _)); exact BK104.out⟩, ⟨by (with_reducible repeat (first | refine blk_drewN ?_ _ | refine blk_drew ?_ | refine blk_alloc ?_ _)); refine blk_put (cs := #[.slice Ao29 t111.length co29, .slice Ao32 t114.length co32, .int .i64 t117, .bool false]) ?_ 3 _ rfl; (with_reducible repeat (first | refine blk_drewN ?_ _ | refine blk_drew ?_ | refine blk_alloc ?_ _)); refine blk_put (cs := #[.slice Ao29 t111.length co29, .slice Ao32 t114.length co32, .int .i64 0, .bool false]) ?_ 2 _ rfl; (with_reducible repeat (first | refine blk_drewN ?_ _ | refine blk_drew ?_ | refine blk_alloc ?_ _)); refine blk_put (cs := #[.slice Ao29 t111.length co29, .slice none 0 0, .int .i64 0, .bool false]) ?_ 1 _ rfl; (with_reducible repeat (first | refine blk_drewN ?_ _ | refine blk_drew ?_ | refine blk_alloc ?_ _)); refine blk_put (cs := #[.slice none 0 0, .slice none 0 0, .int .i64 0, .bool false]) ?_ 0 _ rfl; (with_reducible repeat (first | refine blk_drewN ?_ _ | refine blk_drew ?_ | refine blk_alloc ?_ _)); exact BK120.out⟩, ⟨by repeat (first | (with_reducible first | exact HB.out | apply below_alloc | apply pw_below_drewN | apply below_drew1 | refine below_set ?_ GE104.out | refine below_set ?_ GE120.out) | exact HB.out)⟩⟩
      ·rw [if_neg c33] at H
       have c33b0 : (t110 == 0) = false := beq_eq_false_iff_ne.mpr c33
       have c33b1 : (t110 != 0) = true := bne_iff_ne.mpr c33
       (first | rw [c33b0] | (simp only [i64_w, i32_w]; rw [c33b0]) | skip)
       have H' := Aside0.mk H
       clear H
       go_wp2
       repeat (go_quiet (fail); try go_wp2)
       go_meet
       case rel => exact ⟨_, (true), (by first | rfl | (simp; done) | (simp [*]; done)), H', ⟨by have := HJ7.out; first | omega | exact Nat.le_refl _⟩, ⟨by (with_reducible repeat (first | apply Kd.V_alloc | apply Kd.V_drewN | apply Kd.V_drew)); exact Kd.V_mono (Kd.V_far (p := ⟨gb120, 3, none⟩) (Kd.V_far (p := ⟨gb120, 2, none⟩) (Kd.V_far (p := ⟨gb120, 1, none⟩) (Kd.V_far (p := ⟨gb120, 0, none⟩) (Kd.V_mono HO109.out (fun k_ hk => (⟨hk, hk.2⟩ : _ ∧ k_ ≠ gb120))) (fun _ hk => hk.2) (.slice Ao29 t111.length co29)) (fun _ hk => hk.2) (.slice Ao32 t114.length co32)) (fun _ hk => hk.2) (.int .i64 t117)) (fun _ hk => hk.2) (.bool t118)) (fun _ hk => ⟨hk.1.1, hk.1.2⟩)⟩, ⟨by (with_reducible repeat (first | apply Kd.V_alloc | apply Kd.V_drewN | apply Kd.V_drew)); exact Kd.V_mono (Kd.V_far (p := ⟨gb120, 3, none⟩) (Kd.V_far (p := ⟨gb120, 2, none⟩) (Kd.V_far (p := ⟨gb120, 1, none⟩) (Kd.V_far (p := ⟨gb120, 0, none⟩) (Kd.V_mono HO113.out (fun k_ hk => (⟨hk, hk.2⟩ : _ ∧ k_ ≠ gb120))) (fun _ hk => hk.2) (.slice Ao29 t111.length co29)) (fun _ hk => hk.2) (.slice Ao32 t114.length co32)) (fun _ hk => hk.2) (.int .i64 t117)) (fun _ hk => hk.2) (.bool t118)) (fun _ hk => ⟨hk.1.1, hk.1.2⟩)⟩, ⟨by (with_reducible repeat (first | apply Kd.V_alloc | apply Kd.V_drewN | apply Kd.V_drew)); exact Kd.V_mono (Kd.V_far (p := ⟨gb120, 3, none⟩) (Kd.V_far (p := ⟨gb120, 2, none⟩) (Kd.V_far (p := ⟨gb120, 1, none⟩) (Kd.V_far (p := ⟨gb120, 0, none⟩) (Kd.V_mono HO116.out (fun k_ hk => (⟨hk, hk.2⟩ : _ ∧ k_ ≠ gb120))) (fun _ hk => hk.2) (.slice Ao29 t111.length co29)) (fun _ hk => hk.2) (.slice Ao32 t114.length co32)) (fun _ hk => hk.2) (.int .i64 t117)) (fun _ hk => hk.2) (.bool t118)) (fun _ hk => ⟨hk.1.1, hk.1.2⟩)⟩, ⟨by (with_reducible repeat (first | refine blk_drewN ?_ _ | refine blk_drew ?_ | refine blk_alloc ?_ _)); refine blk_far ?_ NB104_120.out _; (with_reducible repeat (first | refine blk_drewN ?_ _ | refine blk_drew ?_ | refine blk_alloc ?_ _)); refine blk_far ?_ NB104_120.out _; (with_reducible repeat (first | refine blk_drewN ?_ _ | refine blk_drew ?_ | refine blk_alloc ?_ _)); refine blk_far ?_ NB104_120.out _; (with_reducible repeat (first | refine blk_drewN ?_ _ | refine blk_drew ?_ | refine blk_alloc ?_ _)); refine blk_far ?_ NB104_120.out _; (with_reducible repeat (first | refine blk_drewN ?_ _ | refine blk_drew ?_ | refine blk_alloc ?_ _)); exact BK104.out⟩, ⟨by (with_reducible repeat (first | refine blk_drewN ?_ _ | refine blk_drew ?_ | refine blk_alloc ?_ _)); refine blk_put (cs := #[.slice Ao29 t111.length co29, .slice Ao32 t114.length co32, .int .i64 t117, .bool false]) ?_ 3 _ rfl; (with_reducible repeat (first | refine blk_drewN ?_ _ | refine blk_drew ?_ | refine blk_alloc ?_ _)); refine blk_put (cs := #[.slice Ao29 t111.length co29, .slice Ao32 t114.length co32, .int .i64 0, .bool false]) ?_ 2 _ rfl; (with_reducible repeat (first | refine blk_drewN ?_ _ | refine blk_drew ?_ | refine blk_alloc ?_ _)); refine blk_put (cs := #[.slice Ao29 t111.length co29, .slice none 0 0, .int .i64 0, .bool false]) ?_ 1 _ rfl; (with_reducible repeat (first | refine blk_drewN ?_ _ | refine blk_drew ?_ | refine blk_alloc ?_ _)); refine blk_put (cs := #[.slice none 0 0, .slice none 0 0, .int .i64 0, .bool false]) ?_ 0 _ rfl; (with_reducible repeat (first | refine blk_drewN ?_ _ | refine blk_drew ?_ | refine blk_alloc ?_ _)); exact BK120.out⟩, ⟨by repeat (first | (with_reducible first | exact HB.out | apply below_alloc | apply pw_below_drewN | apply below_drew1 | refine below_set ?_ GE104.out | refine below_set ?_ GE120.out) | exact HB.out)⟩⟩
     case rest =>
      clear HC23
      try clear c1
      try clear c2
      try clear p2
      try clear c3
      try clear c4
      try clear c7
      try clear c12
      try clear c13
      try clear c13b0
      try clear c13b1
      try clear c20
      try clear c30
      try clear c33
      try clear c33b0
      try clear c33b1
      try clear hcz14_0
      try clear hcz14_1
      try clear hcz14_2
      try clear hcz14_3
      try clear hcz16_0
      try clear hcz16_1
      try clear hcz16_2
      try clear hcz16_3
      try clear hcz18_0
      try clear hcz18_1
      try clear hcz18_2
      try clear hcz18_3
      try clear hcz24_0
      try clear hcz24_1
      try clear hcz24_2
      try clear hcz24_3
      try clear hcz26_0
      try clear hcz26_1
      try clear hcz26_2
      try clear hcz26_3
      try clear hcz31_0
      try clear hcz31_1
      try clear hcz31_2
      try clear hcz31_3
      try clear hfz14_0
      try clear hfz14_1
      try clear hfz14_2
      try clear hfz14_3
      try clear hfz16_0
      try clear hfz16_1
      try clear hfz16_2
      try clear hfz16_3
      try clear hfz18_0
      try clear hfz18_1
      try clear hfz18_2
      try clear hfz18_3
      try clear hfz24_0
      try clear hfz24_1
      try clear hfz24_2
      try clear hfz24_3
      try clear hfz26_0
      try clear hfz26_1
      try clear hfz26_2
      try clear hfz26_3
      try clear hfz31_0
      try clear hfz31_1
      try clear hfz31_2
      try clear hfz31_3
      try clear p2
      obtain ⟨kq, x61_22, rfl, HA, HJ22, HO_11, HO_121000, HO_121001, BK104, BK120, HB⟩ := hcut
      cases kq with
      | zero => exact absurd HA.out (by simp [fastilaw04_DiskReads.j1])
      | succ kj22 =>
       have H := HA.out
       clear HA
       simp only [fastilaw04_DiskReads.j1] at H
       by_cases c34 : x61_22 = true
       ·subst c34
        have H1 : (some true) = some r := by rw [if_pos rfl] at H; exact H
        clear H
        have H := H1
        clear H1
        obtain rfl := Option.some.inj H
        go_wp2
        repeat (go_quiet (fail); try go_wp2)
        go_ret
        exact ⟨by first | rfl | (simp [errW_none, errW_some] <;> rfl) | (simp [*, errW_none, errW_some] <;> rfl), by repeat (first | (with_reducible first | exact HB.out | apply below_alloc | apply pw_below_drewN | apply below_drew1 | refine below_set ?_ GE104.out | refine below_set ?_ GE120.out) | exact HB.out)⟩
       ·replace c34 := Bool.eq_false_iff.mpr c34
        subst c34
        have H1 : ((disk_Read.f t111 t114 t117 t118 a2).bind fun bt121 => ((disk_Read.f t111 t114 t117 t118 a1).bind fun bt125 => (if bt121.2 = 0 then (if bt125.2 = 0 then (if (bt125.1.length : Int) = 128 then (if 0 ≤ (l3.length : Int) then (if (l3.length : Int) ≤ (bt125.1.length : Int) then (if (strOfNums (bt125.1.take ((l3.length : Int) : Int).toNat)).toList = (strOfNums l3).toList then (if a1 = a2 then (fastilaw04_DiskReads.j2 kj22 a2 l4 false l0_0 l0_1 a0_2 a0_3 t111 t114 t117 t118) else (fastilaw04_DiskReads.j2 kj22 a2 l4 ((strOfNums t107).toList != (strOfNums bt121.1).toList) l0_0 l0_1 a0_2 a0_3 t111 t114 t117 t118)) else (fastilaw04_DiskReads.j2 kj22 a2 l4 true l0_0 l0_1 a0_2 a0_3 t111 t114 t117 t118)) else (none)) else (none)) else (fastilaw04_DiskReads.j2 kj22 a2 l4 true l0_0 l0_1 a0_2 a0_3 t111 t114 t117 t118)) else (fastilaw04_DiskReads.j2 kj22 a2 l4 true l0_0 l0_1 a0_2 a0_3 t111 t114 t117 t118)) else (fastilaw04_DiskReads.j2 kj22 a2 l4 true l0_0 l0_1 a0_2 a0_3 t111 t114 t117 t118)))) = some r := by rw [if_neg (show ¬ (false = true) by decide)] at H; exact H
        clear H
        have H := H1
        clear H1
        replace H := Option.bind_eq_some_iff.mp H
        obtain ⟨⟨t121, t124⟩, A350, H⟩ := H
        replace H : ((disk_Read.f t111 t114 t117 t118 a1).bind fun bt125 => (if t124 = 0 then (if bt125.2 = 0 then (if (bt125.1.length : Int) = 128 then (if 0 ≤ (l3.length : Int) then (if (l3.length : Int) ≤ (bt125.1.length : Int) then (if (strOfNums (bt125.1.take ((l3.length : Int) : Int).toNat)).toList = (strOfNums l3).toList then (if a1 = a2 then (fastilaw04_DiskReads.j2 kj22 a2 l4 false l0_0 l0_1 a0_2 a0_3 t111 t114 t117 t118) else (fastilaw04_DiskReads.j2 kj22 a2 l4 ((strOfNums t107).toList != (strOfNums t121).toList) l0_0 l0_1 a0_2 a0_3 t111 t114 t117 t118)) else (fastilaw04_DiskReads.j2 kj22 a2 l4 true l0_0 l0_1 a0_2 a0_3 t111 t114 t117 t118)) else (none)) else (none)) else (fastilaw04_DiskReads.j2 kj22 a2 l4 true l0_0 l0_1 a0_2 a0_3 t111 t114 t117 t118)) else (fastilaw04_DiskReads.j2 kj22 a2 l4 true l0_0 l0_1 a0_2 a0_3 t111 t114 t117 t118)) else (fastilaw04_DiskReads.j2 kj22 a2 l4 true l0_0 l0_1 a0_2 a0_3 t111 t114 t117 t118))) = some r := H
        have A35 := Aside0.mk A350
        clear A350
        replace H := Option.bind_eq_some_iff.mp H
        obtain ⟨⟨t125, t128⟩, A360, H⟩ := H
        replace H : (if t124 = 0 then (if t128 = 0 then (if (t125.length : Int) = 128 then (if 0 ≤ (l3.length : Int) then (if (l3.length : Int) ≤ (t125.length : Int) then (if (strOfNums (t125.take ((l3.length : Int) : Int).toNat)).toList = (strOfNums l3).toList then (if a1 = a2 then (fastilaw04_DiskReads.j2 kj22 a2 l4 false l0_0 l0_1 a0_2 a0_3 t111 t114 t117 t118) else (fastilaw04_DiskReads.j2 kj22 a2 l4 ((strOfNums t107).toList != (strOfNums t121).toList) l0_0 l0_1 a0_2 a0_3 t111 t114 t117 t118)) else (fastilaw04_DiskReads.j2 kj22 a2 l4 true l0_0 l0_1 a0_2 a0_3 t111 t114 t117 t118)) else (none)) else (none)) else (fastilaw04_DiskReads.j2 kj22 a2 l4 true l0_0 l0_1 a0_2 a0_3 t111 t114 t117 t118)) else (fastilaw04_DiskReads.j2 kj22 a2 l4 true l0_0 l0_1 a0_2 a0_3 t111 t114 t117 t118)) else (fastilaw04_DiskReads.j2 kj22 a2 l4 true l0_0 l0_1 a0_2 a0_3 t111 t114 t117 t118)) = some r := H
        have A36 := Aside0.mk A360
        clear A360
        have HC37 := Aside0.mk H
        clear H
        have hnb38 := NB120_104.out
        have hnc38 := NB104_120.out
        have hcz39_0 : wc.cell? ⟨gb120, 0, none⟩ = some (.slice Ao29 t111.length co29) := (blk_cell BK120.out 0).trans rfl
        have hcz39_1 : wc.cell? ⟨gb120, 1, none⟩ = some (.slice Ao32 t114.length co32) := (blk_cell BK120.out 1).trans rfl
        have hcz39_2 : wc.cell? ⟨gb120, 2, none⟩ = some (.int .i64 t117) := (blk_cell BK120.out 2).trans rfl
        have hcz39_3 : wc.cell? ⟨gb120, 3, none⟩ = some (.bool t118) := (blk_cell BK120.out 3).trans rfl
        have hfz39_0 := blk_frozen BK120.out 0
        have hfz39_1 := blk_frozen BK120.out 1
        have hfz39_2 := blk_frozen BK120.out 2
        have hfz39_3 := blk_frozen BK120.out 3
        go_upto_region 11 with (first | (go_at_call 21; (with_reducible refine (disk_Read.calls (fun k_ => (k_ ≠ gb104 ∧ k_ ≠ gb120)) _ _ t111 (fun k_ => (k_ ≠ gb104 ∧ k_ ≠ gb120)) _ _ t114 t117 t118 a2 t121 t124 _ ?side1 ?side2 A35.out).mono ?_); (case side1 => exact HO_121000.out); (case side2 => exact HO_121001.out); rintro e w40 ⟨v122, rfl, ho0, hb⟩; have n0_ := Aside0.mk (Kd.V_below (by (with_reducible repeat (first | apply Kd.V_alloc | apply Kd.V_drewN | apply Kd.V_drew)); exact HO_11.out) hb); have n1_ := Aside0.mk (Kd.V_below (by (with_reducible repeat (first | apply Kd.V_alloc | apply Kd.V_drewN | apply Kd.V_drew)); exact HO_121000.out) hb); have n2_ := Aside0.mk (Kd.V_below (by (with_reducible repeat (first | apply Kd.V_alloc | apply Kd.V_drewN | apply Kd.V_drew)); exact HO_121001.out) hb); have n3_ := Aside0.mk (Kd.V_lower (Kd.V_mono (ok' := fun k_ => k_ ≠ gb104 ∧ k_ ≠ gb120) ho0 (fun k_ hk_ => ⟨Or.elim hk_ (fun hs_ => Or.elim hs_ (fun hs_ => hs_.1) (fun hs_ => hs_.1)) (fun hn_ => (Kd.freshB (g := gb104) (o := .cells #[.slice A0_0 l0_0.length c0_0, .slice A0_1 l0_1.length c0_1, .int .i64 a0_2, .bool a0_3] 25 (0, 0)) (zk BK104.out) k_ hn_)), Or.elim hk_ (fun hs_ => Or.elim hs_ (fun hs_ => hs_.2) (fun hs_ => hs_.2)) (fun hn_ => (Kd.freshB (g := gb120) (o := .cells #[.slice Ao29 t111.length co29, .slice Ao32 t114.length co32, .int .i64 t117, .bool t118] 25 (0, 0)) (zk BK120.out) k_ hn_))⟩)) (below_size (by repeat (first | (with_reducible first | exact HB.out | apply below_alloc | apply pw_below_drewN | apply below_drew1 | refine below_set ?_ GE104.out | refine below_set ?_ GE120.out) | exact HB.out)))); have n4_ := Aside0.mk (zb BK104.out hb); have n5_ := Aside0.mk (zb BK120.out hb); have n6_ := Aside0.mk (below_step (by repeat (first | (with_reducible first | exact HB.out | apply below_alloc | apply pw_below_drewN | apply below_drew1 | refine below_set ?_ GE104.out | refine below_set ?_ GE120.out) | exact HB.out)) hb); clear HO_11; clear HO_121000; clear HO_121001; clear BK104; clear BK120; clear HB; have HO_11 := n0_; have HO_121000 := n1_; have HO_121001 := n2_; have HO123 := n3_; have BK104 := n4_; have BK120 := n5_; have HB := n6_; clear n0_ n1_ n2_ n3_ n4_ n5_ n6_; (try clear hb); (try clear hb2); (try clear hk); (try clear hi); (try clear ho0); have hcz41_0 : w40.cell? ⟨gb120, 0, none⟩ = some (.slice Ao29 t111.length co29) := (blk_cell BK120.out 0).trans rfl; have hcz41_1 : w40.cell? ⟨gb120, 1, none⟩ = some (.slice Ao32 t114.length co32) := (blk_cell BK120.out 1).trans rfl; have hcz41_2 : w40.cell? ⟨gb120, 2, none⟩ = some (.int .i64 t117) := (blk_cell BK120.out 2).trans rfl; have hcz41_3 : w40.cell? ⟨gb120, 3, none⟩ = some (.bool t118) := (blk_cell BK120.out 3).trans rfl; have hfz41_0 := blk_frozen BK120.out 0; have hfz41_1 := blk_frozen BK120.out 1; have hfz41_2 := blk_frozen BK120.out 2; have hfz41_3 := blk_frozen BK120.out 3) | (go_at_call 21; (with_reducible refine (disk_Read.calls (fun k_ => (k_ ≠ gb104 ∧ k_ ≠ gb120)) _ _ t111 (fun k_ => (k_ ≠ gb104 ∧ k_ ≠ gb120)) _ _ t114 t117 t118 a1 t125 t128 _ ?side1 ?side2 A36.out).mono ?_); (case side1 => exact HO_121000.out); (case side2 => exact HO_121001.out); rintro e w42 ⟨v126, rfl, ho0, hb⟩; have n0_ := Aside0.mk (Kd.V_below (by (with_reducible repeat (first | apply Kd.V_alloc | apply Kd.V_drewN | apply Kd.V_drew)); exact HO_11.out) hb); have n1_ := Aside0.mk (Kd.V_below (by (with_reducible repeat (first | apply Kd.V_alloc | apply Kd.V_drewN | apply Kd.V_drew)); exact HO_121000.out) hb); have n2_ := Aside0.mk (Kd.V_below (by (with_reducible repeat (first | apply Kd.V_alloc | apply Kd.V_drewN | apply Kd.V_drew)); exact HO_121001.out) hb); have n3_ := Aside0.mk (Kd.V_below (by (with_reducible repeat (first | apply Kd.V_alloc | apply Kd.V_drewN | apply Kd.V_drew)); exact HO123.out) hb); have n4_ := Aside0.mk (Kd.V_lower (Kd.V_mono (ok' := fun k_ => k_ ≠ gb104 ∧ k_ ≠ gb120) ho0 (fun k_ hk_ => ⟨Or.elim hk_ (fun hs_ => Or.elim hs_ (fun hs_ => hs_.1) (fun hs_ => hs_.1)) (fun hn_ => (Kd.freshB (g := gb104) (o := .cells #[.slice A0_0 l0_0.length c0_0, .slice A0_1 l0_1.length c0_1, .int .i64 a0_2, .bool a0_3] 25 (0, 0)) (zk BK104.out) k_ hn_)), Or.elim hk_ (fun hs_ => Or.elim hs_ (fun hs_ => hs_.2) (fun hs_ => hs_.2)) (fun hn_ => (Kd.freshB (g := gb120) (o := .cells #[.slice Ao29 t111.length co29, .slice Ao32 t114.length co32, .int .i64 t117, .bool t118] 25 (0, 0)) (zk BK120.out) k_ hn_))⟩)) (below_size (by repeat (first | (with_reducible first | exact HB.out | apply below_alloc | apply pw_below_drewN | apply below_drew1 | refine below_set ?_ GE104.out | refine below_set ?_ GE120.out) | exact HB.out)))); have n5_ := Aside0.mk (zb BK104.out hb); have n6_ := Aside0.mk (zb BK120.out hb); have n7_ := Aside0.mk (below_step (by repeat (first | (with_reducible first | exact HB.out | apply below_alloc | apply pw_below_drewN | apply below_drew1 | refine below_set ?_ GE104.out | refine below_set ?_ GE120.out) | exact HB.out)) hb); clear HO_11; clear HO_121000; clear HO_121001; clear HO123; clear BK104; clear BK120; clear HB; have HO_11 := n0_; have HO_121000 := n1_; have HO_121001 := n2_; have HO123 := n3_; have HO127 := n4_; have BK104 := n5_; have BK120 := n6_; have HB := n7_; clear n0_ n1_ n2_ n3_ n4_ n5_ n6_ n7_; (try clear hb); (try clear hb2); (try clear hk); (try clear hi); (try clear ho0)))
        (try simp only [Act.put, List.setIfInBounds_toArray, List.set_cons_zero, List.set_cons_succ])
        go_cut [106] (fun v106 wc => ∃ (kq : Nat) (x106_36 : Bool), v106 = .bool x106_36 ∧ Aside0 (fastilaw04_DiskReads.j2 kq a2 l4 x106_36 l0_0 l0_1 a0_2 a0_3 t111 t114 t117 t118 = some r) ∧ Aside0 (kq ≤ kj22) ∧ Aside0 (Kd.V (Kd.slice 5 (Kd.int .u8)) 35 wc w.heap.size (fun k_ => k_ ≠ gb104 ∧ k_ ≠ gb120) (.slice Ao29 t111.length co29) t111) ∧ Aside0 (Kd.V k54 54 wc w.heap.size (fun k_ => k_ ≠ gb104 ∧ k_ ≠ gb120) (.slice Ao32 t114.length co32) t114) ∧ Aside0 (wc.heap[gb104]? = some (.cells #[(.slice A0_0 l0_0.length c0_0), (.slice A0_1 l0_1.length c0_1), .int .i64 a0_2, .bool a0_3] 25 (0, 0))) ∧ Aside0 (wc.heap[gb120]? = some (.cells #[(.slice Ao29 t111.length co29), (.slice Ao32 t114.length co32), .int .i64 t117, .bool t118] 25 (0, 0))) ∧ Aside0 (Below w.heap.size w wc))
        case first =>
         have H := HC37.out
         clear HC37
         by_cases c43 : t124 = 0
         ·rw [if_pos c43] at H
          have c43b0 : (t124 == 0) = true := beq_iff_eq.mpr c43
          have c43b1 : (t124 != 0) = false := bne_eq_false_iff_eq.mpr c43
          clear c43
          (first | rw [c43b0] | (simp only [i64_w, i32_w]; rw [c43b0]) | skip)
          by_cases c44 : t128 = 0
          ·rw [if_pos c44] at H
           have c44b0 : (t128 == 0) = true := beq_iff_eq.mpr c44
           have c44b1 : (t128 != 0) = false := bne_eq_false_iff_eq.mpr c44
           clear c44
           by_cases c45 : (t125.length : Int) = 128
           ·rw [if_pos c45] at H
            have c45b0 : ((t125.length : Int) == 128) = true := beq_iff_eq.mpr c45
            have c45b1 : ((t125.length : Int) != 128) = false := bne_eq_false_iff_eq.mpr c45
            clear c45
            by_cases c46 : 0 ≤ (l3.length : Int)
            ·rw [if_pos c46] at H
             have c46b0 := eq_true c46
             have c46b1 : decide (0 ≤ (l3.length : Int)) = true := decide_eq_true c46
             clear c46
             by_cases c47 : (l3.length : Int) ≤ (t125.length : Int)
             ·rw [if_pos c47] at H
              have c47b0 := eq_true c47
              have c47b1 : decide ((l3.length : Int) ≤ (t125.length : Int)) = true := decide_eq_true c47
              clear c47
              obtain ⟨y129, hy129⟩ : ∃ y_ : List Int, y_ = (t125.take ((l3.length : Int) : Int).toNat) := ⟨_, rfl⟩
              replace H : (if (strOfNums y129).toList = (strOfNums l3).toList then (if a1 = a2 then (fastilaw04_DiskReads.j2 kj22 a2 l4 false l0_0 l0_1 a0_2 a0_3 t111 t114 t117 t118) else (fastilaw04_DiskReads.j2 kj22 a2 l4 ((strOfNums t107).toList != (strOfNums t121).toList) l0_0 l0_1 a0_2 a0_3 t111 t114 t117 t118)) else (fastilaw04_DiskReads.j2 kj22 a2 l4 true l0_0 l0_1 a0_2 a0_3 t111 t114 t117 t118)) = some r := by first | (rw [hy129]; with_reducible exact H) | (have H2_ := (Option.bind_some _ _).symm.trans H; rw [hy129]; with_reducible exact H2_) | (have H2_ := (Option.bind_some _ _).symm.trans H; with_reducible exact H2_) | with_reducible exact H | (rw [hy129]; exact H) | exact H
              have Ny129 := Aside0.mk hy129
              clear hy129
              by_cases c48 : (strOfNums y129).toList = (strOfNums l3).toList
              ·rw [if_pos c48] at H
               have c48b0 : ((strOfNums y129).toList == (strOfNums l3).toList) = true := beq_iff_eq.mpr c48
               have c48b1 : ((strOfNums y129).toList != (strOfNums l3).toList) = false := bne_eq_false_iff_eq.mpr c48
               clear c48
               by_cases c49 : a1 = a2
               ·rw [if_pos c49] at H
                have c49b0 : (a1 == a2) = true := beq_iff_eq.mpr c49
                have c49b1 : (a1 != a2) = false := bne_eq_false_iff_eq.mpr c49
                clear c49
                have H' := Aside0.mk H
                clear H
                obtain ⟨Ao50, co50, eo50⟩ := Kd.V_slice HO127.out
                subst eo50
                have q51 : ((l3.length : Int) : Int) ≤ ((t125.length : Int) : Int) := of_decide_eq_true (by first | (with_reducible assumption) | assumption)
                obtain ⟨i051, hi051, _, hsz51, _⟩ := info_parts info5
                have hroom51 : t125.length ≤ co50 := (Kd.V_reads' HO127.out).2.1
                have hC51 : Kd.F (Kd.int .u8) _ _ Ao50 t125.length t125 := (Kd.V_at (base := w.heap.size) HO127.out).2.2
                have hcut51 := cut_to (P := Try.prog) 35 5 .i64 Try.underlying35 hi051 Ao50 t125.length co50 (l3.length : Int) (of_decide_eq_true (by first | (with_reducible assumption) | assumption)) q51 hroom51
                have hr51 := Kd.F_take (m := ((l3.length : Int) : Int).toNat) hC51 (by omega)
                have hy51 : y129.length = ((l3.length : Int) : Int).toNat := (by rw [Ny129.out, List.length_take]; omega)
                rw [← Ny129.out] at hr51
                rw [← hy51] at hcut51
                have HO133 := Aside0.mk (show Kd.V (Kd.int .u8) 5 _ w.heap.size _ (.slice Ao50 y129.length co50) y129 from Kd.V_mk (by omega) hr51)
                have HC133 := Aside0.mk (show y129.length ≤ co50 from by omega)
                clear hr51 hC51 hroom51 hi051 hsz51
                have KY51 := Aside0.mk hy51
                clear hy51
                replace q51 := eq_true q51
                have hcv52 := V_string_ (P := Try.prog) Try.underlying35 Try.underlying5 Try.underlying9 HO133.out
                have hcq52 := fun n_ : Nat => V_string_ (P := Try.prog) Try.underlying35 Try.underlying5 Try.underlying9 (Kd.V_drewN HO133.out n_)
                have hcv53 := Kd.C_string (P := Try.prog) (A := A3) (c := c3) Try.underlying35 Try.underlying5 Try.underlying9 (Kd.C_below HR3.out HB.out)
                have hcq53 := fun n_ : Nat => Kd.C_string (P := Try.prog) (A := A3) (c := c3) Try.underlying35 Try.underlying5 Try.underlying9 (Kd.C_below HR3.out (pw_below_drewN HB.out n_))
                go_wp2
                repeat (go_quiet (fail); try go_wp2)
                go_meet
                case rel => exact ⟨_, (false), (by first | rfl | (simp; done) | (simp [*]; done)), H', ⟨by have := HJ7.out; have := HJ22.out; first | omega | exact Nat.le_refl _⟩, ⟨by (with_reducible repeat (first | apply Kd.V_alloc | apply Kd.V_drewN | apply Kd.V_drew)); exact HO_121000.out⟩, ⟨by (with_reducible repeat (first | apply Kd.V_alloc | apply Kd.V_drewN | apply Kd.V_drew)); exact HO_121001.out⟩, ⟨zk BK104.out⟩, ⟨zk BK120.out⟩, ⟨by repeat (first | (with_reducible first | exact HB.out | apply below_alloc | apply pw_below_drewN | apply below_drew1 | refine below_set ?_ GE104.out | refine below_set ?_ GE120.out) | exact HB.out)⟩⟩
               ·rw [if_neg c49] at H
                have c49b0 : (a1 == a2) = false := beq_eq_false_iff_ne.mpr c49
                have c49b1 : (a1 != a2) = true := bne_iff_ne.mpr c49
                have H' := Aside0.mk H
                clear H
                obtain ⟨Ao54, co54, eo54⟩ := Kd.V_slice HO127.out
                subst eo54
                have q55 : ((l3.length : Int) : Int) ≤ ((t125.length : Int) : Int) := of_decide_eq_true (by first | (with_reducible assumption) | assumption)
                obtain ⟨i055, hi055, _, hsz55, _⟩ := info_parts info5
                have hroom55 : t125.length ≤ co54 := (Kd.V_reads' HO127.out).2.1
                have hC55 : Kd.F (Kd.int .u8) _ _ Ao54 t125.length t125 := (Kd.V_at (base := w.heap.size) HO127.out).2.2
                have hcut55 := cut_to (P := Try.prog) 35 5 .i64 Try.underlying35 hi055 Ao54 t125.length co54 (l3.length : Int) (of_decide_eq_true (by first | (with_reducible assumption) | assumption)) q55 hroom55
                have hr55 := Kd.F_take (m := ((l3.length : Int) : Int).toNat) hC55 (by omega)
                have hy55 : y129.length = ((l3.length : Int) : Int).toNat := (by rw [Ny129.out, List.length_take]; omega)
                rw [← Ny129.out] at hr55
                rw [← hy55] at hcut55
                have HO133 := Aside0.mk (show Kd.V (Kd.int .u8) 5 _ w.heap.size _ (.slice Ao54 y129.length co54) y129 from Kd.V_mk (by omega) hr55)
                have HC133 := Aside0.mk (show y129.length ≤ co54 from by omega)
                clear hr55 hC55 hroom55 hi055 hsz55
                have KY55 := Aside0.mk hy55
                clear hy55
                replace q55 := eq_true q55
                have hcv56 := V_string_ (P := Try.prog) Try.underlying35 Try.underlying5 Try.underlying9 HO133.out
                have hcq56 := fun n_ : Nat => V_string_ (P := Try.prog) Try.underlying35 Try.underlying5 Try.underlying9 (Kd.V_drewN HO133.out n_)
                have hcv57 := Kd.C_string (P := Try.prog) (A := A3) (c := c3) Try.underlying35 Try.underlying5 Try.underlying9 (Kd.C_below HR3.out HB.out)
                have hcq57 := fun n_ : Nat => Kd.C_string (P := Try.prog) (A := A3) (c := c3) Try.underlying35 Try.underlying5 Try.underlying9 (Kd.C_below HR3.out (pw_below_drewN HB.out n_))
                have hcv58 := V_string_ (P := Try.prog) Try.underlying35 Try.underlying5 Try.underlying9 HO_11.out
                have hcq58 := fun n_ : Nat => V_string_ (P := Try.prog) Try.underlying35 Try.underlying5 Try.underlying9 (Kd.V_drewN HO_11.out n_)
                have hcv59 := V_string_ (P := Try.prog) Try.underlying35 Try.underlying5 Try.underlying9 HO123.out
                have hcq59 := fun n_ : Nat => V_string_ (P := Try.prog) Try.underlying35 Try.underlying5 Try.underlying9 (Kd.V_drewN HO123.out n_)
                go_wp2
                repeat (go_quiet (fail); try go_wp2)
                go_meet
                case rel => exact ⟨_, (((strOfNums t107).toList != (strOfNums t121).toList)), (by first | rfl | (simp; done) | (simp [*]; done)), H', ⟨by have := HJ7.out; have := HJ22.out; first | omega | exact Nat.le_refl _⟩, ⟨by (with_reducible repeat (first | apply Kd.V_alloc | apply Kd.V_drewN | apply Kd.V_drew)); exact HO_121000.out⟩, ⟨by (with_reducible repeat (first | apply Kd.V_alloc | apply Kd.V_drewN | apply Kd.V_drew)); exact HO_121001.out⟩, ⟨zk BK104.out⟩, ⟨zk BK120.out⟩, ⟨by repeat (first | (with_reducible first | exact HB.out | apply below_alloc | apply pw_below_drewN | apply below_drew1 | refine below_set ?_ GE104.out | refine below_set ?_ GE120.out) | exact HB.out)⟩⟩
              ·rw [if_neg c48] at H
               have c48b0 : ((strOfNums y129).toList == (strOfNums l3).toList) = false := beq_eq_false_iff_ne.mpr c48
               have c48b1 : ((strOfNums y129).toList != (strOfNums l3).toList) = true := bne_iff_ne.mpr c48
               have H' := Aside0.mk H
               clear H
               obtain ⟨Ao60, co60, eo60⟩ := Kd.V_slice HO127.out
               subst eo60
               have q61 : ((l3.length : Int) : Int) ≤ ((t125.length : Int) : Int) := of_decide_eq_true (by first | (with_reducible assumption) | assumption)
               obtain ⟨i061, hi061, _, hsz61, _⟩ := info_parts info5
               have hroom61 : t125.length ≤ co60 := (Kd.V_reads' HO127.out).2.1
               have hC61 : Kd.F (Kd.int .u8) _ _ Ao60 t125.length t125 := (Kd.V_at (base := w.heap.size) HO127.out).2.2
               have hcut61 := cut_to (P := Try.prog) 35 5 .i64 Try.underlying35 hi061 Ao60 t125.length co60 (l3.length : Int) (of_decide_eq_true (by first | (with_reducible assumption) | assumption)) q61 hroom61
               have hr61 := Kd.F_take (m := ((l3.length : Int) : Int).toNat) hC61 (by omega)
               have hy61 : y129.length = ((l3.length : Int) : Int).toNat := (by rw [Ny129.out, List.length_take]; omega)
               rw [← Ny129.out] at hr61
               rw [← hy61] at hcut61
               have HO133 := Aside0.mk (show Kd.V (Kd.int .u8) 5 _ w.heap.size _ (.slice Ao60 y129.length co60) y129 from Kd.V_mk (by omega) hr61)
               have HC133 := Aside0.mk (show y129.length ≤ co60 from by omega)
               clear hr61 hC61 hroom61 hi061 hsz61
               have KY61 := Aside0.mk hy61
               clear hy61
               replace q61 := eq_true q61
               have hcv62 := V_string_ (P := Try.prog) Try.underlying35 Try.underlying5 Try.underlying9 HO133.out
               have hcq62 := fun n_ : Nat => V_string_ (P := Try.prog) Try.underlying35 Try.underlying5 Try.underlying9 (Kd.V_drewN HO133.out n_)
               have hcv63 := Kd.C_string (P := Try.prog) (A := A3) (c := c3) Try.underlying35 Try.underlying5 Try.underlying9 (Kd.C_below HR3.out HB.out)
               have hcq63 := fun n_ : Nat => Kd.C_string (P := Try.prog) (A := A3) (c := c3) Try.underlying35 Try.underlying5 Try.underlying9 (Kd.C_below HR3.out (pw_below_drewN HB.out n_))
               go_wp2
               repeat (go_quiet (fail); try go_wp2)
               go_meet
               case rel => exact ⟨_, (true), (by first | rfl | (simp; done) | (simp [*]; done)), H', ⟨by have := HJ7.out; have := HJ22.out; first | omega | exact Nat.le_refl _⟩, ⟨by (with_reducible repeat (first | apply Kd.V_alloc | apply Kd.V_drewN | apply Kd.V_drew)); exact HO_121000.out⟩, ⟨by (with_reducible repeat (first | apply Kd.V_alloc | apply Kd.V_drewN | apply Kd.V_drew)); exact HO_121001.out⟩, ⟨zk BK104.out⟩, ⟨zk BK120.out⟩, ⟨by repeat (first | (with_reducible first | exact HB.out | apply below_alloc | apply pw_below_drewN | apply below_drew1 | refine below_set ?_ GE104.out | refine below_set ?_ GE120.out) | exact HB.out)⟩⟩
             ·rw [if_neg c47] at H
              exact absurd H (by simp)
            ·rw [if_neg c46] at H
             exact absurd H (by simp)
           ·rw [if_neg c45] at H
            have c45b0 : ((t125.length : Int) == 128) = false := beq_eq_false_iff_ne.mpr c45
            have c45b1 : ((t125.length : Int) != 128) = true := bne_iff_ne.mpr c45
            have H' := Aside0.mk H
            clear H
            obtain ⟨Ao64, co64, eo64⟩ := Kd.V_slice HO127.out
            subst eo64
            go_wp2
            repeat (go_quiet (fail); try go_wp2)
            go_meet
            case rel => exact ⟨_, (true), (by first | rfl | (simp; done) | (simp [*]; done)), H', ⟨by have := HJ7.out; have := HJ22.out; first | omega | exact Nat.le_refl _⟩, ⟨by (with_reducible repeat (first | apply Kd.V_alloc | apply Kd.V_drewN | apply Kd.V_drew)); exact HO_121000.out⟩, ⟨by (with_reducible repeat (first | apply Kd.V_alloc | apply Kd.V_drewN | apply Kd.V_drew)); exact HO_121001.out⟩, ⟨zk BK104.out⟩, ⟨zk BK120.out⟩, ⟨by repeat (first | (with_reducible first | exact HB.out | apply below_alloc | apply pw_below_drewN | apply below_drew1 | refine below_set ?_ GE104.out | refine below_set ?_ GE120.out) | exact HB.out)⟩⟩
          ·rw [if_neg c44] at H
           have c44b0 : (t128 == 0) = false := beq_eq_false_iff_ne.mpr c44
           have c44b1 : (t128 != 0) = true := bne_iff_ne.mpr c44
           have H' := Aside0.mk H
           clear H
           go_wp2
           repeat (go_quiet (fail); try go_wp2)
           go_meet
           case rel => exact ⟨_, (true), (by first | rfl | (simp; done) | (simp [*]; done)), H', ⟨by have := HJ7.out; have := HJ22.out; first | omega | exact Nat.le_refl _⟩, ⟨by (with_reducible repeat (first | apply Kd.V_alloc | apply Kd.V_drewN | apply Kd.V_drew)); exact HO_121000.out⟩, ⟨by (with_reducible repeat (first | apply Kd.V_alloc | apply Kd.V_drewN | apply Kd.V_drew)); exact HO_121001.out⟩, ⟨zk BK104.out⟩, ⟨zk BK120.out⟩, ⟨by repeat (first | (with_reducible first | exact HB.out | apply below_alloc | apply pw_below_drewN | apply below_drew1 | refine below_set ?_ GE104.out | refine below_set ?_ GE120.out) | exact HB.out)⟩⟩
         ·rw [if_neg c43] at H
          have c43b0 : (t124 == 0) = false := beq_eq_false_iff_ne.mpr c43
          have c43b1 : (t124 != 0) = true := bne_iff_ne.mpr c43
          (first | rw [c43b0] | (simp only [i64_w, i32_w]; rw [c43b0]) | skip)
          have H' := Aside0.mk H
          clear H
          go_wp2
          repeat (go_quiet (fail); try go_wp2)
          go_meet
          case rel => exact ⟨_, (true), (by first | rfl | (simp; done) | (simp [*]; done)), H', ⟨by have := HJ7.out; have := HJ22.out; first | omega | exact Nat.le_refl _⟩, ⟨by (with_reducible repeat (first | apply Kd.V_alloc | apply Kd.V_drewN | apply Kd.V_drew)); exact HO_121000.out⟩, ⟨by (with_reducible repeat (first | apply Kd.V_alloc | apply Kd.V_drewN | apply Kd.V_drew)); exact HO_121001.out⟩, ⟨zk BK104.out⟩, ⟨zk BK120.out⟩, ⟨by repeat (first | (with_reducible first | exact HB.out | apply below_alloc | apply pw_below_drewN | apply below_drew1 | refine below_set ?_ GE104.out | refine below_set ?_ GE120.out) | exact HB.out)⟩⟩
        case rest =>
         clear HC37
         try clear c1
         try clear c2
         try clear p2
         try clear c3
         try clear c4
         try clear q5
         try clear hcv5
         try clear q6
         try clear hcv6
         try clear c7
         try clear c12
         try clear c13
         try clear c13b0
         try clear c13b1
         try clear c20
         try clear c30
         try clear c33
         try clear c33b0
         try clear c33b1
         try clear c34
         try clear c38
         try clear c43
         try clear c43b0
         try clear c43b1
         try clear c44
         try clear c44b0
         try clear c44b1
         try clear c45
         try clear c45b0
         try clear c45b1
         try clear c46
         try clear c46b0
         try clear c46b1
         try clear c47
         try clear c47b0
         try clear c47b1
         try clear c48
         try clear c48b0
         try clear c48b1
         try clear c49
         try clear c49b0
         try clear c49b1
         try clear q51
         try clear hcv52
         try clear hcv53
         try clear q55
         try clear hcv56
         try clear hcv57
         try clear hcv58
         try clear hcv59
         try clear q61
         try clear hcv62
         try clear hcv63
         try clear hcz14_0
         try clear hcz14_1
         try clear hcz14_2
         try clear hcz14_3
         try clear hcz16_0
         try clear hcz16_1
         try clear hcz16_2
         try clear hcz16_3
         try clear hcz18_0
         try clear hcz18_1
         try clear hcz18_2
         try clear hcz18_3
         try clear hcz24_0
         try clear hcz24_1
         try clear hcz24_2
         try clear hcz24_3
         try clear hcz26_0
         try clear hcz26_1
         try clear hcz26_2
         try clear hcz26_3
         try clear hcz31_0
         try clear hcz31_1
         try clear hcz31_2
         try clear hcz31_3
         try clear hcz39_0
         try clear hcz39_1
         try clear hcz39_2
         try clear hcz39_3
         try clear hcz41_0
         try clear hcz41_1
         try clear hcz41_2
         try clear hcz41_3
         try clear hfz14_0
         try clear hfz14_1
         try clear hfz14_2
         try clear hfz14_3
         try clear hfz16_0
         try clear hfz16_1
         try clear hfz16_2
         try clear hfz16_3
         try clear hfz18_0
         try clear hfz18_1
         try clear hfz18_2
         try clear hfz18_3
         try clear hfz24_0
         try clear hfz24_1
         try clear hfz24_2
         try clear hfz24_3
         try clear hfz26_0
         try clear hfz26_1
         try clear hfz26_2
         try clear hfz26_3
         try clear hfz31_0
         try clear hfz31_1
         try clear hfz31_2
         try clear hfz31_3
         try clear hfz39_0
         try clear hfz39_1
         try clear hfz39_2
         try clear hfz39_3
         try clear hfz41_0
         try clear hfz41_1
         try clear hfz41_2
         try clear hfz41_3
         try clear p2
         try clear q51
         try clear q55
         try clear q61
         obtain ⟨kq, x106_36, rfl, HA, HJ36, HO_121000, HO_121001, BK104, BK120, HB⟩ := hcut
         cases kq with
         | zero => exact absurd HA.out (by simp [fastilaw04_DiskReads.j2])
         | succ kj36 =>
          have H := HA.out
          clear HA
          simp only [fastilaw04_DiskReads.j2] at H
          by_cases c65 : x106_36 = true
          ·subst c65
           have H1 : (some false) = some r := by rw [if_pos rfl] at H; exact H
           clear H
           have H := H1
           clear H1
           obtain rfl := Option.some.inj H
           go_wp2
           repeat (go_quiet (fail); try go_wp2)
           go_ret
           exact ⟨by first | rfl | (simp [errW_none, errW_some] <;> rfl) | (simp [*, errW_none, errW_some] <;> rfl), by repeat (first | (with_reducible first | exact HB.out | apply below_alloc | apply pw_below_drewN | apply below_drew1 | refine below_set ?_ GE104.out | refine below_set ?_ GE120.out) | exact HB.out)⟩
          ·replace c65 := Bool.eq_false_iff.mpr c65
           subst c65
           have H1 : ((disk_Write.f t111 t114 t117 t118 a2 l4).bind fun bt134 => (if bt134.2.2.2.2 = 0 then ((disk_Sync.f bt134.1 bt134.2.1 bt134.2.2.1 bt134.2.2.2.1).bind fun bt144 => (if bt144.2.2.2.2 = 0 then (fastilaw04_DiskReads.l0 kj36 0 l0_0 l0_1 a0_2 a0_3 bt134.1 bt134.2.1 bt134.2.2.1 bt134.2.2.2.1 bt144.1 bt144.2.1 bt144.2.2.1 bt144.2.2.2.1) else (if bt144.2.2.2.2 = 40 then (some bt144.2.2.2.1) else (some false)))) else (some (bt134.2.2.2.2 == 2)))) = some r := by rw [if_neg (show ¬ (false = true) by decide)] at H; exact H
           clear H
           have H := H1
           clear H1
           replace H := Option.bind_eq_some_iff.mp H
           obtain ⟨⟨t134, t137, t140, t141, t142⟩, A660, H⟩ := H
           replace H : (if t142 = 0 then ((disk_Sync.f t134 t137 t140 t141).bind fun bt144 => (if bt144.2.2.2.2 = 0 then (fastilaw04_DiskReads.l0 kj36 0 l0_0 l0_1 a0_2 a0_3 t134 t137 t140 t141 bt144.1 bt144.2.1 bt144.2.2.1 bt144.2.2.2.1) else (if bt144.2.2.2.2 = 40 then (some bt144.2.2.2.1) else (some false)))) else (some (t142 == 2))) = some r := H
           have A66 := Aside0.mk A660
           clear A660
           by_cases c67 : t142 = 0
           ·rw [if_pos c67] at H
            have c67b0 : (t142 == 0) = true := beq_iff_eq.mpr c67
            have c67b1 : (t142 != 0) = false := bne_eq_false_iff_eq.mpr c67
            clear c67
            replace H := Option.bind_eq_some_iff.mp H
            obtain ⟨⟨t144, t147, t150, t151, t152⟩, A680, H⟩ := H
            replace H : (if t152 = 0 then (fastilaw04_DiskReads.l0 kj36 0 l0_0 l0_1 a0_2 a0_3 t134 t137 t140 t141 t144 t147 t150 t151) else (if t152 = 40 then (some t151) else (some false))) = some r := H
            have A68 := Aside0.mk A680
            clear A680
            by_cases c69 : t152 = 0
            ·rw [if_pos c69] at H
             have c69b0 : (t152 == 0) = true := beq_iff_eq.mpr c69
             have c69b1 : (t152 != 0) = false := bne_eq_false_iff_eq.mpr c69
             clear c69
             have H' := Aside0.mk H
             clear H
             have hnb70 := NB120_104.out
             have hnc70 := NB104_120.out
             have hcz71_0 : wc.cell? ⟨gb120, 0, none⟩ = some (.slice Ao29 t111.length co29) := (blk_cell BK120.out 0).trans rfl
             have hcz71_1 : wc.cell? ⟨gb120, 1, none⟩ = some (.slice Ao32 t114.length co32) := (blk_cell BK120.out 1).trans rfl
             have hcz71_2 : wc.cell? ⟨gb120, 2, none⟩ = some (.int .i64 t117) := (blk_cell BK120.out 2).trans rfl
             have hcz71_3 : wc.cell? ⟨gb120, 3, none⟩ = some (.bool t118) := (blk_cell BK120.out 3).trans rfl
             have hfz71_0 := blk_frozen BK120.out 0
             have hfz71_1 := blk_frozen BK120.out 1
             have hfz71_2 := blk_frozen BK120.out 2
             have hfz71_3 := blk_frozen BK120.out 3
             go_wp2_with (first | (go_at_call 19; (with_reducible refine (disk_Write.calls (fun k_ => (k_ ≠ gb104 ∧ k_ ≠ gb120)) _ _ t111 (fun k_ => (k_ ≠ gb104 ∧ k_ ≠ gb120)) _ _ t114 t117 t118 a2 _ _ l4 t134 t137 t140 t141 t142 _ ?side1 ?side2 ?side3 ?side4 A66.out).mono ?_); (case side1 => exact HO_121000.out); (case side2 => exact HO_121001.out); (case side3 => repeat (first | exact (Kd.C_below HR4.out HB.out) | (with_reducible refine Kd.C_alloc ?_ _) | (with_reducible refine Kd.C_drewN ?_ _) | (with_reducible refine Kd.C_drew ?_))); (case side4 => exact HC4.out); rintro e w72 ⟨v135, v138, rfl, ho0, ho1, hb⟩; have n0_ := Aside0.mk (Kd.V_below (by (with_reducible repeat (first | apply Kd.V_alloc | apply Kd.V_drewN | apply Kd.V_drew)); exact HO_121000.out) hb); have n1_ := Aside0.mk (Kd.V_below (by (with_reducible repeat (first | apply Kd.V_alloc | apply Kd.V_drewN | apply Kd.V_drew)); exact HO_121001.out) hb); have n2_ := Aside0.mk (Kd.V_lower (Kd.V_mono (ok' := fun k_ => k_ ≠ gb104 ∧ k_ ≠ gb120) ho0 (fun k_ hk_ => ⟨Or.elim hk_ (fun hs_ => Or.elim hs_ (fun hs_ => hs_.1) (fun hs_ => hs_.1)) (fun hn_ => (Kd.freshB (g := gb104) (o := .cells #[.slice A0_0 l0_0.length c0_0, .slice A0_1 l0_1.length c0_1, .int .i64 a0_2, .bool a0_3] 25 (0, 0)) (zk BK104.out) k_ hn_)), Or.elim hk_ (fun hs_ => Or.elim hs_ (fun hs_ => hs_.2) (fun hs_ => hs_.2)) (fun hn_ => (Kd.freshB (g := gb120) (o := .cells #[.slice Ao29 t111.length co29, .slice Ao32 t114.length co32, .int .i64 t117, .bool t118] 25 (0, 0)) (zk BK120.out) k_ hn_))⟩)) (below_size (by repeat (first | (with_reducible first | exact HB.out | apply below_alloc | apply pw_below_drewN | apply below_drew1 | refine below_set ?_ GE104.out | refine below_set ?_ GE120.out) | exact HB.out)))); have n3_ := Aside0.mk (Kd.V_lower (Kd.V_mono (ok' := fun k_ => k_ ≠ gb104 ∧ k_ ≠ gb120) ho1 (fun k_ hk_ => ⟨Or.elim hk_ (fun hs_ => Or.elim hs_ (fun hs_ => hs_.1) (fun hs_ => hs_.1)) (fun hn_ => (Kd.freshB (g := gb104) (o := .cells #[.slice A0_0 l0_0.length c0_0, .slice A0_1 l0_1.length c0_1, .int .i64 a0_2, .bool a0_3] 25 (0, 0)) (zk BK104.out) k_ hn_)), Or.elim hk_ (fun hs_ => Or.elim hs_ (fun hs_ => hs_.2) (fun hs_ => hs_.2)) (fun hn_ => (Kd.freshB (g := gb120) (o := .cells #[.slice Ao29 t111.length co29, .slice Ao32 t114.length co32, .int .i64 t117, .bool t118] 25 (0, 0)) (zk BK120.out) k_ hn_))⟩)) (below_size (by repeat (first | (with_reducible first | exact HB.out | apply below_alloc | apply pw_below_drewN | apply below_drew1 | refine below_set ?_ GE104.out | refine below_set ?_ GE120.out) | exact HB.out)))); have n4_ := Aside0.mk (zb BK104.out hb); have n5_ := Aside0.mk (zb BK120.out hb); have n6_ := Aside0.mk (below_step (by repeat (first | (with_reducible first | exact HB.out | apply below_alloc | apply pw_below_drewN | apply below_drew1 | refine below_set ?_ GE104.out | refine below_set ?_ GE120.out) | exact HB.out)) hb); clear HO_121000; clear HO_121001; clear BK104; clear BK120; clear HB; have HO_121000 := n0_; have HO_121001 := n1_; have HO136 := n2_; have HO139 := n3_; have BK104 := n4_; have BK120 := n5_; have HB := n6_; clear n0_ n1_ n2_ n3_ n4_ n5_ n6_; (try clear hb); (try clear hb2); (try clear hk); (try clear hi); (try clear ho0); (try clear ho1)) | ((with_reducible refine gate_dst (N := 19) rfl ?_); (try (refine gate_guard (by rfl) ?_; dsimp only)); refine box_event ?hg (N := 19) ?hd (cs := #[.slice none 0 0, .slice none 0 0, .int .i64 0, .bool false]) (t := 25) ?hr ?_; (case hd => rfl); (case hg => rfl); (case hr => first | (go_simp; done) | (go_simp; rfl)); intro gb143 hg w73 hbox hb; have n0_ := Aside0.mk (Kd.V_below (Kd.V_elderB (by (with_reducible repeat (first | apply Kd.V_alloc | apply Kd.V_drewN | apply Kd.V_drew)); exact HO_121000.out) gb143 (Nat.le_of_eq hg.symm)) hb); have n1_ := Aside0.mk (Kd.V_below (Kd.V_elderB (by (with_reducible repeat (first | apply Kd.V_alloc | apply Kd.V_drewN | apply Kd.V_drew)); exact HO_121001.out) gb143 (Nat.le_of_eq hg.symm)) hb); have n2_ := Aside0.mk (Kd.V_below (Kd.V_elderB (by (with_reducible repeat (first | apply Kd.V_alloc | apply Kd.V_drewN | apply Kd.V_drew)); exact HO136.out) gb143 (Nat.le_of_eq hg.symm)) hb); have n3_ := Aside0.mk (Kd.V_below (Kd.V_elderB (by (with_reducible repeat (first | apply Kd.V_alloc | apply Kd.V_drewN | apply Kd.V_drew)); exact HO139.out) gb143 (Nat.le_of_eq hg.symm)) hb); have n4_ := Aside0.mk (zb BK104.out hb); have n5_ := Aside0.mk (zb BK120.out hb); have n6_ := Aside0.mk (below_step (by repeat (first | (with_reducible first | exact HB.out | apply below_alloc | apply pw_below_drewN | apply below_drew1 | refine below_set ?_ GE104.out | refine below_set ?_ GE120.out) | exact HB.out)) hb); have n7_ := Aside0.mk (hbox); have n8_ := Aside0.mk ((by rw [hg]; exact (below_size (by repeat (first | (with_reducible first | exact HB.out | apply below_alloc | apply pw_below_drewN | apply below_drew1 | refine below_set ?_ GE104.out | refine below_set ?_ GE120.out) | exact HB.out))) : w.heap.size ≤ gb143)); have n9_ := Aside0.mk ((by rw [hg]; exact (below_size (by repeat (first | (with_reducible first | exact HB.out | apply below_alloc | apply pw_below_drewN | apply below_drew1 | refine below_set ?_ GE104.out | refine below_set ?_ GE120.out) | exact HB.out))) : w.heap.size ≤ gb143)); have n10_ := Aside0.mk ((by rw [hg]; exact Nat.ne_of_lt (blk_lt (zk BK104.out)) : gb104 ≠ gb143)); have n11_ := Aside0.mk ((by rw [hg]; exact Nat.ne_of_gt (blk_lt (zk BK104.out)) : gb143 ≠ gb104)); have n12_ := Aside0.mk ((by rw [hg]; exact Nat.ne_of_lt (blk_lt (zk BK120.out)) : gb120 ≠ gb143)); have n13_ := Aside0.mk ((by rw [hg]; exact Nat.ne_of_gt (blk_lt (zk BK120.out)) : gb143 ≠ gb120)); clear HO_121000; clear HO_121001; clear HO136; clear HO139; clear BK104; clear BK120; clear HB; have HO_121000 := n0_; have HO_121001 := n1_; have HO136 := n2_; have HO139 := n3_; have BK104 := n4_; have BK120 := n5_; have HB := n6_; have BK143 := n7_; have GW143 := n8_; have GE143 := n9_; have NB104_143 := n10_; have NB143_104 := n11_; have NB120_143 := n12_; have NB143_120 := n13_; clear n0_ n1_ n2_ n3_ n4_ n5_ n6_ n7_ n8_ n9_ n10_ n11_ n12_ n13_; clear hb hbox hg; obtain ⟨Ao74, co74, eo74⟩ := Kd.V_slice HO136.out; subst eo74; have hnb75 := NB143_104.out; have hnc75 := NB104_143.out; have hnb76 := NB143_120.out; have hnc76 := NB120_143.out; have hcz77_0 : w73.cell? ⟨gb143, 0, none⟩ = some (.slice none 0 0) := (blk_cell BK143.out 0).trans rfl; have hcz77_1 : w73.cell? ⟨gb143, 1, none⟩ = some (.slice none 0 0) := (blk_cell BK143.out 1).trans rfl; have hcz77_2 : w73.cell? ⟨gb143, 2, none⟩ = some (.int .i64 0) := (blk_cell BK143.out 2).trans rfl; have hcz77_3 : w73.cell? ⟨gb143, 3, none⟩ = some (.bool false) := (blk_cell BK143.out 3).trans rfl; have hfz77_0 := blk_frozen BK143.out 0; have hfz77_1 := blk_frozen BK143.out 1; have hfz77_2 := blk_frozen BK143.out 2; have hfz77_3 := blk_frozen BK143.out 3; obtain ⟨Ao78, co78, eo78⟩ := Kd.V_slice HO139.out; subst eo78) | ((with_reducible refine gate_store (t := 25) (p := 19) rfl ?_); (try (rw [drewN_self w73]; generalize hq_ : World.drewN w73 _ = w73; have n0_ := Aside0.mk (Kd.V_at hq_ HO_121000.out); have n1_ := Aside0.mk (Kd.V_at hq_ HO_121001.out); have n2_ := Aside0.mk (Kd.V_at hq_ HO136.out); have n3_ := Aside0.mk (Kd.V_at hq_ HO139.out); have n4_ := Aside0.mk (blk_at hq_ BK104.out); have n5_ := Aside0.mk (blk_at hq_ BK120.out); have n6_ := Aside0.mk (blk_at hq_ BK143.out); have n7_ := Aside0.mk (below_at hq_ HB.out); clear hq_ HO_121000 HO_121001 HO136 HO139 BK104 BK120 BK143 HB; have HO_121000 := n0_; have HO_121001 := n1_; have HO136 := n2_; have HO139 := n3_; have BK104 := n4_; have BK120 := n5_; have BK143 := n6_; have HB := n7_; clear n0_ n1_ n2_ n3_ n4_ n5_ n6_ n7_)); refine store_event (t := 25) (p := 19) (v := ?vo_w79) (w1 := ((((w73.setCell ⟨gb143, 0, none⟩ (.slice Ao74 t134.length co74)).setCell ⟨gb143, 1, none⟩ (.slice Ao78 t137.length co78)).setCell ⟨gb143, 2, none⟩ (.int .i64 t140)).setCell ⟨gb143, 3, none⟩ (.bool t141))) ?hg ?ho ?hn ?hr ?_; (case ho => rfl); (case hg => rfl); (case hn => rfl); (case hr => first | (go_simp; done) | (go_simp; rfl)); intro w79 hw; have n0_ : Aside0 (Kd.V (Kd.slice 5 (Kd.int .u8)) 35 w79 w.heap.size (fun k_ => k_ ≠ gb104 ∧ k_ ≠ gb120 ∧ k_ ≠ gb143) (.slice Ao29 t111.length co29) t111) := ⟨(by rw [hw]; exact (by (with_reducible repeat (first | apply Kd.V_alloc | apply Kd.V_drewN | apply Kd.V_drew)); exact Kd.V_mono (Kd.V_far (p := ⟨gb143, 3, none⟩) (Kd.V_far (p := ⟨gb143, 2, none⟩) (Kd.V_far (p := ⟨gb143, 1, none⟩) (Kd.V_far (p := ⟨gb143, 0, none⟩) (Kd.V_mono HO_121000.out (fun k_ hk => (⟨hk, hk.2⟩ : _ ∧ k_ ≠ gb143))) (fun _ hk => hk.2) (.slice Ao74 t134.length co74)) (fun _ hk => hk.2) (.slice Ao78 t137.length co78)) (fun _ hk => hk.2) (.int .i64 t140)) (fun _ hk => hk.2) (.bool t141)) (fun _ hk => ⟨hk.1.1.1, ⟨hk.1.1.2, hk.1.2⟩⟩)))⟩; have n1_ : Aside0 (Kd.V k54 54 w79 w.heap.size (fun k_ => k_ ≠ gb104 ∧ k_ ≠ gb120 ∧ k_ ≠ gb143) (.slice Ao32 t114.length co32) t114) := ⟨(by rw [hw]; exact (by (with_reducible repeat (first | apply Kd.V_alloc | apply Kd.V_drewN | apply Kd.V_drew)); exact Kd.V_mono (Kd.V_far (p := ⟨gb143, 3, none⟩) (Kd.V_far (p := ⟨gb143, 2, none⟩) (Kd.V_far (p := ⟨gb143, 1, none⟩) (Kd.V_far (p := ⟨gb143, 0, none⟩) (Kd.V_mono HO_121001.out (fun k_ hk => (⟨hk, hk.2⟩ : _ ∧ k_ ≠ gb143))) (fun _ hk => hk.2) (.slice Ao74 t134.length co74)) (fun _ hk => hk.2) (.slice Ao78 t137.length co78)) (fun _ hk => hk.2) (.int .i64 t140)) (fun _ hk => hk.2) (.bool t141)) (fun _ hk => ⟨hk.1.1.1, ⟨hk.1.1.2, hk.1.2⟩⟩)))⟩; have n2_ : Aside0 (Kd.V (Kd.slice 5 (Kd.int .u8)) 35 w79 w.heap.size (fun k_ => k_ ≠ gb104 ∧ k_ ≠ gb120 ∧ k_ ≠ gb143) (.slice Ao74 t134.length co74) t134) := ⟨(by rw [hw]; exact (by (with_reducible repeat (first | apply Kd.V_alloc | apply Kd.V_drewN | apply Kd.V_drew)); exact Kd.V_mono (Kd.V_far (p := ⟨gb143, 3, none⟩) (Kd.V_far (p := ⟨gb143, 2, none⟩) (Kd.V_far (p := ⟨gb143, 1, none⟩) (Kd.V_far (p := ⟨gb143, 0, none⟩) (Kd.V_mono HO136.out (fun k_ hk => (⟨hk, hk.2⟩ : _ ∧ k_ ≠ gb143))) (fun _ hk => hk.2) (.slice Ao74 t134.length co74)) (fun _ hk => hk.2) (.slice Ao78 t137.length co78)) (fun _ hk => hk.2) (.int .i64 t140)) (fun _ hk => hk.2) (.bool t141)) (fun _ hk => ⟨hk.1.1.1, ⟨hk.1.1.2, hk.1.2⟩⟩)))⟩; have n3_ : Aside0 (Kd.V k54 54 w79 w.heap.size (fun k_ => k_ ≠ gb104 ∧ k_ ≠ gb120 ∧ k_ ≠ gb143) (.slice Ao78 t137.length co78) t137) := ⟨(by rw [hw]; exact (by (with_reducible repeat (first | apply Kd.V_alloc | apply Kd.V_drewN | apply Kd.V_drew)); exact Kd.V_mono (Kd.V_far (p := ⟨gb143, 3, none⟩) (Kd.V_far (p := ⟨gb143, 2, none⟩) (Kd.V_far (p := ⟨gb143, 1, none⟩) (Kd.V_far (p := ⟨gb143, 0, none⟩) (Kd.V_mono HO139.out (fun k_ hk => (⟨hk, hk.2⟩ : _ ∧ k_ ≠ gb143))) (fun _ hk => hk.2) (.slice Ao74 t134.length co74)) (fun _ hk => hk.2) (.slice Ao78 t137.length co78)) (fun _ hk => hk.2) (.int .i64 t140)) (fun _ hk => hk.2) (.bool t141)) (fun _ hk => ⟨hk.1.1.1, ⟨hk.1.1.2, hk.1.2⟩⟩)))⟩; have n4_ : Aside0 (w79.heap[gb104]? = some (.cells #[.slice A0_0 l0_0.length c0_0, .slice A0_1 l0_1.length c0_1, .int .i64 a0_2, .bool a0_3] 25 (0, 0))) := ⟨(by rw [hw]; exact (by (with_reducible repeat (first | refine blk_drewN ?_ _ | refine blk_drew ?_ | refine blk_alloc ?_ _)); refine blk_far ?_ NB104_143.out _; (with_reducible repeat (first | refine blk_drewN ?_ _ | refine blk_drew ?_ | refine blk_alloc ?_ _)); refine blk_far ?_ NB104_143.out _; (with_reducible repeat (first | refine blk_drewN ?_ _ | refine blk_drew ?_ | refine blk_alloc ?_ _)); refine blk_far ?_ NB104_143.out _; (with_reducible repeat (first | refine blk_drewN ?_ _ | refine blk_drew ?_ | refine blk_alloc ?_ _)); refine blk_far ?_ NB104_143.out _; (with_reducible repeat (first | refine blk_drewN ?_ _ | refine blk_drew ?_ | refine blk_alloc ?_ _)); exact BK104.out))⟩; have n5_ : Aside0 (w79.heap[gb120]? = some (.cells #[.slice Ao29 t111.length co29, .slice Ao32 t114.length co32, .int .i64 t117, .bool t118] 25 (0, 0))) := ⟨(by rw [hw]; exact (by (with_reducible repeat (first | refine blk_drewN ?_ _ | refine blk_drew ?_ | refine blk_alloc ?_ _)); refine blk_far ?_ NB120_143.out _; (with_reducible repeat (first | refine blk_drewN ?_ _ | refine blk_drew ?_ | refine blk_alloc ?_ _)); refine blk_far ?_ NB120_143.out _; (with_reducible repeat (first | refine blk_drewN ?_ _ | refine blk_drew ?_ | refine blk_alloc ?_ _)); refine blk_far ?_ NB120_143.out _; (with_reducible repeat (first | refine blk_drewN ?_ _ | refine blk_drew ?_ | refine blk_alloc ?_ _)); refine blk_far ?_ NB120_143.out _; (with_reducible repeat (first | refine blk_drewN ?_ _ | refine blk_drew ?_ | refine blk_alloc ?_ _)); exact BK120.out))⟩; have n6_ : Aside0 (w79.heap[gb143]? = some (.cells #[.slice Ao74 t134.length co74, .slice Ao78 t137.length co78, .int .i64 t140, .bool t141] 25 (0, 0))) := ⟨(by rw [hw]; exact (by (with_reducible repeat (first | refine blk_drewN ?_ _ | refine blk_drew ?_ | refine blk_alloc ?_ _)); refine blk_put (cs := #[.slice Ao74 t134.length co74, .slice Ao78 t137.length co78, .int .i64 t140, .bool false]) ?_ 3 _ rfl; (with_reducible repeat (first | refine blk_drewN ?_ _ | refine blk_drew ?_ | refine blk_alloc ?_ _)); refine blk_put (cs := #[.slice Ao74 t134.length co74, .slice Ao78 t137.length co78, .int .i64 0, .bool false]) ?_ 2 _ rfl; (with_reducible repeat (first | refine blk_drewN ?_ _ | refine blk_drew ?_ | refine blk_alloc ?_ _)); refine blk_put (cs := #[.slice Ao74 t134.length co74, .slice none 0 0, .int .i64 0, .bool false]) ?_ 1 _ rfl; (with_reducible repeat (first | refine blk_drewN ?_ _ | refine blk_drew ?_ | refine blk_alloc ?_ _)); refine blk_put (cs := #[.slice none 0 0, .slice none 0 0, .int .i64 0, .bool false]) ?_ 0 _ rfl; (with_reducible repeat (first | refine blk_drewN ?_ _ | refine blk_drew ?_ | refine blk_alloc ?_ _)); exact BK143.out))⟩; have n7_ : Aside0 (Below w.heap.size w w79) := ⟨(by rw [hw]; exact (by repeat (first | (with_reducible first | exact HB.out | apply below_alloc | apply pw_below_drewN | apply below_drew1 | refine below_set ?_ GE104.out | refine below_set ?_ GE120.out | refine below_set ?_ GE143.out) | exact HB.out)))⟩; clear hw; clear HO_121000; clear HO_121001; clear HO136; clear HO139; clear BK104; clear BK120; clear BK143; clear HB; have HO_121000 := n0_; have HO_121001 := n1_; have HO136 := n2_; have HO139 := n3_; have BK104 := n4_; have BK120 := n5_; have BK143 := n6_; have HB := n7_; clear n0_ n1_ n2_ n3_ n4_ n5_ n6_ n7_; have hcz80_0 : w79.cell? ⟨gb143, 0, none⟩ = some (.slice Ao74 t134.length co74) := (blk_cell BK143.out 0).trans rfl; have hcz80_1 : w79.cell? ⟨gb143, 1, none⟩ = some (.slice Ao78 t137.length co78) := (blk_cell BK143.out 1).trans rfl; have hcz80_2 : w79.cell? ⟨gb143, 2, none⟩ = some (.int .i64 t140) := (blk_cell BK143.out 2).trans rfl; have hcz80_3 : w79.cell? ⟨gb143, 3, none⟩ = some (.bool t141) := (blk_cell BK143.out 3).trans rfl; have hfz80_0 := blk_frozen BK143.out 0; have hfz80_1 := blk_frozen BK143.out 1; have hfz80_2 := blk_frozen BK143.out 2; have hfz80_3 := blk_frozen BK143.out 3) | (go_at_call 23; (with_reducible refine (disk_Sync.calls (fun k_ => (k_ ≠ gb104 ∧ (k_ ≠ gb120 ∧ k_ ≠ gb143))) _ _ t134 (fun k_ => (k_ ≠ gb104 ∧ (k_ ≠ gb120 ∧ k_ ≠ gb143))) _ _ t137 t140 t141 t144 t147 t150 t151 t152 _ ?side1 ?side2 A68.out).mono ?_); (case side1 => exact HO136.out); (case side2 => exact HO139.out); rintro e w81 ⟨v145, v148, rfl, ho0, ho1, hb⟩; have n0_ := Aside0.mk (Kd.V_below (by (with_reducible repeat (first | apply Kd.V_alloc | apply Kd.V_drewN | apply Kd.V_drew)); exact HO_121000.out) hb); have n1_ := Aside0.mk (Kd.V_below (by (with_reducible repeat (first | apply Kd.V_alloc | apply Kd.V_drewN | apply Kd.V_drew)); exact HO_121001.out) hb); have n2_ := Aside0.mk (Kd.V_below (by (with_reducible repeat (first | apply Kd.V_alloc | apply Kd.V_drewN | apply Kd.V_drew)); exact HO136.out) hb); have n3_ := Aside0.mk (Kd.V_below (by (with_reducible repeat (first | apply Kd.V_alloc | apply Kd.V_drewN | apply Kd.V_drew)); exact HO139.out) hb); have n4_ := Aside0.mk (Kd.V_lower (Kd.V_mono (ok' := fun k_ => k_ ≠ gb104 ∧ k_ ≠ gb120 ∧ k_ ≠ gb143) ho0 (fun k_ hk_ => ⟨Or.elim hk_ (fun hs_ => Or.elim hs_ (fun hs_ => hs_.1) (fun hs_ => hs_.1)) (fun hn_ => (Kd.freshB (g := gb104) (o := .cells #[.slice A0_0 l0_0.length c0_0, .slice A0_1 l0_1.length c0_1, .int .i64 a0_2, .bool a0_3] 25 (0, 0)) (zk BK104.out) k_ hn_)), Or.elim hk_ (fun hs_ => Or.elim hs_ (fun hs_ => hs_.2.1) (fun hs_ => hs_.2.1)) (fun hn_ => (Kd.freshB (g := gb120) (o := .cells #[.slice Ao29 t111.length co29, .slice Ao32 t114.length co32, .int .i64 t117, .bool t118] 25 (0, 0)) (zk BK120.out) k_ hn_)), Or.elim hk_ (fun hs_ => Or.elim hs_ (fun hs_ => hs_.2.2) (fun hs_ => hs_.2.2)) (fun hn_ => (Kd.freshB (g := gb143) (o := .cells #[.slice Ao74 t134.length co74, .slice Ao78 t137.length co78, .int .i64 t140, .bool t141] 25 (0, 0)) (zk BK143.out) k_ hn_))⟩)) (below_size (by repeat (first | (with_reducible first | exact HB.out | apply below_alloc | apply pw_below_drewN | apply below_drew1 | refine below_set ?_ GE104.out | refine below_set ?_ GE120.out | refine below_set ?_ GE143.out) | exact HB.out)))); have n5_ := Aside0.mk (Kd.V_lower (Kd.V_mono (ok' := fun k_ => k_ ≠ gb104 ∧ k_ ≠ gb120 ∧ k_ ≠ gb143) ho1 (fun k_ hk_ => ⟨Or.elim hk_ (fun hs_ => Or.elim hs_ (fun hs_ => hs_.1) (fun hs_ => hs_.1)) (fun hn_ => (Kd.freshB (g := gb104) (o := .cells #[.slice A0_0 l0_0.length c0_0, .slice A0_1 l0_1.length c0_1, .int .i64 a0_2, .bool a0_3] 25 (0, 0)) (zk BK104.out) k_ hn_)), Or.elim hk_ (fun hs_ => Or.elim hs_ (fun hs_ => hs_.2.1) (fun hs_ => hs_.2.1)) (fun hn_ => (Kd.freshB (g := gb120) (o := .cells #[.slice Ao29 t111.length co29, .slice Ao32 t114.length co32, .int .i64 t117, .bool t118] 25 (0, 0)) (zk BK120.out) k_ hn_)), Or.elim hk_ (fun hs_ => Or.elim hs_ (fun hs_ => hs_.2.2) (fun hs_ => hs_.2.2)) (fun hn_ => (Kd.freshB (g := gb143) (o := .cells #[.slice Ao74 t134.length co74, .slice Ao78 t137.length co78, .int .i64 t140, .bool t141] 25 (0, 0)) (zk BK143.out) k_ hn_))⟩)) (below_size (by repeat (first | (with_reducible first | exact HB.out | apply below_alloc | apply pw_below_drewN | apply below_drew1 | refine below_set ?_ GE104.out | refine below_set ?_ GE120.out | refine below_set ?_ GE143.out) | exact HB.out)))); have n6_ := Aside0.mk (zb BK104.out hb); have n7_ := Aside0.mk (zb BK120.out hb); have n8_ := Aside0.mk (zb BK143.out hb); have n9_ := Aside0.mk (below_step (by repeat (first | (with_reducible first | exact HB.out | apply below_alloc | apply pw_below_drewN | apply below_drew1 | refine below_set ?_ GE104.out | refine below_set ?_ GE120.out | refine below_set ?_ GE143.out) | exact HB.out)) hb); clear HO_121000; clear HO_121001; clear HO136; clear HO139; clear BK104; clear BK120; clear BK143; clear HB; have HO_121000 := n0_; have HO_121001 := n1_; have HO136 := n2_; have HO139 := n3_; have HO146 := n4_; have HO149 := n5_; have BK104 := n6_; have BK120 := n7_; have BK143 := n8_; have HB := n9_; clear n0_ n1_ n2_ n3_ n4_ n5_ n6_ n7_ n8_ n9_; (try clear hb); (try clear hb2); (try clear hk); (try clear hi); (try clear ho0); (try clear ho1)) | ((with_reducible refine gate_dst (N := 21) rfl ?_); (try (refine gate_guard (by rfl) ?_; dsimp only)); refine box_event ?hg (N := 21) ?hd (cs := #[.slice none 0 0, .slice none 0 0, .int .i64 0, .bool false]) (t := 25) ?hr ?_; (case hd => rfl); (case hg => rfl); (case hr => first | (go_simp; done) | (go_simp; rfl)); intro gb153 hg w82 hbox hb; have n0_ := Aside0.mk (Kd.V_below (Kd.V_elderB (by (with_reducible repeat (first | apply Kd.V_alloc | apply Kd.V_drewN | apply Kd.V_drew)); exact HO_121000.out) gb153 (Nat.le_of_eq hg.symm)) hb); have n1_ := Aside0.mk (Kd.V_below (Kd.V_elderB (by (with_reducible repeat (first | apply Kd.V_alloc | apply Kd.V_drewN | apply Kd.V_drew)); exact HO_121001.out) gb153 (Nat.le_of_eq hg.symm)) hb); have n2_ := Aside0.mk (Kd.V_below (Kd.V_elderB (by (with_reducible repeat (first | apply Kd.V_alloc | apply Kd.V_drewN | apply Kd.V_drew)); exact HO136.out) gb153 (Nat.le_of_eq hg.symm)) hb); have n3_ := Aside0.mk (Kd.V_below (Kd.V_elderB (by (with_reducible repeat (first | apply Kd.V_alloc | apply Kd.V_drewN | apply Kd.V_drew)); exact HO139.out) gb153 (Nat.le_of_eq hg.symm)) hb); have n4_ := Aside0.mk (Kd.V_below (Kd.V_elderB (by (with_reducible repeat (first | apply Kd.V_alloc | apply Kd.V_drewN | apply Kd.V_drew)); exact HO146.out) gb153 (Nat.le_of_eq hg.symm)) hb); have n5_ := Aside0.mk (Kd.V_below (Kd.V_elderB (by (with_reducible repeat (first | apply Kd.V_alloc | apply Kd.V_drewN | apply Kd.V_drew)); exact HO149.out) gb153 (Nat.le_of_eq hg.symm)) hb); have n6_ := Aside0.mk (zb BK104.out hb); have n7_ := Aside0.mk (zb BK120.out hb); have n8_ := Aside0.mk (zb BK143.out hb); have n9_ := Aside0.mk (below_step (by repeat (first | (with_reducible first | exact HB.out | apply below_alloc | apply pw_below_drewN | apply below_drew1 | refine below_set ?_ GE104.out | refine below_set ?_ GE120.out | refine below_set ?_ GE143.out) | exact HB.out)) hb); have n10_ := Aside0.mk (hbox); have n11_ := Aside0.mk ((by rw [hg]; exact (below_size (by repeat (first | (with_reducible first | exact HB.out | apply below_alloc | apply pw_below_drewN | apply below_drew1 | refine below_set ?_ GE104.out | refine below_set ?_ GE120.out | refine below_set ?_ GE143.out) | exact HB.out))) : w.heap.size ≤ gb153)); have n12_ := Aside0.mk ((by rw [hg]; exact (below_size (by repeat (first | (with_reducible first | exact HB.out | apply below_alloc | apply pw_below_drewN | apply below_drew1 | refine below_set ?_ GE104.out | refine below_set ?_ GE120.out | refine below_set ?_ GE143.out) | exact HB.out))) : w.heap.size ≤ gb153)); have n13_ := Aside0.mk ((by rw [hg]; exact Nat.ne_of_lt (blk_lt (zk BK104.out)) : gb104 ≠ gb153)); have n14_ := Aside0.mk ((by rw [hg]; exact Nat.ne_of_gt (blk_lt (zk BK104.out)) : gb153 ≠ gb104)); have n15_ := Aside0.mk ((by rw [hg]; exact Nat.ne_of_lt (blk_lt (zk BK120.out)) : gb120 ≠ gb153)); have n16_ := Aside0.mk ((by rw [hg]; exact Nat.ne_of_gt (blk_lt (zk BK120.out)) : gb153 ≠ gb120)); have n17_ := Aside0.mk ((by rw [hg]; exact Nat.ne_of_lt (blk_lt (zk BK143.out)) : gb143 ≠ gb153)); have n18_ := Aside0.mk ((by rw [hg]; exact Nat.ne_of_gt (blk_lt (zk BK143.out)) : gb153 ≠ gb143)); clear HO_121000; clear HO_121001; clear HO136; clear HO139; clear HO146; clear HO149; clear BK104; clear BK120; clear BK143; clear HB; have HO_121000 := n0_; have HO_121001 := n1_; have HO136 := n2_; have HO139 := n3_; have HO146 := n4_; have HO149 := n5_; have BK104 := n6_; have BK120 := n7_; have BK143 := n8_; have HB := n9_; have BK153 := n10_; have GW153 := n11_; have GE153 := n12_; have NB104_153 := n13_; have NB153_104 := n14_; have NB120_153 := n15_; have NB153_120 := n16_; have NB143_153 := n17_; have NB153_143 := n18_; clear n0_ n1_ n2_ n3_ n4_ n5_ n6_ n7_ n8_ n9_ n10_ n11_ n12_ n13_ n14_ n15_ n16_ n17_ n18_; clear hb hbox hg; obtain ⟨Ao83, co83, eo83⟩ := Kd.V_slice HO146.out; subst eo83; have hnb84 := NB153_104.out; have hnc84 := NB104_153.out; have hnb85 := NB153_120.out; have hnc85 := NB120_153.out; have hnb86 := NB153_143.out; have hnc86 := NB143_153.out; have hcz87_0 : w82.cell? ⟨gb153, 0, none⟩ = some (.slice none 0 0) := (blk_cell BK153.out 0).trans rfl; have hcz87_1 : w82.cell? ⟨gb153, 1, none⟩ = some (.slice none 0 0) := (blk_cell BK153.out 1).trans rfl; have hcz87_2 : w82.cell? ⟨gb153, 2, none⟩ = some (.int .i64 0) := (blk_cell BK153.out 2).trans rfl; have hcz87_3 : w82.cell? ⟨gb153, 3, none⟩ = some (.bool false) := (blk_cell BK153.out 3).trans rfl; have hfz87_0 := blk_frozen BK153.out 0; have hfz87_1 := blk_frozen BK153.out 1; have hfz87_2 := blk_frozen BK153.out 2; have hfz87_3 := blk_frozen BK153.out 3; obtain ⟨Ao88, co88, eo88⟩ := Kd.V_slice HO149.out; subst eo88))
             go_loopg [23] kj36 (fun kq v23 w' => ∃ (x23_4 : Int), v23 = .int .i64 x23_4 ∧ Aside0 (fastilaw04_DiskReads.l0 kq x23_4 l0_0 l0_1 a0_2 a0_3 t134 t137 t140 t141 t144 t147 t150 t151 = some r) ∧ Aside0 (kq ≤ kj36) ∧ Aside0 (Kd.V (Kd.slice 5 (Kd.int .u8)) 35 w' w.heap.size (fun k_ => k_ ≠ gb104 ∧ k_ ≠ gb120 ∧ k_ ≠ gb143 ∧ k_ ≠ gb153) (.slice Ao29 t111.length co29) t111) ∧ Aside0 (Kd.V k54 54 w' w.heap.size (fun k_ => k_ ≠ gb104 ∧ k_ ≠ gb120 ∧ k_ ≠ gb143 ∧ k_ ≠ gb153) (.slice Ao32 t114.length co32) t114) ∧ Aside0 (Kd.V (Kd.slice 5 (Kd.int .u8)) 35 w' w.heap.size (fun k_ => k_ ≠ gb104 ∧ k_ ≠ gb120 ∧ k_ ≠ gb143 ∧ k_ ≠ gb153) (.slice Ao74 t134.length co74) t134) ∧ Aside0 (Kd.V k54 54 w' w.heap.size (fun k_ => k_ ≠ gb104 ∧ k_ ≠ gb120 ∧ k_ ≠ gb143 ∧ k_ ≠ gb153) (.slice Ao78 t137.length co78) t137) ∧ Aside0 (Kd.V (Kd.slice 5 (Kd.int .u8)) 35 w' w.heap.size (fun k_ => k_ ≠ gb104 ∧ k_ ≠ gb120 ∧ k_ ≠ gb143 ∧ k_ ≠ gb153) (.slice Ao83 t144.length co83) t144) ∧ Aside0 (Kd.V k54 54 w' w.heap.size (fun k_ => k_ ≠ gb104 ∧ k_ ≠ gb120 ∧ k_ ≠ gb143 ∧ k_ ≠ gb153) (.slice Ao88 t147.length co88) t147) ∧ Aside0 (w'.heap[gb104]? = some (.cells #[(.slice A0_0 l0_0.length c0_0), (.slice A0_1 l0_1.length c0_1), .int .i64 a0_2, .bool a0_3] 25 (0, 0))) ∧ Aside0 (w'.heap[gb120]? = some (.cells #[(.slice Ao29 t111.length co29), (.slice Ao32 t114.length co32), .int .i64 t117, .bool t118] 25 (0, 0))) ∧ Aside0 (w'.heap[gb143]? = some (.cells #[(.slice Ao74 t134.length co74), (.slice Ao78 t137.length co78), .int .i64 t140, .bool t141] 25 (0, 0))) ∧ Aside0 (w'.heap[gb153]? = some (.cells #[(.slice Ao83 t144.length co83), (.slice Ao88 t147.length co88), .int .i64 t150, .bool t151] 25 (0, 0))) ∧ Aside0 (Below w.heap.size w w'))
             case atStart => exact ⟨(0), (by first | rfl | (simp; done) | (simp [*]; done)), H', ⟨Nat.le_refl _⟩, ⟨by (with_reducible repeat (first | apply Kd.V_alloc | apply Kd.V_drewN | apply Kd.V_drew)); exact Kd.V_mono (Kd.V_far (p := ⟨gb153, 3, none⟩) (Kd.V_far (p := ⟨gb153, 2, none⟩) (Kd.V_far (p := ⟨gb153, 1, none⟩) (Kd.V_far (p := ⟨gb153, 0, none⟩) (Kd.V_mono HO_121000.out (fun k_ hk => (⟨hk, hk.2⟩ : _ ∧ k_ ≠ gb153))) (fun _ hk => hk.2) (.slice Ao83 t144.length co83)) (fun _ hk => hk.2) (.slice Ao88 t147.length co88)) (fun _ hk => hk.2) (.int .i64 t150)) (fun _ hk => hk.2) (.bool t151)) (fun _ hk => ⟨hk.1.1.1, ⟨hk.1.1.2.1, ⟨hk.1.1.2.2, hk.1.2⟩⟩⟩)⟩, ⟨by (with_reducible repeat (first | apply Kd.V_alloc | apply Kd.V_drewN | apply Kd.V_drew)); exact Kd.V_mono (Kd.V_far (p := ⟨gb153, 3, none⟩) (Kd.V_far (p := ⟨gb153, 2, none⟩) (Kd.V_far (p := ⟨gb153, 1, none⟩) (Kd.V_far (p := ⟨gb153, 0, none⟩) (Kd.V_mono HO_121001.out (fun k_ hk => (⟨hk, hk.2⟩ : _ ∧ k_ ≠ gb153))) (fun _ hk => hk.2) (.slice Ao83 t144.length co83)) (fun _ hk => hk.2) (.slice Ao88 t147.length co88)) (fun _ hk => hk.2) (.int .i64 t150)) (fun _ hk => hk.2) (.bool t151)) (fun _ hk => ⟨hk.1.1.1, ⟨hk.1.1.2.1, ⟨hk.1.1.2.2, hk.1.2⟩⟩⟩)⟩, ⟨by (with_reducible repeat (first | apply Kd.V_alloc | apply Kd.V_drewN | apply Kd.V_drew)); exact Kd.V_mono (Kd.V_far (p := ⟨gb153, 3, none⟩) (Kd.V_far (p := ⟨gb153, 2, none⟩) (Kd.V_far (p := ⟨gb153, 1, none⟩) (Kd.V_far (p := ⟨gb153, 0, none⟩) (Kd.V_mono HO136.out (fun k_ hk => (⟨hk, hk.2⟩ : _ ∧ k_ ≠ gb153))) (fun _ hk => hk.2) (.slice Ao83 t144.length co83)) (fun _ hk => hk.2) (.slice Ao88 t147.length co88)) (fun _ hk => hk.2) (.int .i64 t150)) (fun _ hk => hk.2) (.bool t151)) (fun _ hk => ⟨hk.1.1.1, ⟨hk.1.1.2.1, ⟨hk.1.1.2.2, hk.1.2⟩⟩⟩)⟩, ⟨by (with_reducible repeat (first | apply Kd.V_alloc | apply Kd.V_drewN | apply Kd.V_drew)); exact Kd.V_mono (Kd.V_far (p := ⟨gb153, 3, none⟩) (Kd.V_far (p := ⟨gb153, 2, none⟩) (Kd.V_far (p := ⟨gb153, 1, none⟩) (Kd.V_far (p := ⟨gb153, 0, none⟩) (Kd.V_mono HO139.out (fun k_ hk => (⟨hk, hk.2⟩ : _ ∧ k_ ≠ gb153))) (fun _ hk => hk.2) (.slice Ao83 t144.length co83)) (fun _ hk => hk.2) (.slice Ao88 t147.length co88)) (fun _ hk => hk.2) (.int .i64 t150)) (fun _ hk => hk.2) (.bool t151)) (fun _ hk => ⟨hk.1.1.1, ⟨hk.1.1.2.1, ⟨hk.1.1.2.2, hk.1.2⟩⟩⟩)⟩, ⟨by (with_reducible repeat (first | apply Kd.V_alloc | apply Kd.V_drewN | apply Kd.V_drew)); exact Kd.V_mono (Kd.V_far (p := ⟨gb153, 3, none⟩) (Kd.V_far (p := ⟨gb153, 2, none⟩) (Kd.V_far (p := ⟨gb153, 1, none⟩) (Kd.V_far (p := ⟨gb153, 0, none⟩) (Kd.V_mono HO146.out (fun k_ hk => (⟨hk, hk.2⟩ : _ ∧ k_ ≠ gb153))) (fun _ hk => hk.2) (.slice Ao83 t144.length co83)) (fun _ hk => hk.2) (.slice Ao88 t147.length co88)) (fun _ hk => hk.2) (.int .i64 t150)) (fun _ hk => hk.2) (.bool t151)) (fun _ hk => ⟨hk.1.1.1, ⟨hk.1.1.2.1, ⟨hk.1.1.2.2, hk.1.2⟩⟩⟩)⟩, ⟨by (with_reducible repeat (first | apply Kd.V_alloc | apply Kd.V_drewN | apply Kd.V_drew)); exact Kd.V_mono (Kd.V_far (p := ⟨gb153, 3, none⟩) (Kd.V_far (p := ⟨gb153, 2, none⟩) (Kd.V_far (p := ⟨gb153, 1, none⟩) (Kd.V_far (p := ⟨gb153, 0, none⟩) (Kd.V_mono HO149.out (fun k_ hk => (⟨hk, hk.2⟩ : _ ∧ k_ ≠ gb153))) (fun _ hk => hk.2) (.slice Ao83 t144.length co83)) (fun _ hk => hk.2) (.slice Ao88 t147.length co88)) (fun _ hk => hk.2) (.int .i64 t150)) (fun _ hk => hk.2) (.bool t151)) (fun _ hk => ⟨hk.1.1.1, ⟨hk.1.1.2.1, ⟨hk.1.1.2.2, hk.1.2⟩⟩⟩)⟩, ⟨by (with_reducible repeat (first | refine blk_drewN ?_ _ | refine blk_drew ?_ | refine blk_alloc ?_ _)); refine blk_far ?_ NB104_153.out _; (with_reducible repeat (first | refine blk_drewN ?_ _ | refine blk_drew ?_ | refine blk_alloc ?_ _)); refine blk_far ?_ NB104_153.out _; (with_reducible repeat (first | refine blk_drewN ?_ _ | refine blk_drew ?_ | refine blk_alloc ?_ _)); refine blk_far ?_ NB104_153.out _; (with_reducible repeat (first | refine blk_drewN ?_ _ | refine blk_drew ?_ | refine blk_alloc ?_ _)); refine blk_far ?_ NB104_153.out _; (with_reducible repeat (first | refine blk_drewN ?_ _ | refine blk_drew ?_ | refine blk_alloc ?_ _)); exact BK104.out⟩, ⟨by (with_reducible repeat (first | refine blk_drewN ?_ _ | refine blk_drew ?_ | refine blk_alloc ?_ _)); refine blk_far ?_ NB120_153.out _; (with_reducible repeat (first | refine blk_drewN ?_ _ | refine blk_drew ?_ | refine blk_alloc ?_ _)); refine blk_far ?_ NB120_153.out _; (with_reducible repeat (first | refine blk_drewN ?_ _ | refine blk_drew ?_ | refine blk_alloc ?_ _)); refine blk_far ?_ NB120_153.out _; (with_reducible repeat (first | refine blk_drewN ?_ _ | refine blk_drew ?_ | refine blk_alloc ?_ _)); refine blk_far ?_ NB120_153.out _; (with_reducible repeat (first | refine blk_drewN ?_ _ | refine blk_drew ?_ | refine blk_alloc ?_ _)); exact BK120.out⟩, ⟨by (with_reducible repeat (first | refine blk_drewN ?_ _ | refine blk_drew ?_ | refine blk_alloc ?_ _)); refine blk_far ?_ NB143_153.out _; (with_reducible repeat (first | refine blk_drewN ?_ _ | refine blk_drew ?_ | refine blk_alloc ?_ _)); refine blk_far ?_ NB143_153.out _; (with_reducible repeat (first | refine blk_drewN ?_ _ | refine blk_drew ?_ | refine blk_alloc ?_ _)); refine blk_far ?_ NB143_153.out _; (with_reducible repeat (first | refine blk_drewN ?_ _ | refine blk_drew ?_ | refine blk_alloc ?_ _)); refine blk_far ?_ NB143_153.out _; (with_reducible repeat (first | refine blk_drewN ?_ _ | refine blk_drew ?_ | refine blk_alloc ?_ _)); exact BK143.out⟩, ⟨by (with_reducible repeat (first | refine blk_drewN ?_ _ | refine blk_drew ?_ | refine blk_alloc ?_ _)); refine blk_put (cs := #[.slice Ao83 t144.length co83, .slice Ao88 t147.length co88, .int .i64 t150, .bool false]) ?_ 3 _ rfl; (with_reducible repeat (first | refine blk_drewN ?_ _ | refine blk_drew ?_ | refine blk_alloc ?_ _)); refine blk_put (cs := #[.slice Ao83 t144.length co83, .slice Ao88 t147.length co88, .int .i64 0, .bool false]) ?_ 2 _ rfl; (with_reducible repeat (first | refine blk_drewN ?_ _ | refine blk_drew ?_ | refine blk_alloc ?_ _)); refine blk_put (cs := #[.slice Ao83 t144.length co83, .slice none 0 0, .int .i64 0, .bool false]) ?_ 1 _ rfl; (with_reducible repeat (first | refine blk_drewN ?_ _ | refine blk_drew ?_ | refine blk_alloc ?_ _)); refine blk_put (cs := #[.slice none 0 0, .slice none 0 0, .int .i64 0, .bool false]) ?_ 0 _ rfl; (with_reducible repeat (first | refine blk_drewN ?_ _ | refine blk_drew ?_ | refine blk_alloc ?_ _)); exact BK153.out⟩, ⟨by repeat (first | (with_reducible first | exact HB.out | apply below_alloc | apply pw_below_drewN | apply below_drew1 | refine below_set ?_ GE104.out | refine below_set ?_ GE120.out | refine below_set ?_ GE143.out | refine below_set ?_ GE153.out) | exact HB.out)⟩⟩
             case round =>
              clear H'
              try clear c1
              try clear c2
              try clear p2
              try clear c3
              try clear c4
              try clear q5
              try clear hcv5
              try clear c6
              try clear q6
              try clear hcv6
              try clear c7
              try clear c8
              try clear c12
              try clear c13
              try clear c13b0
              try clear c13b1
              try clear c20
              try clear c30
              try clear c33
              try clear c33b0
              try clear c33b1
              try clear c34
              try clear c38
              try clear c43
              try clear c43b0
              try clear c43b1
              try clear c44
              try clear c44b0
              try clear c44b1
              try clear c45
              try clear c45b0
              try clear c45b1
              try clear c46
              try clear c46b0
              try clear c46b1
              try clear c47
              try clear c47b0
              try clear c47b1
              try clear c48
              try clear c48b0
              try clear c48b1
              try clear c49
              try clear c49b0
              try clear c49b1
              try clear q51
              try clear hcv52
              try clear hcv53
              try clear q55
              try clear hcv56
              try clear hcv57
              try clear hcv58
              try clear hcv59
              try clear q61
              try clear hcv62
              try clear hcv63
              try clear c65
              try clear c67
              try clear c67b0
              try clear c67b1
              try clear c69
              try clear c69b0
              try clear c69b1
              try clear c70
              try clear c75
              try clear c76
              try clear c84
              try clear c85
              try clear c86
              try clear hcz14_0
              try clear hcz14_1
              try clear hcz14_2
              try clear hcz14_3
              try clear hcz16_0
              try clear hcz16_1
              try clear hcz16_2
              try clear hcz16_3
              try clear hcz18_0
              try clear hcz18_1
              try clear hcz18_2
              try clear hcz18_3
              try clear hcz24_0
              try clear hcz24_1
              try clear hcz24_2
              try clear hcz24_3
              try clear hcz26_0
              try clear hcz26_1
              try clear hcz26_2
              try clear hcz26_3
              try clear hcz31_0
              try clear hcz31_1
              try clear hcz31_2
              try clear hcz31_3
              try clear hcz39_0
              try clear hcz39_1
              try clear hcz39_2
              try clear hcz39_3
              try clear hcz41_0
              try clear hcz41_1
              try clear hcz41_2
              try clear hcz41_3
              try clear hcz71_0
              try clear hcz71_1
              try clear hcz71_2
              try clear hcz71_3
              try clear hcz77_0
              try clear hcz77_1
              try clear hcz77_2
              try clear hcz77_3
              try clear hcz80_0
              try clear hcz80_1
              try clear hcz80_2
              try clear hcz80_3
              try clear hcz87_0
              try clear hcz87_1
              try clear hcz87_2
              try clear hcz87_3
              try clear hfz14_0
              try clear hfz14_1
              try clear hfz14_2
              try clear hfz14_3
              try clear hfz16_0
              try clear hfz16_1
              try clear hfz16_2
              try clear hfz16_3
              try clear hfz18_0
              try clear hfz18_1
              try clear hfz18_2
              try clear hfz18_3
              try clear hfz24_0
              try clear hfz24_1
              try clear hfz24_2
              try clear hfz24_3
              try clear hfz26_0
              try clear hfz26_1
              try clear hfz26_2
              try clear hfz26_3
              try clear hfz31_0
              try clear hfz31_1
              try clear hfz31_2
              try clear hfz31_3
              try clear hfz39_0
              try clear hfz39_1
              try clear hfz39_2
              try clear hfz39_3
              try clear hfz41_0
              try clear hfz41_1
              try clear hfz41_2
              try clear hfz41_3
              try clear hfz71_0
              try clear hfz71_1
              try clear hfz71_2
              try clear hfz71_3
              try clear hfz77_0
              try clear hfz77_1
              try clear hfz77_2
              try clear hfz77_3
              try clear hfz80_0
              try clear hfz80_1
              try clear hfz80_2
              try clear hfz80_3
              try clear hfz87_0
              try clear hfz87_1
              try clear hfz87_2
              try clear hfz87_3
              try clear p2
              try clear q5
              try clear q51
              try clear q55
              try clear q6
              try clear q61
              obtain ⟨x23_4, rfl, HA, HK4, HO_121000, HO_121001, HO_144000, HO_144001, HO_154000, HO_154001, BK104, BK120, BK143, BK153, HB⟩ := hrel
              cases gk with
              | zero => exact absurd HA.out (by simp [fastilaw04_DiskReads.l0])
              | succ k4 =>
               have H := HA.out
               clear HA
               simp only [fastilaw04_DiskReads.l0] at H
               by_cases c89 : x23_4 < (l0_0.length : Int)
               ·rw [if_pos c89] at H
                have c89b0 : decide (x23_4 < (l0_0.length : Int)) = true := decide_eq_true c89
                clear c89
                replace H := Option.bind_eq_some_iff.mp H
                obtain ⟨⟨t154, t157⟩, A900, H⟩ := H
                replace H : ((disk_Read.f t144 t147 t150 t151 x23_4).bind fun bt158 => (if t157 = 0 then (if bt158.2 = 0 then (fastilaw04_DiskReads.j4 k4 x23_4 ((strOfNums t154).toList != (strOfNums bt158.1).toList) l0_0 l0_1 a0_2 a0_3 t134 t137 t140 t141 t144 t147 t150 t151) else (fastilaw04_DiskReads.j4 k4 x23_4 true l0_0 l0_1 a0_2 a0_3 t134 t137 t140 t141 t144 t147 t150 t151)) else (fastilaw04_DiskReads.j4 k4 x23_4 true l0_0 l0_1 a0_2 a0_3 t134 t137 t140 t141 t144 t147 t150 t151))) = some r := H
                have A90 := Aside0.mk A900
                clear A900
                replace H := Option.bind_eq_some_iff.mp H
                obtain ⟨⟨t158, t161⟩, A910, H⟩ := H
                replace H : (if t157 = 0 then (if t161 = 0 then (fastilaw04_DiskReads.j4 k4 x23_4 ((strOfNums t154).toList != (strOfNums t158).toList) l0_0 l0_1 a0_2 a0_3 t134 t137 t140 t141 t144 t147 t150 t151) else (fastilaw04_DiskReads.j4 k4 x23_4 true l0_0 l0_1 a0_2 a0_3 t134 t137 t140 t141 t144 t147 t150 t151)) else (fastilaw04_DiskReads.j4 k4 x23_4 true l0_0 l0_1 a0_2 a0_3 t134 t137 t140 t141 t144 t147 t150 t151)) = some r := H
                have A91 := Aside0.mk A910
                clear A910
                have HC92 := Aside0.mk H
                clear H
                have hnb93 := NB104_120.out
                have hnc93 := NB120_104.out
                have hnb94 := NB104_143.out
                have hnc94 := NB143_104.out
                have hnb95 := NB104_153.out
                have hnc95 := NB153_104.out
                have hcz96_0 : wr.cell? ⟨gb104, 0, none⟩ = some (.slice A0_0 l0_0.length c0_0) := (blk_cell BK104.out 0).trans rfl
                have hcz96_1 : wr.cell? ⟨gb104, 1, none⟩ = some (.slice A0_1 l0_1.length c0_1) := (blk_cell BK104.out 1).trans rfl
                have hcz96_2 : wr.cell? ⟨gb104, 2, none⟩ = some (.int .i64 a0_2) := (blk_cell BK104.out 2).trans rfl
                have hcz96_3 : wr.cell? ⟨gb104, 3, none⟩ = some (.bool a0_3) := (blk_cell BK104.out 3).trans rfl
                have hfz96_0 := blk_frozen BK104.out 0
                have hfz96_1 := blk_frozen BK104.out 1
                have hfz96_2 := blk_frozen BK104.out 2
                have hfz96_3 := blk_frozen BK104.out 3
                have hnb97 := NB143_120.out
                have hnc97 := NB120_143.out
                have hnb98 := NB143_153.out
                have hnc98 := NB153_143.out
                have hcz99_0 : wr.cell? ⟨gb143, 0, none⟩ = some (.slice Ao74 t134.length co74) := (blk_cell BK143.out 0).trans rfl
                have hcz99_1 : wr.cell? ⟨gb143, 1, none⟩ = some (.slice Ao78 t137.length co78) := (blk_cell BK143.out 1).trans rfl
                have hcz99_2 : wr.cell? ⟨gb143, 2, none⟩ = some (.int .i64 t140) := (blk_cell BK143.out 2).trans rfl
                have hcz99_3 : wr.cell? ⟨gb143, 3, none⟩ = some (.bool t141) := (blk_cell BK143.out 3).trans rfl
                have hfz99_0 := blk_frozen BK143.out 0
                have hfz99_1 := blk_frozen BK143.out 1
                have hfz99_2 := blk_frozen BK143.out 2
                have hfz99_3 := blk_frozen BK143.out 3
                go_upto_region 24 with (first | (go_at_call 21; (with_reducible refine (disk_Read.calls (fun k_ => (k_ ≠ gb104 ∧ (k_ ≠ gb120 ∧ (k_ ≠ gb143 ∧ k_ ≠ gb153)))) _ _ t134 (fun k_ => (k_ ≠ gb104 ∧ (k_ ≠ gb120 ∧ (k_ ≠ gb143 ∧ k_ ≠ gb153)))) _ _ t137 t140 t141 x23_4 t154 t157 _ ?side1 ?side2 A90.out).mono ?_); (case side1 => exact HO_144000.out); (case side2 => exact HO_144001.out); rintro e w100 ⟨v155, rfl, ho0, hb⟩; have n0_ := Aside0.mk (Kd.V_below (by (with_reducible repeat (first | apply Kd.V_alloc | apply Kd.V_drewN | apply Kd.V_drew)); exact HO_121000.out) hb); have n1_ := Aside0.mk (Kd.V_below (by (with_reducible repeat (first | apply Kd.V_alloc | apply Kd.V_drewN | apply Kd.V_drew)); exact HO_121001.out) hb); have n2_ := Aside0.mk (Kd.V_below (by (with_reducible repeat (first | apply Kd.V_alloc | apply Kd.V_drewN | apply Kd.V_drew)); exact HO_144000.out) hb); have n3_ := Aside0.mk (Kd.V_below (by (with_reducible repeat (first | apply Kd.V_alloc | apply Kd.V_drewN | apply Kd.V_drew)); exact HO_144001.out) hb); have n4_ := Aside0.mk (Kd.V_below (by (with_reducible repeat (first | apply Kd.V_alloc | apply Kd.V_drewN | apply Kd.V_drew)); exact HO_154000.out) hb); have n5_ := Aside0.mk (Kd.V_below (by (with_reducible repeat (first | apply Kd.V_alloc | apply Kd.V_drewN | apply Kd.V_drew)); exact HO_154001.out) hb); have n6_ := Aside0.mk (Kd.V_lower (Kd.V_mono (ok' := fun k_ => k_ ≠ gb104 ∧ k_ ≠ gb120 ∧ k_ ≠ gb143 ∧ k_ ≠ gb153) ho0 (fun k_ hk_ => ⟨Or.elim hk_ (fun hs_ => Or.elim hs_ (fun hs_ => hs_.1) (fun hs_ => hs_.1)) (fun hn_ => (Kd.freshB (g := gb104) (o := .cells #[.slice A0_0 l0_0.length c0_0, .slice A0_1 l0_1.length c0_1, .int .i64 a0_2, .bool a0_3] 25 (0, 0)) (zk BK104.out) k_ hn_)), Or.elim hk_ (fun hs_ => Or.elim hs_ (fun hs_ => hs_.2.1) (fun hs_ => hs_.2.1)) (fun hn_ => (Kd.freshB (g := gb120) (o := .cells #[.slice Ao29 t111.length co29, .slice Ao32 t114.length co32, .int .i64 t117, .bool t118] 25 (0, 0)) (zk BK120.out) k_ hn_)), Or.elim hk_ (fun hs_ => Or.elim hs_ (fun hs_ => hs_.2.2.1) (fun hs_ => hs_.2.2.1)) (fun hn_ => (Kd.freshB (g := gb143) (o := .cells #[.slice Ao74 t134.length co74, .slice Ao78 t137.length co78, .int .i64 t140, .bool t141] 25 (0, 0)) (zk BK143.out) k_ hn_)), Or.elim hk_ (fun hs_ => Or.elim hs_ (fun hs_ => hs_.2.2.2) (fun hs_ => hs_.2.2.2)) (fun hn_ => (Kd.freshB (g := gb153) (o := .cells #[.slice Ao83 t144.length co83, .slice Ao88 t147.length co88, .int .i64 t150, .bool t151] 25 (0, 0)) (zk BK153.out) k_ hn_))⟩)) (below_size (by repeat (first | (with_reducible first | exact HB.out | apply below_alloc | apply pw_below_drewN | apply below_drew1 | refine below_set ?_ GE104.out | refine below_set ?_ GE120.out | refine below_set ?_ GE143.out | refine below_set ?_ GE153.out) | exact HB.out)))); have n7_ := Aside0.mk (zb BK104.out hb); have n8_ := Aside0.mk (zb BK120.out hb); have n9_ := Aside0.mk (zb BK143.out hb); have n10_ := Aside0.mk (zb BK153.out hb); have n11_ := Aside0.mk (below_step (by repeat (first | (with_reducible first | exact HB.out | apply below_alloc | apply pw_below_drewN | apply below_drew1 | refine below_set ?_ GE104.out | refine below_set ?_ GE120.out | refine below_set ?_ GE143.out | refine below_set ?_ GE153.out) | exact HB.out)) hb); clear HO_121000; clear HO_121001; clear HO_144000; clear HO_144001; clear HO_154000; clear HO_154001; clear BK104; clear BK120; clear BK143; clear BK153; clear HB; have HO_121000 := n0_; have HO_121001 := n1_; have HO_144000 := n2_; have HO_144001 := n3_; have HO_154000 := n4_; have HO_154001 := n5_; have HO156 := n6_; have BK104 := n7_; have BK120 := n8_; have BK143 := n9_; have BK153 := n10_; have HB := n11_; clear n0_ n1_ n2_ n3_ n4_ n5_ n6_ n7_ n8_ n9_ n10_ n11_; (try clear hb); (try clear hb2); (try clear hk); (try clear hi); (try clear ho0); have hnb101 := NB153_120.out; have hnc101 := NB120_153.out; have hcz102_0 : w100.cell? ⟨gb153, 0, none⟩ = some (.slice Ao83 t144.length co83) := (blk_cell BK153.out 0).trans rfl; have hcz102_1 : w100.cell? ⟨gb153, 1, none⟩ = some (.slice Ao88 t147.length co88) := (blk_cell BK153.out 1).trans rfl; have hcz102_2 : w100.cell? ⟨gb153, 2, none⟩ = some (.int .i64 t150) := (blk_cell BK153.out 2).trans rfl; have hcz102_3 : w100.cell? ⟨gb153, 3, none⟩ = some (.bool t151) := (blk_cell BK153.out 3).trans rfl; have hfz102_0 := blk_frozen BK153.out 0; have hfz102_1 := blk_frozen BK153.out 1; have hfz102_2 := blk_frozen BK153.out 2; have hfz102_3 := blk_frozen BK153.out 3) | (go_at_call 21; (with_reducible refine (disk_Read.calls (fun k_ => (k_ ≠ gb104 ∧ (k_ ≠ gb120 ∧ (k_ ≠ gb143 ∧ k_ ≠ gb153)))) _ _ t144 (fun k_ => (k_ ≠ gb104 ∧ (k_ ≠ gb120 ∧ (k_ ≠ gb143 ∧ k_ ≠ gb153)))) _ _ t147 t150 t151 x23_4 t158 t161 _ ?side1 ?side2 A91.out).mono ?_); (case side1 => exact HO_154000.out); (case side2 => exact HO_154001.out); rintro e w103 ⟨v159, rfl, ho0, hb⟩; have n0_ := Aside0.mk (Kd.V_below (by (with_reducible repeat (first | apply Kd.V_alloc | apply Kd.V_drewN | apply Kd.V_drew)); exact HO_121000.out) hb); have n1_ := Aside0.mk (Kd.V_below (by (with_reducible repeat (first | apply Kd.V_alloc | apply Kd.V_drewN | apply Kd.V_drew)); exact HO_121001.out) hb); have n2_ := Aside0.mk (Kd.V_below (by (with_reducible repeat (first | apply Kd.V_alloc | apply Kd.V_drewN | apply Kd.V_drew)); exact HO_144000.out) hb); have n3_ := Aside0.mk (Kd.V_below (by (with_reducible repeat (first | apply Kd.V_alloc | apply Kd.V_drewN | apply Kd.V_drew)); exact HO_144001.out) hb); have n4_ := Aside0.mk (Kd.V_below (by (with_reducible repeat (first | apply Kd.V_alloc | apply Kd.V_drewN | apply Kd.V_drew)); exact HO_154000.out) hb); have n5_ := Aside0.mk (Kd.V_below (by (with_reducible repeat (first | apply Kd.V_alloc | apply Kd.V_drewN | apply Kd.V_drew)); exact HO_154001.out) hb); have n6_ := Aside0.mk (Kd.V_below (by (with_reducible repeat (first | apply Kd.V_alloc | apply Kd.V_drewN | apply Kd.V_drew)); exact HO156.out) hb); have n7_ := Aside0.mk (Kd.V_lower (Kd.V_mono (ok' := fun k_ => k_ ≠ gb104 ∧ k_ ≠ gb120 ∧ k_ ≠ gb143 ∧ k_ ≠ gb153) ho0 (fun k_ hk_ => ⟨Or.elim hk_ (fun hs_ => Or.elim hs_ (fun hs_ => hs_.1) (fun hs_ => hs_.1)) (fun hn_ => (Kd.freshB (g := gb104) (o := .cells #[.slice A0_0 l0_0.length c0_0, .slice A0_1 l0_1.length c0_1, .int .i64 a0_2, .bool a0_3] 25 (0, 0)) (zk BK104.out) k_ hn_)), Or.elim hk_ (fun hs_ => Or.elim hs_ (fun hs_ => hs_.2.1) (fun hs_ => hs_.2.1)) (fun hn_ => (Kd.freshB (g := gb120) (o := .cells #[.slice Ao29 t111.length co29, .slice Ao32 t114.length co32, .int .i64 t117, .bool t118] 25 (0, 0)) (zk BK120.out) k_ hn_)), Or.elim hk_ (fun hs_ => Or.elim hs_ (fun hs_ => hs_.2.2.1) (fun hs_ => hs_.2.2.1)) (fun hn_ => (Kd.freshB (g := gb143) (o := .cells #[.slice Ao74 t134.length co74, .slice Ao78 t137.length co78, .int .i64 t140, .bool t141] 25 (0, 0)) (zk BK143.out) k_ hn_)), Or.elim hk_ (fun hs_ => Or.elim hs_ (fun hs_ => hs_.2.2.2) (fun hs_ => hs_.2.2.2)) (fun hn_ => (Kd.freshB (g := gb153) (o := .cells #[.slice Ao83 t144.length co83, .slice Ao88 t147.length co88, .int .i64 t150, .bool t151] 25 (0, 0)) (zk BK153.out) k_ hn_))⟩)) (below_size (by repeat (first | (with_reducible first | exact HB.out | apply below_alloc | apply pw_below_drewN | apply below_drew1 | refine below_set ?_ GE104.out | refine below_set ?_ GE120.out | refine below_set ?_ GE143.out | refine below_set ?_ GE153.out) | exact HB.out)))); have n8_ := Aside0.mk (zb BK104.out hb); have n9_ := Aside0.mk (zb BK120.out hb); have n10_ := Aside0.mk (zb BK143.out hb); have n11_ := Aside0.mk (zb BK153.out hb); have n12_ := Aside0.mk (below_step (by repeat (first | (with_reducible first | exact HB.out | apply below_alloc | apply pw_below_drewN | apply below_drew1 | refine below_set ?_ GE104.out | refine below_set ?_ GE120.out | refine below_set ?_ GE143.out | refine below_set ?_ GE153.out) | exact HB.out)) hb); clear HO_121000; clear HO_121001; clear HO_144000; clear HO_144001; clear HO_154000; clear HO_154001; clear HO156; clear BK104; clear BK120; clear BK143; clear BK153; clear HB; have HO_121000 := n0_; have HO_121001 := n1_; have HO_144000 := n2_; have HO_144001 := n3_; have HO_154000 := n4_; have HO_154001 := n5_; have HO156 := n6_; have HO160 := n7_; have BK104 := n8_; have BK120 := n9_; have BK143 := n10_; have BK153 := n11_; have HB := n12_; clear n0_ n1_ n2_ n3_ n4_ n5_ n6_ n7_ n8_ n9_ n10_ n11_ n12_; (try clear hb); (try clear hb2); (try clear hk); (try clear hi); (try clear ho0)))
                (try simp only [Act.put, List.setIfInBounds_toArray, List.set_cons_zero, List.set_cons_succ])
                go_cut [162] (fun v162 wc => ∃ (kq : Nat) (x162_91 : Bool), v162 = .bool x162_91 ∧ Aside0 (fastilaw04_DiskReads.j4 kq x23_4 x162_91 l0_0 l0_1 a0_2 a0_3 t134 t137 t140 t141 t144 t147 t150 t151 = some r) ∧ Aside0 (kq ≤ k4) ∧ Aside0 (Kd.V (Kd.slice 5 (Kd.int .u8)) 35 wc w.heap.size (fun k_ => k_ ≠ gb104 ∧ k_ ≠ gb120 ∧ k_ ≠ gb143 ∧ k_ ≠ gb153) (.slice Ao29 t111.length co29) t111) ∧ Aside0 (Kd.V k54 54 wc w.heap.size (fun k_ => k_ ≠ gb104 ∧ k_ ≠ gb120 ∧ k_ ≠ gb143 ∧ k_ ≠ gb153) (.slice Ao32 t114.length co32) t114) ∧ Aside0 (Kd.V (Kd.slice 5 (Kd.int .u8)) 35 wc w.heap.size (fun k_ => k_ ≠ gb104 ∧ k_ ≠ gb120 ∧ k_ ≠ gb143 ∧ k_ ≠ gb153) (.slice Ao74 t134.length co74) t134) ∧ Aside0 (Kd.V k54 54 wc w.heap.size (fun k_ => k_ ≠ gb104 ∧ k_ ≠ gb120 ∧ k_ ≠ gb143 ∧ k_ ≠ gb153) (.slice Ao78 t137.length co78) t137) ∧ Aside0 (Kd.V (Kd.slice 5 (Kd.int .u8)) 35 wc w.heap.size (fun k_ => k_ ≠ gb104 ∧ k_ ≠ gb120 ∧ k_ ≠ gb143 ∧ k_ ≠ gb153) (.slice Ao83 t144.length co83) t144) ∧ Aside0 (Kd.V k54 54 wc w.heap.size (fun k_ => k_ ≠ gb104 ∧ k_ ≠ gb120 ∧ k_ ≠ gb143 ∧ k_ ≠ gb153) (.slice Ao88 t147.length co88) t147) ∧ Aside0 (wc.heap[gb104]? = some (.cells #[(.slice A0_0 l0_0.length c0_0), (.slice A0_1 l0_1.length c0_1), .int .i64 a0_2, .bool a0_3] 25 (0, 0))) ∧ Aside0 (wc.heap[gb120]? = some (.cells #[(.slice Ao29 t111.length co29), (.slice Ao32 t114.length co32), .int .i64 t117, .bool t118] 25 (0, 0))) ∧ Aside0 (wc.heap[gb143]? = some (.cells #[(.slice Ao74 t134.length co74), (.slice Ao78 t137.length co78), .int .i64 t140, .bool t141] 25 (0, 0))) ∧ Aside0 (wc.heap[gb153]? = some (.cells #[(.slice Ao83 t144.length co83), (.slice Ao88 t147.length co88), .int .i64 t150, .bool t151] 25 (0, 0))) ∧ Aside0 (Below w.heap.size w wc))
                case first =>
                 have H := HC92.out
                 clear HC92
                 by_cases c104 : t157 = 0
                 ·rw [if_pos c104] at H
                  have c104b0 : (t157 == 0) = true := beq_iff_eq.mpr c104
                  have c104b1 : (t157 != 0) = false := bne_eq_false_iff_eq.mpr c104
                  clear c104
                  (first | rw [c104b0] | (simp only [i64_w, i32_w]; rw [c104b0]) | skip)
                  by_cases c105 : t161 = 0
                  ·rw [if_pos c105] at H
                   have c105b0 : (t161 == 0) = true := beq_iff_eq.mpr c105
                   have c105b1 : (t161 != 0) = false := bne_eq_false_iff_eq.mpr c105
                   clear c105
                   have H' := Aside0.mk H
                   clear H
                   have hcv106 := V_string_ (P := Try.prog) Try.underlying35 Try.underlying5 Try.underlying9 HO156.out
                   have hcq106 := fun n_ : Nat => V_string_ (P := Try.prog) Try.underlying35 Try.underlying5 Try.underlying9 (Kd.V_drewN HO156.out n_)
                   have hcv107 := V_string_ (P := Try.prog) Try.underlying35 Try.underlying5 Try.underlying9 HO160.out
                   have hcq107 := fun n_ : Nat => V_string_ (P := Try.prog) Try.underlying35 Try.underlying5 Try.underlying9 (Kd.V_drewN HO160.out n_)
                   go_wp2
                   repeat (go_quiet (fail); try go_wp2)
                   go_meet
                   case rel => exact ⟨_, (((strOfNums t154).toList != (strOfNums t158).toList)), (by first | rfl | (simp; done) | (simp [*]; done)), H', ⟨by have := HJ7.out; have := HJ22.out; have := HJ36.out; have := HK4.out; first | omega | exact Nat.le_refl _⟩, ⟨by (with_reducible repeat (first | apply Kd.V_alloc | apply Kd.V_drewN | apply Kd.V_drew)); exact HO_121000.out⟩, ⟨by (with_reducible repeat (first | apply Kd.V_alloc | apply Kd.V_drewN | apply Kd.V_drew)); exact HO_121001.out⟩, ⟨by (with_reducible repeat (first | apply Kd.V_alloc | apply Kd.V_drewN | apply Kd.V_drew)); exact HO_144000.out⟩, ⟨by (with_reducible repeat (first | apply Kd.V_alloc | apply Kd.V_drewN | apply Kd.V_drew)); exact HO_144001.out⟩, ⟨by (with_reducible repeat (first | apply Kd.V_alloc | apply Kd.V_drewN | apply Kd.V_drew)); exact HO_154000.out⟩, ⟨by (with_reducible repeat (first | apply Kd.V_alloc | apply Kd.V_drewN | apply Kd.V_drew)); exact HO_154001.out⟩, ⟨zk BK104.out⟩, ⟨zk BK120.out⟩, ⟨zk BK143.out⟩, ⟨zk BK153.out⟩, ⟨by repeat (first | (with_reducible first | exact HB.out | apply below_alloc | apply pw_below_drewN | apply below_drew1 | refine below_set ?_ GE104.out | refine below_set ?_ GE120.out | refine below_set ?_ GE143.out | refine below_set ?_ GE153.out) | exact HB.out)⟩⟩
                  ·rw [if_neg c105] at H
                   have c105b0 : (t161 == 0) = false := beq_eq_false_iff_ne.mpr c105
                   have c105b1 : (t161 != 0) = true := bne_iff_ne.mpr c105
                   have H' := Aside0.mk H
                   clear H
                   go_wp2
                   repeat (go_quiet (fail); try go_wp2)
                   go_meet
                   case rel => exact ⟨_, (true), (by first | rfl | (simp; done) | (simp [*]; done)), H', ⟨by have := HJ7.out; have := HJ22.out; have := HJ36.out; have := HK4.out; first | omega | exact Nat.le_refl _⟩, ⟨by (with_reducible repeat (first | apply Kd.V_alloc | apply Kd.V_drewN | apply Kd.V_drew)); exact HO_121000.out⟩, ⟨by (with_reducible repeat (first | apply Kd.V_alloc | apply Kd.V_drewN | apply Kd.V_drew)); exact HO_121001.out⟩, ⟨by (with_reducible repeat (first | apply Kd.V_alloc | apply Kd.V_drewN | apply Kd.V_drew)); exact HO_144000.out⟩, ⟨by (with_reducible repeat (first | apply Kd.V_alloc | apply Kd.V_drewN | apply Kd.V_drew)); exact HO_144001.out⟩, ⟨by (with_reducible repeat (first | apply Kd.V_alloc | apply Kd.V_drewN | apply Kd.V_drew)); exact HO_154000.out⟩, ⟨by (with_reducible repeat (first | apply Kd.V_alloc | apply Kd.V_drewN | apply Kd.V_drew)); exact HO_154001.out⟩, ⟨zk BK104.out⟩, ⟨zk BK120.out⟩, ⟨zk BK143.out⟩, ⟨zk BK153.out⟩, ⟨by repeat (first | (with_reducible first | exact HB.out | apply below_alloc | apply pw_below_drewN | apply below_drew1 | refine below_set ?_ GE104.out | refine below_set ?_ GE120.out | refine below_set ?_ GE143.out | refine below_set ?_ GE153.out) | exact HB.out)⟩⟩
                 ·rw [if_neg c104] at H
                  have c104b0 : (t157 == 0) = false := beq_eq_false_iff_ne.mpr c104
                  have c104b1 : (t157 != 0) = true := bne_iff_ne.mpr c104
                  (first | rw [c104b0] | (simp only [i64_w, i32_w]; rw [c104b0]) | skip)
                  have H' := Aside0.mk H
                  clear H
                  go_wp2
                  repeat (go_quiet (fail); try go_wp2)
                  go_meet
                  case rel => exact ⟨_, (true), (by first | rfl | (simp; done) | (simp [*]; done)), H', ⟨by have := HJ7.out; have := HJ22.out; have := HJ36.out; have := HK4.out; first | omega | exact Nat.le_refl _⟩, ⟨by (with_reducible repeat (first | apply Kd.V_alloc | apply Kd.V_drewN | apply Kd.V_drew)); exact HO_121000.out⟩, ⟨by (with_reducible repeat (first | apply Kd.V_alloc | apply Kd.V_drewN | apply Kd.V_drew)); exact HO_121001.out⟩, ⟨by (with_reducible repeat (first | apply Kd.V_alloc | apply Kd.V_drewN | apply Kd.V_drew)); exact HO_144000.out⟩, ⟨by (with_reducible repeat (first | apply Kd.V_alloc | apply Kd.V_drewN | apply Kd.V_drew)); exact HO_144001.out⟩, ⟨by (with_reducible repeat (first | apply Kd.V_alloc | apply Kd.V_drewN | apply Kd.V_drew)); exact HO_154000.out⟩, ⟨by (with_reducible repeat (first | apply Kd.V_alloc | apply Kd.V_drewN | apply Kd.V_drew)); exact HO_154001.out⟩, ⟨zk BK104.out⟩, ⟨zk BK120.out⟩, ⟨zk BK143.out⟩, ⟨zk BK153.out⟩, ⟨by repeat (first | (with_reducible first | exact HB.out | apply below_alloc | apply pw_below_drewN | apply below_drew1 | refine below_set ?_ GE104.out | refine below_set ?_ GE120.out | refine below_set ?_ GE143.out | refine below_set ?_ GE153.out) | exact HB.out)⟩⟩
                case rest =>
                 clear HC92
                 try clear c1
                 try clear hcv1
                 try clear c2
                 try clear p2
                 try clear c3
                 try clear c4
                 try clear q5
                 try clear hcv5
                 try clear c6
                 try clear q6
                 try clear hcv6
                 try clear c7
                 try clear c8
                 try clear c9
                 try clear c10
                 try clear hcv10
                 try clear c12
                 try clear c13
                 try clear c13b0
                 try clear c13b1
                 try clear c20
                 try clear c30
                 try clear c33
                 try clear c33b0
                 try clear c33b1
                 try clear c34
                 try clear c38
                 try clear c43
                 try clear c43b0
                 try clear c43b1
                 try clear c44
                 try clear c44b0
                 try clear c44b1
                 try clear c45
                 try clear c45b0
                 try clear c45b1
                 try clear c46
                 try clear c46b0
                 try clear c46b1
                 try clear c47
                 try clear c47b0
                 try clear c47b1
                 try clear c48
                 try clear c48b0
                 try clear c48b1
                 try clear c49
                 try clear c49b0
                 try clear c49b1
                 try clear q51
                 try clear hcv52
                 try clear hcv53
                 try clear q55
                 try clear hcv56
                 try clear hcv57
                 try clear hcv58
                 try clear hcv59
                 try clear q61
                 try clear hcv62
                 try clear hcv63
                 try clear c65
                 try clear c67
                 try clear c67b0
                 try clear c67b1
                 try clear c69
                 try clear c69b0
                 try clear c69b1
                 try clear c70
                 try clear c75
                 try clear c76
                 try clear c84
                 try clear c85
                 try clear c86
                 try clear c89
                 try clear c89b0
                 try clear c93
                 try clear c94
                 try clear c95
                 try clear c97
                 try clear c98
                 try clear c101
                 try clear c104
                 try clear c104b0
                 try clear c104b1
                 try clear c105
                 try clear c105b0
                 try clear c105b1
                 try clear hcv106
                 try clear hcv107
                 try clear hcz102_0
                 try clear hcz102_1
                 try clear hcz102_2
                 try clear hcz102_3
                 try clear hcz14_0
                 try clear hcz14_1
                 try clear hcz14_2
                 try clear hcz14_3
                 try clear hcz16_0
                 try clear hcz16_1
                 try clear hcz16_2
                 try clear hcz16_3
                 try clear hcz18_0
                 try clear hcz18_1
                 try clear hcz18_2
                 try clear hcz18_3
                 try clear hcz24_0
                 try clear hcz24_1
                 try clear hcz24_2
                 try clear hcz24_3
                 try clear hcz26_0
                 try clear hcz26_1
                 try clear hcz26_2
                 try clear hcz26_3
                 try clear hcz31_0
                 try clear hcz31_1
                 try clear hcz31_2
                 try clear hcz31_3
                 try clear hcz39_0
                 try clear hcz39_1
                 try clear hcz39_2
                 try clear hcz39_3
                 try clear hcz41_0
                 try clear hcz41_1
                 try clear hcz41_2
                 try clear hcz41_3
                 try clear hcz71_0
                 try clear hcz71_1
                 try clear hcz71_2
                 try clear hcz71_3
                 try clear hcz77_0
                 try clear hcz77_1
                 try clear hcz77_2
                 try clear hcz77_3
                 try clear hcz80_0
                 try clear hcz80_1
                 try clear hcz80_2
                 try clear hcz80_3
                 try clear hcz87_0
                 try clear hcz87_1
                 try clear hcz87_2
                 try clear hcz87_3
                 try clear hcz96_0
                 try clear hcz96_1
                 try clear hcz96_2
                 try clear hcz96_3
                 try clear hcz99_0
                 try clear hcz99_1
                 try clear hcz99_2
                 try clear hcz99_3
                 try clear hfz102_0
                 try clear hfz102_1
                 try clear hfz102_2
                 try clear hfz102_3
                 try clear hfz14_0
                 try clear hfz14_1
                 try clear hfz14_2
                 try clear hfz14_3
                 try clear hfz16_0
                 try clear hfz16_1
                 try clear hfz16_2
                 try clear hfz16_3
                 try clear hfz18_0
                 try clear hfz18_1
                 try clear hfz18_2
                 try clear hfz18_3
                 try clear hfz24_0
                 try clear hfz24_1
                 try clear hfz24_2
                 try clear hfz24_3
                 try clear hfz26_0
                 try clear hfz26_1
                 try clear hfz26_2
                 try clear hfz26_3
                 try clear hfz31_0
                 try clear hfz31_1
                 try clear hfz31_2
                 try clear hfz31_3
                 try clear hfz39_0
                 try clear hfz39_1
                 try clear hfz39_2
                 try clear hfz39_3
                 try clear hfz41_0
                 try clear hfz41_1
                 try clear hfz41_2
                 try clear hfz41_3
                 try clear hfz71_0
                 try clear hfz71_1
                 try clear hfz71_2
                 try clear hfz71_3
                 try clear hfz77_0
                 try clear hfz77_1
                 try clear hfz77_2
                 try clear hfz77_3
                 try clear hfz80_0
                 try clear hfz80_1
                 try clear hfz80_2
                 try clear hfz80_3
                 try clear hfz87_0
                 try clear hfz87_1
                 try clear hfz87_2
                 try clear hfz87_3
                 try clear hfz96_0
                 try clear hfz96_1
                 try clear hfz96_2
                 try clear hfz96_3
                 try clear hfz99_0
                 try clear hfz99_1
                 try clear hfz99_2
                 try clear hfz99_3
                 try clear p2
                 try clear q5
                 try clear q51
                 try clear q55
                 try clear q6
                 try clear q61
                 obtain ⟨kq, x162_91, rfl, HA, HJ91, HO_121000, HO_121001, HO_144000, HO_144001, HO_154000, HO_154001, BK104, BK120, BK143, BK153, HB⟩ := hcut
                 cases kq with
                 | zero => exact absurd HA.out (by simp [fastilaw04_DiskReads.j4])
                 | succ kj91 =>
                  have H := HA.out
                  clear HA
                  simp only [fastilaw04_DiskReads.j4] at H
                  by_cases c108 : x162_91 = true
                  ·subst c108
                   have H1 : (some false) = some r := by rw [if_pos rfl] at H; exact H
                   clear H
                   have H := H1
                   clear H1
                   obtain rfl := Option.some.inj H
                   go_wp2
                   repeat (go_quiet (fail); try go_wp2)
                   go_ret
                   exact ⟨by first | rfl | (simp [errW_none, errW_some] <;> rfl) | (simp [*, errW_none, errW_some] <;> rfl), by repeat (first | (with_reducible first | exact HB.out | apply below_alloc | apply pw_below_drewN | apply below_drew1 | refine below_set ?_ GE104.out | refine below_set ?_ GE120.out | refine below_set ?_ GE143.out | refine below_set ?_ GE153.out) | exact HB.out)⟩
                  ·replace c108 := Bool.eq_false_iff.mpr c108
                   subst c108
                   have H1 : (fastilaw04_DiskReads.l0 kj91 (wrap64 (x23_4 + 1)) l0_0 l0_1 a0_2 a0_3 t134 t137 t140 t141 t144 t147 t150 t151) = some r := by rw [if_neg (show ¬ (false = true) by decide)] at H; exact H
                   clear H
                   have H := H1
                   clear H1
                   have H' := Aside0.mk H
                   clear H
                   go_wp2
                   repeat (go_quiet (fail); try go_wp2)
                   go_roundg kj91
                   case measure => have := HJ7.out; have := HJ22.out; have := HJ36.out; have := HK4.out; have := HJ91.out; omega
                   case rel => exact ⟨(wrap64 (x23_4 + 1)), (by first | rfl | (simp; done) | (simp [*]; done)), H', ⟨by have := HJ7.out; have := HJ22.out; have := HJ36.out; have := HK4.out; have := HJ91.out; omega⟩, ⟨by (with_reducible repeat (first | apply Kd.V_alloc | apply Kd.V_drewN | apply Kd.V_drew)); exact HO_121000.out⟩, ⟨by (with_reducible repeat (first | apply Kd.V_alloc | apply Kd.V_drewN | apply Kd.V_drew)); exact HO_121001.out⟩, ⟨by (with_reducible repeat (first | apply Kd.V_alloc | apply Kd.V_drewN | apply Kd.V_drew)); exact HO_144000.out⟩, ⟨by (with_reducible repeat (first | apply Kd.V_alloc | apply Kd.V_drewN | apply Kd.V_drew)); exact HO_144001.out⟩, ⟨by (with_reducible repeat (first | apply Kd.V_alloc | apply Kd.V_drewN | apply Kd.V_drew)); exact HO_154000.out⟩, ⟨by (with_reducible repeat (first | apply Kd.V_alloc | apply Kd.V_drewN | apply Kd.V_drew)); exact HO_154001.out⟩, ⟨zk BK104.out⟩, ⟨zk BK120.out⟩, ⟨zk BK143.out⟩, ⟨zk BK153.out⟩, ⟨by repeat (first | (with_reducible first | exact HB.out | apply below_alloc | apply pw_below_drewN | apply below_drew1 | refine below_set ?_ GE104.out | refine below_set ?_ GE120.out | refine below_set ?_ GE143.out | refine below_set ?_ GE153.out) | exact HB.out)⟩⟩
               ·rw [if_neg c89] at H
                have c89b0 : decide (x23_4 < (l0_0.length : Int)) = false := decide_eq_false c89
                clear c89
                by_cases c109 : (t147.length : Int) = 0
                ·rw [if_pos c109] at H
                 have c109b0 : ((t147.length : Int) == 0) = true := beq_iff_eq.mpr c109
                 have c109b1 : ((t147.length : Int) != 0) = false := bne_eq_false_iff_eq.mpr c109
                 clear c109
                 replace H := Option.bind_eq_some_iff.mp H
                 obtain ⟨t162, A1100, H⟩ := H
                 replace H : (some (t162 == 0)) = some r := H
                 have A110 := Aside0.mk A1100
                 clear A1100
                 obtain rfl := Option.some.inj H
                 have hnb111 := NB104_120.out
                 have hnc111 := NB120_104.out
                 have hnb112 := NB104_143.out
                 have hnc112 := NB143_104.out
                 have hnb113 := NB104_153.out
                 have hnc113 := NB153_104.out
                 have hcz114_0 : wr.cell? ⟨gb104, 0, none⟩ = some (.slice A0_0 l0_0.length c0_0) := (blk_cell BK104.out 0).trans rfl
                 have hcz114_1 : wr.cell? ⟨gb104, 1, none⟩ = some (.slice A0_1 l0_1.length c0_1) := (blk_cell BK104.out 1).trans rfl
                 have hcz114_2 : wr.cell? ⟨gb104, 2, none⟩ = some (.int .i64 a0_2) := (blk_cell BK104.out 2).trans rfl
                 have hcz114_3 : wr.cell? ⟨gb104, 3, none⟩ = some (.bool a0_3) := (blk_cell BK104.out 3).trans rfl
                 have hfz114_0 := blk_frozen BK104.out 0
                 have hfz114_1 := blk_frozen BK104.out 1
                 have hfz114_2 := blk_frozen BK104.out 2
                 have hfz114_3 := blk_frozen BK104.out 3
                 have hnb115 := NB153_120.out
                 have hnc115 := NB120_153.out
                 have hnb116 := NB153_143.out
                 have hnc116 := NB143_153.out
                 have hcz117_0 : wr.cell? ⟨gb153, 0, none⟩ = some (.slice Ao83 t144.length co83) := (blk_cell BK153.out 0).trans rfl
                 have hcz117_1 : wr.cell? ⟨gb153, 1, none⟩ = some (.slice Ao88 t147.length co88) := (blk_cell BK153.out 1).trans rfl
                 have hcz117_2 : wr.cell? ⟨gb153, 2, none⟩ = some (.int .i64 t150) := (blk_cell BK153.out 2).trans rfl
                 have hcz117_3 : wr.cell? ⟨gb153, 3, none⟩ = some (.bool t151) := (blk_cell BK153.out 3).trans rfl
                 have hfz117_0 := blk_frozen BK153.out 0
                 have hfz117_1 := blk_frozen BK153.out 1
                 have hfz117_2 := blk_frozen BK153.out 2
                 have hfz117_3 := blk_frozen BK153.out 3
                 go_wp2_with (first | (go_at_call 15; (with_reducible refine (disk_Check.calls _ _ t144 _ _ t147 t150 t151 t162 _ ?side1 ?side2 ?side3 ?side4 A110.out).mono ?_); (case side1 => repeat (first | exact (Kd.V_reads' HO_154000.out).2.2 | (with_reducible refine Kd.C_alloc ?_ _) | (with_reducible refine Kd.C_drewN ?_ _) | (with_reducible refine Kd.C_drew ?_))); (case side2 => exact (Kd.V_reads' HO_154000.out).2.1); (case side3 => repeat (first | exact (Kd.V_reads' HO_154001.out).2.2 | (with_reducible refine Kd.C_alloc ?_ _) | (with_reducible refine Kd.C_drewN ?_ _) | (with_reducible refine Kd.C_drew ?_))); (case side4 => exact (Kd.V_reads' HO_154001.out).2.1); rintro e w118 ⟨rfl, hb⟩; have n0_ := Aside0.mk (Kd.V_below (by (with_reducible repeat (first | apply Kd.V_alloc | apply Kd.V_drewN | apply Kd.V_drew)); exact HO_121000.out) hb); have n1_ := Aside0.mk (Kd.V_below (by (with_reducible repeat (first | apply Kd.V_alloc | apply Kd.V_drewN | apply Kd.V_drew)); exact HO_121001.out) hb); have n2_ := Aside0.mk (Kd.V_below (by (with_reducible repeat (first | apply Kd.V_alloc | apply Kd.V_drewN | apply Kd.V_drew)); exact HO_144000.out) hb); have n3_ := Aside0.mk (Kd.V_below (by (with_reducible repeat (first | apply Kd.V_alloc | apply Kd.V_drewN | apply Kd.V_drew)); exact HO_144001.out) hb); have n4_ := Aside0.mk (Kd.V_below (by (with_reducible repeat (first | apply Kd.V_alloc | apply Kd.V_drewN | apply Kd.V_drew)); exact HO_154000.out) hb); have n5_ := Aside0.mk (Kd.V_below (by (with_reducible repeat (first | apply Kd.V_alloc | apply Kd.V_drewN | apply Kd.V_drew)); exact HO_154001.out) hb); have n6_ := Aside0.mk (zb BK104.out hb); have n7_ := Aside0.mk (zb BK120.out hb); have n8_ := Aside0.mk (zb BK143.out hb); have n9_ := Aside0.mk (zb BK153.out hb); have n10_ := Aside0.mk (below_step (by repeat (first | (with_reducible first | exact HB.out | apply below_alloc | apply pw_below_drewN | apply below_drew1 | refine below_set ?_ GE104.out | refine below_set ?_ GE120.out | refine below_set ?_ GE143.out | refine below_set ?_ GE153.out) | exact HB.out)) hb); clear HO_121000; clear HO_121001; clear HO_144000; clear HO_144001; clear HO_154000; clear HO_154001; clear BK104; clear BK120; clear BK143; clear BK153; clear HB; have HO_121000 := n0_; have HO_121001 := n1_; have HO_144000 := n2_; have HO_144001 := n3_; have HO_154000 := n4_; have HO_154001 := n5_; have BK104 := n6_; have BK120 := n7_; have BK143 := n8_; have BK153 := n9_; have HB := n10_; clear n0_ n1_ n2_ n3_ n4_ n5_ n6_ n7_ n8_ n9_ n10_; (try clear hb); (try clear hb2); (try clear hk); (try clear hi)))
                 go_ret
                 exact ⟨by first | rfl | (simp [errW_none, errW_some] <;> rfl) | (simp [*, errW_none, errW_some] <;> rfl), by repeat (first | (with_reducible first | exact HB.out | apply below_alloc | apply pw_below_drewN | apply below_drew1 | refine below_set ?_ GE104.out | refine below_set ?_ GE120.out | refine below_set ?_ GE143.out | refine below_set ?_ GE153.out) | exact HB.out)⟩
                ·rw [if_neg c109] at H
                 have c109b0 : ((t147.length : Int) == 0) = false := beq_eq_false_iff_ne.mpr c109
                 have c109b1 : ((t147.length : Int) != 0) = true := bne_iff_ne.mpr c109
                 have c109b2 : ¬ (t147 = []) := fun h_ => c109 (by rw [h_]; rfl)
                 obtain rfl := Option.some.inj H
                 have hnb119 := NB104_120.out
                 have hnc119 := NB120_104.out
                 have hnb120 := NB104_143.out
                 have hnc120 := NB143_104.out
                 have hnb121 := NB104_153.out
                 have hnc121 := NB153_104.out
                 have hcz122_0 : wr.cell? ⟨gb104, 0, none⟩ = some (.slice A0_0 l0_0.length c0_0) := (blk_cell BK104.out 0).trans rfl
                 have hcz122_1 : wr.cell? ⟨gb104, 1, none⟩ = some (.slice A0_1 l0_1.length c0_1) := (blk_cell BK104.out 1).trans rfl
                 have hcz122_2 : wr.cell? ⟨gb104, 2, none⟩ = some (.int .i64 a0_2) := (blk_cell BK104.out 2).trans rfl
                 have hcz122_3 : wr.cell? ⟨gb104, 3, none⟩ = some (.bool a0_3) := (blk_cell BK104.out 3).trans rfl
                 have hfz122_0 := blk_frozen BK104.out 0
                 have hfz122_1 := blk_frozen BK104.out 1
                 have hfz122_2 := blk_frozen BK104.out 2
                 have hfz122_3 := blk_frozen BK104.out 3
                 have hnb123 := NB153_120.out
                 have hnc123 := NB120_153.out
                 have hnb124 := NB153_143.out
                 have hnc124 := NB143_153.out
                 have hcz125_0 : wr.cell? ⟨gb153, 0, none⟩ = some (.slice Ao83 t144.length co83) := (blk_cell BK153.out 0).trans rfl
                 have hcz125_1 : wr.cell? ⟨gb153, 1, none⟩ = some (.slice Ao88 t147.length co88) := (blk_cell BK153.out 1).trans rfl
                 have hcz125_2 : wr.cell? ⟨gb153, 2, none⟩ = some (.int .i64 t150) := (blk_cell BK153.out 2).trans rfl
                 have hcz125_3 : wr.cell? ⟨gb153, 3, none⟩ = some (.bool t151) := (blk_cell BK153.out 3).trans rfl
                 have hfz125_0 := blk_frozen BK153.out 0
                 have hfz125_1 := blk_frozen BK153.out 1
                 have hfz125_2 := blk_frozen BK153.out 2
                 have hfz125_3 := blk_frozen BK153.out 3
                 go_wp2
                 repeat (go_quiet (fail); try go_wp2)
                 go_ret
                 exact ⟨by first | rfl | (simp [errW_none, errW_some] <;> rfl) | (simp [*, errW_none, errW_some] <;> rfl), by repeat (first | (with_reducible first | exact HB.out | apply below_alloc | apply pw_below_drewN | apply below_drew1 | refine below_set ?_ GE104.out | refine below_set ?_ GE120.out | refine below_set ?_ GE143.out | refine below_set ?_ GE153.out) | exact HB.out)⟩
            ·rw [if_neg c69] at H
             have c69b0 : (t152 == 0) = false := beq_eq_false_iff_ne.mpr c69
             have c69b1 : (t152 != 0) = true := bne_iff_ne.mpr c69
             by_cases c126 : t152 = 40
             ·rw [if_pos c126] at H
              have c126b0 : (t152 == 40) = true := beq_iff_eq.mpr c126
              have c126b1 : (t152 != 40) = false := bne_eq_false_iff_eq.mpr c126
              clear c126
              obtain rfl := Option.some.inj H
              have hnb127 := NB120_104.out
              have hnc127 := NB104_120.out
              have hcz128_0 : wc.cell? ⟨gb120, 0, none⟩ = some (.slice Ao29 t111.length co29) := (blk_cell BK120.out 0).trans rfl
              have hcz128_1 : wc.cell? ⟨gb120, 1, none⟩ = some (.slice Ao32 t114.length co32) := (blk_cell BK120.out 1).trans rfl
              have hcz128_2 : wc.cell? ⟨gb120, 2, none⟩ = some (.int .i64 t117) := (blk_cell BK120.out 2).trans rfl
              have hcz128_3 : wc.cell? ⟨gb120, 3, none⟩ = some (.bool t118) := (blk_cell BK120.out 3).trans rfl
              have hfz128_0 := blk_frozen BK120.out 0
              have hfz128_1 := blk_frozen BK120.out 1
              have hfz128_2 := blk_frozen BK120.out 2
              have hfz128_3 := blk_frozen BK120.out 3
              go_wp2_with (first | (go_at_call 19; (with_reducible refine (disk_Write.calls (fun k_ => (k_ ≠ gb104 ∧ k_ ≠ gb120)) _ _ t111 (fun k_ => (k_ ≠ gb104 ∧ k_ ≠ gb120)) _ _ t114 t117 t118 a2 _ _ l4 t134 t137 t140 t141 t142 _ ?side1 ?side2 ?side3 ?side4 A66.out).mono ?_); (case side1 => exact HO_121000.out); (case side2 => exact HO_121001.out); (case side3 => repeat (first | exact (Kd.C_below HR4.out HB.out) | (with_reducible refine Kd.C_alloc ?_ _) | (with_reducible refine Kd.C_drewN ?_ _) | (with_reducible refine Kd.C_drew ?_))); (case side4 => exact HC4.out); rintro e w129 ⟨v135, v138, rfl, ho0, ho1, hb⟩; have n0_ := Aside0.mk (Kd.V_below (by (with_reducible repeat (first | apply Kd.V_alloc | apply Kd.V_drewN | apply Kd.V_drew)); exact HO_121000.out) hb); have n1_ := Aside0.mk (Kd.V_below (by (with_reducible repeat (first | apply Kd.V_alloc | apply Kd.V_drewN | apply Kd.V_drew)); exact HO_121001.out) hb); have n2_ := Aside0.mk (Kd.V_lower (Kd.V_mono (ok' := fun k_ => k_ ≠ gb104 ∧ k_ ≠ gb120) ho0 (fun k_ hk_ => ⟨Or.elim hk_ (fun hs_ => Or.elim hs_ (fun hs_ => hs_.1) (fun hs_ => hs_.1)) (fun hn_ => (Kd.freshB (g := gb104) (o := .cells #[.slice A0_0 l0_0.length c0_0, .slice A0_1 l0_1.length c0_1, .int .i64 a0_2, .bool a0_3] 25 (0, 0)) (zk BK104.out) k_ hn_)), Or.elim hk_ (fun hs_ => Or.elim hs_ (fun hs_ => hs_.2) (fun hs_ => hs_.2)) (fun hn_ => (Kd.freshB (g := gb120) (o := .cells #[.slice Ao29 t111.length co29, .slice Ao32 t114.length co32, .int .i64 t117, .bool t118] 25 (0, 0)) (zk BK120.out) k_ hn_))⟩)) (below_size (by repeat (first | (with_reducible first | exact HB.out | apply below_alloc | apply pw_below_drewN | apply below_drew1 | refine below_set ?_ GE104.out | refine below_set ?_ GE120.out) | exact HB.out)))); have n3_ := Aside0.mk (Kd.V_lower (Kd.V_mono (ok' := fun k_ => k_ ≠ gb104 ∧ k_ ≠ gb120) ho1 (fun k_ hk_ => ⟨Or.elim hk_ (fun hs_ => Or.elim hs_ (fun hs_ => hs_.1) (fun hs_ => hs_.1)) (fun hn_ => (Kd.freshB (g := gb104) (o := .cells #[.slice A0_0 l0_0.length c0_0, .slice A0_1 l0_1.length c0_1, .int .i64 a0_2, .bool a0_3] 25 (0, 0)) (zk BK104.out) k_ hn_)), Or.elim hk_ (fun hs_ => Or.elim hs_ (fun hs_ => hs_.2) (fun hs_ => hs_.2)) (fun hn_ => (Kd.freshB (g := gb120) (o := .cells #[.slice Ao29 t111.length co29, .slice Ao32 t114.length co32, .int .i64 t117, .bool t118] 25 (0, 0)) (zk BK120.out) k_ hn_))⟩)) (below_size (by repeat (first | (with_reducible first | exact HB.out | apply below_alloc | apply pw_below_drewN | apply below_drew1 | refine below_set ?_ GE104.out | refine below_set ?_ GE120.out) | exact HB.out)))); have n4_ := Aside0.mk (zb BK104.out hb); have n5_ := Aside0.mk (zb BK120.out hb); have n6_ := Aside0.mk (below_step (by repeat (first | (with_reducible first | exact HB.out | apply below_alloc | apply pw_below_drewN | apply below_drew1 | refine below_set ?_ GE104.out | refine below_set ?_ GE120.out) | exact HB.out)) hb); clear HO_121000; clear HO_121001; clear BK104; clear BK120; clear HB; have HO_121000 := n0_; have HO_121001 := n1_; have HO136 := n2_; have HO139 := n3_; have BK104 := n4_; have BK120 := n5_; have HB := n6_; clear n0_ n1_ n2_ n3_ n4_ n5_ n6_; (try clear hb); (try clear hb2); (try clear hk); (try clear hi); (try clear ho0); (try clear ho1)) | ((with_reducible refine gate_dst (N := 19) rfl ?_); (try (refine gate_guard (by rfl) ?_; dsimp only)); refine box_event ?hg (N := 19) ?hd (cs := #[.slice none 0 0, .slice none 0 0, .int .i64 0, .bool false]) (t := 25) ?hr ?_; (case hd => rfl); (case hg => rfl); (case hr => first | (go_simp; done) | (go_simp; rfl)); intro gb143 hg w130 hbox hb; have n0_ := Aside0.mk (Kd.V_below (Kd.V_elderB (by (with_reducible repeat (first | apply Kd.V_alloc | apply Kd.V_drewN | apply Kd.V_drew)); exact HO_121000.out) gb143 (Nat.le_of_eq hg.symm)) hb); have n1_ := Aside0.mk (Kd.V_below (Kd.V_elderB (by (with_reducible repeat (first | apply Kd.V_alloc | apply Kd.V_drewN | apply Kd.V_drew)); exact HO_121001.out) gb143 (Nat.le_of_eq hg.symm)) hb); have n2_ := Aside0.mk (Kd.V_below (Kd.V_elderB (by (with_reducible repeat (first | apply Kd.V_alloc | apply Kd.V_drewN | apply Kd.V_drew)); exact HO136.out) gb143 (Nat.le_of_eq hg.symm)) hb); have n3_ := Aside0.mk (Kd.V_below (Kd.V_elderB (by (with_reducible repeat (first | apply Kd.V_alloc | apply Kd.V_drewN | apply Kd.V_drew)); exact HO139.out) gb143 (Nat.le_of_eq hg.symm)) hb); have n4_ := Aside0.mk (zb BK104.out hb); have n5_ := Aside0.mk (zb BK120.out hb); have n6_ := Aside0.mk (below_step (by repeat (first | (with_reducible first | exact HB.out | apply below_alloc | apply pw_below_drewN | apply below_drew1 | refine below_set ?_ GE104.out | refine below_set ?_ GE120.out) | exact HB.out)) hb); have n7_ := Aside0.mk (hbox); have n8_ := Aside0.mk ((by rw [hg]; exact (below_size (by repeat (first | (with_reducible first | exact HB.out | apply below_alloc | apply pw_below_drewN | apply below_drew1 | refine below_set ?_ GE104.out | refine below_set ?_ GE120.out) | exact HB.out))) : w.heap.size ≤ gb143)); have n9_ := Aside0.mk ((by rw [hg]; exact (below_size (by repeat (first | (with_reducible first | exact HB.out | apply below_alloc | apply pw_below_drewN | apply below_drew1 | refine below_set ?_ GE104.out | refine below_set ?_ GE120.out) | exact HB.out))) : w.heap.size ≤ gb143)); have n10_ := Aside0.mk ((by rw [hg]; exact Nat.ne_of_lt (blk_lt (zk BK104.out)) : gb104 ≠ gb143)); have n11_ := Aside0.mk ((by rw [hg]; exact Nat.ne_of_gt (blk_lt (zk BK104.out)) : gb143 ≠ gb104)); have n12_ := Aside0.mk ((by rw [hg]; exact Nat.ne_of_lt (blk_lt (zk BK120.out)) : gb120 ≠ gb143)); have n13_ := Aside0.mk ((by rw [hg]; exact Nat.ne_of_gt (blk_lt (zk BK120.out)) : gb143 ≠ gb120)); clear HO_121000; clear HO_121001; clear HO136; clear HO139; clear BK104; clear BK120; clear HB; have HO_121000 := n0_; have HO_121001 := n1_; have HO136 := n2_; have HO139 := n3_; have BK104 := n4_; have BK120 := n5_; have HB := n6_; have BK143 := n7_; have GW143 := n8_; have GE143 := n9_; have NB104_143 := n10_; have NB143_104 := n11_; have NB120_143 := n12_; have NB143_120 := n13_; clear n0_ n1_ n2_ n3_ n4_ n5_ n6_ n7_ n8_ n9_ n10_ n11_ n12_ n13_; clear hb hbox hg; obtain ⟨Ao131, co131, eo131⟩ := Kd.V_slice HO136.out; subst eo131; have hnb132 := NB143_104.out; have hnc132 := NB104_143.out; have hnb133 := NB143_120.out; have hnc133 := NB120_143.out; have hcz134_0 : w130.cell? ⟨gb143, 0, none⟩ = some (.slice none 0 0) := (blk_cell BK143.out 0).trans rfl; have hcz134_1 : w130.cell? ⟨gb143, 1, none⟩ = some (.slice none 0 0) := (blk_cell BK143.out 1).trans rfl; have hcz134_2 : w130.cell? ⟨gb143, 2, none⟩ = some (.int .i64 0) := (blk_cell BK143.out 2).trans rfl; have hcz134_3 : w130.cell? ⟨gb143, 3, none⟩ = some (.bool false) := (blk_cell BK143.out 3).trans rfl; have hfz134_0 := blk_frozen BK143.out 0; have hfz134_1 := blk_frozen BK143.out 1; have hfz134_2 := blk_frozen BK143.out 2; have hfz134_3 := blk_frozen BK143.out 3; obtain ⟨Ao135, co135, eo135⟩ := Kd.V_slice HO139.out; subst eo135) | ((with_reducible refine gate_store (t := 25) (p := 19) rfl ?_); (try (rw [drewN_self w130]; generalize hq_ : World.drewN w130 _ = w130; have n0_ := Aside0.mk (Kd.V_at hq_ HO_121000.out); have n1_ := Aside0.mk (Kd.V_at hq_ HO_121001.out); have n2_ := Aside0.mk (Kd.V_at hq_ HO136.out); have n3_ := Aside0.mk (Kd.V_at hq_ HO139.out); have n4_ := Aside0.mk (blk_at hq_ BK104.out); have n5_ := Aside0.mk (blk_at hq_ BK120.out); have n6_ := Aside0.mk (blk_at hq_ BK143.out); have n7_ := Aside0.mk (below_at hq_ HB.out); clear hq_ HO_121000 HO_121001 HO136 HO139 BK104 BK120 BK143 HB; have HO_121000 := n0_; have HO_121001 := n1_; have HO136 := n2_; have HO139 := n3_; have BK104 := n4_; have BK120 := n5_; have BK143 := n6_; have HB := n7_; clear n0_ n1_ n2_ n3_ n4_ n5_ n6_ n7_)); refine store_event (t := 25) (p := 19) (v := ?vo_w136) (w1 := ((((w130.setCell ⟨gb143, 0, none⟩ (.slice Ao131 t134.length co131)).setCell ⟨gb143, 1, none⟩ (.slice Ao135 t137.length co135)).setCell ⟨gb143, 2, none⟩ (.int .i64 t140)).setCell ⟨gb143, 3, none⟩ (.bool t141))) ?hg ?ho ?hn ?hr ?_; (case ho => rfl); (case hg => rfl); (case hn => rfl); (case hr => first | (go_simp; done) | (go_simp; rfl)); intro w136 hw; have n0_ : Aside0 (Kd.V (Kd.slice 5 (Kd.int .u8)) 35 w136 w.heap.size (fun k_ => k_ ≠ gb104 ∧ k_ ≠ gb120 ∧ k_ ≠ gb143) (.slice Ao29 t111.length co29) t111) := ⟨(by rw [hw]; exact (by (with_reducible repeat (first | apply Kd.V_alloc | apply Kd.V_drewN | apply Kd.V_drew)); exact Kd.V_mono (Kd.V_far (p := ⟨gb143, 3, none⟩) (Kd.V_far (p := ⟨gb143, 2, none⟩) (Kd.V_far (p := ⟨gb143, 1, none⟩) (Kd.V_far (p := ⟨gb143, 0, none⟩) (Kd.V_mono HO_121000.out (fun k_ hk => (⟨hk, hk.2⟩ : _ ∧ k_ ≠ gb143))) (fun _ hk => hk.2) (.slice Ao131 t134.length co131)) (fun _ hk => hk.2) (.slice Ao135 t137.length co135)) (fun _ hk => hk.2) (.int .i64 t140)) (fun _ hk => hk.2) (.bool t141)) (fun _ hk => ⟨hk.1.1.1, ⟨hk.1.1.2, hk.1.2⟩⟩)))⟩; have n1_ : Aside0 (Kd.V k54 54 w136 w.heap.size (fun k_ => k_ ≠ gb104 ∧ k_ ≠ gb120 ∧ k_ ≠ gb143) (.slice Ao32 t114.length co32) t114) := ⟨(by rw [hw]; exact (by (with_reducible repeat (first | apply Kd.V_alloc | apply Kd.V_drewN | apply Kd.V_drew)); exact Kd.V_mono (Kd.V_far (p := ⟨gb143, 3, none⟩) (Kd.V_far (p := ⟨gb143, 2, none⟩) (Kd.V_far (p := ⟨gb143, 1, none⟩) (Kd.V_far (p := ⟨gb143, 0, none⟩) (Kd.V_mono HO_121001.out (fun k_ hk => (⟨hk, hk.2⟩ : _ ∧ k_ ≠ gb143))) (fun _ hk => hk.2) (.slice Ao131 t134.length co131)) (fun _ hk => hk.2) (.slice Ao135 t137.length co135)) (fun _ hk => hk.2) (.int .i64 t140)) (fun _ hk => hk.2) (.bool t141)) (fun _ hk => ⟨hk.1.1.1, ⟨hk.1.1.2, hk.1.2⟩⟩)))⟩; have n2_ : Aside0 (Kd.V (Kd.slice 5 (Kd.int .u8)) 35 w136 w.heap.size (fun k_ => k_ ≠ gb104 ∧ k_ ≠ gb120 ∧ k_ ≠ gb143) (.slice Ao131 t134.length co131) t134) := ⟨(by rw [hw]; exact (by (with_reducible repeat (first | apply Kd.V_alloc | apply Kd.V_drewN | apply Kd.V_drew)); exact Kd.V_mono (Kd.V_far (p := ⟨gb143, 3, none⟩) (Kd.V_far (p := ⟨gb143, 2, none⟩) (Kd.V_far (p := ⟨gb143, 1, none⟩) (Kd.V_far (p := ⟨gb143, 0, none⟩) (Kd.V_mono HO136.out (fun k_ hk => (⟨hk, hk.2⟩ : _ ∧ k_ ≠ gb143))) (fun _ hk => hk.2) (.slice Ao131 t134.length co131)) (fun _ hk => hk.2) (.slice Ao135 t137.length co135)) (fun _ hk => hk.2) (.int .i64 t140)) (fun _ hk => hk.2) (.bool t141)) (fun _ hk => ⟨hk.1.1.1, ⟨hk.1.1.2, hk.1.2⟩⟩)))⟩; have n3_ : Aside0 (Kd.V k54 54 w136 w.heap.size (fun k_ => k_ ≠ gb104 ∧ k_ ≠ gb120 ∧ k_ ≠ gb143) (.slice Ao135 t137.length co135) t137) := ⟨(by rw [hw]; exact (by (with_reducible repeat (first | apply Kd.V_alloc | apply Kd.V_drewN | apply Kd.V_drew)); exact Kd.V_mono (Kd.V_far (p := ⟨gb143, 3, none⟩) (Kd.V_far (p := ⟨gb143, 2, none⟩) (Kd.V_far (p := ⟨gb143, 1, none⟩) (Kd.V_far (p := ⟨gb143, 0, none⟩) (Kd.V_mono HO139.out (fun k_ hk => (⟨hk, hk.2⟩ : _ ∧ k_ ≠ gb143))) (fun _ hk => hk.2) (.slice Ao131 t134.length co131)) (fun _ hk => hk.2) (.slice Ao135 t137.length co135)) (fun _ hk => hk.2) (.int .i64 t140)) (fun _ hk => hk.2) (.bool t141)) (fun _ hk => ⟨hk.1.1.1, ⟨hk.1.1.2, hk.1.2⟩⟩)))⟩; have n4_ : Aside0 (w136.heap[gb104]? = some (.cells #[.slice A0_0 l0_0.length c0_0, .slice A0_1 l0_1.length c0_1, .int .i64 a0_2, .bool a0_3] 25 (0, 0))) := ⟨(by rw [hw]; exact (by (with_reducible repeat (first | refine blk_drewN ?_ _ | refine blk_drew ?_ | refine blk_alloc ?_ _)); refine blk_far ?_ NB104_143.out _; (with_reducible repeat (first | refine blk_drewN ?_ _ | refine blk_drew ?_ | refine blk_alloc ?_ _)); refine blk_far ?_ NB104_143.out _; (with_reducible repeat (first | refine blk_drewN ?_ _ | refine blk_drew ?_ | refine blk_alloc ?_ _)); refine blk_far ?_ NB104_143.out _; (with_reducible repeat (first | refine blk_drewN ?_ _ | refine blk_drew ?_ | refine blk_alloc ?_ _)); refine blk_far ?_ NB104_143.out _; (with_reducible repeat (first | refine blk_drewN ?_ _ | refine blk_drew ?_ | refine blk_alloc ?_ _)); exact BK104.out))⟩; have n5_ : Aside0 (w136.heap[gb120]? = some (.cells #[.slice Ao29 t111.length co29, .slice Ao32 t114.length co32, .int .i64 t117, .bool t118] 25 (0, 0))) := ⟨(by rw [hw]; exact (by (with_reducible repeat (first | refine blk_drewN ?_ _ | refine blk_drew ?_ | refine blk_alloc ?_ _)); refine blk_far ?_ NB120_143.out _; (with_reducible repeat (first | refine blk_drewN ?_ _ | refine blk_drew ?_ | refine blk_alloc ?_ _)); refine blk_far ?_ NB120_143.out _; (with_reducible repeat (first | refine blk_drewN ?_ _ | refine blk_drew ?_ | refine blk_alloc ?_ _)); refine blk_far ?_ NB120_143.out _; (with_reducible repeat (first | refine blk_drewN ?_ _ | refine blk_drew ?_ | refine blk_alloc ?_ _)); refine blk_far ?_ NB120_143.out _; (with_reducible repeat (first | refine blk_drewN ?_ _ | refine blk_drew ?_ | refine blk_alloc ?_ _)); exact BK120.out))⟩; have n6_ : Aside0 (w136.heap[gb143]? = some (.cells #[.slice Ao131 t134.length co131, .slice Ao135 t137.length co135, .int .i64 t140, .bool t141] 25 (0, 0))) := ⟨(by rw [hw]; exact (by (with_reducible repeat (first | refine blk_drewN ?_ _ | refine blk_drew ?_ | refine blk_alloc ?_ _)); refine blk_put (cs := #[.slice Ao131 t134.length co131, .slice Ao135 t137.length co135, .int .i64 t140, .bool false]) ?_ 3 _ rfl; (with_reducible repeat (first | refine blk_drewN ?_ _ | refine blk_drew ?_ | refine blk_alloc ?_ _)); refine blk_put (cs := #[.slice Ao131 t134.length co131, .slice Ao135 t137.length co135, .int .i64 0, .bool false]) ?_ 2 _ rfl; (with_reducible repeat (first | refine blk_drewN ?_ _ | refine blk_drew ?_ | refine blk_alloc ?_ _)); refine blk_put (cs := #[.slice Ao131 t134.length co131, .slice none 0 0, .int .i64 0, .bool false]) ?_ 1 _ rfl; (with_reducible repeat (first | refine blk_drewN ?_ _ | refine blk_drew ?_ | refine blk_alloc ?_ _)); refine blk_put (cs := #[.slice none 0 0, .slice none 0 0, .int .i64 0, .bool false]) ?_ 0 _ rfl; (with_reducible repeat (first | refine blk_drewN ?_ _ | refine blk_drew ?_ | refine blk_alloc ?_ _)); exact BK143.out))⟩; have n7_ : Aside0 (Below w.heap.size w w136) := ⟨(by rw [hw]; exact (by repeat (first | (with_reducible first | exact HB.out | apply below_alloc | apply pw_below_drewN | apply below_drew1 | refine below_set ?_ GE104.out | refine below_set ?_ GE120.out | refine below_set ?_ GE143.out) | exact HB.out)))⟩; clear hw; clear HO_121000; clear HO_121001; clear HO136; clear HO139; clear BK104; clear BK120; clear BK143; clear HB; have HO_121000 := n0_; have HO_121001 := n1_; have HO136 := n2_; have HO139 := n3_; have BK104 := n4_; have BK120 := n5_; have BK143 := n6_; have HB := n7_; clear n0_ n1_ n2_ n3_ n4_ n5_ n6_ n7_; have hcz137_0 : w136.cell? ⟨gb143, 0, none⟩ = some (.slice Ao131 t134.length co131) := (blk_cell BK143.out 0).trans rfl; have hcz137_1 : w136.cell? ⟨gb143, 1, none⟩ = some (.slice Ao135 t137.length co135) := (blk_cell BK143.out 1).trans rfl; have hcz137_2 : w136.cell? ⟨gb143, 2, none⟩ = some (.int .i64 t140) := (blk_cell BK143.out 2).trans rfl; have hcz137_3 : w136.cell? ⟨gb143, 3, none⟩ = some (.bool t141) := (blk_cell BK143.out 3).trans rfl; have hfz137_0 := blk_frozen BK143.out 0; have hfz137_1 := blk_frozen BK143.out 1; have hfz137_2 := blk_frozen BK143.out 2; have hfz137_3 := blk_frozen BK143.out 3) | (go_at_call 23; (with_reducible refine (disk_Sync.calls (fun k_ => (k_ ≠ gb104 ∧ (k_ ≠ gb120 ∧ k_ ≠ gb143))) _ _ t134 (fun k_ => (k_ ≠ gb104 ∧ (k_ ≠ gb120 ∧ k_ ≠ gb143))) _ _ t137 t140 t141 t144 t147 t150 t151 t152 _ ?side1 ?side2 A68.out).mono ?_); (case side1 => exact HO136.out); (case side2 => exact HO139.out); rintro e w138 ⟨v145, v148, rfl, ho0, ho1, hb⟩; have n0_ := Aside0.mk (Kd.V_below (by (with_reducible repeat (first | apply Kd.V_alloc | apply Kd.V_drewN | apply Kd.V_drew)); exact HO_121000.out) hb); have n1_ := Aside0.mk (Kd.V_below (by (with_reducible repeat (first | apply Kd.V_alloc | apply Kd.V_drewN | apply Kd.V_drew)); exact HO_121001.out) hb); have n2_ := Aside0.mk (Kd.V_below (by (with_reducible repeat (first | apply Kd.V_alloc | apply Kd.V_drewN | apply Kd.V_drew)); exact HO136.out) hb); have n3_ := Aside0.mk (Kd.V_below (by (with_reducible repeat (first | apply Kd.V_alloc | apply Kd.V_drewN | apply Kd.V_drew)); exact HO139.out) hb); have n4_ := Aside0.mk (Kd.V_lower (Kd.V_mono (ok' := fun k_ => k_ ≠ gb104 ∧ k_ ≠ gb120 ∧ k_ ≠ gb143) ho0 (fun k_ hk_ => ⟨Or.elim hk_ (fun hs_ => Or.elim hs_ (fun hs_ => hs_.1) (fun hs_ => hs_.1)) (fun hn_ => (Kd.freshB (g := gb104) (o := .cells #[.slice A0_0 l0_0.length c0_0, .slice A0_1 l0_1.length c0_1, .int .i64 a0_2, .bool a0_3] 25 (0, 0)) (zk BK104.out) k_ hn_)), Or.elim hk_ (fun hs_ => Or.elim hs_ (fun hs_ => hs_.2.1) (fun hs_ => hs_.2.1)) (fun hn_ => (Kd.freshB (g := gb120) (o := .cells #[.slice Ao29 t111.length co29, .slice Ao32 t114.length co32, .int .i64 t117, .bool t118] 25 (0, 0)) (zk BK120.out) k_ hn_)), Or.elim hk_ (fun hs_ => Or.elim hs_ (fun hs_ => hs_.2.2) (fun hs_ => hs_.2.2)) (fun hn_ => (Kd.freshB (g := gb143) (o := .cells #[.slice Ao131 t134.length co131, .slice Ao135 t137.length co135, .int .i64 t140, .bool t141] 25 (0, 0)) (zk BK143.out) k_ hn_))⟩)) (below_size (by repeat (first | (with_reducible first | exact HB.out | apply below_alloc | apply pw_below_drewN | apply below_drew1 | refine below_set ?_ GE104.out | refine below_set ?_ GE120.out | refine below_set ?_ GE143.out) | exact HB.out)))); have n5_ := Aside0.mk (Kd.V_lower (Kd.V_mono (ok' := fun k_ => k_ ≠ gb104 ∧ k_ ≠ gb120 ∧ k_ ≠ gb143) ho1 (fun k_ hk_ => ⟨Or.elim hk_ (fun hs_ => Or.elim hs_ (fun hs_ => hs_.1) (fun hs_ => hs_.1)) (fun hn_ => (Kd.freshB (g := gb104) (o := .cells #[.slice A0_0 l0_0.length c0_0, .slice A0_1 l0_1.length c0_1, .int .i64 a0_2, .bool a0_3] 25 (0, 0)) (zk BK104.out) k_ hn_)), Or.elim hk_ (fun hs_ => Or.elim hs_ (fun hs_ => hs_.2.1) (fun hs_ => hs_.2.1)) (fun hn_ => (Kd.freshB (g := gb120) (o := .cells #[.slice Ao29 t111.length co29, .slice Ao32 t114.length co32, .int .i64 t117, .bool t118] 25 (0, 0)) (zk BK120.out) k_ hn_)), Or.elim hk_ (fun hs_ => Or.elim hs_ (fun hs_ => hs_.2.2) (fun hs_ => hs_.2.2)) (fun hn_ => (Kd.freshB (g := gb143) (o := .cells #[.slice Ao131 t134.length co131, .slice Ao135 t137.length co135, .int .i64 t140, .bool t141] 25 (0, 0)) (zk BK143.out) k_ hn_))⟩)) (below_size (by repeat (first | (with_reducible first | exact HB.out | apply below_alloc | apply pw_below_drewN | apply below_drew1 | refine below_set ?_ GE104.out | refine below_set ?_ GE120.out | refine below_set ?_ GE143.out) | exact HB.out)))); have n6_ := Aside0.mk (zb BK104.out hb); have n7_ := Aside0.mk (zb BK120.out hb); have n8_ := Aside0.mk (zb BK143.out hb); have n9_ := Aside0.mk (below_step (by repeat (first | (with_reducible first | exact HB.out | apply below_alloc | apply pw_below_drewN | apply below_drew1 | refine below_set ?_ GE104.out | refine below_set ?_ GE120.out | refine below_set ?_ GE143.out) | exact HB.out)) hb); clear HO_121000; clear HO_121001; clear HO136; clear HO139; clear BK104; clear BK120; clear BK143; clear HB; have HO_121000 := n0_; have HO_121001 := n1_; have HO136 := n2_; have HO139 := n3_; have HO146 := n4_; have HO149 := n5_; have BK104 := n6_; have BK120 := n7_; have BK143 := n8_; have HB := n9_; clear n0_ n1_ n2_ n3_ n4_ n5_ n6_ n7_ n8_ n9_; (try clear hb); (try clear hb2); (try clear hk); (try clear hi); (try clear ho0); (try clear ho1)) | ((with_reducible refine gate_dst (N := 21) rfl ?_); (try (refine gate_guard (by rfl) ?_; dsimp only)); refine box_event ?hg (N := 21) ?hd (cs := #[.slice none 0 0, .slice none 0 0, .int .i64 0, .bool false]) (t := 25) ?hr ?_; (case hd => rfl); (case hg => rfl); (case hr => first | (go_simp; done) | (go_simp; rfl)); intro gb153 hg w139 hbox hb; have n0_ := Aside0.mk (Kd.V_below (Kd.V_elderB (by (with_reducible repeat (first | apply Kd.V_alloc | apply Kd.V_drewN | apply Kd.V_drew)); exact HO_121000.out) gb153 (Nat.le_of_eq hg.symm)) hb); have n1_ := Aside0.mk (Kd.V_below (Kd.V_elderB (by (with_reducible repeat (first | apply Kd.V_alloc | apply Kd.V_drewN | apply Kd.V_drew)); exact HO_121001.out) gb153 (Nat.le_of_eq hg.symm)) hb); have n2_ := Aside0.mk (Kd.V_below (Kd.V_elderB (by (with_reducible repeat (first | apply Kd.V_alloc | apply Kd.V_drewN | apply Kd.V_drew)); exact HO136.out) gb153 (Nat.le_of_eq hg.symm)) hb); have n3_ := Aside0.mk (Kd.V_below (Kd.V_elderB (by (with_reducible repeat (first | apply Kd.V_alloc | apply Kd.V_drewN | apply Kd.V_drew)); exact HO139.out) gb153 (Nat.le_of_eq hg.symm)) hb); have n4_ := Aside0.mk (Kd.V_below (Kd.V_elderB (by (with_reducible repeat (first | apply Kd.V_alloc | apply Kd.V_drewN | apply Kd.V_drew)); exact HO146.out) gb153 (Nat.le_of_eq hg.symm)) hb); have n5_ := Aside0.mk (Kd.V_below (Kd.V_elderB (by (with_reducible repeat (first | apply Kd.V_alloc | apply Kd.V_drewN | apply Kd.V_drew)); exact HO149.out) gb153 (Nat.le_of_eq hg.symm)) hb); have n6_ := Aside0.mk (zb BK104.out hb); have n7_ := Aside0.mk (zb BK120.out hb); have n8_ := Aside0.mk (zb BK143.out hb); have n9_ := Aside0.mk (below_step (by repeat (first | (with_reducible first | exact HB.out | apply below_alloc | apply pw_below_drewN | apply below_drew1 | refine below_set ?_ GE104.out | refine below_set ?_ GE120.out | refine below_set ?_ GE143.out) | exact HB.out)) hb); have n10_ := Aside0.mk (hbox); have n11_ := Aside0.mk ((by rw [hg]; exact (below_size (by repeat (first | (with_reducible first | exact HB.out | apply below_alloc | apply pw_below_drewN | apply below_drew1 | refine below_set ?_ GE104.out | refine below_set ?_ GE120.out | refine below_set ?_ GE143.out) | exact HB.out))) : w.heap.size ≤ gb153)); have n12_ := Aside0.mk ((by rw [hg]; exact (below_size (by repeat (first | (with_reducible first | exact HB.out | apply below_alloc | apply pw_below_drewN | apply below_drew1 | refine below_set ?_ GE104.out | refine below_set ?_ GE120.out | refine below_set ?_ GE143.out) | exact HB.out))) : w.heap.size ≤ gb153)); have n13_ := Aside0.mk ((by rw [hg]; exact Nat.ne_of_lt (blk_lt (zk BK104.out)) : gb104 ≠ gb153)); have n14_ := Aside0.mk ((by rw [hg]; exact Nat.ne_of_gt (blk_lt (zk BK104.out)) : gb153 ≠ gb104)); have n15_ := Aside0.mk ((by rw [hg]; exact Nat.ne_of_lt (blk_lt (zk BK120.out)) : gb120 ≠ gb153)); have n16_ := Aside0.mk ((by rw [hg]; exact Nat.ne_of_gt (blk_lt (zk BK120.out)) : gb153 ≠ gb120)); have n17_ := Aside0.mk ((by rw [hg]; exact Nat.ne_of_lt (blk_lt (zk BK143.out)) : gb143 ≠ gb153)); have n18_ := Aside0.mk ((by rw [hg]; exact Nat.ne_of_gt (blk_lt (zk BK143.out)) : gb153 ≠ gb143)); clear HO_121000; clear HO_121001; clear HO136; clear HO139; clear HO146; clear HO149; clear BK104; clear BK120; clear BK143; clear HB; have HO_121000 := n0_; have HO_121001 := n1_; have HO136 := n2_; have HO139 := n3_; have HO146 := n4_; have HO149 := n5_; have BK104 := n6_; have BK120 := n7_; have BK143 := n8_; have HB := n9_; have BK153 := n10_; have GW153 := n11_; have GE153 := n12_; have NB104_153 := n13_; have NB153_104 := n14_; have NB120_153 := n15_; have NB153_120 := n16_; have NB143_153 := n17_; have NB153_143 := n18_; clear n0_ n1_ n2_ n3_ n4_ n5_ n6_ n7_ n8_ n9_ n10_ n11_ n12_ n13_ n14_ n15_ n16_ n17_ n18_; clear hb hbox hg; obtain ⟨Ao140, co140, eo140⟩ := Kd.V_slice HO146.out; subst eo140; have hnb141 := NB153_104.out; have hnc141 := NB104_153.out; have hnb142 := NB153_120.out; have hnc142 := NB120_153.out; have hnb143 := NB153_143.out; have hnc143 := NB143_153.out; have hcz144_0 : w139.cell? ⟨gb153, 0, none⟩ = some (.slice none 0 0) := (blk_cell BK153.out 0).trans rfl; have hcz144_1 : w139.cell? ⟨gb153, 1, none⟩ = some (.slice none 0 0) := (blk_cell BK153.out 1).trans rfl; have hcz144_2 : w139.cell? ⟨gb153, 2, none⟩ = some (.int .i64 0) := (blk_cell BK153.out 2).trans rfl; have hcz144_3 : w139.cell? ⟨gb153, 3, none⟩ = some (.bool false) := (blk_cell BK153.out 3).trans rfl; have hfz144_0 := blk_frozen BK153.out 0; have hfz144_1 := blk_frozen BK153.out 1; have hfz144_2 := blk_frozen BK153.out 2; have hfz144_3 := blk_frozen BK153.out 3; obtain ⟨Ao145, co145, eo145⟩ := Kd.V_slice HO149.out; subst eo145))
              go_ret
              exact ⟨by first | rfl | (simp [errW_none, errW_some] <;> rfl) | (simp [*, errW_none, errW_some] <;> rfl), by repeat (first | (with_reducible first | exact HB.out | apply below_alloc | apply pw_below_drewN | apply below_drew1 | refine below_set ?_ GE104.out | refine below_set ?_ GE120.out | refine below_set ?_ GE143.out | refine below_set ?_ GE153.out) | exact HB.out)⟩
             ·rw [if_neg c126] at H
              have c126b0 : (t152 == 40) = false := beq_eq_false_iff_ne.mpr c126
              have c126b1 : (t152 != 40) = true := bne_iff_ne.mpr c126
              obtain rfl := Option.some.inj H
              have hnb146 := NB120_104.out
              have hnc146 := NB104_120.out
              have hcz147_0 : wc.cell? ⟨gb120, 0, none⟩ = some (.slice Ao29 t111.length co29) := (blk_cell BK120.out 0).trans rfl
              have hcz147_1 : wc.cell? ⟨gb120, 1, none⟩ = some (.slice Ao32 t114.length co32) := (blk_cell BK120.out 1).trans rfl
              have hcz147_2 : wc.cell? ⟨gb120, 2, none⟩ = some (.int .i64 t117) := (blk_cell BK120.out 2).trans rfl
              have hcz147_3 : wc.cell? ⟨gb120, 3, none⟩ = some (.bool t118) := (blk_cell BK120.out 3).trans rfl
              have hfz147_0 := blk_frozen BK120.out 0
              have hfz147_1 := blk_frozen BK120.out 1
              have hfz147_2 := blk_frozen BK120.out 2
              have hfz147_3 := blk_frozen BK120.out 3
              go_wp2_with (first | (go_at_call 19; (with_reducible refine (disk_Write.calls (fun k_ => (k_ ≠ gb104 ∧ k_ ≠ gb120)) _ _ t111 (fun k_ => (k_ ≠ gb104 ∧ k_ ≠ gb120)) _ _ t114 t117 t118 a2 _ _ l4 t134 t137 t140 t141 t142 _ ?side1 ?side2 ?side3 ?side4 A66.out).mono ?_); (case side1 => exact HO_121000.out); (case side2 => exact HO_121001.out); (case side3 => repeat (first | exact (Kd.C_below HR4.out HB.out) | (with_reducible refine Kd.C_alloc ?_ _) | (with_reducible refine Kd.C_drewN ?_ _) | (with_reducible refine Kd.C_drew ?_))); (case side4 => exact HC4.out); rintro e w148 ⟨v135, v138, rfl, ho0, ho1, hb⟩; have n0_ := Aside0.mk (Kd.V_below (by (with_reducible repeat (first | apply Kd.V_alloc | apply Kd.V_drewN | apply Kd.V_drew)); exact HO_121000.out) hb); have n1_ := Aside0.mk (Kd.V_below (by (with_reducible repeat (first | apply Kd.V_alloc | apply Kd.V_drewN | apply Kd.V_drew)); exact HO_121001.out) hb); have n2_ := Aside0.mk (Kd.V_lower (Kd.V_mono (ok' := fun k_ => k_ ≠ gb104 ∧ k_ ≠ gb120) ho0 (fun k_ hk_ => ⟨Or.elim hk_ (fun hs_ => Or.elim hs_ (fun hs_ => hs_.1) (fun hs_ => hs_.1)) (fun hn_ => (Kd.freshB (g := gb104) (o := .cells #[.slice A0_0 l0_0.length c0_0, .slice A0_1 l0_1.length c0_1, .int .i64 a0_2, .bool a0_3] 25 (0, 0)) (zk BK104.out) k_ hn_)), Or.elim hk_ (fun hs_ => Or.elim hs_ (fun hs_ => hs_.2) (fun hs_ => hs_.2)) (fun hn_ => (Kd.freshB (g := gb120) (o := .cells #[.slice Ao29 t111.length co29, .slice Ao32 t114.length co32, .int .i64 t117, .bool t118] 25 (0, 0)) (zk BK120.out) k_ hn_))⟩)) (below_size (by repeat (first | (with_reducible first | exact HB.out | apply below_alloc | apply pw_below_drewN | apply below_drew1 | refine below_set ?_ GE104.out | refine below_set ?_ GE120.out) | exact HB.out)))); have n3_ := Aside0.mk (Kd.V_lower (Kd.V_mono (ok' := fun k_ => k_ ≠ gb104 ∧ k_ ≠ gb120) ho1 (fun k_ hk_ => ⟨Or.elim hk_ (fun hs_ => Or.elim hs_ (fun hs_ => hs_.1) (fun hs_ => hs_.1)) (fun hn_ => (Kd.freshB (g := gb104) (o := .cells #[.slice A0_0 l0_0.length c0_0, .slice A0_1 l0_1.length c0_1, .int .i64 a0_2, .bool a0_3] 25 (0, 0)) (zk BK104.out) k_ hn_)), Or.elim hk_ (fun hs_ => Or.elim hs_ (fun hs_ => hs_.2) (fun hs_ => hs_.2)) (fun hn_ => (Kd.freshB (g := gb120) (o := .cells #[.slice Ao29 t111.length co29, .slice Ao32 t114.length co32, .int .i64 t117, .bool t118] 25 (0, 0)) (zk BK120.out) k_ hn_))⟩)) (below_size (by repeat (first | (with_reducible first | exact HB.out | apply below_alloc | apply pw_below_drewN | apply below_drew1 | refine below_set ?_ GE104.out | refine below_set ?_ GE120.out) | exact HB.out)))); have n4_ := Aside0.mk (zb BK104.out hb); have n5_ := Aside0.mk (zb BK120.out hb); have n6_ := Aside0.mk (below_step (by repeat (first | (with_reducible first | exact HB.out | apply below_alloc | apply pw_below_drewN | apply below_drew1 | refine below_set ?_ GE104.out | refine below_set ?_ GE120.out) | exact HB.out)) hb); clear HO_121000; clear HO_121001; clear BK104; clear BK120; clear HB; have HO_121000 := n0_; have HO_121001 := n1_; have HO136 := n2_; have HO139 := n3_; have BK104 := n4_; have BK120 := n5_; have HB := n6_; clear n0_ n1_ n2_ n3_ n4_ n5_ n6_; (try clear hb); (try clear hb2); (try clear hk); (try clear hi); (try clear ho0); (try clear ho1)) | ((with_reducible refine gate_dst (N := 19) rfl ?_); (try (refine gate_guard (by rfl) ?_; dsimp only)); refine box_event ?hg (N := 19) ?hd (cs := #[.slice none 0 0, .slice none 0 0, .int .i64 0, .bool false]) (t := 25) ?hr ?_; (case hd => rfl); (case hg => rfl); (case hr => first | (go_simp; done) | (go_simp; rfl)); intro gb143 hg w149 hbox hb; have n0_ := Aside0.mk (Kd.V_below (Kd.V_elderB (by (with_reducible repeat (first | apply Kd.V_alloc | apply Kd.V_drewN | apply Kd.V_drew)); exact HO_121000.out) gb143 (Nat.le_of_eq hg.symm)) hb); have n1_ := Aside0.mk (Kd.V_below (Kd.V_elderB (by (with_reducible repeat (first | apply Kd.V_alloc | apply Kd.V_drewN | apply Kd.V_drew)); exact HO_121001.out) gb143 (Nat.le_of_eq hg.symm)) hb); have n2_ := Aside0.mk (Kd.V_below (Kd.V_elderB (by (with_reducible repeat (first | apply Kd.V_alloc | apply Kd.V_drewN | apply Kd.V_drew)); exact HO136.out) gb143 (Nat.le_of_eq hg.symm)) hb); have n3_ := Aside0.mk (Kd.V_below (Kd.V_elderB (by (with_reducible repeat (first | apply Kd.V_alloc | apply Kd.V_drewN | apply Kd.V_drew)); exact HO139.out) gb143 (Nat.le_of_eq hg.symm)) hb); have n4_ := Aside0.mk (zb BK104.out hb); have n5_ := Aside0.mk (zb BK120.out hb); have n6_ := Aside0.mk (below_step (by repeat (first | (with_reducible first | exact HB.out | apply below_alloc | apply pw_below_drewN | apply below_drew1 | refine below_set ?_ GE104.out | refine below_set ?_ GE120.out) | exact HB.out)) hb); have n7_ := Aside0.mk (hbox); have n8_ := Aside0.mk ((by rw [hg]; exact (below_size (by repeat (first | (with_reducible first | exact HB.out | apply below_alloc | apply pw_below_drewN | apply below_drew1 | refine below_set ?_ GE104.out | refine below_set ?_ GE120.out) | exact HB.out))) : w.heap.size ≤ gb143)); have n9_ := Aside0.mk ((by rw [hg]; exact (below_size (by repeat (first | (with_reducible first | exact HB.out | apply below_alloc | apply pw_below_drewN | apply below_drew1 | refine below_set ?_ GE104.out | refine below_set ?_ GE120.out) | exact HB.out))) : w.heap.size ≤ gb143)); have n10_ := Aside0.mk ((by rw [hg]; exact Nat.ne_of_lt (blk_lt (zk BK104.out)) : gb104 ≠ gb143)); have n11_ := Aside0.mk ((by rw [hg]; exact Nat.ne_of_gt (blk_lt (zk BK104.out)) : gb143 ≠ gb104)); have n12_ := Aside0.mk ((by rw [hg]; exact Nat.ne_of_lt (blk_lt (zk BK120.out)) : gb120 ≠ gb143)); have n13_ := Aside0.mk ((by rw [hg]; exact Nat.ne_of_gt (blk_lt (zk BK120.out)) : gb143 ≠ gb120)); clear HO_121000; clear HO_121001; clear HO136; clear HO139; clear BK104; clear BK120; clear HB; have HO_121000 := n0_; have HO_121001 := n1_; have HO136 := n2_; have HO139 := n3_; have BK104 := n4_; have BK120 := n5_; have HB := n6_; have BK143 := n7_; have GW143 := n8_; have GE143 := n9_; have NB104_143 := n10_; have NB143_104 := n11_; have NB120_143 := n12_; have NB143_120 := n13_; clear n0_ n1_ n2_ n3_ n4_ n5_ n6_ n7_ n8_ n9_ n10_ n11_ n12_ n13_; clear hb hbox hg; obtain ⟨Ao150, co150, eo150⟩ := Kd.V_slice HO136.out; subst eo150; have hnb151 := NB143_104.out; have hnc151 := NB104_143.out; have hnb152 := NB143_120.out; have hnc152 := NB120_143.out; have hcz153_0 : w149.cell? ⟨gb143, 0, none⟩ = some (.slice none 0 0) := (blk_cell BK143.out 0).trans rfl; have hcz153_1 : w149.cell? ⟨gb143, 1, none⟩ = some (.slice none 0 0) := (blk_cell BK143.out 1).trans rfl; have hcz153_2 : w149.cell? ⟨gb143, 2, none⟩ = some (.int .i64 0) := (blk_cell BK143.out 2).trans rfl; have hcz153_3 : w149.cell? ⟨gb143, 3, none⟩ = some (.bool false) := (blk_cell BK143.out 3).trans rfl; have hfz153_0 := blk_frozen BK143.out 0; have hfz153_1 := blk_frozen BK143.out 1; have hfz153_2 := blk_frozen BK143.out 2; have hfz153_3 := blk_frozen BK143.out 3; obtain ⟨Ao154, co154, eo154⟩ := Kd.V_slice HO139.out; subst eo154) | ((with_reducible refine gate_store (t := 25) (p := 19) rfl ?_); (try (rw [drewN_self w149]; generalize hq_ : World.drewN w149 _ = w149; have n0_ := Aside0.mk (Kd.V_at hq_ HO_121000.out); have n1_ := Aside0.mk (Kd.V_at hq_ HO_121001.out); have n2_ := Aside0.mk (Kd.V_at hq_ HO136.out); have n3_ := Aside0.mk (Kd.V_at hq_ HO139.out); have n4_ := Aside0.mk (blk_at hq_ BK104.out); have n5_ := Aside0.mk (blk_at hq_ BK120.out); have n6_ := Aside0.mk (blk_at hq_ BK143.out); have n7_ := Aside0.mk (below_at hq_ HB.out); clear hq_ HO_121000 HO_121001 HO136 HO139 BK104 BK120 BK143 HB; have HO_121000 := n0_; have HO_121001 := n1_; have HO136 := n2_; have HO139 := n3_; have BK104 := n4_; have BK120 := n5_; have BK143 := n6_; have HB := n7_; clear n0_ n1_ n2_ n3_ n4_ n5_ n6_ n7_)); refine store_event (t := 25) (p := 19) (v := ?vo_w155) (w1 := ((((w149.setCell ⟨gb143, 0, none⟩ (.slice Ao150 t134.length co150)).setCell ⟨gb143, 1, none⟩ (.slice Ao154 t137.length co154)).setCell ⟨gb143, 2, none⟩ (.int .i64 t140)).setCell ⟨gb143, 3, none⟩ (.bool t141))) ?hg ?ho ?hn ?hr ?_; (case ho => rfl); (case hg => rfl); (case hn => rfl); (case hr => first | (go_simp; done) | (go_simp; rfl)); intro w155 hw; have n0_ : Aside0 (Kd.V (Kd.slice 5 (Kd.int .u8)) 35 w155 w.heap.size (fun k_ => k_ ≠ gb104 ∧ k_ ≠ gb120 ∧ k_ ≠ gb143) (.slice Ao29 t111.length co29) t111) := ⟨(by rw [hw]; exact (by (with_reducible repeat (first | apply Kd.V_alloc | apply Kd.V_drewN | apply Kd.V_drew)); exact Kd.V_mono (Kd.V_far (p := ⟨gb143, 3, none⟩) (Kd.V_far (p := ⟨gb143, 2, none⟩) (Kd.V_far (p := ⟨gb143, 1, none⟩) (Kd.V_far (p := ⟨gb143, 0, none⟩) (Kd.V_mono HO_121000.out (fun k_ hk => (⟨hk, hk.2⟩ : _ ∧ k_ ≠ gb143))) (fun _ hk => hk.2) (.slice Ao150 t134.length co150)) (fun _ hk => hk.2) (.slice Ao154 t137.length co154)) (fun _ hk => hk.2) (.int .i64 t140)) (fun _ hk => hk.2) (.bool t141)) (fun _ hk => ⟨hk.1.1.1, ⟨hk.1.1.2, hk.1.2⟩⟩)))⟩; have n1_ : Aside0 (Kd.V k54 54 w155 w.heap.size (fun k_ => k_ ≠ gb104 ∧ k_ ≠ gb120 ∧ k_ ≠ gb143) (.slice Ao32 t114.length co32) t114) := ⟨(by rw [hw]; exact (by (with_reducible repeat (first | apply Kd.V_alloc | apply Kd.V_drewN | apply Kd.V_drew)); exact Kd.V_mono (Kd.V_far (p := ⟨gb143, 3, none⟩) (Kd.V_far (p := ⟨gb143, 2, none⟩) (Kd.V_far (p := ⟨gb143, 1, none⟩) (Kd.V_far (p := ⟨gb143, 0, none⟩) (Kd.V_mono HO_121001.out (fun k_ hk => (⟨hk, hk.2⟩ : _ ∧ k_ ≠ gb143))) (fun _ hk => hk.2) (.slice Ao150 t134.length co150)) (fun _ hk => hk.2) (.slice Ao154 t137.length co154)) (fun _ hk => hk.2) (.int .i64 t140)) (fun _ hk => hk.2) (.bool t141)) (fun _ hk => ⟨hk.1.1.1, ⟨hk.1.1.2, hk.1.2⟩⟩)))⟩; have n2_ : Aside0 (Kd.V (Kd.slice 5 (Kd.int .u8)) 35 w155 w.heap.size (fun k_ => k_ ≠ gb104 ∧ k_ ≠ gb120 ∧ k_ ≠ gb143) (.slice Ao150 t134.length co150) t134) := ⟨(by rw [hw]; exact (by (with_reducible repeat (first | apply Kd.V_alloc | apply Kd.V_drewN | apply Kd.V_drew)); exact Kd.V_mono (Kd.V_far (p := ⟨gb143, 3, none⟩) (Kd.V_far (p := ⟨gb143, 2, none⟩) (Kd.V_far (p := ⟨gb143, 1, none⟩) (Kd.V_far (p := ⟨gb143, 0, none⟩) (Kd.V_mono HO136.out (fun k_ hk => (⟨hk, hk.2⟩ : _ ∧ k_ ≠ gb143))) (fun _ hk => hk.2) (.slice Ao150 t134.length co150)) (fun _ hk => hk.2) (.slice Ao154 t137.length co154)) (fun _ hk => hk.2) (.int .i64 t140)) (fun _ hk => hk.2) (.bool t141)) (fun _ hk => ⟨hk.1.1.1, ⟨hk.1.1.2, hk.1.2⟩⟩)))⟩; have n3_ : Aside0 (Kd.V k54 54 w155 w.heap.size (fun k_ => k_ ≠ gb104 ∧ k_ ≠ gb120 ∧ k_ ≠ gb143) (.slice Ao154 t137.length co154) t137) := ⟨(by rw [hw]; exact (by (with_reducible repeat (first | apply Kd.V_alloc | apply Kd.V_drewN | apply Kd.V_drew)); exact Kd.V_mono (Kd.V_far (p := ⟨gb143, 3, none⟩) (Kd.V_far (p := ⟨gb143, 2, none⟩) (Kd.V_far (p := ⟨gb143, 1, none⟩) (Kd.V_far (p := ⟨gb143, 0, none⟩) (Kd.V_mono HO139.out (fun k_ hk => (⟨hk, hk.2⟩ : _ ∧ k_ ≠ gb143))) (fun _ hk => hk.2) (.slice Ao150 t134.length co150)) (fun _ hk => hk.2) (.slice Ao154 t137.length co154)) (fun _ hk => hk.2) (.int .i64 t140)) (fun _ hk => hk.2) (.bool t141)) (fun _ hk => ⟨hk.1.1.1, ⟨hk.1.1.2, hk.1.2⟩⟩)))⟩; have n4_ : Aside0 (w155.heap[gb104]? = some (.cells #[.slice A0_0 l0_0.length c0_0, .slice A0_1 l0_1.length c0_1, .int .i64 a0_2, .bool a0_3] 25 (0, 0))) := ⟨(by rw [hw]; exact (by (with_reducible repeat (first | refine blk_drewN ?_ _ | refine blk_drew ?_ | refine blk_alloc ?_ _)); refine blk_far ?_ NB104_143.out _; (with_reducible repeat (first | refine blk_drewN ?_ _ | refine blk_drew ?_ | refine blk_alloc ?_ _)); refine blk_far ?_ NB104_143.out _; (with_reducible repeat (first | refine blk_drewN ?_ _ | refine blk_drew ?_ | refine blk_alloc ?_ _)); refine blk_far ?_ NB104_143.out _; (with_reducible repeat (first | refine blk_drewN ?_ _ | refine blk_drew ?_ | refine blk_alloc ?_ _)); refine blk_far ?_ NB104_143.out _; (with_reducible repeat (first | refine blk_drewN ?_ _ | refine blk_drew ?_ | refine blk_alloc ?_ _)); exact BK104.out))⟩; have n5_ : Aside0 (w155.heap[gb120]? = some (.cells #[.slice Ao29 t111.length co29, .slice Ao32 t114.length co32, .int .i64 t117, .bool t118] 25 (0, 0))) := ⟨(by rw [hw]; exact (by (with_reducible repeat (first | refine blk_drewN ?_ _ | refine blk_drew ?_ | refine blk_alloc ?_ _)); refine blk_far ?_ NB120_143.out _; (with_reducible repeat (first | refine blk_drewN ?_ _ | refine blk_drew ?_ | refine blk_alloc ?_ _)); refine blk_far ?_ NB120_143.out _; (with_reducible repeat (first | refine blk_drewN ?_ _ | refine blk_drew ?_ | refine blk_alloc ?_ _)); refine blk_far ?_ NB120_143.out _; (with_reducible repeat (first | refine blk_drewN ?_ _ | refine blk_drew ?_ | refine blk_alloc ?_ _)); refine blk_far ?_ NB120_143.out _; (with_reducible repeat (first | refine blk_drewN ?_ _ | refine blk_drew ?_ | refine blk_alloc ?_ _)); exact BK120.out))⟩; have n6_ : Aside0 (w155.heap[gb143]? = some (.cells #[.slice Ao150 t134.length co150, .slice Ao154 t137.length co154, .int .i64 t140, .bool t141] 25 (0, 0))) := ⟨(by rw [hw]; exact (by (with_reducible repeat (first | refine blk_drewN ?_ _ | refine blk_drew ?_ | refine blk_alloc ?_ _)); refine blk_put (cs := #[.slice Ao150 t134.length co150, .slice Ao154 t137.length co154, .int .i64 t140, .bool false]) ?_ 3 _ rfl; (with_reducible repeat (first | refine blk_drewN ?_ _ | refine blk_drew ?_ | refine blk_alloc ?_ _)); refine blk_put (cs := #[.slice Ao150 t134.length co150, .slice Ao154 t137.length co154, .int .i64 0, .bool false]) ?_ 2 _ rfl; (with_reducible repeat (first | refine blk_drewN ?_ _ | refine blk_drew ?_ | refine blk_alloc ?_ _)); refine blk_put (cs := #[.slice Ao150 t134.length co150, .slice none 0 0, .int .i64 0, .bool false]) ?_ 1 _ rfl; (with_reducible repeat (first | refine blk_drewN ?_ _ | refine blk_drew ?_ | refine blk_alloc ?_ _)); refine blk_put (cs := #[.slice none 0 0, .slice none 0 0, .int .i64 0, .bool false]) ?_ 0 _ rfl; (with_reducible repeat (first | refine blk_drewN ?_ _ | refine blk_drew ?_ | refine blk_alloc ?_ _)); exact BK143.out))⟩; have n7_ : Aside0 (Below w.heap.size w w155) := ⟨(by rw [hw]; exact (by repeat (first | (with_reducible first | exact HB.out | apply below_alloc | apply pw_below_drewN | apply below_drew1 | refine below_set ?_ GE104.out | refine below_set ?_ GE120.out | refine below_set ?_ GE143.out) | exact HB.out)))⟩; clear hw; clear HO_121000; clear HO_121001; clear HO136; clear HO139; clear BK104; clear BK120; clear BK143; clear HB; have HO_121000 := n0_; have HO_121001 := n1_; have HO136 := n2_; have HO139 := n3_; have BK104 := n4_; have BK120 := n5_; have BK143 := n6_; have HB := n7_; clear n0_ n1_ n2_ n3_ n4_ n5_ n6_ n7_; have hcz156_0 : w155.cell? ⟨gb143, 0, none⟩ = some (.slice Ao150 t134.length co150) := (blk_cell BK143.out 0).trans rfl; have hcz156_1 : w155.cell? ⟨gb143, 1, none⟩ = some (.slice Ao154 t137.length co154) := (blk_cell BK143.out 1).trans rfl; have hcz156_2 : w155.cell? ⟨gb143, 2, none⟩ = some (.int .i64 t140) := (blk_cell BK143.out 2).trans rfl; have hcz156_3 : w155.cell? ⟨gb143, 3, none⟩ = some (.bool t141) := (blk_cell BK143.out 3).trans rfl; have hfz156_0 := blk_frozen BK143.out 0; have hfz156_1 := blk_frozen BK143.out 1; have hfz156_2 := blk_frozen BK143.out 2; have hfz156_3 := blk_frozen BK143.out 3) | (go_at_call 23; (with_reducible refine (disk_Sync.calls (fun k_ => (k_ ≠ gb104 ∧ (k_ ≠ gb120 ∧ k_ ≠ gb143))) _ _ t134 (fun k_ => (k_ ≠ gb104 ∧ (k_ ≠ gb120 ∧ k_ ≠ gb143))) _ _ t137 t140 t141 t144 t147 t150 t151 t152 _ ?side1 ?side2 A68.out).mono ?_); (case side1 => exact HO136.out); (case side2 => exact HO139.out); rintro e w157 ⟨v145, v148, rfl, ho0, ho1, hb⟩; have n0_ := Aside0.mk (Kd.V_below (by (with_reducible repeat (first | apply Kd.V_alloc | apply Kd.V_drewN | apply Kd.V_drew)); exact HO_121000.out) hb); have n1_ := Aside0.mk (Kd.V_below (by (with_reducible repeat (first | apply Kd.V_alloc | apply Kd.V_drewN | apply Kd.V_drew)); exact HO_121001.out) hb); have n2_ := Aside0.mk (Kd.V_below (by (with_reducible repeat (first | apply Kd.V_alloc | apply Kd.V_drewN | apply Kd.V_drew)); exact HO136.out) hb); have n3_ := Aside0.mk (Kd.V_below (by (with_reducible repeat (first | apply Kd.V_alloc | apply Kd.V_drewN | apply Kd.V_drew)); exact HO139.out) hb); have n4_ := Aside0.mk (Kd.V_lower (Kd.V_mono (ok' := fun k_ => k_ ≠ gb104 ∧ k_ ≠ gb120 ∧ k_ ≠ gb143) ho0 (fun k_ hk_ => ⟨Or.elim hk_ (fun hs_ => Or.elim hs_ (fun hs_ => hs_.1) (fun hs_ => hs_.1)) (fun hn_ => (Kd.freshB (g := gb104) (o := .cells #[.slice A0_0 l0_0.length c0_0, .slice A0_1 l0_1.length c0_1, .int .i64 a0_2, .bool a0_3] 25 (0, 0)) (zk BK104.out) k_ hn_)), Or.elim hk_ (fun hs_ => Or.elim hs_ (fun hs_ => hs_.2.1) (fun hs_ => hs_.2.1)) (fun hn_ => (Kd.freshB (g := gb120) (o := .cells #[.slice Ao29 t111.length co29, .slice Ao32 t114.length co32, .int .i64 t117, .bool t118] 25 (0, 0)) (zk BK120.out) k_ hn_)), Or.elim hk_ (fun hs_ => Or.elim hs_ (fun hs_ => hs_.2.2) (fun hs_ => hs_.2.2)) (fun hn_ => (Kd.freshB (g := gb143) (o := .cells #[.slice Ao150 t134.length co150, .slice Ao154 t137.length co154, .int .i64 t140, .bool t141] 25 (0, 0)) (zk BK143.out) k_ hn_))⟩)) (below_size (by repeat (first | (with_reducible first | exact HB.out | apply below_alloc | apply pw_below_drewN | apply below_drew1 | refine below_set ?_ GE104.out | refine below_set ?_ GE120.out | refine below_set ?_ GE143.out) | exact HB.out)))); have n5_ := Aside0.mk (Kd.V_lower (Kd.V_mono (ok' := fun k_ => k_ ≠ gb104 ∧ k_ ≠ gb120 ∧ k_ ≠ gb143) ho1 (fun k_ hk_ => ⟨Or.elim hk_ (fun hs_ => Or.elim hs_ (fun hs_ => hs_.1) (fun hs_ => hs_.1)) (fun hn_ => (Kd.freshB (g := gb104) (o := .cells #[.slice A0_0 l0_0.length c0_0, .slice A0_1 l0_1.length c0_1, .int .i64 a0_2, .bool a0_3] 25 (0, 0)) (zk BK104.out) k_ hn_)), Or.elim hk_ (fun hs_ => Or.elim hs_ (fun hs_ => hs_.2.1) (fun hs_ => hs_.2.1)) (fun hn_ => (Kd.freshB (g := gb120) (o := .cells #[.slice Ao29 t111.length co29, .slice Ao32 t114.length co32, .int .i64 t117, .bool t118] 25 (0, 0)) (zk BK120.out) k_ hn_)), Or.elim hk_ (fun hs_ => Or.elim hs_ (fun hs_ => hs_.2.2) (fun hs_ => hs_.2.2)) (fun hn_ => (Kd.freshB (g := gb143) (o := .cells #[.slice Ao150 t134.length co150, .slice Ao154 t137.length co154, .int .i64 t140, .bool t141] 25 (0, 0)) (zk BK143.out) k_ hn_))⟩)) (below_size (by repeat (first | (with_reducible first | exact HB.out | apply below_alloc | apply pw_below_drewN | apply below_drew1 | refine below_set ?_ GE104.out | refine below_set ?_ GE120.out | refine below_set ?_ GE143.out) | exact HB.out)))); have n6_ := Aside0.mk (zb BK104.out hb); have n7_ := Aside0.mk (zb BK120.out hb); have n8_ := Aside0.mk (zb BK143.out hb); have n9_ := Aside0.mk (below_step (by repeat (first | (with_reducible first | exact HB.out | apply below_alloc | apply pw_below_drewN | apply below_drew1 | refine below_set ?_ GE104.out | refine below_set ?_ GE120.out | refine below_set ?_ GE143.out) | exact HB.out)) hb); clear HO_121000; clear HO_121001; clear HO136; clear HO139; clear BK104; clear BK120; clear BK143; clear HB; have HO_121000 := n0_; have HO_121001 := n1_; have HO136 := n2_; have HO139 := n3_; have HO146 := n4_; have HO149 := n5_; have BK104 := n6_; have BK120 := n7_; have BK143 := n8_; have HB := n9_; clear n0_ n1_ n2_ n3_ n4_ n5_ n6_ n7_ n8_ n9_; (try clear hb); (try clear hb2); (try clear hk); (try clear hi); (try clear ho0); (try clear ho1)) | ((with_reducible refine gate_dst (N := 21) rfl ?_); (try (refine gate_guard (by rfl) ?_; dsimp only)); refine box_event ?hg (N := 21) ?hd (cs := #[.slice none 0 0, .slice none 0 0, .int .i64 0, .bool false]) (t := 25) ?hr ?_; (case hd => rfl); (case hg => rfl); (case hr => first | (go_simp; done) | (go_simp; rfl)); intro gb153 hg w158 hbox hb; have n0_ := Aside0.mk (Kd.V_below (Kd.V_elderB (by (with_reducible repeat (first | apply Kd.V_alloc | apply Kd.V_drewN | apply Kd.V_drew)); exact HO_121000.out) gb153 (Nat.le_of_eq hg.symm)) hb); have n1_ := Aside0.mk (Kd.V_below (Kd.V_elderB (by (with_reducible repeat (first | apply Kd.V_alloc | apply Kd.V_drewN | apply Kd.V_drew)); exact HO_121001.out) gb153 (Nat.le_of_eq hg.symm)) hb); have n2_ := Aside0.mk (Kd.V_below (Kd.V_elderB (by (with_reducible repeat (first | apply Kd.V_alloc | apply Kd.V_drewN | apply Kd.V_drew)); exact HO136.out) gb153 (Nat.le_of_eq hg.symm)) hb); have n3_ := Aside0.mk (Kd.V_below (Kd.V_elderB (by (with_reducible repeat (first | apply Kd.V_alloc | apply Kd.V_drewN | apply Kd.V_drew)); exact HO139.out) gb153 (Nat.le_of_eq hg.symm)) hb); have n4_ := Aside0.mk (Kd.V_below (Kd.V_elderB (by (with_reducible repeat (first | apply Kd.V_alloc | apply Kd.V_drewN | apply Kd.V_drew)); exact HO146.out) gb153 (Nat.le_of_eq hg.symm)) hb); have n5_ := Aside0.mk (Kd.V_below (Kd.V_elderB (by (with_reducible repeat (first | apply Kd.V_alloc | apply Kd.V_drewN | apply Kd.V_drew)); exact HO149.out) gb153 (Nat.le_of_eq hg.symm)) hb); have n6_ := Aside0.mk (zb BK104.out hb); have n7_ := Aside0.mk (zb BK120.out hb); have n8_ := Aside0.mk (zb BK143.out hb); have n9_ := Aside0.mk (below_step (by repeat (first | (with_reducible first | exact HB.out | apply below_alloc | apply pw_below_drewN | apply below_drew1 | refine below_set ?_ GE104.out | refine below_set ?_ GE120.out | refine below_set ?_ GE143.out) | exact HB.out)) hb); have n10_ := Aside0.mk (hbox); have n11_ := Aside0.mk ((by rw [hg]; exact (below_size (by repeat (first | (with_reducible first | exact HB.out | apply below_alloc | apply pw_below_drewN | apply below_drew1 | refine below_set ?_ GE104.out | refine below_set ?_ GE120.out | refine below_set ?_ GE143.out) | exact HB.out))) : w.heap.size ≤ gb153)); have n12_ := Aside0.mk ((by rw [hg]; exact (below_size (by repeat (first | (with_reducible first | exact HB.out | apply below_alloc | apply pw_below_drewN | apply below_drew1 | refine below_set ?_ GE104.out | refine below_set ?_ GE120.out | refine below_set ?_ GE143.out) | exact HB.out))) : w.heap.size ≤ gb153)); have n13_ := Aside0.mk ((by rw [hg]; exact Nat.ne_of_lt (blk_lt (zk BK104.out)) : gb104 ≠ gb153)); have n14_ := Aside0.mk ((by rw [hg]; exact Nat.ne_of_gt (blk_lt (zk BK104.out)) : gb153 ≠ gb104)); have n15_ := Aside0.mk ((by rw [hg]; exact Nat.ne_of_lt (blk_lt (zk BK120.out)) : gb120 ≠ gb153)); have n16_ := Aside0.mk ((by rw [hg]; exact Nat.ne_of_gt (blk_lt (zk BK120.out)) : gb153 ≠ gb120)); have n17_ := Aside0.mk ((by rw [hg]; exact Nat.ne_of_lt (blk_lt (zk BK143.out)) : gb143 ≠ gb153)); have n18_ := Aside0.mk ((by rw [hg]; exact Nat.ne_of_gt (blk_lt (zk BK143.out)) : gb153 ≠ gb143)); clear HO_121000; clear HO_121001; clear HO136; clear HO139; clear HO146; clear HO149; clear BK104; clear BK120; clear BK143; clear HB; have HO_121000 := n0_; have HO_121001 := n1_; have HO136 := n2_; have HO139 := n3_; have HO146 := n4_; have HO149 := n5_; have BK104 := n6_; have BK120 := n7_; have BK143 := n8_; have HB := n9_; have BK153 := n10_; have GW153 := n11_; have GE153 := n12_; have NB104_153 := n13_; have NB153_104 := n14_; have NB120_153 := n15_; have NB153_120 := n16_; have NB143_153 := n17_; have NB153_143 := n18_; clear n0_ n1_ n2_ n3_ n4_ n5_ n6_ n7_ n8_ n9_ n10_ n11_ n12_ n13_ n14_ n15_ n16_ n17_ n18_; clear hb hbox hg; obtain ⟨Ao159, co159, eo159⟩ := Kd.V_slice HO146.out; subst eo159; have hnb160 := NB153_104.out; have hnc160 := NB104_153.out; have hnb161 := NB153_120.out; have hnc161 := NB120_153.out; have hnb162 := NB153_143.out; have hnc162 := NB143_153.out; have hcz163_0 : w158.cell? ⟨gb153, 0, none⟩ = some (.slice none 0 0) := (blk_cell BK153.out 0).trans rfl; have hcz163_1 : w158.cell? ⟨gb153, 1, none⟩ = some (.slice none 0 0) := (blk_cell BK153.out 1).trans rfl; have hcz163_2 : w158.cell? ⟨gb153, 2, none⟩ = some (.int .i64 0) := (blk_cell BK153.out 2).trans rfl; have hcz163_3 : w158.cell? ⟨gb153, 3, none⟩ = some (.bool false) := (blk_cell BK153.out 3).trans rfl; have hfz163_0 := blk_frozen BK153.out 0; have hfz163_1 := blk_frozen BK153.out 1; have hfz163_2 := blk_frozen BK153.out 2; have hfz163_3 := blk_frozen BK153.out 3; obtain ⟨Ao164, co164, eo164⟩ := Kd.V_slice HO149.out; subst eo164))
              go_ret
              exact ⟨by first | rfl | (simp [errW_none, errW_some] <;> rfl) | (simp [*, errW_none, errW_some] <;> rfl), by repeat (first | (with_reducible first | exact HB.out | apply below_alloc | apply pw_below_drewN | apply below_drew1 | refine below_set ?_ GE104.out | refine below_set ?_ GE120.out | refine below_set ?_ GE143.out | refine below_set ?_ GE153.out) | exact HB.out)⟩
           ·rw [if_neg c67] at H
            have c67b0 : (t142 == 0) = false := beq_eq_false_iff_ne.mpr c67
            have c67b1 : (t142 != 0) = true := bne_iff_ne.mpr c67
            obtain rfl := Option.some.inj H
            have hnb165 := NB120_104.out
            have hnc165 := NB104_120.out
            have hcz166_0 : wc.cell? ⟨gb120, 0, none⟩ = some (.slice Ao29 t111.length co29) := (blk_cell BK120.out 0).trans rfl
            have hcz166_1 : wc.cell? ⟨gb120, 1, none⟩ = some (.slice Ao32 t114.length co32) := (blk_cell BK120.out 1).trans rfl
            have hcz166_2 : wc.cell? ⟨gb120, 2, none⟩ = some (.int .i64 t117) := (blk_cell BK120.out 2).trans rfl
            have hcz166_3 : wc.cell? ⟨gb120, 3, none⟩ = some (.bool t118) := (blk_cell BK120.out 3).trans rfl
            have hfz166_0 := blk_frozen BK120.out 0
            have hfz166_1 := blk_frozen BK120.out 1
            have hfz166_2 := blk_frozen BK120.out 2
            have hfz166_3 := blk_frozen BK120.out 3
            go_wp2_with (first | (go_at_call 19; (with_reducible refine (disk_Write.calls (fun k_ => (k_ ≠ gb104 ∧ k_ ≠ gb120)) _ _ t111 (fun k_ => (k_ ≠ gb104 ∧ k_ ≠ gb120)) _ _ t114 t117 t118 a2 _ _ l4 t134 t137 t140 t141 t142 _ ?side1 ?side2 ?side3 ?side4 A66.out).mono ?_); (case side1 => exact HO_121000.out); (case side2 => exact HO_121001.out); (case side3 => repeat (first | exact (Kd.C_below HR4.out HB.out) | (with_reducible refine Kd.C_alloc ?_ _) | (with_reducible refine Kd.C_drewN ?_ _) | (with_reducible refine Kd.C_drew ?_))); (case side4 => exact HC4.out); rintro e w167 ⟨v135, v138, rfl, ho0, ho1, hb⟩; have n0_ := Aside0.mk (Kd.V_below (by (with_reducible repeat (first | apply Kd.V_alloc | apply Kd.V_drewN | apply Kd.V_drew)); exact HO_121000.out) hb); have n1_ := Aside0.mk (Kd.V_below (by (with_reducible repeat (first | apply Kd.V_alloc | apply Kd.V_drewN | apply Kd.V_drew)); exact HO_121001.out) hb); have n2_ := Aside0.mk (Kd.V_lower (Kd.V_mono (ok' := fun k_ => k_ ≠ gb104 ∧ k_ ≠ gb120) ho0 (fun k_ hk_ => ⟨Or.elim hk_ (fun hs_ => Or.elim hs_ (fun hs_ => hs_.1) (fun hs_ => hs_.1)) (fun hn_ => (Kd.freshB (g := gb104) (o := .cells #[.slice A0_0 l0_0.length c0_0, .slice A0_1 l0_1.length c0_1, .int .i64 a0_2, .bool a0_3] 25 (0, 0)) (zk BK104.out) k_ hn_)), Or.elim hk_ (fun hs_ => Or.elim hs_ (fun hs_ => hs_.2) (fun hs_ => hs_.2)) (fun hn_ => (Kd.freshB (g := gb120) (o := .cells #[.slice Ao29 t111.length co29, .slice Ao32 t114.length co32, .int .i64 t117, .bool t118] 25 (0, 0)) (zk BK120.out) k_ hn_))⟩)) (below_size (by repeat (first | (with_reducible first | exact HB.out | apply below_alloc | apply pw_below_drewN | apply below_drew1 | refine below_set ?_ GE104.out | refine below_set ?_ GE120.out) | exact HB.out)))); have n3_ := Aside0.mk (Kd.V_lower (Kd.V_mono (ok' := fun k_ => k_ ≠ gb104 ∧ k_ ≠ gb120) ho1 (fun k_ hk_ => ⟨Or.elim hk_ (fun hs_ => Or.elim hs_ (fun hs_ => hs_.1) (fun hs_ => hs_.1)) (fun hn_ => (Kd.freshB (g := gb104) (o := .cells #[.slice A0_0 l0_0.length c0_0, .slice A0_1 l0_1.length c0_1, .int .i64 a0_2, .bool a0_3] 25 (0, 0)) (zk BK104.out) k_ hn_)), Or.elim hk_ (fun hs_ => Or.elim hs_ (fun hs_ => hs_.2) (fun hs_ => hs_.2)) (fun hn_ => (Kd.freshB (g := gb120) (o := .cells #[.slice Ao29 t111.length co29, .slice Ao32 t114.length co32, .int .i64 t117, .bool t118] 25 (0, 0)) (zk BK120.out) k_ hn_))⟩)) (below_size (by repeat (first | (with_reducible first | exact HB.out | apply below_alloc | apply pw_below_drewN | apply below_drew1 | refine below_set ?_ GE104.out | refine below_set ?_ GE120.out) | exact HB.out)))); have n4_ := Aside0.mk (zb BK104.out hb); have n5_ := Aside0.mk (zb BK120.out hb); have n6_ := Aside0.mk (below_step (by repeat (first | (with_reducible first | exact HB.out | apply below_alloc | apply pw_below_drewN | apply below_drew1 | refine below_set ?_ GE104.out | refine below_set ?_ GE120.out) | exact HB.out)) hb); clear HO_121000; clear HO_121001; clear BK104; clear BK120; clear HB; have HO_121000 := n0_; have HO_121001 := n1_; have HO136 := n2_; have HO139 := n3_; have BK104 := n4_; have BK120 := n5_; have HB := n6_; clear n0_ n1_ n2_ n3_ n4_ n5_ n6_; (try clear hb); (try clear hb2); (try clear hk); (try clear hi); (try clear ho0); (try clear ho1)) | ((with_reducible refine gate_dst (N := 19) rfl ?_); (try (refine gate_guard (by rfl) ?_; dsimp only)); refine box_event ?hg (N := 19) ?hd (cs := #[.slice none 0 0, .slice none 0 0, .int .i64 0, .bool false]) (t := 25) ?hr ?_; (case hd => rfl); (case hg => rfl); (case hr => first | (go_simp; done) | (go_simp; rfl)); intro gb143 hg w168 hbox hb; have n0_ := Aside0.mk (Kd.V_below (Kd.V_elderB (by (with_reducible repeat (first | apply Kd.V_alloc | apply Kd.V_drewN | apply Kd.V_drew)); exact HO_121000.out) gb143 (Nat.le_of_eq hg.symm)) hb); have n1_ := Aside0.mk (Kd.V_below (Kd.V_elderB (by (with_reducible repeat (first | apply Kd.V_alloc | apply Kd.V_drewN | apply Kd.V_drew)); exact HO_121001.out) gb143 (Nat.le_of_eq hg.symm)) hb); have n2_ := Aside0.mk (Kd.V_below (Kd.V_elderB (by (with_reducible repeat (first | apply Kd.V_alloc | apply Kd.V_drewN | apply Kd.V_drew)); exact HO136.out) gb143 (Nat.le_of_eq hg.symm)) hb); have n3_ := Aside0.mk (Kd.V_below (Kd.V_elderB (by (with_reducible repeat (first | apply Kd.V_alloc | apply Kd.V_drewN | apply Kd.V_drew)); exact HO139.out) gb143 (Nat.le_of_eq hg.symm)) hb); have n4_ := Aside0.mk (zb BK104.out hb); have n5_ := Aside0.mk (zb BK120.out hb); have n6_ := Aside0.mk (below_step (by repeat (first | (with_reducible first | exact HB.out | apply below_alloc | apply pw_below_drewN | apply below_drew1 | refine below_set ?_ GE104.out | refine below_set ?_ GE120.out) | exact HB.out)) hb); have n7_ := Aside0.mk (hbox); have n8_ := Aside0.mk ((by rw [hg]; exact (below_size (by repeat (first | (with_reducible first | exact HB.out | apply below_alloc | apply pw_below_drewN | apply below_drew1 | refine below_set ?_ GE104.out | refine below_set ?_ GE120.out) | exact HB.out))) : w.heap.size ≤ gb143)); have n9_ := Aside0.mk ((by rw [hg]; exact (below_size (by repeat (first | (with_reducible first | exact HB.out | apply below_alloc | apply pw_below_drewN | apply below_drew1 | refine below_set ?_ GE104.out | refine below_set ?_ GE120.out) | exact HB.out))) : w.heap.size ≤ gb143)); have n10_ := Aside0.mk ((by rw [hg]; exact Nat.ne_of_lt (blk_lt (zk BK104.out)) : gb104 ≠ gb143)); have n11_ := Aside0.mk ((by rw [hg]; exact Nat.ne_of_gt (blk_lt (zk BK104.out)) : gb143 ≠ gb104)); have n12_ := Aside0.mk ((by rw [hg]; exact Nat.ne_of_lt (blk_lt (zk BK120.out)) : gb120 ≠ gb143)); have n13_ := Aside0.mk ((by rw [hg]; exact Nat.ne_of_gt (blk_lt (zk BK120.out)) : gb143 ≠ gb120)); clear HO_121000; clear HO_121001; clear HO136; clear HO139; clear BK104; clear BK120; clear HB; have HO_121000 := n0_; have HO_121001 := n1_; have HO136 := n2_; have HO139 := n3_; have BK104 := n4_; have BK120 := n5_; have HB := n6_; have BK143 := n7_; have GW143 := n8_; have GE143 := n9_; have NB104_143 := n10_; have NB143_104 := n11_; have NB120_143 := n12_; have NB143_120 := n13_; clear n0_ n1_ n2_ n3_ n4_ n5_ n6_ n7_ n8_ n9_ n10_ n11_ n12_ n13_; clear hb hbox hg; obtain ⟨Ao169, co169, eo169⟩ := Kd.V_slice HO136.out; subst eo169; have hnb170 := NB143_104.out; have hnc170 := NB104_143.out; have hnb171 := NB143_120.out; have hnc171 := NB120_143.out; have hcz172_0 : w168.cell? ⟨gb143, 0, none⟩ = some (.slice none 0 0) := (blk_cell BK143.out 0).trans rfl; have hcz172_1 : w168.cell? ⟨gb143, 1, none⟩ = some (.slice none 0 0) := (blk_cell BK143.out 1).trans rfl; have hcz172_2 : w168.cell? ⟨gb143, 2, none⟩ = some (.int .i64 0) := (blk_cell BK143.out 2).trans rfl; have hcz172_3 : w168.cell? ⟨gb143, 3, none⟩ = some (.bool false) := (blk_cell BK143.out 3).trans rfl; have hfz172_0 := blk_frozen BK143.out 0; have hfz172_1 := blk_frozen BK143.out 1; have hfz172_2 := blk_frozen BK143.out 2; have hfz172_3 := blk_frozen BK143.out 3; obtain ⟨Ao173, co173, eo173⟩ := Kd.V_slice HO139.out; subst eo173))
            go_ret
            exact ⟨by first | rfl | (simp [errW_none, errW_some] <;> rfl) | (simp [*, errW_none, errW_some] <;> rfl), by repeat (first | (with_reducible first | exact HB.out | apply below_alloc | apply pw_below_drewN | apply below_drew1 | refine below_set ?_ GE104.out | refine below_set ?_ GE120.out | refine below_set ?_ GE143.out) | exact HB.out)⟩
 ·replace c7 := Bool.eq_false_iff.mpr c7
  subst c7
  have H1 : (some false) = some r := by rw [if_neg (show ¬ (false = true) by decide)] at H; exact H
  clear H
  have H := H1
  clear H1
  obtain rfl := Option.some.inj H
  go_enter Try.func7, Try.ntmps7
  go_wp2_with (first | ((with_reducible refine gate_dst (N := 5) rfl ?_); (try (refine gate_guard (by rfl) ?_; dsimp only)); refine box_event ?hg (N := 5) ?hd (cs := #[.slice A0_0 l0_0.length c0_0, .slice A0_1 l0_1.length c0_1, .int .i64 a0_2, .bool a0_3]) (t := 25) ?hr ?_; (case hd => rfl); (case hg => rfl); (case hr => first | (go_simp; done) | (go_simp; rfl)); intro gb104 hg w174 hbox hb; have n0_ := Aside0.mk (below_step (by repeat (first | (with_reducible first | exact HB.out | apply below_alloc | apply pw_below_drewN | apply below_drew1) | exact HB.out)) hb); have n1_ := Aside0.mk (hbox); have n2_ := Aside0.mk ((by rw [hg]; exact (below_size (by repeat (first | (with_reducible first | exact HB.out | apply below_alloc | apply pw_below_drewN | apply below_drew1) | exact HB.out))) : w.heap.size ≤ gb104)); have n3_ := Aside0.mk ((by rw [hg]; exact (below_size (by repeat (first | (with_reducible first | exact HB.out | apply below_alloc | apply pw_below_drewN | apply below_drew1) | exact HB.out))) : w.heap.size ≤ gb104)); clear HB; have HB := n0_; have BK104 := n1_; have GW104 := n2_; have GE104 := n3_; clear n0_ n1_ n2_ n3_; clear hb hbox hg) | (go_at_call 10; (with_reducible refine (fastilaw04_sane.calls  false _ A6.out).mono ?_); rintro e w175 ⟨rfl, hb⟩; have n0_ := Aside0.mk (zb BK104.out hb); have n1_ := Aside0.mk (below_step (by repeat (first | (with_reducible first | exact HB.out | apply below_alloc | apply pw_below_drewN | apply below_drew1 | refine below_set ?_ GE104.out) | exact HB.out)) hb); clear BK104; clear HB; have BK104 := n0_; have HB := n1_; clear n0_ n1_; (try clear hb); (try clear hb2); (try clear hk); (try clear hi)))
  go_ret
  exact ⟨by first | rfl | (simp [errW_none, errW_some] <;> rfl) | (simp [*, errW_none, errW_some] <;> rfl), by repeat (first | (with_reducible first | exact HB.out | apply below_alloc | apply pw_below_drewN | apply below_drew1 | refine below_set ?_ GE104.out) | exact HB.out)⟩

end Go.Proofs.Ytmeoapalnkibfaa.Q
