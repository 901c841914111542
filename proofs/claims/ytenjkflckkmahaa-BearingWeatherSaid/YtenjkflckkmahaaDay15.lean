/- A region of the statement's own function that draws its order: three appends of made slices; split off its walk, which a program of this session round the kit's print has written. -/
import Derived.Test.YtenjkflckkmahaaQ0
import Derived.Test.YtenjkflckkmahaaQ1
import Derived.Test.YtenjkflckkmahaaQ2
import Derived.Test.YtenjkflckkmahaaQ3
import Derived.Test.YtenjkflckkmahaaRuns2
import Derived.Test.YtenjkflckkmahaaSky
namespace Go.Proofs.Ytenjkflckkmahaa.Q
open Go.RowKit Go.Proofs.YtenjkflckkmahaaW.PrintWords Go.Proofs.YtenjkflckkmahaaW.PrintLast Go.Proofs.YtenjkflckkmahaaW.PrintMore
attribute [local go_sem] max2_int min2_int max_two min_two max_three min_three max_four min_four   -- for this text's walks alone
set_option linter.unusedVariables false
set_option linter.unusedSimpArgs false
theorem zr {α : Type} {d : Kd α} {e base : Nat} {ok : Nat → Prop} {W V : World} {v : Value} {xs : List α} (h : Kd.R d e W base ok v xs) [i : Lies W V] : Kd.R d e V base ok v xs :=
  Kd.R_step h (fun k _ hk => (i.at_ (Array.getElem?_eq_getElem hk)).trans (Array.getElem?_eq_getElem hk).symm)

def fastilaw29_BearingWeather.T15 : Bool × List (List Nat × List Nat) := (true, [([], []), ([], []), ([1], [1]), ([0, 2], [0, 2]), ([], []), ([], []), ([5], [5]), ([4, 6, 3], [4, 6]), ([], []), ([], []), ([9], [9]), ([], []), ([10, 11], [10, 11]), ([12], [12]), ([13], [13]), ([], []), ([15], [15]), ([16], [16]), ([14, 17], [14, 17]), ([18], [18]), ([8, 19, 7], [8, 19]), ([3, 20, 0, 1, 2, 3], [0, 3]), ([7, 21, 0, 1, 2, 3, 4, 5, 6, 7, 21], [4, 7]), ([20, 22, 0, 1, 2, 3, 4, 5, 6, 7, 8, 9, 10, 11, 12, 13, 14, 15, 16, 17, 18, 19, 20, 21, 22], [8, 20])])
def fastilaw29_BearingWeather.B15 : List Nat := [0, 0, 2, 7, 0, 0, 32, 127, 0, 0, 512, 0, 3584, 7680, 15872, 0, 32768, 98304, 261632, 523776, 1048575, 2097151, 4194303, 8388607]
theorem fastilaw29_BearingWeather.tab15 : rtab .any (opsOf Try.f14 15) = fastilaw29_BearingWeather.T15 := by kernel_rfl
theorem fastilaw29_BearingWeather.bits15 : waitsOk fastilaw29_BearingWeather.T15.2 fastilaw29_BearingWeather.B15 = true := by kernel_rfl
set_option maxHeartbeats 8000000 in
set_option maxRecDepth 100000 in
theorem day15 {Q : Exit → Act → World → Prop} (k : Nat) (a0_0 : ByteArray) (a0_1 : ByteArray) (a0_2 : Int) (a0_3 : Int) (a0_4 : Int) (a0_5 : Int) (a0_6 : Int) (a1_0 : Int) (A1_1 : Option Addr) (c1_1 : Nat) (l1_1 : List Int) (A1_2 : Option Addr) (c1_2 : Nat) (l1_2 : List Int) (A1_3 : Option Addr) (c1_3 : Nat) (l1_3 : List Int) (A1_4 : Option Addr) (c1_4 : Nat) (l1_4 : List Int) (c1_5 : Nat) (l1_5 : List Int) (w : World) (HR1_1 : Aside0 ((Kd.int IntKind.u8).C w A1_1 l1_1.length l1_1)) (HC1_1 : Aside0 (l1_1.length ≤ c1_1)) (HR1_2 : Aside0 ((Kd.int IntKind.u8).C w A1_2 l1_2.length l1_2)) (HC1_2 : Aside0 (l1_2.length ≤ c1_2)) (HR1_3 : Aside0 ((Kd.int IntKind.u8).C w A1_3 l1_3.length l1_3)) (HC1_3 : Aside0 (l1_3.length ≤ c1_3)) (HR1_4 : Aside0 ((Kd.int IntKind.u8).C w A1_4 l1_4.length l1_4)) (HC1_4 : Aside0 (l1_4.length ≤ c1_4)) (HC1_5 : Aside0 (l1_5.length ≤ c1_5)) (gb209 : Nat) (GW209 : Aside0 (w.heap.size ≤ gb209)) (GE209 : Aside0 (w.heap.size ≤ gb209)) (gb210 : Nat) (GW210 : Aside0 (w.heap.size ≤ gb210)) (GE210 : Aside0 (w.heap.size ≤ gb210)) (NB209_210 : Aside0 (gb209 ≠ gb210)) (NB210_209 : Aside0 (gb210 ≠ gb209)) (hnb9 : gb210 ≠ gb209) (hnc9 : gb209 ≠ gb210) (hnb21 : gb210 ≠ gb209) (hnc21 : gb209 ≠ gb210) (x7_3 : List S44) (x8_3 : List S44) (x9_3 : List Int) (x46_3 : Int) (c25b0 : decide (x46_3 < ↑l1_5.length) = true) (t213 : Int) (t214 : Int) (t215 : Int) (t216 : Int) (t217 : Int) (t218 : Int) (t219 : Int) (t220 : Int) (y223 : List S44) (Ny223 : Aside0 (y223 = [{ f0 := { f0 := t213, f1 := t214 }, f1 := { f0 := t215, f1 := t216 } }])) (LMc27 : Aside0 (x7_3.length + y223.length < 4398046511104)) (y226 : List S44) (Ny226 : Aside0 (y226 = x7_3 ++ y223)) (y229 : List S44) (Ny229 : Aside0 (y229 = [{ f0 := { f0 := t217, f1 := t218 }, f1 := { f0 := t219, f1 := t220 } }])) (LMc28 : Aside0 (x8_3.length + y229.length < 4398046511104)) (y232 : List S44) (Ny232 : Aside0 (y232 = x8_3 ++ y229)) (c29b0 : decide (0 ≤ x46_3) = true) (c30b0 : decide (x46_3 < ↑l1_5.length) = true) (c31 : ¬wrap64 (a0_6 + 1) = 0) (c31b0 : (wrap64 (a0_6 + 1) == 0) = false) (c31b1 : (wrap64 (a0_6 + 1) != 0) = true) (y236 : List Int) (Ny236 : Aside0 (y236 = [(wrap64 (rd l1_5 x46_3)).tmod (wrap64 (a0_6 + 1))])) (LMc32 : Aside0 (x9_3.length + y236.length < 17592186044416)) (y239 : List Int) (Ny239 : Aside0 (y239 = x9_3 ++ y236)) (hnb33 : gb210 ≠ gb209) (hnc33 : gb209 ≠ gb210) (gb221 : Nat) (GW221 : Aside0 (w.heap.size ≤ gb221)) (GE221 : Aside0 (w.heap.size ≤ gb221)) (NB209_221 : Aside0 (gb209 ≠ gb221)) (NB221_209 : Aside0 (gb221 ≠ gb209)) (NB210_221 : Aside0 (gb210 ≠ gb221)) (NB221_210 : Aside0 (gb221 ≠ gb210)) (gb222 : Nat) (GW222 : Aside0 (w.heap.size ≤ gb222)) (GE222 : Aside0 (w.heap.size ≤ gb222)) (NB209_222 : Aside0 (gb209 ≠ gb222)) (NB222_209 : Aside0 (gb222 ≠ gb209)) (NB210_222 : Aside0 (gb210 ≠ gb222)) (NB222_210 : Aside0 (gb222 ≠ gb210)) (NB221_222 : Aside0 (gb221 ≠ gb222)) (NB222_221 : Aside0 (gb222 ≠ gb221)) (hnb38 : gb221 ≠ gb209) (hnc38 : gb209 ≠ gb221) (hnb39 : gb221 ≠ gb210) (hnc39 : gb210 ≠ gb221) (hnb40 : gb221 ≠ gb222) (hnc40 : gb222 ≠ gb221) (hnb42 : gb222 ≠ gb209) (hnc42 : gb209 ≠ gb222) (hnb43 : gb222 ≠ gb210) (hnc43 : gb210 ≠ gb222) (Ao45 : Option Addr) (co45 : Nat) (Ao46 : Option Addr) (co46 : Nat) (Ao47 : Option Addr) (co47 : Nat) (w48 : World) (HO_7 : Aside0 (k44.R 44 w48.drew w.heap.size (fun k_ => some k_ ≠ (Value.slice Ao46 x8_3.length co46).ownBlock ∧ k_ ≠ gb221 ∧ k_ ≠ gb222) (Value.slice Ao45 x7_3.length co45) x7_3)) (HO_8 : Aside0 (k44.R 44 w48.drew w.heap.size (fun k_ => some k_ ≠ (Value.slice Ao45 x7_3.length co45).ownBlock ∧ k_ ≠ gb221 ∧ k_ ≠ gb222) (Value.slice Ao46 x8_3.length co46) x8_3)) (HO_9 : Aside0 ((Kd.int IntKind.i64).R 3 w48.drew w.heap.size (fun x => True) (Value.slice Ao47 x9_3.length co47) x9_3)) (BK209 : Aside0 (w48.drew.heap[gb209]? = some (Obj.cells #[Value.string a0_0, Value.string a0_1, Value.int IntKind.i64 a0_2, Value.int IntKind.i64 a0_3, Value.int IntKind.i64 a0_4, Value.int IntKind.i64 a0_5, Value.int IntKind.i64 a0_6] 25))) (BK221 : Aside0 (w48.drew.heap[gb221]? = some (Obj.cells #[Value.int IntKind.i64 t213, Value.int IntKind.i64 t214, Value.int IntKind.i64 t215, Value.int IntKind.i64 t216] 44))) (BK222 : Aside0 (w48.drew.heap[gb222]? = some (Obj.cells #[Value.int IntKind.i64 t217, Value.int IntKind.i64 t218, Value.int IntKind.i64 t219, Value.int IntKind.i64 t220] 44))) (HB : Aside0 (Below w.heap.size w w48.drew)) (ad235 : Addr) (hw235_0 : w.cell? (ad235.add x46_3.toNat) = some (Value.int IntKind.u8 (rd l1_5 x46_3))) (HR1_5 : Aside0 ((Kd.int IntKind.u8).C w (some ad235) l1_5.length l1_5)) (BK210 : Aside0 (w48.drew.heap[gb210]? = some (Obj.cells #[Value.int IntKind.i64 a1_0, Value.slice A1_1 l1_1.length c1_1, Value.slice A1_2 l1_2.length c1_2, Value.slice A1_3 l1_3.length c1_3, Value.slice A1_4 l1_4.length c1_4, Value.slice (some ad235) l1_5.length c1_5] 71))) (hx235_0 : w48.drew.cell? (ad235.add x46_3.toNat) = some (Value.int IntKind.u8 (rd l1_5 x46_3))) (p235 : (0 ≤ x46_3) = True) (q235 : (x46_3 < ↑l1_5.length) = True) {x0 x1 x4 x5 x6 x13 x14 x15 x16 x17 x18 x19 x20 x21 x22 x23 x24 x25 x26 x27 x28 x29 x30 x31 x32 x33 x34 x35 x36 x37 x38 x39 x40 x41 x42 x43 x44 x45 x46 x47 x48 x49 x50 x51 x52 x53 x54 x55 x56 x57 x58 x59 x60 x61 x62 x63 x64 x65 x66 x67 x68 x69 x70 x71 x72 x73 x74 x75 x76 x77 x78 x79 x80 x81 x82 x83 x84 x85 x86 x87 x88 x89 x90 x91 x92 x93 x94 x95 x96 x97 x98 x99 x100 x101 x102 x103 x104 x105 x106 x107 x108 x109 x110 x111 x112 x113 x114 x115 x116 x117 x118 x119 x120 x121 x122 x123 x124 x125 x126 x127 x128 x129 x130 x131 x132 x133 x134 x135 x136 x137 x138 x139 x140 x141 x142 x143 x144 x145 x146 x147 x148 x149 x150 x151 x152 x153 x154 x155 x156 x157 x158 x159 x160 x161 x162 x163 x164 x165 x166 x167 x168 x169 x170 x171 x172 x173 x174 x175 x176 x177 x178 : Value}
    (hP : ∀ (c : _) (a : Act) (N : Tmp) (v : Value) (W : World), Q (.panic c) (a.put (some N) v) W → Q (.panic c) a W) (hQ : ∀ (W : World) (v7 v8 v9 y55 y56 y57 y58 y59 y60 y61 y62 y63 y64 y65 y66 y67 y68 y69 y70 y71 y72 y73 y74 y75 : Value), Aside0 (Kd.R k44 44 W w.heap.size (fun k_ => some k_ ≠ v8.ownBlock) v7 y226) → Aside0 (Kd.R k44 44 W w.heap.size (fun k_ => some k_ ≠ v7.ownBlock) v8 y232) → Aside0 (Kd.R (Kd.int .i64) 3 W w.heap.size (fun _ => True) v9 y239) → Aside0 (W.heap[gb209]? = some (Obj.cells #[Value.string a0_0, Value.string a0_1, Value.int IntKind.i64 a0_2, Value.int IntKind.i64 a0_3, Value.int IntKind.i64 a0_4, Value.int IntKind.i64 a0_5, Value.int IntKind.i64 a0_6] 25)) → Aside0 (W.heap[gb210]? = some (Obj.cells #[Value.int IntKind.i64 a1_0, Value.slice A1_1 l1_1.length c1_1, Value.slice A1_2 l1_2.length c1_2, Value.slice A1_3 l1_3.length c1_3, Value.slice A1_4 l1_4.length c1_4, Value.slice (some ad235) l1_5.length c1_5] 71)) → Aside0 (Below w.heap.size w W) → Q .normal { tmps := #[x0, x1, Value.pointer (some { block := gb209, off := 0 }), Value.pointer (some { block := gb210, off := 0 }), x4, x5, x6, v7, v8, v9, Value.int IntKind.i64 x46_3, Value.pointer (some { block := gb221, off := 0 }), Value.pointer (some { block := gb222, off := 0 }), x13, x14, x15, x16, x17, x18, x19, x20, x21, x22, x23, x24, x25, x26, x27, x28, x29, x30, x31, x32, x33, x34, x35, x36, x37, x38, x39, x40, x41, x42, x43, x44, x45, x46, x47, x48, x49, x50, x51, x52, x53, x54, y55, y56, y57, y58, y59, y60, y61, y62, y63, y64, y65, y66, y67, y68, y69, y70, y71, y72, y73, y74, y75, x76, x77, x78, x79, x80, x81, x82, x83, x84, x85, x86, x87, x88, x89, x90, x91, x92, x93, x94, x95, x96, x97, x98, x99, x100, x101, x102, x103, x104, x105, x106, x107, x108, x109, x110, x111, x112, x113, x114, x115, x116, x117, x118, x119, x120, x121, x122, x123, x124, x125, x126, x127, x128, x129, x130, x131, x132, x133, x134, x135, x136, x137, x138, x139, x140, x141, x142, x143, x144, x145, x146, x147, x148, x149, x150, x151, x152, x153, x154, x155, x156, x157, x158, x159, x160, x161, x162, x163, x164, x165, x166, x167, x168, x169, x170, x171, x172, x173, x174, x175, x176, x177, x178], defers := [] } W) :
    Code.wp Try.prog (Code.region 15 #[{ dst := some 55, op := Op.move (Operand.tmp 7), type := 49, pos := "law.go:117", after := #[], guard := none }, { dst := some 56, op := Op.load 44 (Operand.tmp 11), type := 44, pos := "law.go:117", after := #[], guard := none }, { dst := some 57, op := Op.buildSlice 49 1 #[(0, Operand.tmp 56)], type := 49, pos := "law.go:117", after := #[{ on := 1, ground := Ground.data }], guard := none }, { dst := some 58, op := Op.call { callee := Callee.builtin Builtin.append, args := #[Operand.tmp 55, Operand.tmp 57], argTypes := #[49, 49] }, type := 49, pos := "law.go:117", after := #[{ on := 0, ground := Ground.data }, { on := 2, ground := Ground.data }], guard := none }, { dst := some 59, op := Op.move (Operand.tmp 8), type := 49, pos := "law.go:117", after := #[], guard := none }, { dst := some 60, op := Op.load 44 (Operand.tmp 12), type := 44, pos := "law.go:117", after := #[], guard := none }, { dst := some 61, op := Op.buildSlice 49 1 #[(0, Operand.tmp 60)], type := 49, pos := "law.go:117", after := #[{ on := 5, ground := Ground.data }], guard := none }, { dst := some 62, op := Op.call { callee := Callee.builtin Builtin.append, args := #[Operand.tmp 59, Operand.tmp 61], argTypes := #[49, 49] }, type := 49, pos := "law.go:117", after := #[{ on := 4, ground := Ground.data }, { on := 6, ground := Ground.data }, { on := 3, ground := Ground.chain }], guard := none }, { dst := some 63, op := Op.move (Operand.tmp 9), type := 50, pos := "law.go:117", after := #[], guard := none }, { dst := some 64, op := Op.fieldAddr 71 (Operand.tmp 3) 5, type := 0, pos := "law.go:117", after := #[], guard := none }, { dst := some 65, op := Op.load 69 (Operand.tmp 64), type := 69, pos := "law.go:117", after := #[{ on := 9, ground := Ground.data }], guard := none }, { dst := some 66, op := Op.move (Operand.tmp 10), type := 3, pos := "law.go:117", after := #[], guard := none }, { dst := some 67, op := Op.indexAddr 69 (Operand.tmp 65) (Operand.tmp 66), type := 0, pos := "law.go:117", after := #[{ on := 10, ground := Ground.data }, { on := 11, ground := Ground.data }], guard := none }, { dst := some 68, op := Op.load 5 (Operand.tmp 67), type := 5, pos := "law.go:117", after := #[{ on := 12, ground := Ground.data }], guard := none }, { dst := some 69, op := Op.convert 5 3 (Operand.tmp 68), type := 3, pos := "law.go:117", after := #[{ on := 13, ground := Ground.data }], guard := none }, { dst := some 70, op := Op.fieldAddr 25 (Operand.tmp 2) 5, type := 0, pos := "law.go:117", after := #[], guard := none }, { dst := some 71, op := Op.load 3 (Operand.tmp 70), type := 3, pos := "law.go:117", after := #[{ on := 15, ground := Ground.data }], guard := none }, { dst := some 72, op := Op.binOp BinOp.add 3 (Operand.tmp 71) (Operand.const (Value.int IntKind.i64 1)) 3, type := 3, pos := "law.go:117", after := #[{ on := 16, ground := Ground.data }], guard := none }, { dst := some 73, op := Op.binOp BinOp.rem 3 (Operand.tmp 69) (Operand.tmp 72) 3, type := 3, pos := "law.go:117", after := #[{ on := 14, ground := Ground.data }, { on := 17, ground := Ground.data }], guard := none }, { dst := some 74, op := Op.buildSlice 50 1 #[(0, Operand.tmp 73)], type := 50, pos := "law.go:117", after := #[{ on := 18, ground := Ground.data }], guard := none }, { dst := some 75, op := Op.call { callee := Callee.builtin Builtin.append, args := #[Operand.tmp 63, Operand.tmp 74], argTypes := #[50, 50] }, type := 50, pos := "law.go:117", after := #[{ on := 8, ground := Ground.data }, { on := 19, ground := Ground.data }, { on := 7, ground := Ground.chain }], guard := none }, { dst := some 7, op := Op.assign (Operand.tmp 58), type := 49, pos := "law.go:117", after := #[{ on := 3, ground := Ground.data }, { on := 20, ground := Ground.chain }, { on := 0, ground := Ground.phase }, { on := 1, ground := Ground.phase }, { on := 2, ground := Ground.phase }, { on := 3, ground := Ground.phase }, { on := 4, ground := Ground.textOnly Departure.lateStores }, { on := 5, ground := Ground.textOnly Departure.lateStores }, { on := 6, ground := Ground.textOnly Departure.lateStores }, { on := 7, ground := Ground.textOnly Departure.lateStoresUnsure }, { on := 8, ground := Ground.textOnly Departure.lateStores }, { on := 9, ground := Ground.textOnly Departure.lateStores }, { on := 10, ground := Ground.textOnly Departure.lateStores }, { on := 11, ground := Ground.textOnly Departure.lateStores }, { on := 12, ground := Ground.textOnly Departure.lateStores }, { on := 13, ground := Ground.textOnly Departure.lateStores }, { on := 14, ground := Ground.textOnly Departure.lateStores }, { on := 15, ground := Ground.textOnly Departure.lateStores }, { on := 16, ground := Ground.textOnly Departure.lateStores }, { on := 17, ground := Ground.textOnly Departure.lateStores }, { on := 18, ground := Ground.textOnly Departure.lateStores }, { on := 19, ground := Ground.textOnly Departure.lateStores }, { on := 20, ground := Ground.textOnly Departure.lateStoresUnsure }], guard := none }, { dst := some 8, op := Op.assign (Operand.tmp 62), type := 49, pos := "law.go:117", after := #[{ on := 7, ground := Ground.data }, { on := 21, ground := Ground.chain }, { on := 0, ground := Ground.phase }, { on := 1, ground := Ground.phase }, { on := 2, ground := Ground.phase }, { on := 3, ground := Ground.phase }, { on := 4, ground := Ground.phase }, { on := 5, ground := Ground.phase }, { on := 6, ground := Ground.phase }, { on := 7, ground := Ground.phase }, { on := 8, ground := Ground.textOnly Departure.lateStores }, { on := 9, ground := Ground.textOnly Departure.lateStores }, { on := 10, ground := Ground.textOnly Departure.lateStores }, { on := 11, ground := Ground.textOnly Departure.lateStores }, { on := 12, ground := Ground.textOnly Departure.lateStores }, { on := 13, ground := Ground.textOnly Departure.lateStores }, { on := 14, ground := Ground.textOnly Departure.lateStores }, { on := 15, ground := Ground.textOnly Departure.lateStores }, { on := 16, ground := Ground.textOnly Departure.lateStores }, { on := 17, ground := Ground.textOnly Departure.lateStores }, { on := 18, ground := Ground.textOnly Departure.lateStores }, { on := 19, ground := Ground.textOnly Departure.lateStores }, { on := 20, ground := Ground.textOnly Departure.lateStoresUnsure }, { on := 21, ground := Ground.phase }], guard := none }, { dst := some 9, op := Op.assign (Operand.tmp 75), type := 50, pos := "law.go:117", after := #[{ on := 20, ground := Ground.data }, { on := 22, ground := Ground.chain }, { on := 0, ground := Ground.phase }, { on := 1, ground := Ground.phase }, { on := 2, ground := Ground.phase }, { on := 3, ground := Ground.phase }, { on := 4, ground := Ground.phase }, { on := 5, ground := Ground.phase }, { on := 6, ground := Ground.phase }, { on := 7, ground := Ground.phase }, { on := 8, ground := Ground.phase }, { on := 9, ground := Ground.phase }, { on := 10, ground := Ground.phase }, { on := 11, ground := Ground.phase }, { on := 12, ground := Ground.phase }, { on := 13, ground := Ground.phase }, { on := 14, ground := Ground.phase }, { on := 15, ground := Ground.phase }, { on := 16, ground := Ground.phase }, { on := 17, ground := Ground.phase }, { on := 18, ground := Ground.phase }, { on := 19, ground := Ground.phase }, { on := 20, ground := Ground.phase }, { on := 21, ground := Ground.phase }, { on := 22, ground := Ground.phase }], guard := none }] true) Q { tmps := #[x0, x1, Value.pointer (some { block := gb209, off := 0 }), Value.pointer (some { block := gb210, off := 0 }), x4, x5, x6, Value.slice Ao45 x7_3.length co45, Value.slice Ao46 x8_3.length co46, Value.slice Ao47 x9_3.length co47, Value.int IntKind.i64 x46_3, Value.pointer (some { block := gb221, off := 0 }), Value.pointer (some { block := gb222, off := 0 }), x13, x14, x15, x16, x17, x18, x19, x20, x21, x22, x23, x24, x25, x26, x27, x28, x29, x30, x31, x32, x33, x34, x35, x36, x37, x38, x39, x40, x41, x42, x43, x44, x45, x46, x47, x48, x49, x50, x51, x52, x53, x54, x55, x56, x57, x58, x59, x60, x61, x62, x63, x64, x65, x66, x67, x68, x69, x70, x71, x72, x73, x74, x75, x76, x77, x78, x79, x80, x81, x82, x83, x84, x85, x86, x87, x88, x89, x90, x91, x92, x93, x94, x95, x96, x97, x98, x99, x100, x101, x102, x103, x104, x105, x106, x107, x108, x109, x110, x111, x112, x113, x114, x115, x116, x117, x118, x119, x120, x121, x122, x123, x124, x125, x126, x127, x128, x129, x130, x131, x132, x133, x134, x135, x136, x137, x138, x139, x140, x141, x142, x143, x144, x145, x146, x147, x148, x149, x150, x151, x152, x153, x154, x155, x156, x157, x158, x159, x160, x161, x162, x163, x164, x165, x166, x167, x168, x169, x170, x171, x172, x173, x174, x175, x176, x177, x178], defers := [] } w48 := by
  refine start_ (n := 24) (S := fun w' => w'.cell? ⟨gb221, 0, none⟩ = some (.int .i64 t213) ∧ w'.cell? ⟨gb221, 1, none⟩ = some (.int .i64 t214) ∧ w'.cell? ⟨gb221, 2, none⟩ = some (.int .i64 t215) ∧ w'.cell? ⟨gb221, 3, none⟩ = some (.int .i64 t216) ∧ w'.cell? ⟨gb222, 0, none⟩ = some (.int .i64 t217) ∧ w'.cell? ⟨gb222, 1, none⟩ = some (.int .i64 t218) ∧ w'.cell? ⟨gb222, 2, none⟩ = some (.int .i64 t219) ∧ w'.cell? ⟨gb222, 3, none⟩ = some (.int .i64 t220) ∧ w'.cell? ⟨gb210, 0, none⟩ = some (.int .i64 a1_0) ∧ w'.cell? ⟨gb210, 1, none⟩ = some (.slice A1_1 l1_1.length c1_1) ∧ w'.cell? ⟨gb210, 2, none⟩ = some (.slice A1_2 l1_2.length c1_2) ∧ w'.cell? ⟨gb210, 3, none⟩ = some (.slice A1_3 l1_3.length c1_3) ∧ w'.cell? ⟨gb210, 4, none⟩ = some (.slice A1_4 l1_4.length c1_4) ∧ w'.cell? ⟨gb210, 5, none⟩ = some (.slice (some ad235) l1_5.length c1_5) ∧ w'.cell? ⟨gb209, 0, none⟩ = some (.string a0_0) ∧ w'.cell? ⟨gb209, 1, none⟩ = some (.string a0_1) ∧ w'.cell? ⟨gb209, 2, none⟩ = some (.int .i64 a0_2) ∧ w'.cell? ⟨gb209, 3, none⟩ = some (.int .i64 a0_3) ∧ w'.cell? ⟨gb209, 4, none⟩ = some (.int .i64 a0_4) ∧ w'.cell? ⟨gb209, 5, none⟩ = some (.int .i64 a0_5) ∧ w'.cell? ⟨gb209, 6, none⟩ = some (.int .i64 a0_6) ∧ w'.cell? (ad235.add (x46_3).toNat) = some (.int .u8 (rd l1_5 x46_3))) (ds := []) #[false, false, false, false, false, false, false, false, false, false, false, false, false, false, false, false, false, false, false, false, false, false, false, false] (by kernel_rfl) rfl rfl ⟨(blk_cell BK221.out 0).trans rfl, (blk_cell BK221.out 1).trans rfl, (blk_cell BK221.out 2).trans rfl, (blk_cell BK221.out 3).trans rfl, (blk_cell BK222.out 0).trans rfl, (blk_cell BK222.out 1).trans rfl, (blk_cell BK222.out 2).trans rfl, (blk_cell BK222.out 3).trans rfl, (blk_cell BK210.out 0).trans rfl, (blk_cell BK210.out 1).trans rfl, (blk_cell BK210.out 2).trans rfl, (blk_cell BK210.out 3).trans rfl, (blk_cell BK210.out 4).trans rfl, (blk_cell BK210.out 5).trans rfl, (blk_cell BK209.out 0).trans rfl, (blk_cell BK209.out 1).trans rfl, (blk_cell BK209.out 2).trans rfl, (blk_cell BK209.out 3).trans rfl, (blk_cell BK209.out 4).trans rfl, (blk_cell BK209.out 5).trans rfl, (blk_cell BK209.out 6).trans rfl, ((HB.out.cell (World.block_lt_of_cell? w _ hw235_0)).trans hw235_0)⟩ (fun hHeld => ?_); refine with_tabW fastilaw29_BearingWeather.tab15 fastilaw29_BearingWeather.bits15 (fun HT_ HW_ => ?_)
  generalize w48.drew = w49 at HO_7 HO_8 HO_9 BK209 BK210 BK221 BK222 HB hx235_0 hHeld ⊢
  refine pure_ (i := 0) (N := some 55) (v := ?_) (a' := ?_) #[true, false, false, false, false, false, false, false, false, false, false, false, false, false, false, false, false, false, false, false, false, false, false, false] rfl rfl (any_of HT_.out (by kernel_rfl)) (fun _ _ _ h => hP _ _ _ _ _ h) (Or.inl ⟨by rfl, ?_⟩) ?_ ?_
  rotate_left
  ·intro w'
   go_simp
   with_reducible rfl
  rotate_left
  ·simp only [Act.put, List.setIfInBounds_toArray, List.set_cons_zero, List.set_cons_succ, i64_w, i32_w]
   rfl
  refine pure_ (i := 4) (N := some 59) (v := ?_) (a' := ?_) #[true, false, false, false, true, false, false, false, false, false, false, false, false, false, false, false, false, false, false, false, false, false, false, false] rfl rfl (any_of HT_.out (by kernel_rfl)) (fun _ _ _ h => hP _ _ _ _ _ h) (Or.inl ⟨by rfl, ?_⟩) ?_ ?_
  rotate_left
  ·intro w'
   go_simp
   with_reducible rfl
  rotate_left
  ·simp only [Act.put, List.setIfInBounds_toArray, List.set_cons_zero, List.set_cons_succ, i64_w, i32_w]
   rfl
  refine pure_ (i := 8) (N := some 63) (v := ?_) (a' := ?_) #[true, false, false, false, true, false, false, false, true, false, false, false, false, false, false, false, false, false, false, false, false, false, false, false] rfl rfl (any_of HT_.out (by kernel_rfl)) (fun _ _ _ h => hP _ _ _ _ _ h) (Or.inl ⟨by rfl, ?_⟩) ?_ ?_
  rotate_left
  ·intro w'
   go_simp
   with_reducible rfl
  rotate_left
  ·simp only [Act.put, List.setIfInBounds_toArray, List.set_cons_zero, List.set_cons_succ, i64_w, i32_w]
   rfl
  refine pure_ (i := 9) (N := some 64) (v := ?_) (a' := ?_) #[true, false, false, false, true, false, false, false, true, true, false, false, false, false, false, false, false, false, false, false, false, false, false, false] rfl rfl (any_of HT_.out (by kernel_rfl)) (fun _ _ _ h => hP _ _ _ _ _ h) (Or.inl ⟨by rfl, ?_⟩) ?_ ?_
  rotate_left
  ·intro w'
   go_simp
   with_reducible rfl
  rotate_left
  ·simp only [Act.put, List.setIfInBounds_toArray, List.set_cons_zero, List.set_cons_succ, i64_w, i32_w]
   rfl
  refine pure_ (i := 11) (N := some 66) (v := ?_) (a' := ?_) #[true, false, false, false, true, false, false, false, true, true, false, true, false, false, false, false, false, false, false, false, false, false, false, false] rfl rfl (any_of HT_.out (by kernel_rfl)) (fun _ _ _ h => hP _ _ _ _ _ h) (Or.inl ⟨by rfl, ?_⟩) ?_ ?_
  rotate_left
  ·intro w'
   go_simp
   with_reducible rfl
  rotate_left
  ·simp only [Act.put, List.setIfInBounds_toArray, List.set_cons_zero, List.set_cons_succ, i64_w, i32_w]
   rfl
  refine pure_ (i := 15) (N := some 70) (v := ?_) (a' := ?_) #[true, false, false, false, true, false, false, false, true, true, false, true, false, false, false, true, false, false, false, false, false, false, false, false] rfl rfl (any_of HT_.out (by kernel_rfl)) (fun _ _ _ h => hP _ _ _ _ _ h) (Or.inl ⟨by rfl, ?_⟩) ?_ ?_
  rotate_left
  ·intro w'
   go_simp
   with_reducible rfl
  rotate_left
  ·simp only [Act.put, List.setIfInBounds_toArray, List.set_cons_zero, List.set_cons_succ, i64_w, i32_w]
   rfl
  refine take_ (i := 1) (N := some 56) (v := ?_) (a' := ?_) #[true, true, false, false, true, false, false, false, true, true, false, true, false, false, false, true, false, false, false, false, false, false, false, false] rfl rfl (take_ofW HT_.out HW_.out (by kernel_rfl)) (fun _ _ _ h => hP _ _ _ _ _ h) (Or.inl ⟨by rfl, ?_⟩) hHeld ?_ ?_
  rotate_left
  ·rintro w' ⟨s0, s1, s2, s3, s4, s5, s6, s7, s8, s9, s10, s11, s12, s13, s14, s15, s16, s17, s18, s19, s20, s21⟩
   go_simp
   with_reducible rfl
  rotate_left
  ·simp only [Act.put, List.setIfInBounds_toArray, List.set_cons_zero, List.set_cons_succ, i64_w, i32_w]
   rfl
  refine take_ (i := 5) (N := some 60) (v := ?_) (a' := ?_) #[true, true, false, false, true, true, false, false, true, true, false, true, false, false, false, true, false, false, false, false, false, false, false, false] rfl rfl (take_ofW HT_.out HW_.out (by kernel_rfl)) (fun _ _ _ h => hP _ _ _ _ _ h) (Or.inl ⟨by rfl, ?_⟩) hHeld ?_ ?_
  rotate_left
  ·rintro w' ⟨s0, s1, s2, s3, s4, s5, s6, s7, s8, s9, s10, s11, s12, s13, s14, s15, s16, s17, s18, s19, s20, s21⟩
   go_simp
   with_reducible rfl
  rotate_left
  ·simp only [Act.put, List.setIfInBounds_toArray, List.set_cons_zero, List.set_cons_succ, i64_w, i32_w]
   rfl
  refine take_ (i := 10) (N := some 65) (v := ?_) (a' := ?_) #[true, true, false, false, true, true, false, false, true, true, true, true, false, false, false, true, false, false, false, false, false, false, false, false] rfl rfl (take_ofW HT_.out HW_.out (by kernel_rfl)) (fun _ _ _ h => hP _ _ _ _ _ h) (Or.inl ⟨by rfl, ?_⟩) hHeld ?_ ?_
  rotate_left
  ·rintro w' ⟨s0, s1, s2, s3, s4, s5, s6, s7, s8, s9, s10, s11, s12, s13, s14, s15, s16, s17, s18, s19, s20, s21⟩
   go_simp
   with_reducible rfl
  rotate_left
  ·simp only [Act.put, List.setIfInBounds_toArray, List.set_cons_zero, List.set_cons_succ, i64_w, i32_w]
   rfl
  refine pure_ (i := 12) (N := some 67) (v := ?_) (a' := ?_) #[true, true, false, false, true, true, false, false, true, true, true, true, true, false, false, true, false, false, false, false, false, false, false, false] rfl rfl (any_of HT_.out (by kernel_rfl)) (fun _ _ _ h => hP _ _ _ _ _ h) (Or.inl ⟨by rfl, ?_⟩) ?_ ?_
  rotate_left
  ·intro w'
   go_simp
   with_reducible rfl
  rotate_left
  ·simp only [Act.put, List.setIfInBounds_toArray, List.set_cons_zero, List.set_cons_succ, i64_w, i32_w]
   rfl
  refine take_ (i := 13) (N := some 68) (v := ?_) (a' := ?_) #[true, true, false, false, true, true, false, false, true, true, true, true, true, true, false, true, false, false, false, false, false, false, false, false] rfl rfl (take_ofW HT_.out HW_.out (by kernel_rfl)) (fun _ _ _ h => hP _ _ _ _ _ h) (Or.inl ⟨by rfl, ?_⟩) hHeld ?_ ?_
  rotate_left
  ·rintro w' ⟨s0, s1, s2, s3, s4, s5, s6, s7, s8, s9, s10, s11, s12, s13, s14, s15, s16, s17, s18, s19, s20, s21⟩
   go_simp
   with_reducible rfl
  rotate_left
  ·simp only [Act.put, List.setIfInBounds_toArray, List.set_cons_zero, List.set_cons_succ, i64_w, i32_w]
   rfl
  refine pure_ (i := 14) (N := some 69) (v := ?_) (a' := ?_) #[true, true, false, false, true, true, false, false, true, true, true, true, true, true, true, true, false, false, false, false, false, false, false, false] rfl rfl (any_of HT_.out (by kernel_rfl)) (fun _ _ _ h => hP _ _ _ _ _ h) (Or.inl ⟨by rfl, ?_⟩) ?_ ?_
  rotate_left
  ·intro w'
   go_simp
   with_reducible rfl
  rotate_left
  ·simp only [Act.put, List.setIfInBounds_toArray, List.set_cons_zero, List.set_cons_succ, i64_w, i32_w]
   rfl
  refine take_ (i := 16) (N := some 71) (v := ?_) (a' := ?_) #[true, true, false, false, true, true, false, false, true, true, true, true, true, true, true, true, true, false, false, false, false, false, false, false] rfl rfl (take_ofW HT_.out HW_.out (by kernel_rfl)) (fun _ _ _ h => hP _ _ _ _ _ h) (Or.inl ⟨by rfl, ?_⟩) hHeld ?_ ?_
  rotate_left
  ·rintro w' ⟨s0, s1, s2, s3, s4, s5, s6, s7, s8, s9, s10, s11, s12, s13, s14, s15, s16, s17, s18, s19, s20, s21⟩
   go_simp
   with_reducible rfl
  rotate_left
  ·simp only [Act.put, List.setIfInBounds_toArray, List.set_cons_zero, List.set_cons_succ, i64_w, i32_w]
   rfl
  refine pure_ (i := 17) (N := some 72) (v := ?_) (a' := ?_) #[true, true, false, false, true, true, false, false, true, true, true, true, true, true, true, true, true, true, false, false, false, false, false, false] rfl rfl (any_of HT_.out (by kernel_rfl)) (fun _ _ _ h => hP _ _ _ _ _ h) (Or.inl ⟨by rfl, ?_⟩) ?_ ?_
  rotate_left
  ·intro w'
   go_simp
   with_reducible rfl
  rotate_left
  ·simp only [Act.put, List.setIfInBounds_toArray, List.set_cons_zero, List.set_cons_succ, i64_w, i32_w]
   rfl
  refine pure_ (i := 18) (N := some 73) (v := ?_) (a' := ?_) #[true, true, false, false, true, true, false, false, true, true, true, true, true, true, true, true, true, true, true, false, false, false, false, false] rfl rfl (any_of HT_.out (by kernel_rfl)) (fun _ _ _ h => hP _ _ _ _ _ h) (Or.inl ⟨by rfl, ?_⟩) ?_ ?_
  rotate_left
  ·intro w'
   go_simp
   with_reducible rfl
  rotate_left
  ·simp only [Act.put, List.setIfInBounds_toArray, List.set_cons_zero, List.set_cons_succ, i64_w, i32_w]
   rfl
  refine join_ (σ := Value × Value × Value × Value × Value) 4 #[true, true, true, true, true, true, true, true, true, true, true, true, true, true, true, true, true, true, true, true, false, false, false, false] (fun s_ => [(57, s_.1), (58, s_.2.1), (61, s_.2.2.1), (62, s_.2.2.2.1), (74, s_.2.2.2.2)]) (fun s_ w' => (w'.cell? ⟨gb221, 0, none⟩ = some (.int .i64 t213) ∧ w'.cell? ⟨gb221, 1, none⟩ = some (.int .i64 t214) ∧ w'.cell? ⟨gb221, 2, none⟩ = some (.int .i64 t215) ∧ w'.cell? ⟨gb221, 3, none⟩ = some (.int .i64 t216) ∧ w'.cell? ⟨gb222, 0, none⟩ = some (.int .i64 t217) ∧ w'.cell? ⟨gb222, 1, none⟩ = some (.int .i64 t218) ∧ w'.cell? ⟨gb222, 2, none⟩ = some (.int .i64 t219) ∧ w'.cell? ⟨gb222, 3, none⟩ = some (.int .i64 t220) ∧ w'.cell? ⟨gb210, 0, none⟩ = some (.int .i64 a1_0) ∧ w'.cell? ⟨gb210, 1, none⟩ = some (.slice A1_1 l1_1.length c1_1) ∧ w'.cell? ⟨gb210, 2, none⟩ = some (.slice A1_2 l1_2.length c1_2) ∧ w'.cell? ⟨gb210, 3, none⟩ = some (.slice A1_3 l1_3.length c1_3) ∧ w'.cell? ⟨gb210, 4, none⟩ = some (.slice A1_4 l1_4.length c1_4) ∧ w'.cell? ⟨gb210, 5, none⟩ = some (.slice (some ad235) l1_5.length c1_5) ∧ w'.cell? ⟨gb209, 0, none⟩ = some (.string a0_0) ∧ w'.cell? ⟨gb209, 1, none⟩ = some (.string a0_1) ∧ w'.cell? ⟨gb209, 2, none⟩ = some (.int .i64 a0_2) ∧ w'.cell? ⟨gb209, 3, none⟩ = some (.int .i64 a0_3) ∧ w'.cell? ⟨gb209, 4, none⟩ = some (.int .i64 a0_4) ∧ w'.cell? ⟨gb209, 5, none⟩ = some (.int .i64 a0_5) ∧ w'.cell? ⟨gb209, 6, none⟩ = some (.int .i64 a0_6) ∧ w'.cell? (ad235.add (x46_3).toNat) = some (.int .u8 (rd l1_5 x46_3))) ∧ (Kd.R k44 44 w' w.heap.size (fun k_ => some k_ ≠ (s_.2.1 : Value).ownBlock ∧ some k_ ≠ (s_.2.2.1 : Value).ownBlock ∧ some k_ ≠ (s_.2.2.2.1 : Value).ownBlock ∧ k_ ≠ gb221 ∧ k_ ≠ gb222) s_.1 y223) ∧ (Kd.R k44 44 w' w.heap.size (fun k_ => some k_ ≠ (s_.1 : Value).ownBlock ∧ some k_ ≠ (s_.2.2.1 : Value).ownBlock ∧ some k_ ≠ (s_.2.2.2.1 : Value).ownBlock ∧ k_ ≠ gb221 ∧ k_ ≠ gb222) s_.2.1 y226) ∧ (Kd.R k44 44 w' w.heap.size (fun k_ => some k_ ≠ (s_.1 : Value).ownBlock ∧ some k_ ≠ (s_.2.1 : Value).ownBlock ∧ some k_ ≠ (s_.2.2.2.1 : Value).ownBlock ∧ k_ ≠ gb221 ∧ k_ ≠ gb222) s_.2.2.1 y229) ∧ (Kd.R k44 44 w' w.heap.size (fun k_ => some k_ ≠ (s_.1 : Value).ownBlock ∧ some k_ ≠ (s_.2.1 : Value).ownBlock ∧ some k_ ≠ (s_.2.2.1 : Value).ownBlock ∧ k_ ≠ gb221 ∧ k_ ≠ gb222) s_.2.2.2.1 y232) ∧ (Kd.R (Kd.int .i64) 3 w' w.heap.size (fun k_ => some k_ ≠ (.slice Ao47 x9_3.length co47 : Value).ownBlock) s_.2.2.2.2 y236) ∧ (Kd.R (Kd.int .i64) 3 w' w.heap.size (fun k_ => some k_ ≠ (s_.2.2.2.2 : Value).ownBlock) (.slice Ao47 x9_3.length co47) x9_3) ∧ (w'.heap[gb209]? = some (.cells #[.string a0_0, .string a0_1, .int .i64 a0_2, .int .i64 a0_3, .int .i64 a0_4, .int .i64 a0_5, .int .i64 a0_6] 25 (0, 0))) ∧ (w'.heap[gb210]? = some (.cells #[.int .i64 a1_0, .slice A1_1 l1_1.length c1_1, .slice A1_2 l1_2.length c1_2, .slice A1_3 l1_3.length c1_3, .slice A1_4 l1_4.length c1_4, .slice (some ad235) l1_5.length c1_5] 71 (0, 0))) ∧ (w'.heap[gb221]? = some (.cells #[.int .i64 t213, .int .i64 t214, .int .i64 t215, .int .i64 t216] 44 (0, 0))) ∧ (w'.heap[gb222]? = some (.cells #[.int .i64 t217, .int .i64 t218, .int .i64 t219, .int .i64 t220] 44 (0, 0))) ∧ (Below w.heap.size w w')) ?_ ?_
  rotate_left
  ·intro hJ2_3_6_7_19
   refine join_ (σ := Value × Value × Value × Value) 5 #[true, true, true, true, true, true, true, true, true, true, true, true, true, true, true, true, true, true, true, false, false, false, false, false] (fun s_ => [(57, s_.1), (58, s_.2.1), (61, s_.2.2.1), (62, s_.2.2.2)]) (fun s_ w' => (w'.cell? ⟨gb221, 0, none⟩ = some (.int .i64 t213) ∧ w'.cell? ⟨gb221, 1, none⟩ = some (.int .i64 t214) ∧ w'.cell? ⟨gb221, 2, none⟩ = some (.int .i64 t215) ∧ w'.cell? ⟨gb221, 3, none⟩ = some (.int .i64 t216) ∧ w'.cell? ⟨gb222, 0, none⟩ = some (.int .i64 t217) ∧ w'.cell? ⟨gb222, 1, none⟩ = some (.int .i64 t218) ∧ w'.cell? ⟨gb222, 2, none⟩ = some (.int .i64 t219) ∧ w'.cell? ⟨gb222, 3, none⟩ = some (.int .i64 t220) ∧ w'.cell? ⟨gb210, 0, none⟩ = some (.int .i64 a1_0) ∧ w'.cell? ⟨gb210, 1, none⟩ = some (.slice A1_1 l1_1.length c1_1) ∧ w'.cell? ⟨gb210, 2, none⟩ = some (.slice A1_2 l1_2.length c1_2) ∧ w'.cell? ⟨gb210, 3, none⟩ = some (.slice A1_3 l1_3.length c1_3) ∧ w'.cell? ⟨gb210, 4, none⟩ = some (.slice A1_4 l1_4.length c1_4) ∧ w'.cell? ⟨gb210, 5, none⟩ = some (.slice (some ad235) l1_5.length c1_5) ∧ w'.cell? ⟨gb209, 0, none⟩ = some (.string a0_0) ∧ w'.cell? ⟨gb209, 1, none⟩ = some (.string a0_1) ∧ w'.cell? ⟨gb209, 2, none⟩ = some (.int .i64 a0_2) ∧ w'.cell? ⟨gb209, 3, none⟩ = some (.int .i64 a0_3) ∧ w'.cell? ⟨gb209, 4, none⟩ = some (.int .i64 a0_4) ∧ w'.cell? ⟨gb209, 5, none⟩ = some (.int .i64 a0_5) ∧ w'.cell? ⟨gb209, 6, none⟩ = some (.int .i64 a0_6) ∧ w'.cell? (ad235.add (x46_3).toNat) = some (.int .u8 (rd l1_5 x46_3))) ∧ (Kd.R k44 44 w' w.heap.size (fun k_ => some k_ ≠ (s_.2.1 : Value).ownBlock ∧ some k_ ≠ (s_.2.2.1 : Value).ownBlock ∧ some k_ ≠ (s_.2.2.2 : Value).ownBlock ∧ k_ ≠ gb221 ∧ k_ ≠ gb222) s_.1 y223) ∧ (Kd.R k44 44 w' w.heap.size (fun k_ => some k_ ≠ (s_.1 : Value).ownBlock ∧ some k_ ≠ (s_.2.2.1 : Value).ownBlock ∧ some k_ ≠ (s_.2.2.2 : Value).ownBlock ∧ k_ ≠ gb221 ∧ k_ ≠ gb222) s_.2.1 y226) ∧ (Kd.R k44 44 w' w.heap.size (fun k_ => some k_ ≠ (s_.1 : Value).ownBlock ∧ some k_ ≠ (s_.2.1 : Value).ownBlock ∧ some k_ ≠ (s_.2.2.2 : Value).ownBlock ∧ k_ ≠ gb221 ∧ k_ ≠ gb222) s_.2.2.1 y229) ∧ (Kd.R k44 44 w' w.heap.size (fun k_ => some k_ ≠ (s_.1 : Value).ownBlock ∧ some k_ ≠ (s_.2.1 : Value).ownBlock ∧ some k_ ≠ (s_.2.2.1 : Value).ownBlock ∧ k_ ≠ gb221 ∧ k_ ≠ gb222) s_.2.2.2 y232) ∧ (Kd.R (Kd.int .i64) 3 w' w.heap.size (fun _ => True) (.slice Ao47 x9_3.length co47) x9_3) ∧ (w'.heap[gb209]? = some (.cells #[.string a0_0, .string a0_1, .int .i64 a0_2, .int .i64 a0_3, .int .i64 a0_4, .int .i64 a0_5, .int .i64 a0_6] 25 (0, 0))) ∧ (w'.heap[gb210]? = some (.cells #[.int .i64 a1_0, .slice A1_1 l1_1.length c1_1, .slice A1_2 l1_2.length c1_2, .slice A1_3 l1_3.length c1_3, .slice A1_4 l1_4.length c1_4, .slice (some ad235) l1_5.length c1_5] 71 (0, 0))) ∧ (w'.heap[gb221]? = some (.cells #[.int .i64 t213, .int .i64 t214, .int .i64 t215, .int .i64 t216] 44 (0, 0))) ∧ (w'.heap[gb222]? = some (.cells #[.int .i64 t217, .int .i64 t218, .int .i64 t219, .int .i64 t220] 44 (0, 0))) ∧ (Below w.heap.size w w')) ?_ ?_
   rotate_left
   ·intro hJ2_3_6_7
    refine join_ (σ := Value × Value × Value × Value) 5 #[true, true, true, true, true, true, true, false, true, true, true, true, true, true, true, true, true, true, true, true, false, false, false, false] (fun s_ => [(57, s_.1), (58, s_.2.1), (61, s_.2.2.1), (74, s_.2.2.2)]) (fun s_ w' => (w'.cell? ⟨gb221, 0, none⟩ = some (.int .i64 t213) ∧ w'.cell? ⟨gb221, 1, none⟩ = some (.int .i64 t214) ∧ w'.cell? ⟨gb221, 2, none⟩ = some (.int .i64 t215) ∧ w'.cell? ⟨gb221, 3, none⟩ = some (.int .i64 t216) ∧ w'.cell? ⟨gb222, 0, none⟩ = some (.int .i64 t217) ∧ w'.cell? ⟨gb222, 1, none⟩ = some (.int .i64 t218) ∧ w'.cell? ⟨gb222, 2, none⟩ = some (.int .i64 t219) ∧ w'.cell? ⟨gb222, 3, none⟩ = some (.int .i64 t220) ∧ w'.cell? ⟨gb210, 0, none⟩ = some (.int .i64 a1_0) ∧ w'.cell? ⟨gb210, 1, none⟩ = some (.slice A1_1 l1_1.length c1_1) ∧ w'.cell? ⟨gb210, 2, none⟩ = some (.slice A1_2 l1_2.length c1_2) ∧ w'.cell? ⟨gb210, 3, none⟩ = some (.slice A1_3 l1_3.length c1_3) ∧ w'.cell? ⟨gb210, 4, none⟩ = some (.slice A1_4 l1_4.length c1_4) ∧ w'.cell? ⟨gb210, 5, none⟩ = some (.slice (some ad235) l1_5.length c1_5) ∧ w'.cell? ⟨gb209, 0, none⟩ = some (.string a0_0) ∧ w'.cell? ⟨gb209, 1, none⟩ = some (.string a0_1) ∧ w'.cell? ⟨gb209, 2, none⟩ = some (.int .i64 a0_2) ∧ w'.cell? ⟨gb209, 3, none⟩ = some (.int .i64 a0_3) ∧ w'.cell? ⟨gb209, 4, none⟩ = some (.int .i64 a0_4) ∧ w'.cell? ⟨gb209, 5, none⟩ = some (.int .i64 a0_5) ∧ w'.cell? ⟨gb209, 6, none⟩ = some (.int .i64 a0_6) ∧ w'.cell? (ad235.add (x46_3).toNat) = some (.int .u8 (rd l1_5 x46_3))) ∧ (Kd.R k44 44 w' w.heap.size (fun k_ => some k_ ≠ (s_.2.1 : Value).ownBlock ∧ some k_ ≠ (s_.2.2.1 : Value).ownBlock ∧ some k_ ≠ (.slice Ao46 x8_3.length co46 : Value).ownBlock ∧ k_ ≠ gb221 ∧ k_ ≠ gb222) s_.1 y223) ∧ (Kd.R k44 44 w' w.heap.size (fun k_ => some k_ ≠ (s_.1 : Value).ownBlock ∧ some k_ ≠ (s_.2.2.1 : Value).ownBlock ∧ some k_ ≠ (.slice Ao46 x8_3.length co46 : Value).ownBlock ∧ k_ ≠ gb221 ∧ k_ ≠ gb222) s_.2.1 y226) ∧ (Kd.R k44 44 w' w.heap.size (fun k_ => some k_ ≠ (s_.1 : Value).ownBlock ∧ some k_ ≠ (s_.2.1 : Value).ownBlock ∧ some k_ ≠ (.slice Ao46 x8_3.length co46 : Value).ownBlock ∧ k_ ≠ gb221 ∧ k_ ≠ gb222) s_.2.2.1 y229) ∧ (Kd.R (Kd.int .i64) 3 w' w.heap.size (fun k_ => some k_ ≠ (.slice Ao47 x9_3.length co47 : Value).ownBlock) s_.2.2.2 y236) ∧ (Kd.R k44 44 w' w.heap.size (fun k_ => some k_ ≠ (s_.1 : Value).ownBlock ∧ some k_ ≠ (s_.2.1 : Value).ownBlock ∧ some k_ ≠ (s_.2.2.1 : Value).ownBlock ∧ k_ ≠ gb221 ∧ k_ ≠ gb222) (.slice Ao46 x8_3.length co46) x8_3) ∧ (Kd.R (Kd.int .i64) 3 w' w.heap.size (fun k_ => some k_ ≠ (s_.2.2.2 : Value).ownBlock) (.slice Ao47 x9_3.length co47) x9_3) ∧ (w'.heap[gb209]? = some (.cells #[.string a0_0, .string a0_1, .int .i64 a0_2, .int .i64 a0_3, .int .i64 a0_4, .int .i64 a0_5, .int .i64 a0_6] 25 (0, 0))) ∧ (w'.heap[gb210]? = some (.cells #[.int .i64 a1_0, .slice A1_1 l1_1.length c1_1, .slice A1_2 l1_2.length c1_2, .slice A1_3 l1_3.length c1_3, .slice A1_4 l1_4.length c1_4, .slice (some ad235) l1_5.length c1_5] 71 (0, 0))) ∧ (w'.heap[gb221]? = some (.cells #[.int .i64 t213, .int .i64 t214, .int .i64 t215, .int .i64 t216] 44 (0, 0))) ∧ (w'.heap[gb222]? = some (.cells #[.int .i64 t217, .int .i64 t218, .int .i64 t219, .int .i64 t220] 44 (0, 0))) ∧ (Below w.heap.size w w')) ?_ ?_
    rotate_left
    ·intro hJ2_3_6_19
     refine join_ (σ := Value × Value × Value) 6 #[true, true, true, true, true, true, true, false, true, true, true, true, true, true, true, true, true, true, true, false, false, false, false, false] (fun s_ => [(57, s_.1), (58, s_.2.1), (61, s_.2.2)]) (fun s_ w' => (w'.cell? ⟨gb221, 0, none⟩ = some (.int .i64 t213) ∧ w'.cell? ⟨gb221, 1, none⟩ = some (.int .i64 t214) ∧ w'.cell? ⟨gb221, 2, none⟩ = some (.int .i64 t215) ∧ w'.cell? ⟨gb221, 3, none⟩ = some (.int .i64 t216) ∧ w'.cell? ⟨gb222, 0, none⟩ = some (.int .i64 t217) ∧ w'.cell? ⟨gb222, 1, none⟩ = some (.int .i64 t218) ∧ w'.cell? ⟨gb222, 2, none⟩ = some (.int .i64 t219) ∧ w'.cell? ⟨gb222, 3, none⟩ = some (.int .i64 t220) ∧ w'.cell? ⟨gb210, 0, none⟩ = some (.int .i64 a1_0) ∧ w'.cell? ⟨gb210, 1, none⟩ = some (.slice A1_1 l1_1.length c1_1) ∧ w'.cell? ⟨gb210, 2, none⟩ = some (.slice A1_2 l1_2.length c1_2) ∧ w'.cell? ⟨gb210, 3, none⟩ = some (.slice A1_3 l1_3.length c1_3) ∧ w'.cell? ⟨gb210, 4, none⟩ = some (.slice A1_4 l1_4.length c1_4) ∧ w'.cell? ⟨gb210, 5, none⟩ = some (.slice (some ad235) l1_5.length c1_5) ∧ w'.cell? ⟨gb209, 0, none⟩ = some (.string a0_0) ∧ w'.cell? ⟨gb209, 1, none⟩ = some (.string a0_1) ∧ w'.cell? ⟨gb209, 2, none⟩ = some (.int .i64 a0_2) ∧ w'.cell? ⟨gb209, 3, none⟩ = some (.int .i64 a0_3) ∧ w'.cell? ⟨gb209, 4, none⟩ = some (.int .i64 a0_4) ∧ w'.cell? ⟨gb209, 5, none⟩ = some (.int .i64 a0_5) ∧ w'.cell? ⟨gb209, 6, none⟩ = some (.int .i64 a0_6) ∧ w'.cell? (ad235.add (x46_3).toNat) = some (.int .u8 (rd l1_5 x46_3))) ∧ (Kd.R k44 44 w' w.heap.size (fun k_ => some k_ ≠ (s_.2.1 : Value).ownBlock ∧ some k_ ≠ (s_.2.2 : Value).ownBlock ∧ some k_ ≠ (.slice Ao46 x8_3.length co46 : Value).ownBlock ∧ k_ ≠ gb221 ∧ k_ ≠ gb222) s_.1 y223) ∧ (Kd.R k44 44 w' w.heap.size (fun k_ => some k_ ≠ (s_.1 : Value).ownBlock ∧ some k_ ≠ (s_.2.2 : Value).ownBlock ∧ some k_ ≠ (.slice Ao46 x8_3.length co46 : Value).ownBlock ∧ k_ ≠ gb221 ∧ k_ ≠ gb222) s_.2.1 y226) ∧ (Kd.R k44 44 w' w.heap.size (fun k_ => some k_ ≠ (s_.1 : Value).ownBlock ∧ some k_ ≠ (s_.2.1 : Value).ownBlock ∧ some k_ ≠ (.slice Ao46 x8_3.length co46 : Value).ownBlock ∧ k_ ≠ gb221 ∧ k_ ≠ gb222) s_.2.2 y229) ∧ (Kd.R k44 44 w' w.heap.size (fun k_ => some k_ ≠ (s_.1 : Value).ownBlock ∧ some k_ ≠ (s_.2.1 : Value).ownBlock ∧ some k_ ≠ (s_.2.2 : Value).ownBlock ∧ k_ ≠ gb221 ∧ k_ ≠ gb222) (.slice Ao46 x8_3.length co46) x8_3) ∧ (Kd.R (Kd.int .i64) 3 w' w.heap.size (fun _ => True) (.slice Ao47 x9_3.length co47) x9_3) ∧ (w'.heap[gb209]? = some (.cells #[.string a0_0, .string a0_1, .int .i64 a0_2, .int .i64 a0_3, .int .i64 a0_4, .int .i64 a0_5, .int .i64 a0_6] 25 (0, 0))) ∧ (w'.heap[gb210]? = some (.cells #[.int .i64 a1_0, .slice A1_1 l1_1.length c1_1, .slice A1_2 l1_2.length c1_2, .slice A1_3 l1_3.length c1_3, .slice A1_4 l1_4.length c1_4, .slice (some ad235) l1_5.length c1_5] 71 (0, 0))) ∧ (w'.heap[gb221]? = some (.cells #[.int .i64 t213, .int .i64 t214, .int .i64 t215, .int .i64 t216] 44 (0, 0))) ∧ (w'.heap[gb222]? = some (.cells #[.int .i64 t217, .int .i64 t218, .int .i64 t219, .int .i64 t220] 44 (0, 0))) ∧ (Below w.heap.size w w')) ?_ ?_
     rotate_left
     ·intro hJ2_3_6
      refine join_ (σ := Value × Value × Value) 6 #[true, true, true, true, true, true, false, false, true, true, true, true, true, true, true, true, true, true, true, true, false, false, false, false] (fun s_ => [(57, s_.1), (58, s_.2.1), (74, s_.2.2)]) (fun s_ w' => (w'.cell? ⟨gb221, 0, none⟩ = some (.int .i64 t213) ∧ w'.cell? ⟨gb221, 1, none⟩ = some (.int .i64 t214) ∧ w'.cell? ⟨gb221, 2, none⟩ = some (.int .i64 t215) ∧ w'.cell? ⟨gb221, 3, none⟩ = some (.int .i64 t216) ∧ w'.cell? ⟨gb222, 0, none⟩ = some (.int .i64 t217) ∧ w'.cell? ⟨gb222, 1, none⟩ = some (.int .i64 t218) ∧ w'.cell? ⟨gb222, 2, none⟩ = some (.int .i64 t219) ∧ w'.cell? ⟨gb222, 3, none⟩ = some (.int .i64 t220) ∧ w'.cell? ⟨gb210, 0, none⟩ = some (.int .i64 a1_0) ∧ w'.cell? ⟨gb210, 1, none⟩ = some (.slice A1_1 l1_1.length c1_1) ∧ w'.cell? ⟨gb210, 2, none⟩ = some (.slice A1_2 l1_2.length c1_2) ∧ w'.cell? ⟨gb210, 3, none⟩ = some (.slice A1_3 l1_3.length c1_3) ∧ w'.cell? ⟨gb210, 4, none⟩ = some (.slice A1_4 l1_4.length c1_4) ∧ w'.cell? ⟨gb210, 5, none⟩ = some (.slice (some ad235) l1_5.length c1_5) ∧ w'.cell? ⟨gb209, 0, none⟩ = some (.string a0_0) ∧ w'.cell? ⟨gb209, 1, none⟩ = some (.string a0_1) ∧ w'.cell? ⟨gb209, 2, none⟩ = some (.int .i64 a0_2) ∧ w'.cell? ⟨gb209, 3, none⟩ = some (.int .i64 a0_3) ∧ w'.cell? ⟨gb209, 4, none⟩ = some (.int .i64 a0_4) ∧ w'.cell? ⟨gb209, 5, none⟩ = some (.int .i64 a0_5) ∧ w'.cell? ⟨gb209, 6, none⟩ = some (.int .i64 a0_6) ∧ w'.cell? (ad235.add (x46_3).toNat) = some (.int .u8 (rd l1_5 x46_3))) ∧ (Kd.R k44 44 w' w.heap.size (fun k_ => some k_ ≠ (s_.2.1 : Value).ownBlock ∧ some k_ ≠ (.slice Ao46 x8_3.length co46 : Value).ownBlock ∧ k_ ≠ gb221 ∧ k_ ≠ gb222) s_.1 y223) ∧ (Kd.R k44 44 w' w.heap.size (fun k_ => some k_ ≠ (s_.1 : Value).ownBlock ∧ some k_ ≠ (.slice Ao46 x8_3.length co46 : Value).ownBlock ∧ k_ ≠ gb221 ∧ k_ ≠ gb222) s_.2.1 y226) ∧ (Kd.R (Kd.int .i64) 3 w' w.heap.size (fun k_ => some k_ ≠ (.slice Ao47 x9_3.length co47 : Value).ownBlock) s_.2.2 y236) ∧ (Kd.R k44 44 w' w.heap.size (fun k_ => some k_ ≠ (s_.1 : Value).ownBlock ∧ some k_ ≠ (s_.2.1 : Value).ownBlock ∧ k_ ≠ gb221 ∧ k_ ≠ gb222) (.slice Ao46 x8_3.length co46) x8_3) ∧ (Kd.R (Kd.int .i64) 3 w' w.heap.size (fun k_ => some k_ ≠ (s_.2.2 : Value).ownBlock) (.slice Ao47 x9_3.length co47) x9_3) ∧ (w'.heap[gb209]? = some (.cells #[.string a0_0, .string a0_1, .int .i64 a0_2, .int .i64 a0_3, .int .i64 a0_4, .int .i64 a0_5, .int .i64 a0_6] 25 (0, 0))) ∧ (w'.heap[gb210]? = some (.cells #[.int .i64 a1_0, .slice A1_1 l1_1.length c1_1, .slice A1_2 l1_2.length c1_2, .slice A1_3 l1_3.length c1_3, .slice A1_4 l1_4.length c1_4, .slice (some ad235) l1_5.length c1_5] 71 (0, 0))) ∧ (w'.heap[gb221]? = some (.cells #[.int .i64 t213, .int .i64 t214, .int .i64 t215, .int .i64 t216] 44 (0, 0))) ∧ (w'.heap[gb222]? = some (.cells #[.int .i64 t217, .int .i64 t218, .int .i64 t219, .int .i64 t220] 44 (0, 0))) ∧ (Below w.heap.size w w')) ?_ ?_
      rotate_left
      ·intro hJ2_3_19
       refine join_ (σ := Value × Value × Value) 6 #[true, true, true, false, true, true, true, false, true, true, true, true, true, true, true, true, true, true, true, true, false, false, false, false] (fun s_ => [(57, s_.1), (61, s_.2.1), (74, s_.2.2)]) (fun s_ w' => (w'.cell? ⟨gb221, 0, none⟩ = some (.int .i64 t213) ∧ w'.cell? ⟨gb221, 1, none⟩ = some (.int .i64 t214) ∧ w'.cell? ⟨gb221, 2, none⟩ = some (.int .i64 t215) ∧ w'.cell? ⟨gb221, 3, none⟩ = some (.int .i64 t216) ∧ w'.cell? ⟨gb222, 0, none⟩ = some (.int .i64 t217) ∧ w'.cell? ⟨gb222, 1, none⟩ = some (.int .i64 t218) ∧ w'.cell? ⟨gb222, 2, none⟩ = some (.int .i64 t219) ∧ w'.cell? ⟨gb222, 3, none⟩ = some (.int .i64 t220) ∧ w'.cell? ⟨gb210, 0, none⟩ = some (.int .i64 a1_0) ∧ w'.cell? ⟨gb210, 1, none⟩ = some (.slice A1_1 l1_1.length c1_1) ∧ w'.cell? ⟨gb210, 2, none⟩ = some (.slice A1_2 l1_2.length c1_2) ∧ w'.cell? ⟨gb210, 3, none⟩ = some (.slice A1_3 l1_3.length c1_3) ∧ w'.cell? ⟨gb210, 4, none⟩ = some (.slice A1_4 l1_4.length c1_4) ∧ w'.cell? ⟨gb210, 5, none⟩ = some (.slice (some ad235) l1_5.length c1_5) ∧ w'.cell? ⟨gb209, 0, none⟩ = some (.string a0_0) ∧ w'.cell? ⟨gb209, 1, none⟩ = some (.string a0_1) ∧ w'.cell? ⟨gb209, 2, none⟩ = some (.int .i64 a0_2) ∧ w'.cell? ⟨gb209, 3, none⟩ = some (.int .i64 a0_3) ∧ w'.cell? ⟨gb209, 4, none⟩ = some (.int .i64 a0_4) ∧ w'.cell? ⟨gb209, 5, none⟩ = some (.int .i64 a0_5) ∧ w'.cell? ⟨gb209, 6, none⟩ = some (.int .i64 a0_6) ∧ w'.cell? (ad235.add (x46_3).toNat) = some (.int .u8 (rd l1_5 x46_3))) ∧ (Kd.R k44 44 w' w.heap.size (fun k_ => some k_ ≠ (s_.2.1 : Value).ownBlock ∧ some k_ ≠ (.slice Ao45 x7_3.length co45 : Value).ownBlock ∧ some k_ ≠ (.slice Ao46 x8_3.length co46 : Value).ownBlock ∧ k_ ≠ gb221 ∧ k_ ≠ gb222) s_.1 y223) ∧ (Kd.R k44 44 w' w.heap.size (fun k_ => some k_ ≠ (s_.1 : Value).ownBlock ∧ some k_ ≠ (.slice Ao45 x7_3.length co45 : Value).ownBlock ∧ some k_ ≠ (.slice Ao46 x8_3.length co46 : Value).ownBlock ∧ k_ ≠ gb221 ∧ k_ ≠ gb222) s_.2.1 y229) ∧ (Kd.R (Kd.int .i64) 3 w' w.heap.size (fun k_ => some k_ ≠ (.slice Ao47 x9_3.length co47 : Value).ownBlock) s_.2.2 y236) ∧ (Kd.R k44 44 w' w.heap.size (fun k_ => some k_ ≠ (s_.1 : Value).ownBlock ∧ some k_ ≠ (s_.2.1 : Value).ownBlock ∧ some k_ ≠ (.slice Ao46 x8_3.length co46 : Value).ownBlock ∧ k_ ≠ gb221 ∧ k_ ≠ gb222) (.slice Ao45 x7_3.length co45) x7_3) ∧ (Kd.R k44 44 w' w.heap.size (fun k_ => some k_ ≠ (s_.1 : Value).ownBlock ∧ some k_ ≠ (s_.2.1 : Value).ownBlock ∧ some k_ ≠ (.slice Ao45 x7_3.length co45 : Value).ownBlock ∧ k_ ≠ gb221 ∧ k_ ≠ gb222) (.slice Ao46 x8_3.length co46) x8_3) ∧ (Kd.R (Kd.int .i64) 3 w' w.heap.size (fun k_ => some k_ ≠ (s_.2.2 : Value).ownBlock) (.slice Ao47 x9_3.length co47) x9_3) ∧ (w'.heap[gb209]? = some (.cells #[.string a0_0, .string a0_1, .int .i64 a0_2, .int .i64 a0_3, .int .i64 a0_4, .int .i64 a0_5, .int .i64 a0_6] 25 (0, 0))) ∧ (w'.heap[gb210]? = some (.cells #[.int .i64 a1_0, .slice A1_1 l1_1.length c1_1, .slice A1_2 l1_2.length c1_2, .slice A1_3 l1_3.length c1_3, .slice A1_4 l1_4.length c1_4, .slice (some ad235) l1_5.length c1_5] 71 (0, 0))) ∧ (w'.heap[gb221]? = some (.cells #[.int .i64 t213, .int .i64 t214, .int .i64 t215, .int .i64 t216] 44 (0, 0))) ∧ (w'.heap[gb222]? = some (.cells #[.int .i64 t217, .int .i64 t218, .int .i64 t219, .int .i64 t220] 44 (0, 0))) ∧ (Below w.heap.size w w')) ?_ ?_
       rotate_left
       ·intro hJ2_6_19
        refine join_ (σ := Value × Value) 7 #[true, true, true, true, true, true, false, false, true, true, true, true, true, true, true, true, true, true, true, false, false, false, false, false] (fun s_ => [(57, s_.1), (58, s_.2)]) (fun s_ w' => (w'.cell? ⟨gb221, 0, none⟩ = some (.int .i64 t213) ∧ w'.cell? ⟨gb221, 1, none⟩ = some (.int .i64 t214) ∧ w'.cell? ⟨gb221, 2, none⟩ = some (.int .i64 t215) ∧ w'.cell? ⟨gb221, 3, none⟩ = some (.int .i64 t216) ∧ w'.cell? ⟨gb222, 0, none⟩ = some (.int .i64 t217) ∧ w'.cell? ⟨gb222, 1, none⟩ = some (.int .i64 t218) ∧ w'.cell? ⟨gb222, 2, none⟩ = some (.int .i64 t219) ∧ w'.cell? ⟨gb222, 3, none⟩ = some (.int .i64 t220) ∧ w'.cell? ⟨gb210, 0, none⟩ = some (.int .i64 a1_0) ∧ w'.cell? ⟨gb210, 1, none⟩ = some (.slice A1_1 l1_1.length c1_1) ∧ w'.cell? ⟨gb210, 2, none⟩ = some (.slice A1_2 l1_2.length c1_2) ∧ w'.cell? ⟨gb210, 3, none⟩ = some (.slice A1_3 l1_3.length c1_3) ∧ w'.cell? ⟨gb210, 4, none⟩ = some (.slice A1_4 l1_4.length c1_4) ∧ w'.cell? ⟨gb210, 5, none⟩ = some (.slice (some ad235) l1_5.length c1_5) ∧ w'.cell? ⟨gb209, 0, none⟩ = some (.string a0_0) ∧ w'.cell? ⟨gb209, 1, none⟩ = some (.string a0_1) ∧ w'.cell? ⟨gb209, 2, none⟩ = some (.int .i64 a0_2) ∧ w'.cell? ⟨gb209, 3, none⟩ = some (.int .i64 a0_3) ∧ w'.cell? ⟨gb209, 4, none⟩ = some (.int .i64 a0_4) ∧ w'.cell? ⟨gb209, 5, none⟩ = some (.int .i64 a0_5) ∧ w'.cell? ⟨gb209, 6, none⟩ = some (.int .i64 a0_6) ∧ w'.cell? (ad235.add (x46_3).toNat) = some (.int .u8 (rd l1_5 x46_3))) ∧ (Kd.R k44 44 w' w.heap.size (fun k_ => some k_ ≠ (s_.2 : Value).ownBlock ∧ some k_ ≠ (.slice Ao46 x8_3.length co46 : Value).ownBlock ∧ k_ ≠ gb221 ∧ k_ ≠ gb222) s_.1 y223) ∧ (Kd.R k44 44 w' w.heap.size (fun k_ => some k_ ≠ (s_.1 : Value).ownBlock ∧ some k_ ≠ (.slice Ao46 x8_3.length co46 : Value).ownBlock ∧ k_ ≠ gb221 ∧ k_ ≠ gb222) s_.2 y226) ∧ (Kd.R k44 44 w' w.heap.size (fun k_ => some k_ ≠ (s_.1 : Value).ownBlock ∧ some k_ ≠ (s_.2 : Value).ownBlock ∧ k_ ≠ gb221 ∧ k_ ≠ gb222) (.slice Ao46 x8_3.length co46) x8_3) ∧ (Kd.R (Kd.int .i64) 3 w' w.heap.size (fun _ => True) (.slice Ao47 x9_3.length co47) x9_3) ∧ (w'.heap[gb209]? = some (.cells #[.string a0_0, .string a0_1, .int .i64 a0_2, .int .i64 a0_3, .int .i64 a0_4, .int .i64 a0_5, .int .i64 a0_6] 25 (0, 0))) ∧ (w'.heap[gb210]? = some (.cells #[.int .i64 a1_0, .slice A1_1 l1_1.length c1_1, .slice A1_2 l1_2.length c1_2, .slice A1_3 l1_3.length c1_3, .slice A1_4 l1_4.length c1_4, .slice (some ad235) l1_5.length c1_5] 71 (0, 0))) ∧ (w'.heap[gb221]? = some (.cells #[.int .i64 t213, .int .i64 t214, .int .i64 t215, .int .i64 t216] 44 (0, 0))) ∧ (w'.heap[gb222]? = some (.cells #[.int .i64 t217, .int .i64 t218, .int .i64 t219, .int .i64 t220] 44 (0, 0))) ∧ (Below w.heap.size w w')) ?_ ?_
        rotate_left
        ·intro hJ2_3
         refine join_ (σ := Value × Value) 7 #[true, true, true, false, true, true, true, false, true, true, true, true, true, true, true, true, true, true, true, false, false, false, false, false] (fun s_ => [(57, s_.1), (61, s_.2)]) (fun s_ w' => (w'.cell? ⟨gb221, 0, none⟩ = some (.int .i64 t213) ∧ w'.cell? ⟨gb221, 1, none⟩ = some (.int .i64 t214) ∧ w'.cell? ⟨gb221, 2, none⟩ = some (.int .i64 t215) ∧ w'.cell? ⟨gb221, 3, none⟩ = some (.int .i64 t216) ∧ w'.cell? ⟨gb222, 0, none⟩ = some (.int .i64 t217) ∧ w'.cell? ⟨gb222, 1, none⟩ = some (.int .i64 t218) ∧ w'.cell? ⟨gb222, 2, none⟩ = some (.int .i64 t219) ∧ w'.cell? ⟨gb222, 3, none⟩ = some (.int .i64 t220) ∧ w'.cell? ⟨gb210, 0, none⟩ = some (.int .i64 a1_0) ∧ w'.cell? ⟨gb210, 1, none⟩ = some (.slice A1_1 l1_1.length c1_1) ∧ w'.cell? ⟨gb210, 2, none⟩ = some (.slice A1_2 l1_2.length c1_2) ∧ w'.cell? ⟨gb210, 3, none⟩ = some (.slice A1_3 l1_3.length c1_3) ∧ w'.cell? ⟨gb210, 4, none⟩ = some (.slice A1_4 l1_4.length c1_4) ∧ w'.cell? ⟨gb210, 5, none⟩ = some (.slice (some ad235) l1_5.length c1_5) ∧ w'.cell? ⟨gb209, 0, none⟩ = some (.string a0_0) ∧ w'.cell? ⟨gb209, 1, none⟩ = some (.string a0_1) ∧ w'.cell? ⟨gb209, 2, none⟩ = some (.int .i64 a0_2) ∧ w'.cell? ⟨gb209, 3, none⟩ = some (.int .i64 a0_3) ∧ w'.cell? ⟨gb209, 4, none⟩ = some (.int .i64 a0_4) ∧ w'.cell? ⟨gb209, 5, none⟩ = some (.int .i64 a0_5) ∧ w'.cell? ⟨gb209, 6, none⟩ = some (.int .i64 a0_6) ∧ w'.cell? (ad235.add (x46_3).toNat) = some (.int .u8 (rd l1_5 x46_3))) ∧ (Kd.R k44 44 w' w.heap.size (fun k_ => some k_ ≠ (s_.2 : Value).ownBlock ∧ some k_ ≠ (.slice Ao45 x7_3.length co45 : Value).ownBlock ∧ some k_ ≠ (.slice Ao46 x8_3.length co46 : Value).ownBlock ∧ k_ ≠ gb221 ∧ k_ ≠ gb222) s_.1 y223) ∧ (Kd.R k44 44 w' w.heap.size (fun k_ => some k_ ≠ (s_.1 : Value).ownBlock ∧ some k_ ≠ (.slice Ao45 x7_3.length co45 : Value).ownBlock ∧ some k_ ≠ (.slice Ao46 x8_3.length co46 : Value).ownBlock ∧ k_ ≠ gb221 ∧ k_ ≠ gb222) s_.2 y229) ∧ (Kd.R k44 44 w' w.heap.size (fun k_ => some k_ ≠ (s_.1 : Value).ownBlock ∧ some k_ ≠ (s_.2 : Value).ownBlock ∧ some k_ ≠ (.slice Ao46 x8_3.length co46 : Value).ownBlock ∧ k_ ≠ gb221 ∧ k_ ≠ gb222) (.slice Ao45 x7_3.length co45) x7_3) ∧ (Kd.R k44 44 w' w.heap.size (fun k_ => some k_ ≠ (s_.1 : Value).ownBlock ∧ some k_ ≠ (s_.2 : Value).ownBlock ∧ some k_ ≠ (.slice Ao45 x7_3.length co45 : Value).ownBlock ∧ k_ ≠ gb221 ∧ k_ ≠ gb222) (.slice Ao46 x8_3.length co46) x8_3) ∧ (Kd.R (Kd.int .i64) 3 w' w.heap.size (fun _ => True) (.slice Ao47 x9_3.length co47) x9_3) ∧ (w'.heap[gb209]? = some (.cells #[.string a0_0, .string a0_1, .int .i64 a0_2, .int .i64 a0_3, .int .i64 a0_4, .int .i64 a0_5, .int .i64 a0_6] 25 (0, 0))) ∧ (w'.heap[gb210]? = some (.cells #[.int .i64 a1_0, .slice A1_1 l1_1.length c1_1, .slice A1_2 l1_2.length c1_2, .slice A1_3 l1_3.length c1_3, .slice A1_4 l1_4.length c1_4, .slice (some ad235) l1_5.length c1_5] 71 (0, 0))) ∧ (w'.heap[gb221]? = some (.cells #[.int .i64 t213, .int .i64 t214, .int .i64 t215, .int .i64 t216] 44 (0, 0))) ∧ (w'.heap[gb222]? = some (.cells #[.int .i64 t217, .int .i64 t218, .int .i64 t219, .int .i64 t220] 44 (0, 0))) ∧ (Below w.heap.size w w')) ?_ ?_
         rotate_left
         ·intro hJ2_6
          refine join_ (σ := Value × Value) 7 #[true, true, true, false, true, true, false, false, true, true, true, true, true, true, true, true, true, true, true, true, false, false, false, false] (fun s_ => [(57, s_.1), (74, s_.2)]) (fun s_ w' => (w'.cell? ⟨gb221, 0, none⟩ = some (.int .i64 t213) ∧ w'.cell? ⟨gb221, 1, none⟩ = some (.int .i64 t214) ∧ w'.cell? ⟨gb221, 2, none⟩ = some (.int .i64 t215) ∧ w'.cell? ⟨gb221, 3, none⟩ = some (.int .i64 t216) ∧ w'.cell? ⟨gb222, 0, none⟩ = some (.int .i64 t217) ∧ w'.cell? ⟨gb222, 1, none⟩ = some (.int .i64 t218) ∧ w'.cell? ⟨gb222, 2, none⟩ = some (.int .i64 t219) ∧ w'.cell? ⟨gb222, 3, none⟩ = some (.int .i64 t220) ∧ w'.cell? ⟨gb210, 0, none⟩ = some (.int .i64 a1_0) ∧ w'.cell? ⟨gb210, 1, none⟩ = some (.slice A1_1 l1_1.length c1_1) ∧ w'.cell? ⟨gb210, 2, none⟩ = some (.slice A1_2 l1_2.length c1_2) ∧ w'.cell? ⟨gb210, 3, none⟩ = some (.slice A1_3 l1_3.length c1_3) ∧ w'.cell? ⟨gb210, 4, none⟩ = some (.slice A1_4 l1_4.length c1_4) ∧ w'.cell? ⟨gb210, 5, none⟩ = some (.slice (some ad235) l1_5.length c1_5) ∧ w'.cell? ⟨gb209, 0, none⟩ = some (.string a0_0) ∧ w'.cell? ⟨gb209, 1, none⟩ = some (.string a0_1) ∧ w'.cell? ⟨gb209, 2, none⟩ = some (.int .i64 a0_2) ∧ w'.cell? ⟨gb209, 3, none⟩ = some (.int .i64 a0_3) ∧ w'.cell? ⟨gb209, 4, none⟩ = some (.int .i64 a0_4) ∧ w'.cell? ⟨gb209, 5, none⟩ = some (.int .i64 a0_5) ∧ w'.cell? ⟨gb209, 6, none⟩ = some (.int .i64 a0_6) ∧ w'.cell? (ad235.add (x46_3).toNat) = some (.int .u8 (rd l1_5 x46_3))) ∧ (Kd.R k44 44 w' w.heap.size (fun k_ => some k_ ≠ (.slice Ao45 x7_3.length co45 : Value).ownBlock ∧ some k_ ≠ (.slice Ao46 x8_3.length co46 : Value).ownBlock ∧ k_ ≠ gb221 ∧ k_ ≠ gb222) s_.1 y223) ∧ (Kd.R (Kd.int .i64) 3 w' w.heap.size (fun k_ => some k_ ≠ (.slice Ao47 x9_3.length co47 : Value).ownBlock) s_.2 y236) ∧ (Kd.R k44 44 w' w.heap.size (fun k_ => some k_ ≠ (s_.1 : Value).ownBlock ∧ some k_ ≠ (.slice Ao46 x8_3.length co46 : Value).ownBlock ∧ k_ ≠ gb221 ∧ k_ ≠ gb222) (.slice Ao45 x7_3.length co45) x7_3) ∧ (Kd.R k44 44 w' w.heap.size (fun k_ => some k_ ≠ (s_.1 : Value).ownBlock ∧ some k_ ≠ (.slice Ao45 x7_3.length co45 : Value).ownBlock ∧ k_ ≠ gb221 ∧ k_ ≠ gb222) (.slice Ao46 x8_3.length co46) x8_3) ∧ (Kd.R (Kd.int .i64) 3 w' w.heap.size (fun k_ => some k_ ≠ (s_.2 : Value).ownBlock) (.slice Ao47 x9_3.length co47) x9_3) ∧ (w'.heap[gb209]? = some (.cells #[.string a0_0, .string a0_1, .int .i64 a0_2, .int .i64 a0_3, .int .i64 a0_4, .int .i64 a0_5, .int .i64 a0_6] 25 (0, 0))) ∧ (w'.heap[gb210]? = some (.cells #[.int .i64 a1_0, .slice A1_1 l1_1.length c1_1, .slice A1_2 l1_2.length c1_2, .slice A1_3 l1_3.length c1_3, .slice A1_4 l1_4.length c1_4, .slice (some ad235) l1_5.length c1_5] 71 (0, 0))) ∧ (w'.heap[gb221]? = some (.cells #[.int .i64 t213, .int .i64 t214, .int .i64 t215, .int .i64 t216] 44 (0, 0))) ∧ (w'.heap[gb222]? = some (.cells #[.int .i64 t217, .int .i64 t218, .int .i64 t219, .int .i64 t220] 44 (0, 0))) ∧ (Below w.heap.size w w')) ?_ ?_
          rotate_left
          ·intro hJ2_19
           refine join_ (σ := Value × Value) 7 #[true, true, false, false, true, true, true, false, true, true, true, true, true, true, true, true, true, true, true, true, false, false, false, false] (fun s_ => [(61, s_.1), (74, s_.2)]) (fun s_ w' => (w'.cell? ⟨gb221, 0, none⟩ = some (.int .i64 t213) ∧ w'.cell? ⟨gb221, 1, none⟩ = some (.int .i64 t214) ∧ w'.cell? ⟨gb221, 2, none⟩ = some (.int .i64 t215) ∧ w'.cell? ⟨gb221, 3, none⟩ = some (.int .i64 t216) ∧ w'.cell? ⟨gb222, 0, none⟩ = some (.int .i64 t217) ∧ w'.cell? ⟨gb222, 1, none⟩ = some (.int .i64 t218) ∧ w'.cell? ⟨gb222, 2, none⟩ = some (.int .i64 t219) ∧ w'.cell? ⟨gb222, 3, none⟩ = some (.int .i64 t220) ∧ w'.cell? ⟨gb210, 0, none⟩ = some (.int .i64 a1_0) ∧ w'.cell? ⟨gb210, 1, none⟩ = some (.slice A1_1 l1_1.length c1_1) ∧ w'.cell? ⟨gb210, 2, none⟩ = some (.slice A1_2 l1_2.length c1_2) ∧ w'.cell? ⟨gb210, 3, none⟩ = some (.slice A1_3 l1_3.length c1_3) ∧ w'.cell? ⟨gb210, 4, none⟩ = some (.slice A1_4 l1_4.length c1_4) ∧ w'.cell? ⟨gb210, 5, none⟩ = some (.slice (some ad235) l1_5.length c1_5) ∧ w'.cell? ⟨gb209, 0, none⟩ = some (.string a0_0) ∧ w'.cell? ⟨gb209, 1, none⟩ = some (.string a0_1) ∧ w'.cell? ⟨gb209, 2, none⟩ = some (.int .i64 a0_2) ∧ w'.cell? ⟨gb209, 3, none⟩ = some (.int .i64 a0_3) ∧ w'.cell? ⟨gb209, 4, none⟩ = some (.int .i64 a0_4) ∧ w'.cell? ⟨gb209, 5, none⟩ = some (.int .i64 a0_5) ∧ w'.cell? ⟨gb209, 6, none⟩ = some (.int .i64 a0_6) ∧ w'.cell? (ad235.add (x46_3).toNat) = some (.int .u8 (rd l1_5 x46_3))) ∧ (Kd.R k44 44 w' w.heap.size (fun k_ => some k_ ≠ (.slice Ao45 x7_3.length co45 : Value).ownBlock ∧ some k_ ≠ (.slice Ao46 x8_3.length co46 : Value).ownBlock ∧ k_ ≠ gb221 ∧ k_ ≠ gb222) s_.1 y229) ∧ (Kd.R (Kd.int .i64) 3 w' w.heap.size (fun k_ => some k_ ≠ (.slice Ao47 x9_3.length co47 : Value).ownBlock) s_.2 y236) ∧ (Kd.R k44 44 w' w.heap.size (fun k_ => some k_ ≠ (s_.1 : Value).ownBlock ∧ some k_ ≠ (.slice Ao46 x8_3.length co46 : Value).ownBlock ∧ k_ ≠ gb221 ∧ k_ ≠ gb222) (.slice Ao45 x7_3.length co45) x7_3) ∧ (Kd.R k44 44 w' w.heap.size (fun k_ => some k_ ≠ (s_.1 : Value).ownBlock ∧ some k_ ≠ (.slice Ao45 x7_3.length co45 : Value).ownBlock ∧ k_ ≠ gb221 ∧ k_ ≠ gb222) (.slice Ao46 x8_3.length co46) x8_3) ∧ (Kd.R (Kd.int .i64) 3 w' w.heap.size (fun k_ => some k_ ≠ (s_.2 : Value).ownBlock) (.slice Ao47 x9_3.length co47) x9_3) ∧ (w'.heap[gb209]? = some (.cells #[.string a0_0, .string a0_1, .int .i64 a0_2, .int .i64 a0_3, .int .i64 a0_4, .int .i64 a0_5, .int .i64 a0_6] 25 (0, 0))) ∧ (w'.heap[gb210]? = some (.cells #[.int .i64 a1_0, .slice A1_1 l1_1.length c1_1, .slice A1_2 l1_2.length c1_2, .slice A1_3 l1_3.length c1_3, .slice A1_4 l1_4.length c1_4, .slice (some ad235) l1_5.length c1_5] 71 (0, 0))) ∧ (w'.heap[gb221]? = some (.cells #[.int .i64 t213, .int .i64 t214, .int .i64 t215, .int .i64 t216] 44 (0, 0))) ∧ (w'.heap[gb222]? = some (.cells #[.int .i64 t217, .int .i64 t218, .int .i64 t219, .int .i64 t220] 44 (0, 0))) ∧ (Below w.heap.size w w')) ?_ ?_
           rotate_left
           ·intro hJ6_19
            refine join_ (σ := Value) 8 #[true, true, true, false, true, true, false, false, true, true, true, true, true, true, true, true, true, true, true, false, false, false, false, false] (fun s_ => [(57, s_)]) (fun s_ w' => (w'.cell? ⟨gb221, 0, none⟩ = some (.int .i64 t213) ∧ w'.cell? ⟨gb221, 1, none⟩ = some (.int .i64 t214) ∧ w'.cell? ⟨gb221, 2, none⟩ = some (.int .i64 t215) ∧ w'.cell? ⟨gb221, 3, none⟩ = some (.int .i64 t216) ∧ w'.cell? ⟨gb222, 0, none⟩ = some (.int .i64 t217) ∧ w'.cell? ⟨gb222, 1, none⟩ = some (.int .i64 t218) ∧ w'.cell? ⟨gb222, 2, none⟩ = some (.int .i64 t219) ∧ w'.cell? ⟨gb222, 3, none⟩ = some (.int .i64 t220) ∧ w'.cell? ⟨gb210, 0, none⟩ = some (.int .i64 a1_0) ∧ w'.cell? ⟨gb210, 1, none⟩ = some (.slice A1_1 l1_1.length c1_1) ∧ w'.cell? ⟨gb210, 2, none⟩ = some (.slice A1_2 l1_2.length c1_2) ∧ w'.cell? ⟨gb210, 3, none⟩ = some (.slice A1_3 l1_3.length c1_3) ∧ w'.cell? ⟨gb210, 4, none⟩ = some (.slice A1_4 l1_4.length c1_4) ∧ w'.cell? ⟨gb210, 5, none⟩ = some (.slice (some ad235) l1_5.length c1_5) ∧ w'.cell? ⟨gb209, 0, none⟩ = some (.string a0_0) ∧ w'.cell? ⟨gb209, 1, none⟩ = some (.string a0_1) ∧ w'.cell? ⟨gb209, 2, none⟩ = some (.int .i64 a0_2) ∧ w'.cell? ⟨gb209, 3, none⟩ = some (.int .i64 a0_3) ∧ w'.cell? ⟨gb209, 4, none⟩ = some (.int .i64 a0_4) ∧ w'.cell? ⟨gb209, 5, none⟩ = some (.int .i64 a0_5) ∧ w'.cell? ⟨gb209, 6, none⟩ = some (.int .i64 a0_6) ∧ w'.cell? (ad235.add (x46_3).toNat) = some (.int .u8 (rd l1_5 x46_3))) ∧ (Kd.R k44 44 w' w.heap.size (fun k_ => some k_ ≠ (.slice Ao45 x7_3.length co45 : Value).ownBlock ∧ some k_ ≠ (.slice Ao46 x8_3.length co46 : Value).ownBlock ∧ k_ ≠ gb221 ∧ k_ ≠ gb222) s_ y223) ∧ (Kd.R k44 44 w' w.heap.size (fun k_ => some k_ ≠ (s_ : Value).ownBlock ∧ some k_ ≠ (.slice Ao46 x8_3.length co46 : Value).ownBlock ∧ k_ ≠ gb221 ∧ k_ ≠ gb222) (.slice Ao45 x7_3.length co45) x7_3) ∧ (Kd.R k44 44 w' w.heap.size (fun k_ => some k_ ≠ (s_ : Value).ownBlock ∧ some k_ ≠ (.slice Ao45 x7_3.length co45 : Value).ownBlock ∧ k_ ≠ gb221 ∧ k_ ≠ gb222) (.slice Ao46 x8_3.length co46) x8_3) ∧ (Kd.R (Kd.int .i64) 3 w' w.heap.size (fun _ => True) (.slice Ao47 x9_3.length co47) x9_3) ∧ (w'.heap[gb209]? = some (.cells #[.string a0_0, .string a0_1, .int .i64 a0_2, .int .i64 a0_3, .int .i64 a0_4, .int .i64 a0_5, .int .i64 a0_6] 25 (0, 0))) ∧ (w'.heap[gb210]? = some (.cells #[.int .i64 a1_0, .slice A1_1 l1_1.length c1_1, .slice A1_2 l1_2.length c1_2, .slice A1_3 l1_3.length c1_3, .slice A1_4 l1_4.length c1_4, .slice (some ad235) l1_5.length c1_5] 71 (0, 0))) ∧ (w'.heap[gb221]? = some (.cells #[.int .i64 t213, .int .i64 t214, .int .i64 t215, .int .i64 t216] 44 (0, 0))) ∧ (w'.heap[gb222]? = some (.cells #[.int .i64 t217, .int .i64 t218, .int .i64 t219, .int .i64 t220] 44 (0, 0))) ∧ (Below w.heap.size w w')) ?_ ?_
            rotate_left
            ·intro hJ2
             refine join_ (σ := Value) 8 #[true, true, false, false, true, true, true, false, true, true, true, true, true, true, true, true, true, true, true, false, false, false, false, false] (fun s_ => [(61, s_)]) (fun s_ w' => (w'.cell? ⟨gb221, 0, none⟩ = some (.int .i64 t213) ∧ w'.cell? ⟨gb221, 1, none⟩ = some (.int .i64 t214) ∧ w'.cell? ⟨gb221, 2, none⟩ = some (.int .i64 t215) ∧ w'.cell? ⟨gb221, 3, none⟩ = some (.int .i64 t216) ∧ w'.cell? ⟨gb222, 0, none⟩ = some (.int .i64 t217) ∧ w'.cell? ⟨gb222, 1, none⟩ = some (.int .i64 t218) ∧ w'.cell? ⟨gb222, 2, none⟩ = some (.int .i64 t219) ∧ w'.cell? ⟨gb222, 3, none⟩ = some (.int .i64 t220) ∧ w'.cell? ⟨gb210, 0, none⟩ = some (.int .i64 a1_0) ∧ w'.cell? ⟨gb210, 1, none⟩ = some (.slice A1_1 l1_1.length c1_1) ∧ w'.cell? ⟨gb210, 2, none⟩ = some (.slice A1_2 l1_2.length c1_2) ∧ w'.cell? ⟨gb210, 3, none⟩ = some (.slice A1_3 l1_3.length c1_3) ∧ w'.cell? ⟨gb210, 4, none⟩ = some (.slice A1_4 l1_4.length c1_4) ∧ w'.cell? ⟨gb210, 5, none⟩ = some (.slice (some ad235) l1_5.length c1_5) ∧ w'.cell? ⟨gb209, 0, none⟩ = some (.string a0_0) ∧ w'.cell? ⟨gb209, 1, none⟩ = some (.string a0_1) ∧ w'.cell? ⟨gb209, 2, none⟩ = some (.int .i64 a0_2) ∧ w'.cell? ⟨gb209, 3, none⟩ = some (.int .i64 a0_3) ∧ w'.cell? ⟨gb209, 4, none⟩ = some (.int .i64 a0_4) ∧ w'.cell? ⟨gb209, 5, none⟩ = some (.int .i64 a0_5) ∧ w'.cell? ⟨gb209, 6, none⟩ = some (.int .i64 a0_6) ∧ w'.cell? (ad235.add (x46_3).toNat) = some (.int .u8 (rd l1_5 x46_3))) ∧ (Kd.R k44 44 w' w.heap.size (fun k_ => some k_ ≠ (.slice Ao45 x7_3.length co45 : Value).ownBlock ∧ some k_ ≠ (.slice Ao46 x8_3.length co46 : Value).ownBlock ∧ k_ ≠ gb221 ∧ k_ ≠ gb222) s_ y229) ∧ (Kd.R k44 44 w' w.heap.size (fun k_ => some k_ ≠ (s_ : Value).ownBlock ∧ some k_ ≠ (.slice Ao46 x8_3.length co46 : Value).ownBlock ∧ k_ ≠ gb221 ∧ k_ ≠ gb222) (.slice Ao45 x7_3.length co45) x7_3) ∧ (Kd.R k44 44 w' w.heap.size (fun k_ => some k_ ≠ (s_ : Value).ownBlock ∧ some k_ ≠ (.slice Ao45 x7_3.length co45 : Value).ownBlock ∧ k_ ≠ gb221 ∧ k_ ≠ gb222) (.slice Ao46 x8_3.length co46) x8_3) ∧ (Kd.R (Kd.int .i64) 3 w' w.heap.size (fun _ => True) (.slice Ao47 x9_3.length co47) x9_3) ∧ (w'.heap[gb209]? = some (.cells #[.string a0_0, .string a0_1, .int .i64 a0_2, .int .i64 a0_3, .int .i64 a0_4, .int .i64 a0_5, .int .i64 a0_6] 25 (0, 0))) ∧ (w'.heap[gb210]? = some (.cells #[.int .i64 a1_0, .slice A1_1 l1_1.length c1_1, .slice A1_2 l1_2.length c1_2, .slice A1_3 l1_3.length c1_3, .slice A1_4 l1_4.length c1_4, .slice (some ad235) l1_5.length c1_5] 71 (0, 0))) ∧ (w'.heap[gb221]? = some (.cells #[.int .i64 t213, .int .i64 t214, .int .i64 t215, .int .i64 t216] 44 (0, 0))) ∧ (w'.heap[gb222]? = some (.cells #[.int .i64 t217, .int .i64 t218, .int .i64 t219, .int .i64 t220] 44 (0, 0))) ∧ (Below w.heap.size w w')) ?_ ?_
             rotate_left
             ·intro hJ6
              refine join_ (σ := Value) 8 #[true, true, false, false, true, true, false, false, true, true, true, true, true, true, true, true, true, true, true, true, false, false, false, false] (fun s_ => [(74, s_)]) (fun s_ w' => (w'.cell? ⟨gb221, 0, none⟩ = some (.int .i64 t213) ∧ w'.cell? ⟨gb221, 1, none⟩ = some (.int .i64 t214) ∧ w'.cell? ⟨gb221, 2, none⟩ = some (.int .i64 t215) ∧ w'.cell? ⟨gb221, 3, none⟩ = some (.int .i64 t216) ∧ w'.cell? ⟨gb222, 0, none⟩ = some (.int .i64 t217) ∧ w'.cell? ⟨gb222, 1, none⟩ = some (.int .i64 t218) ∧ w'.cell? ⟨gb222, 2, none⟩ = some (.int .i64 t219) ∧ w'.cell? ⟨gb222, 3, none⟩ = some (.int .i64 t220) ∧ w'.cell? ⟨gb210, 0, none⟩ = some (.int .i64 a1_0) ∧ w'.cell? ⟨gb210, 1, none⟩ = some (.slice A1_1 l1_1.length c1_1) ∧ w'.cell? ⟨gb210, 2, none⟩ = some (.slice A1_2 l1_2.length c1_2) ∧ w'.cell? ⟨gb210, 3, none⟩ = some (.slice A1_3 l1_3.length c1_3) ∧ w'.cell? ⟨gb210, 4, none⟩ = some (.slice A1_4 l1_4.length c1_4) ∧ w'.cell? ⟨gb210, 5, none⟩ = some (.slice (some ad235) l1_5.length c1_5) ∧ w'.cell? ⟨gb209, 0, none⟩ = some (.string a0_0) ∧ w'.cell? ⟨gb209, 1, none⟩ = some (.string a0_1) ∧ w'.cell? ⟨gb209, 2, none⟩ = some (.int .i64 a0_2) ∧ w'.cell? ⟨gb209, 3, none⟩ = some (.int .i64 a0_3) ∧ w'.cell? ⟨gb209, 4, none⟩ = some (.int .i64 a0_4) ∧ w'.cell? ⟨gb209, 5, none⟩ = some (.int .i64 a0_5) ∧ w'.cell? ⟨gb209, 6, none⟩ = some (.int .i64 a0_6) ∧ w'.cell? (ad235.add (x46_3).toNat) = some (.int .u8 (rd l1_5 x46_3))) ∧ (Kd.R (Kd.int .i64) 3 w' w.heap.size (fun k_ => some k_ ≠ (.slice Ao47 x9_3.length co47 : Value).ownBlock) s_ y236) ∧ (Kd.R k44 44 w' w.heap.size (fun k_ => some k_ ≠ (.slice Ao46 x8_3.length co46 : Value).ownBlock ∧ k_ ≠ gb221 ∧ k_ ≠ gb222) (.slice Ao45 x7_3.length co45) x7_3) ∧ (Kd.R k44 44 w' w.heap.size (fun k_ => some k_ ≠ (.slice Ao45 x7_3.length co45 : Value).ownBlock ∧ k_ ≠ gb221 ∧ k_ ≠ gb222) (.slice Ao46 x8_3.length co46) x8_3) ∧ (Kd.R (Kd.int .i64) 3 w' w.heap.size (fun k_ => some k_ ≠ (s_ : Value).ownBlock) (.slice Ao47 x9_3.length co47) x9_3) ∧ (w'.heap[gb209]? = some (.cells #[.string a0_0, .string a0_1, .int .i64 a0_2, .int .i64 a0_3, .int .i64 a0_4, .int .i64 a0_5, .int .i64 a0_6] 25 (0, 0))) ∧ (w'.heap[gb210]? = some (.cells #[.int .i64 a1_0, .slice A1_1 l1_1.length c1_1, .slice A1_2 l1_2.length c1_2, .slice A1_3 l1_3.length c1_3, .slice A1_4 l1_4.length c1_4, .slice (some ad235) l1_5.length c1_5] 71 (0, 0))) ∧ (w'.heap[gb221]? = some (.cells #[.int .i64 t213, .int .i64 t214, .int .i64 t215, .int .i64 t216] 44 (0, 0))) ∧ (w'.heap[gb222]? = some (.cells #[.int .i64 t217, .int .i64 t218, .int .i64 t219, .int .i64 t220] 44 (0, 0))) ∧ (Below w.heap.size w w')) ?_ ?_
              rotate_left
              ·intro hJ19
               refine three_ (i := 2) (j := 6) (k := 19) (Ni := some 57) (Nj := some 61) (Nk := some 74) #[true, true, true, false, true, true, false, false, true, true, true, true, true, true, true, true, true, true, true, false, false, false, false, false] #[true, true, false, false, true, true, true, false, true, true, true, true, true, true, true, true, true, true, true, false, false, false, false, false] #[true, true, false, false, true, true, false, false, true, true, true, true, true, true, true, true, true, true, true, true, false, false, false, false] rfl rfl rfl rfl rfl rfl (three_of HT_.out (by kernel_rfl)) (by decide) (by decide) (by decide) (fun K hK => ?_) (fun K hK => ?_) (fun K hK => ?_)
               ·skip
                refine Kd.R_lit_step k44 _ 44 ?hg (N := 57) ?hd (xs := ([(⟨(⟨t213, t214⟩ : S27), (⟨t215, t216⟩ : S27)⟩ : S44)] : List (S44))) (inner := [.int .i64 t213, .int .i64 t214, .int .i64 t215, .int .i64 t216]) (ok := fun _ => True) (okp := fun _ => True) ?hr ?hp (fun _ hk => hk) trivial (Below.refl _ _) (Nat.le_refl _) (by simp) ?_; (case hd => rfl); (case hg => rfl); (case hr => first | (go_simp; done) | (go_simp; rfl)); (case hp => exact (Reps.c4 (show Kd.M k44 _ _ _ (⟨(⟨t213, t214⟩ : S27), (⟨t215, t216⟩ : S27)⟩ : S44) [.int .i64 t213, .int .i64 t214, .int .i64 t215, .int .i64 t216] from (k44_mkM _ _ _ (⟨(⟨t213, t214⟩ : S27), (⟨t215, t216⟩ : S27)⟩ : S44) )) (Reps.none _ _)))
                intro v224 w50 ho51 hb hg_ hnew_
                clear hg_ hnew_
                (first | rw [← Ny223.out] at ho51 | (simp only [Int.reduceToNat] at ho51; rw [← Ny223.out] at ho51))
                have n0_ := Aside0.mk (Kd.R_elder' (zr HO_7.out) (Kd.R_base ho51) hb)
                have n1_ := Aside0.mk (Kd.R_elder' (zr HO_8.out) (Kd.R_base ho51) hb)
                have n2_ := Aside0.mk (Kd.R_below (zr HO_9.out) hb)
                have n3_ := Aside0.mk (Kd.R_lower (Kd.R_newB (Kd.R_newB (Kd.R_new' (Kd.R_new' ho51 (Kd.R_lt (zr HO_7.out))) (Kd.R_lt (zr HO_8.out))) (g := gb221) (o := .cells #[.int .i64 t213, .int .i64 t214, .int .i64 t215, .int .i64 t216] 44 (0, 0)) (zk BK221.out)) (g := gb222) (o := .cells #[.int .i64 t217, .int .i64 t218, .int .i64 t219, .int .i64 t220] 44 (0, 0)) (zk BK222.out)) (below_size (by repeat (first | (with_reducible first | exact HB.out | apply below_alloc | apply pw_below_drewN | apply below_drew1 | refine below_set ?_ GE209.out | refine below_set ?_ GE210.out | refine below_set ?_ GE221.out | refine below_set ?_ GE222.out) | exact HB.out))))
                have n4_ := Aside0.mk (zb BK209.out hb)
                have n5_ := Aside0.mk (zb BK210.out hb)
                have n6_ := Aside0.mk (zb BK221.out hb)
                have n7_ := Aside0.mk (zb BK222.out hb)
                have n8_ := Aside0.mk (below_step (by repeat (first | (with_reducible first | exact HB.out | apply below_alloc | apply pw_below_drewN | apply below_drew1 | refine below_set ?_ GE209.out | refine below_set ?_ GE210.out | refine below_set ?_ GE221.out | refine below_set ?_ GE222.out) | exact HB.out)) hb)
                clear HO_7
                clear HO_8
                clear HO_9
                clear BK209
                clear BK210
                clear BK221
                clear BK222
                clear HB
                have HO_7 := n0_
                have HO_8 := n1_
                have HO_9 := n2_
                have HO225 := n3_
                have BK209 := n4_
                have BK210 := n5_
                have BK221 := n6_
                have BK222 := n7_
                have HB := n8_
                clear n0_ n1_ n2_ n3_ n4_ n5_ n6_ n7_ n8_
                clear hb ho51
                refine hK.out _ _ ⟨(blk_cell BK221.out 0).trans rfl, (blk_cell BK221.out 1).trans rfl, (blk_cell BK221.out 2).trans rfl, (blk_cell BK221.out 3).trans rfl, (blk_cell BK222.out 0).trans rfl, (blk_cell BK222.out 1).trans rfl, (blk_cell BK222.out 2).trans rfl, (blk_cell BK222.out 3).trans rfl, (blk_cell BK210.out 0).trans rfl, (blk_cell BK210.out 1).trans rfl, (blk_cell BK210.out 2).trans rfl, (blk_cell BK210.out 3).trans rfl, (blk_cell BK210.out 4).trans rfl, (blk_cell BK210.out 5).trans rfl, (blk_cell BK209.out 0).trans rfl, (blk_cell BK209.out 1).trans rfl, (blk_cell BK209.out 2).trans rfl, (blk_cell BK209.out 3).trans rfl, (blk_cell BK209.out 4).trans rfl, (blk_cell BK209.out 5).trans rfl, (blk_cell BK209.out 6).trans rfl, ((HB.out.cell (World.block_lt_of_cell? w _ hw235_0)).trans hw235_0)⟩ (fun hHeld => ?_)
                clear hK K
                refine norm_ (a' := ?_) ?_ ?_
                rotate_left
                ·show Act.put _ (some 57) _ = _
                 simp only [Act.put, List.setIfInBounds_toArray, List.set_cons_zero, List.set_cons_succ, i64_w, i32_w]
                 rfl
                exact norm_ (by first | (simp only [putAll, Act.put, List.setIfInBounds_toArray, List.set_cons_zero, List.set_cons_succ]; done) | (simp only [putAll, Act.put, List.setIfInBounds_toArray, List.set_cons_zero, List.set_cons_succ]; rfl)) (hJ2 (v224) _ ⟨hHeld, (by (with_reducible repeat (first | apply Kd.R_alloc | apply Kd.R_drewN | apply Kd.R_drew)); exact Kd.R_mono HO225.out (fun _ hk => ⟨hk.1.1.1.2, ⟨hk.1.1.2, ⟨hk.1.2, hk.2⟩⟩⟩)), (by (with_reducible repeat (first | apply Kd.R_alloc | apply Kd.R_drewN | apply Kd.R_drew)); exact Kd.R_mono HO_7.out (fun _ hk => ⟨hk.2, ⟨hk.1.1, ⟨hk.1.2.1, hk.1.2.2⟩⟩⟩)), (by (with_reducible repeat (first | apply Kd.R_alloc | apply Kd.R_drewN | apply Kd.R_drew)); exact Kd.R_mono HO_8.out (fun _ hk => ⟨hk.2, ⟨hk.1.1, ⟨hk.1.2.1, hk.1.2.2⟩⟩⟩)), (zr HO_9.out), (zk BK209.out), (zk BK210.out), (zk BK221.out), (zk BK222.out), (by repeat (first | (with_reducible first | exact HB.out | apply below_alloc | apply pw_below_drewN | apply below_drew1 | refine below_set ?_ GE209.out | refine below_set ?_ GE210.out | refine below_set ?_ GE221.out | refine below_set ?_ GE222.out) | exact HB.out))⟩)
               ·skip
                refine Kd.R_lit_step k44 _ 44 ?hg (N := 61) ?hd (xs := ([(⟨(⟨t217, t218⟩ : S27), (⟨t219, t220⟩ : S27)⟩ : S44)] : List (S44))) (inner := [.int .i64 t217, .int .i64 t218, .int .i64 t219, .int .i64 t220]) (ok := fun _ => True) (okp := fun _ => True) ?hr ?hp (fun _ hk => hk) trivial (Below.refl _ _) (Nat.le_refl _) (by simp) ?_; (case hd => rfl); (case hg => rfl); (case hr => first | (go_simp; done) | (go_simp; rfl)); (case hp => exact (Reps.c4 (show Kd.M k44 _ _ _ (⟨(⟨t217, t218⟩ : S27), (⟨t219, t220⟩ : S27)⟩ : S44) [.int .i64 t217, .int .i64 t218, .int .i64 t219, .int .i64 t220] from (k44_mkM _ _ _ (⟨(⟨t217, t218⟩ : S27), (⟨t219, t220⟩ : S27)⟩ : S44) )) (Reps.none _ _)))
                intro v230 w50 ho51 hb hg_ hnew_
                clear hg_ hnew_
                (first | rw [← Ny229.out] at ho51 | (simp only [Int.reduceToNat] at ho51; rw [← Ny229.out] at ho51))
                have n0_ := Aside0.mk (Kd.R_elder' (zr HO_7.out) (Kd.R_base ho51) hb)
                have n1_ := Aside0.mk (Kd.R_elder' (zr HO_8.out) (Kd.R_base ho51) hb)
                have n2_ := Aside0.mk (Kd.R_below (zr HO_9.out) hb)
                have n3_ := Aside0.mk (Kd.R_lower (Kd.R_newB (Kd.R_newB (Kd.R_new' (Kd.R_new' ho51 (Kd.R_lt (zr HO_7.out))) (Kd.R_lt (zr HO_8.out))) (g := gb221) (o := .cells #[.int .i64 t213, .int .i64 t214, .int .i64 t215, .int .i64 t216] 44 (0, 0)) (zk BK221.out)) (g := gb222) (o := .cells #[.int .i64 t217, .int .i64 t218, .int .i64 t219, .int .i64 t220] 44 (0, 0)) (zk BK222.out)) (below_size (by repeat (first | (with_reducible first | exact HB.out | apply below_alloc | apply pw_below_drewN | apply below_drew1 | refine below_set ?_ GE209.out | refine below_set ?_ GE210.out | refine below_set ?_ GE221.out | refine below_set ?_ GE222.out) | exact HB.out))))
                have n4_ := Aside0.mk (zb BK209.out hb)
                have n5_ := Aside0.mk (zb BK210.out hb)
                have n6_ := Aside0.mk (zb BK221.out hb)
                have n7_ := Aside0.mk (zb BK222.out hb)
                have n8_ := Aside0.mk (below_step (by repeat (first | (with_reducible first | exact HB.out | apply below_alloc | apply pw_below_drewN | apply below_drew1 | refine below_set ?_ GE209.out | refine below_set ?_ GE210.out | refine below_set ?_ GE221.out | refine below_set ?_ GE222.out) | exact HB.out)) hb)
                clear HO_7
                clear HO_8
                clear HO_9
                clear BK209
                clear BK210
                clear BK221
                clear BK222
                clear HB
                have HO_7 := n0_
                have HO_8 := n1_
                have HO_9 := n2_
                have HO231 := n3_
                have BK209 := n4_
                have BK210 := n5_
                have BK221 := n6_
                have BK222 := n7_
                have HB := n8_
                clear n0_ n1_ n2_ n3_ n4_ n5_ n6_ n7_ n8_
                clear hb ho51
                refine hK.out _ _ ⟨(blk_cell BK221.out 0).trans rfl, (blk_cell BK221.out 1).trans rfl, (blk_cell BK221.out 2).trans rfl, (blk_cell BK221.out 3).trans rfl, (blk_cell BK222.out 0).trans rfl, (blk_cell BK222.out 1).trans rfl, (blk_cell BK222.out 2).trans rfl, (blk_cell BK222.out 3).trans rfl, (blk_cell BK210.out 0).trans rfl, (blk_cell BK210.out 1).trans rfl, (blk_cell BK210.out 2).trans rfl, (blk_cell BK210.out 3).trans rfl, (blk_cell BK210.out 4).trans rfl, (blk_cell BK210.out 5).trans rfl, (blk_cell BK209.out 0).trans rfl, (blk_cell BK209.out 1).trans rfl, (blk_cell BK209.out 2).trans rfl, (blk_cell BK209.out 3).trans rfl, (blk_cell BK209.out 4).trans rfl, (blk_cell BK209.out 5).trans rfl, (blk_cell BK209.out 6).trans rfl, ((HB.out.cell (World.block_lt_of_cell? w _ hw235_0)).trans hw235_0)⟩ (fun hHeld => ?_)
                clear hK K
                refine norm_ (a' := ?_) ?_ ?_
                rotate_left
                ·show Act.put _ (some 61) _ = _
                 simp only [Act.put, List.setIfInBounds_toArray, List.set_cons_zero, List.set_cons_succ, i64_w, i32_w]
                 rfl
                exact norm_ (by first | (simp only [putAll, Act.put, List.setIfInBounds_toArray, List.set_cons_zero, List.set_cons_succ]; done) | (simp only [putAll, Act.put, List.setIfInBounds_toArray, List.set_cons_zero, List.set_cons_succ]; rfl)) (hJ6 (v230) _ ⟨hHeld, (by (with_reducible repeat (first | apply Kd.R_alloc | apply Kd.R_drewN | apply Kd.R_drew)); exact Kd.R_mono HO231.out (fun _ hk => ⟨hk.1.1.1.2, ⟨hk.1.1.2, ⟨hk.1.2, hk.2⟩⟩⟩)), (by (with_reducible repeat (first | apply Kd.R_alloc | apply Kd.R_drewN | apply Kd.R_drew)); exact Kd.R_mono HO_7.out (fun _ hk => ⟨hk.2, ⟨hk.1.1, ⟨hk.1.2.1, hk.1.2.2⟩⟩⟩)), (by (with_reducible repeat (first | apply Kd.R_alloc | apply Kd.R_drewN | apply Kd.R_drew)); exact Kd.R_mono HO_8.out (fun _ hk => ⟨hk.2, ⟨hk.1.1, ⟨hk.1.2.1, hk.1.2.2⟩⟩⟩)), (zr HO_9.out), (zk BK209.out), (zk BK210.out), (zk BK221.out), (zk BK222.out), (by repeat (first | (with_reducible first | exact HB.out | apply below_alloc | apply pw_below_drewN | apply below_drew1 | refine below_set ?_ GE209.out | refine below_set ?_ GE210.out | refine below_set ?_ GE221.out | refine below_set ?_ GE222.out) | exact HB.out))⟩)
               ·skip
                refine Kd.R_lit_step (Kd.int .i64) _ 3 ?hg (N := 74) ?hd (xs := ([Int.tmod (wrap64 (rd l1_5 x46_3)) (wrap64 (a0_6 + 1))] : List Int)) (inner := [.int .i64 (Int.tmod (wrap64 (rd l1_5 x46_3)) (wrap64 (a0_6 + 1)))]) (ok := fun _ => True) (okp := fun _ => True) ?hr ?hp (fun _ hk => hk) trivial (Below.refl _ _) (Nat.le_refl _) (by simp) ?_; (case hd => rfl); (case hg => rfl); (case hr => first | (go_simp; done) | (go_simp; rfl)); (case hp => exact (Reps.one (show Kd.M (Kd.int .i64) _ _ _ (Int.tmod (wrap64 (rd l1_5 x46_3)) (wrap64 (a0_6 + 1))) [.int .i64 (Int.tmod (wrap64 (rd l1_5 x46_3)) (wrap64 (a0_6 + 1)))] from rfl) (Reps.none _ _)))
                intro v237 w50 ho51 hb hg_ hnew_
                clear hg_ hnew_
                (first | rw [← Ny236.out] at ho51 | (simp only [Int.reduceToNat] at ho51; rw [← Ny236.out] at ho51))
                have n0_ := Aside0.mk (Kd.R_below (zr HO_7.out) hb)
                have n1_ := Aside0.mk (Kd.R_below (zr HO_8.out) hb)
                have n2_ := Aside0.mk (Kd.R_elder' (zr HO_9.out) (Kd.R_base ho51) hb)
                have n3_ := Aside0.mk (Kd.R_lower (Kd.R_new' ho51 (Kd.R_lt (zr HO_9.out))) (below_size (by repeat (first | (with_reducible first | exact HB.out | apply below_alloc | apply pw_below_drewN | apply below_drew1 | refine below_set ?_ GE209.out | refine below_set ?_ GE210.out | refine below_set ?_ GE221.out | refine below_set ?_ GE222.out) | exact HB.out))))
                have n4_ := Aside0.mk (zb BK209.out hb)
                have n5_ := Aside0.mk (zb BK210.out hb)
                have n6_ := Aside0.mk (zb BK221.out hb)
                have n7_ := Aside0.mk (zb BK222.out hb)
                have n8_ := Aside0.mk (below_step (by repeat (first | (with_reducible first | exact HB.out | apply below_alloc | apply pw_below_drewN | apply below_drew1 | refine below_set ?_ GE209.out | refine below_set ?_ GE210.out | refine below_set ?_ GE221.out | refine below_set ?_ GE222.out) | exact HB.out)) hb)
                clear HO_7
                clear HO_8
                clear HO_9
                clear BK209
                clear BK210
                clear BK221
                clear BK222
                clear HB
                have HO_7 := n0_
                have HO_8 := n1_
                have HO_9 := n2_
                have HO238 := n3_
                have BK209 := n4_
                have BK210 := n5_
                have BK221 := n6_
                have BK222 := n7_
                have HB := n8_
                clear n0_ n1_ n2_ n3_ n4_ n5_ n6_ n7_ n8_
                clear hb ho51
                refine hK.out _ _ ⟨(blk_cell BK221.out 0).trans rfl, (blk_cell BK221.out 1).trans rfl, (blk_cell BK221.out 2).trans rfl, (blk_cell BK221.out 3).trans rfl, (blk_cell BK222.out 0).trans rfl, (blk_cell BK222.out 1).trans rfl, (blk_cell BK222.out 2).trans rfl, (blk_cell BK222.out 3).trans rfl, (blk_cell BK210.out 0).trans rfl, (blk_cell BK210.out 1).trans rfl, (blk_cell BK210.out 2).trans rfl, (blk_cell BK210.out 3).trans rfl, (blk_cell BK210.out 4).trans rfl, (blk_cell BK210.out 5).trans rfl, (blk_cell BK209.out 0).trans rfl, (blk_cell BK209.out 1).trans rfl, (blk_cell BK209.out 2).trans rfl, (blk_cell BK209.out 3).trans rfl, (blk_cell BK209.out 4).trans rfl, (blk_cell BK209.out 5).trans rfl, (blk_cell BK209.out 6).trans rfl, ((HB.out.cell (World.block_lt_of_cell? w _ hw235_0)).trans hw235_0)⟩ (fun hHeld => ?_)
                clear hK K
                refine norm_ (a' := ?_) ?_ ?_
                rotate_left
                ·show Act.put _ (some 74) _ = _
                 simp only [Act.put, List.setIfInBounds_toArray, List.set_cons_zero, List.set_cons_succ, i64_w, i32_w]
                 rfl
                exact norm_ (by first | (simp only [putAll, Act.put, List.setIfInBounds_toArray, List.set_cons_zero, List.set_cons_succ]; done) | (simp only [putAll, Act.put, List.setIfInBounds_toArray, List.set_cons_zero, List.set_cons_succ]; rfl)) (hJ19 (v237) _ ⟨hHeld, (by (with_reducible repeat (first | apply Kd.R_alloc | apply Kd.R_drewN | apply Kd.R_drew)); exact Kd.R_mono HO238.out (fun _ hk => hk.2)), (zr HO_7.out), (zr HO_8.out), (by (with_reducible repeat (first | apply Kd.R_alloc | apply Kd.R_drewN | apply Kd.R_drew)); exact Kd.R_mono HO_9.out (fun _ hk => hk.2)), (zk BK209.out), (zk BK210.out), (zk BK221.out), (zk BK222.out), (by repeat (first | (with_reducible first | exact HB.out | apply below_alloc | apply pw_below_drewN | apply below_drew1 | refine below_set ?_ GE209.out | refine below_set ?_ GE210.out | refine below_set ?_ GE221.out | refine below_set ?_ GE222.out) | exact HB.out))⟩)
              ·skip
               rintro v237 w52 ⟨hS_, h0_, h1_, h2_, h3_, h4_, h5_, h6_, h7_, h8_⟩
               have n0_ : Aside0 (Kd.R (Kd.int .i64) 3 w52 w.heap.size (fun k_ => some k_ ≠ (.slice Ao47 x9_3.length co47 : Value).ownBlock) v237 y236) := ⟨h0_⟩
               have n1_ : Aside0 (Kd.R k44 44 w52 w.heap.size (fun k_ => some k_ ≠ (.slice Ao46 x8_3.length co46 : Value).ownBlock ∧ k_ ≠ gb221 ∧ k_ ≠ gb222) (.slice Ao45 x7_3.length co45) x7_3) := ⟨h1_⟩
               have n2_ : Aside0 (Kd.R k44 44 w52 w.heap.size (fun k_ => some k_ ≠ (.slice Ao45 x7_3.length co45 : Value).ownBlock ∧ k_ ≠ gb221 ∧ k_ ≠ gb222) (.slice Ao46 x8_3.length co46) x8_3) := ⟨h2_⟩
               have n3_ : Aside0 (Kd.R (Kd.int .i64) 3 w52 w.heap.size (fun k_ => some k_ ≠ (v237 : Value).ownBlock) (.slice Ao47 x9_3.length co47) x9_3) := ⟨h3_⟩
               have n4_ : Aside0 (w52.heap[gb209]? = some (.cells #[.string a0_0, .string a0_1, .int .i64 a0_2, .int .i64 a0_3, .int .i64 a0_4, .int .i64 a0_5, .int .i64 a0_6] 25 (0, 0))) := ⟨h4_⟩
               have n5_ : Aside0 (w52.heap[gb210]? = some (.cells #[.int .i64 a1_0, .slice A1_1 l1_1.length c1_1, .slice A1_2 l1_2.length c1_2, .slice A1_3 l1_3.length c1_3, .slice A1_4 l1_4.length c1_4, .slice (some ad235) l1_5.length c1_5] 71 (0, 0))) := ⟨h5_⟩
               have n6_ : Aside0 (w52.heap[gb221]? = some (.cells #[.int .i64 t213, .int .i64 t214, .int .i64 t215, .int .i64 t216] 44 (0, 0))) := ⟨h6_⟩
               have n7_ : Aside0 (w52.heap[gb222]? = some (.cells #[.int .i64 t217, .int .i64 t218, .int .i64 t219, .int .i64 t220] 44 (0, 0))) := ⟨h7_⟩
               have n8_ : Aside0 (Below w.heap.size w w52) := ⟨h8_⟩
               clear HO_7
               clear HO_8
               clear HO_9
               clear BK209
               clear BK210
               clear BK221
               clear BK222
               clear HB
               clear h0_ h1_ h2_ h3_ h4_ h5_ h6_ h7_ h8_
               have HO238 := n0_
               have HO_7 := n1_
               have HO_8 := n2_
               have HO_9 := n3_
               have BK209 := n4_
               have BK210 := n5_
               have BK221 := n6_
               have BK222 := n7_
               have HB := n8_
               clear n0_ n1_ n2_ n3_ n4_ n5_ n6_ n7_ n8_
               have hHeld : w52.cell? ⟨gb221, 0, none⟩ = some (.int .i64 t213) ∧ w52.cell? ⟨gb221, 1, none⟩ = some (.int .i64 t214) ∧ w52.cell? ⟨gb221, 2, none⟩ = some (.int .i64 t215) ∧ w52.cell? ⟨gb221, 3, none⟩ = some (.int .i64 t216) ∧ w52.cell? ⟨gb222, 0, none⟩ = some (.int .i64 t217) ∧ w52.cell? ⟨gb222, 1, none⟩ = some (.int .i64 t218) ∧ w52.cell? ⟨gb222, 2, none⟩ = some (.int .i64 t219) ∧ w52.cell? ⟨gb222, 3, none⟩ = some (.int .i64 t220) ∧ w52.cell? ⟨gb210, 0, none⟩ = some (.int .i64 a1_0) ∧ w52.cell? ⟨gb210, 1, none⟩ = some (.slice A1_1 l1_1.length c1_1) ∧ w52.cell? ⟨gb210, 2, none⟩ = some (.slice A1_2 l1_2.length c1_2) ∧ w52.cell? ⟨gb210, 3, none⟩ = some (.slice A1_3 l1_3.length c1_3) ∧ w52.cell? ⟨gb210, 4, none⟩ = some (.slice A1_4 l1_4.length c1_4) ∧ w52.cell? ⟨gb210, 5, none⟩ = some (.slice (some ad235) l1_5.length c1_5) ∧ w52.cell? ⟨gb209, 0, none⟩ = some (.string a0_0) ∧ w52.cell? ⟨gb209, 1, none⟩ = some (.string a0_1) ∧ w52.cell? ⟨gb209, 2, none⟩ = some (.int .i64 a0_2) ∧ w52.cell? ⟨gb209, 3, none⟩ = some (.int .i64 a0_3) ∧ w52.cell? ⟨gb209, 4, none⟩ = some (.int .i64 a0_4) ∧ w52.cell? ⟨gb209, 5, none⟩ = some (.int .i64 a0_5) ∧ w52.cell? ⟨gb209, 6, none⟩ = some (.int .i64 a0_6) ∧ w52.cell? (ad235.add (x46_3).toNat) = some (.int .u8 (rd l1_5 x46_3)) := hS_
               refine norm_ (a' := ?_) ?_ ?_
               rotate_left
               ·simp only [putAll, Act.put, List.setIfInBounds_toArray, List.set_cons_zero, List.set_cons_succ]
                rfl
               refine two_ (i := 2) (j := 6) (Ni := some 57) (Nj := some 61) #[true, true, true, false, true, true, false, false, true, true, true, true, true, true, true, true, true, true, true, true, false, false, false, false] #[true, true, false, false, true, true, true, false, true, true, true, true, true, true, true, true, true, true, true, true, false, false, false, false] rfl rfl rfl rfl (two_of HT_.out (by kernel_rfl)) (by decide) (by decide) (fun K hK => ?_) (fun K hK => ?_)
               ·skip
                refine Kd.R_lit_step k44 _ 44 ?hg (N := 57) ?hd (xs := ([(⟨(⟨t213, t214⟩ : S27), (⟨t215, t216⟩ : S27)⟩ : S44)] : List (S44))) (inner := [.int .i64 t213, .int .i64 t214, .int .i64 t215, .int .i64 t216]) (ok := fun _ => True) (okp := fun _ => True) ?hr ?hp (fun _ hk => hk) trivial (Below.refl _ _) (Nat.le_refl _) (by simp) ?_; (case hd => rfl); (case hg => rfl); (case hr => first | (go_simp; done) | (go_simp; rfl)); (case hp => exact (Reps.c4 (show Kd.M k44 _ _ _ (⟨(⟨t213, t214⟩ : S27), (⟨t215, t216⟩ : S27)⟩ : S44) [.int .i64 t213, .int .i64 t214, .int .i64 t215, .int .i64 t216] from (k44_mkM _ _ _ (⟨(⟨t213, t214⟩ : S27), (⟨t215, t216⟩ : S27)⟩ : S44) )) (Reps.none _ _)))
                intro v224 w53 ho54 hb hg_ hnew_
                clear hg_ hnew_
                (first | rw [← Ny223.out] at ho54 | (simp only [Int.reduceToNat] at ho54; rw [← Ny223.out] at ho54))
                have n0_ := Aside0.mk (Kd.R_elder' (zr HO_7.out) (Kd.R_base ho54) hb)
                have n1_ := Aside0.mk (Kd.R_elder' (zr HO_8.out) (Kd.R_base ho54) hb)
                have n2_ := Aside0.mk (Kd.R_below (zr HO_9.out) hb)
                have n3_ := Aside0.mk (Kd.R_below (zr HO238.out) hb)
                have n4_ := Aside0.mk (Kd.R_lower (Kd.R_newB (Kd.R_newB (Kd.R_new' (Kd.R_new' ho54 (Kd.R_lt (zr HO_7.out))) (Kd.R_lt (zr HO_8.out))) (g := gb221) (o := .cells #[.int .i64 t213, .int .i64 t214, .int .i64 t215, .int .i64 t216] 44 (0, 0)) (zk BK221.out)) (g := gb222) (o := .cells #[.int .i64 t217, .int .i64 t218, .int .i64 t219, .int .i64 t220] 44 (0, 0)) (zk BK222.out)) (below_size (by repeat (first | (with_reducible first | exact HB.out | apply below_alloc | apply pw_below_drewN | apply below_drew1 | refine below_set ?_ GE209.out | refine below_set ?_ GE210.out | refine below_set ?_ GE221.out | refine below_set ?_ GE222.out) | exact HB.out))))
                have n5_ := Aside0.mk (zb BK209.out hb)
                have n6_ := Aside0.mk (zb BK210.out hb)
                have n7_ := Aside0.mk (zb BK221.out hb)
                have n8_ := Aside0.mk (zb BK222.out hb)
                have n9_ := Aside0.mk (below_step (by repeat (first | (with_reducible first | exact HB.out | apply below_alloc | apply pw_below_drewN | apply below_drew1 | refine below_set ?_ GE209.out | refine below_set ?_ GE210.out | refine below_set ?_ GE221.out | refine below_set ?_ GE222.out) | exact HB.out)) hb)
                clear HO_7
                clear HO_8
                clear HO_9
                clear HO238
                clear BK209
                clear BK210
                clear BK221
                clear BK222
                clear HB
                have HO_7 := n0_
                have HO_8 := n1_
                have HO_9 := n2_
                have HO238 := n3_
                have HO225 := n4_
                have BK209 := n5_
                have BK210 := n6_
                have BK221 := n7_
                have BK222 := n8_
                have HB := n9_
                clear n0_ n1_ n2_ n3_ n4_ n5_ n6_ n7_ n8_ n9_
                clear hb ho54
                refine hK.out _ _ ⟨(blk_cell BK221.out 0).trans rfl, (blk_cell BK221.out 1).trans rfl, (blk_cell BK221.out 2).trans rfl, (blk_cell BK221.out 3).trans rfl, (blk_cell BK222.out 0).trans rfl, (blk_cell BK222.out 1).trans rfl, (blk_cell BK222.out 2).trans rfl, (blk_cell BK222.out 3).trans rfl, (blk_cell BK210.out 0).trans rfl, (blk_cell BK210.out 1).trans rfl, (blk_cell BK210.out 2).trans rfl, (blk_cell BK210.out 3).trans rfl, (blk_cell BK210.out 4).trans rfl, (blk_cell BK210.out 5).trans rfl, (blk_cell BK209.out 0).trans rfl, (blk_cell BK209.out 1).trans rfl, (blk_cell BK209.out 2).trans rfl, (blk_cell BK209.out 3).trans rfl, (blk_cell BK209.out 4).trans rfl, (blk_cell BK209.out 5).trans rfl, (blk_cell BK209.out 6).trans rfl, ((HB.out.cell (World.block_lt_of_cell? w _ hw235_0)).trans hw235_0)⟩ (fun hHeld => ?_)
                clear hK K
                refine norm_ (a' := ?_) ?_ ?_
                rotate_left
                ·show Act.put _ (some 57) _ = _
                 simp only [Act.put, List.setIfInBounds_toArray, List.set_cons_zero, List.set_cons_succ, i64_w, i32_w]
                 rfl
                exact norm_ (by first | (simp only [putAll, Act.put, List.setIfInBounds_toArray, List.set_cons_zero, List.set_cons_succ]; done) | (simp only [putAll, Act.put, List.setIfInBounds_toArray, List.set_cons_zero, List.set_cons_succ]; rfl)) (hJ2_19 (v224, v237) _ ⟨hHeld, (by (with_reducible repeat (first | apply Kd.R_alloc | apply Kd.R_drewN | apply Kd.R_drew)); exact Kd.R_mono HO225.out (fun _ hk => ⟨hk.1.1.1.2, ⟨hk.1.1.2, ⟨hk.1.2, hk.2⟩⟩⟩)), (zr HO238.out), (by (with_reducible repeat (first | apply Kd.R_alloc | apply Kd.R_drewN | apply Kd.R_drew)); exact Kd.R_mono HO_7.out (fun _ hk => ⟨hk.2, ⟨hk.1.1, ⟨hk.1.2.1, hk.1.2.2⟩⟩⟩)), (by (with_reducible repeat (first | apply Kd.R_alloc | apply Kd.R_drewN | apply Kd.R_drew)); exact Kd.R_mono HO_8.out (fun _ hk => ⟨hk.2, ⟨hk.1.1, ⟨hk.1.2.1, hk.1.2.2⟩⟩⟩)), (zr HO_9.out), (zk BK209.out), (zk BK210.out), (zk BK221.out), (zk BK222.out), (by repeat (first | (with_reducible first | exact HB.out | apply below_alloc | apply pw_below_drewN | apply below_drew1 | refine below_set ?_ GE209.out | refine below_set ?_ GE210.out | refine below_set ?_ GE221.out | refine below_set ?_ GE222.out) | exact HB.out))⟩)
               ·skip
                refine Kd.R_lit_step k44 _ 44 ?hg (N := 61) ?hd (xs := ([(⟨(⟨t217, t218⟩ : S27), (⟨t219, t220⟩ : S27)⟩ : S44)] : List (S44))) (inner := [.int .i64 t217, .int .i64 t218, .int .i64 t219, .int .i64 t220]) (ok := fun _ => True) (okp := fun _ => True) ?hr ?hp (fun _ hk => hk) trivial (Below.refl _ _) (Nat.le_refl _) (by simp) ?_; (case hd => rfl); (case hg => rfl); (case hr => first | (go_simp; done) | (go_simp; rfl)); (case hp => exact (Reps.c4 (show Kd.M k44 _ _ _ (⟨(⟨t217, t218⟩ : S27), (⟨t219, t220⟩ : S27)⟩ : S44) [.int .i64 t217, .int .i64 t218, .int .i64 t219, .int .i64 t220] from (k44_mkM _ _ _ (⟨(⟨t217, t218⟩ : S27), (⟨t219, t220⟩ : S27)⟩ : S44) )) (Reps.none _ _)))
                intro v230 w53 ho54 hb hg_ hnew_
                clear hg_ hnew_
                (first | rw [← Ny229.out] at ho54 | (simp only [Int.reduceToNat] at ho54; rw [← Ny229.out] at ho54))
                have n0_ := Aside0.mk (Kd.R_elder' (zr HO_7.out) (Kd.R_base ho54) hb)
                have n1_ := Aside0.mk (Kd.R_elder' (zr HO_8.out) (Kd.R_base ho54) hb)
                have n2_ := Aside0.mk (Kd.R_below (zr HO_9.out) hb)
                have n3_ := Aside0.mk (Kd.R_below (zr HO238.out) hb)
                have n4_ := Aside0.mk (Kd.R_lower (Kd.R_newB (Kd.R_newB (Kd.R_new' (Kd.R_new' ho54 (Kd.R_lt (zr HO_7.out))) (Kd.R_lt (zr HO_8.out))) (g := gb221) (o := .cells #[.int .i64 t213, .int .i64 t214, .int .i64 t215, .int .i64 t216] 44 (0, 0)) (zk BK221.out)) (g := gb222) (o := .cells #[.int .i64 t217, .int .i64 t218, .int .i64 t219, .int .i64 t220] 44 (0, 0)) (zk BK222.out)) (below_size (by repeat (first | (with_reducible first | exact HB.out | apply below_alloc | apply pw_below_drewN | apply below_drew1 | refine below_set ?_ GE209.out | refine below_set ?_ GE210.out | refine below_set ?_ GE221.out | refine below_set ?_ GE222.out) | exact HB.out))))
                have n5_ := Aside0.mk (zb BK209.out hb)
                have n6_ := Aside0.mk (zb BK210.out hb)
                have n7_ := Aside0.mk (zb BK221.out hb)
                have n8_ := Aside0.mk (zb BK222.out hb)
                have n9_ := Aside0.mk (below_step (by repeat (first | (with_reducible first | exact HB.out | apply below_alloc | apply pw_below_drewN | apply below_drew1 | refine below_set ?_ GE209.out | refine below_set ?_ GE210.out | refine below_set ?_ GE221.out | refine below_set ?_ GE222.out) | exact HB.out)) hb)
                clear HO_7
                clear HO_8
                clear HO_9
                clear HO238
                clear BK209
                clear BK210
                clear BK221
                clear BK222
                clear HB
                have HO_7 := n0_
                have HO_8 := n1_
                have HO_9 := n2_
                have HO238 := n3_
                have HO231 := n4_
                have BK209 := n5_
                have BK210 := n6_
                have BK221 := n7_
                have BK222 := n8_
                have HB := n9_
                clear n0_ n1_ n2_ n3_ n4_ n5_ n6_ n7_ n8_ n9_
                clear hb ho54
                refine hK.out _ _ ⟨(blk_cell BK221.out 0).trans rfl, (blk_cell BK221.out 1).trans rfl, (blk_cell BK221.out 2).trans rfl, (blk_cell BK221.out 3).trans rfl, (blk_cell BK222.out 0).trans rfl, (blk_cell BK222.out 1).trans rfl, (blk_cell BK222.out 2).trans rfl, (blk_cell BK222.out 3).trans rfl, (blk_cell BK210.out 0).trans rfl, (blk_cell BK210.out 1).trans rfl, (blk_cell BK210.out 2).trans rfl, (blk_cell BK210.out 3).trans rfl, (blk_cell BK210.out 4).trans rfl, (blk_cell BK210.out 5).trans rfl, (blk_cell BK209.out 0).trans rfl, (blk_cell BK209.out 1).trans rfl, (blk_cell BK209.out 2).trans rfl, (blk_cell BK209.out 3).trans rfl, (blk_cell BK209.out 4).trans rfl, (blk_cell BK209.out 5).trans rfl, (blk_cell BK209.out 6).trans rfl, ((HB.out.cell (World.block_lt_of_cell? w _ hw235_0)).trans hw235_0)⟩ (fun hHeld => ?_)
                clear hK K
                refine norm_ (a' := ?_) ?_ ?_
                rotate_left
                ·show Act.put _ (some 61) _ = _
                 simp only [Act.put, List.setIfInBounds_toArray, List.set_cons_zero, List.set_cons_succ, i64_w, i32_w]
                 rfl
                exact norm_ (by first | (simp only [putAll, Act.put, List.setIfInBounds_toArray, List.set_cons_zero, List.set_cons_succ]; done) | (simp only [putAll, Act.put, List.setIfInBounds_toArray, List.set_cons_zero, List.set_cons_succ]; rfl)) (hJ6_19 (v230, v237) _ ⟨hHeld, (by (with_reducible repeat (first | apply Kd.R_alloc | apply Kd.R_drewN | apply Kd.R_drew)); exact Kd.R_mono HO231.out (fun _ hk => ⟨hk.1.1.1.2, ⟨hk.1.1.2, ⟨hk.1.2, hk.2⟩⟩⟩)), (zr HO238.out), (by (with_reducible repeat (first | apply Kd.R_alloc | apply Kd.R_drewN | apply Kd.R_drew)); exact Kd.R_mono HO_7.out (fun _ hk => ⟨hk.2, ⟨hk.1.1, ⟨hk.1.2.1, hk.1.2.2⟩⟩⟩)), (by (with_reducible repeat (first | apply Kd.R_alloc | apply Kd.R_drewN | apply Kd.R_drew)); exact Kd.R_mono HO_8.out (fun _ hk => ⟨hk.2, ⟨hk.1.1, ⟨hk.1.2.1, hk.1.2.2⟩⟩⟩)), (zr HO_9.out), (zk BK209.out), (zk BK210.out), (zk BK221.out), (zk BK222.out), (by repeat (first | (with_reducible first | exact HB.out | apply below_alloc | apply pw_below_drewN | apply below_drew1 | refine below_set ?_ GE209.out | refine below_set ?_ GE210.out | refine below_set ?_ GE221.out | refine below_set ?_ GE222.out) | exact HB.out))⟩)
             ·skip
              rintro v230 w52 ⟨hS_, h0_, h1_, h2_, h3_, h4_, h5_, h6_, h7_, h8_⟩
              have n0_ : Aside0 (Kd.R k44 44 w52 w.heap.size (fun k_ => some k_ ≠ (.slice Ao45 x7_3.length co45 : Value).ownBlock ∧ some k_ ≠ (.slice Ao46 x8_3.length co46 : Value).ownBlock ∧ k_ ≠ gb221 ∧ k_ ≠ gb222) v230 y229) := ⟨h0_⟩
              have n1_ : Aside0 (Kd.R k44 44 w52 w.heap.size (fun k_ => some k_ ≠ (v230 : Value).ownBlock ∧ some k_ ≠ (.slice Ao46 x8_3.length co46 : Value).ownBlock ∧ k_ ≠ gb221 ∧ k_ ≠ gb222) (.slice Ao45 x7_3.length co45) x7_3) := ⟨h1_⟩
              have n2_ : Aside0 (Kd.R k44 44 w52 w.heap.size (fun k_ => some k_ ≠ (v230 : Value).ownBlock ∧ some k_ ≠ (.slice Ao45 x7_3.length co45 : Value).ownBlock ∧ k_ ≠ gb221 ∧ k_ ≠ gb222) (.slice Ao46 x8_3.length co46) x8_3) := ⟨h2_⟩
              have n3_ : Aside0 (Kd.R (Kd.int .i64) 3 w52 w.heap.size (fun _ => True) (.slice Ao47 x9_3.length co47) x9_3) := ⟨h3_⟩
              have n4_ : Aside0 (w52.heap[gb209]? = some (.cells #[.string a0_0, .string a0_1, .int .i64 a0_2, .int .i64 a0_3, .int .i64 a0_4, .int .i64 a0_5, .int .i64 a0_6] 25 (0, 0))) := ⟨h4_⟩
              have n5_ : Aside0 (w52.heap[gb210]? = some (.cells #[.int .i64 a1_0, .slice A1_1 l1_1.length c1_1, .slice A1_2 l1_2.length c1_2, .slice A1_3 l1_3.length c1_3, .slice A1_4 l1_4.length c1_4, .slice (some ad235) l1_5.length c1_5] 71 (0, 0))) := ⟨h5_⟩
              have n6_ : Aside0 (w52.heap[gb221]? = some (.cells #[.int .i64 t213, .int .i64 t214, .int .i64 t215, .int .i64 t216] 44 (0, 0))) := ⟨h6_⟩
              have n7_ : Aside0 (w52.heap[gb222]? = some (.cells #[.int .i64 t217, .int .i64 t218, .int .i64 t219, .int .i64 t220] 44 (0, 0))) := ⟨h7_⟩
              have n8_ : Aside0 (Below w.heap.size w w52) := ⟨h8_⟩
              clear HO_7
              clear HO_8
              clear HO_9
              clear BK209
              clear BK210
              clear BK221
              clear BK222
              clear HB
              clear h0_ h1_ h2_ h3_ h4_ h5_ h6_ h7_ h8_
              have HO231 := n0_
              have HO_7 := n1_
              have HO_8 := n2_
              have HO_9 := n3_
              have BK209 := n4_
              have BK210 := n5_
              have BK221 := n6_
              have BK222 := n7_
              have HB := n8_
              clear n0_ n1_ n2_ n3_ n4_ n5_ n6_ n7_ n8_
              have hHeld : w52.cell? ⟨gb221, 0, none⟩ = some (.int .i64 t213) ∧ w52.cell? ⟨gb221, 1, none⟩ = some (.int .i64 t214) ∧ w52.cell? ⟨gb221, 2, none⟩ = some (.int .i64 t215) ∧ w52.cell? ⟨gb221, 3, none⟩ = some (.int .i64 t216) ∧ w52.cell? ⟨gb222, 0, none⟩ = some (.int .i64 t217) ∧ w52.cell? ⟨gb222, 1, none⟩ = some (.int .i64 t218) ∧ w52.cell? ⟨gb222, 2, none⟩ = some (.int .i64 t219) ∧ w52.cell? ⟨gb222, 3, none⟩ = some (.int .i64 t220) ∧ w52.cell? ⟨gb210, 0, none⟩ = some (.int .i64 a1_0) ∧ w52.cell? ⟨gb210, 1, none⟩ = some (.slice A1_1 l1_1.length c1_1) ∧ w52.cell? ⟨gb210, 2, none⟩ = some (.slice A1_2 l1_2.length c1_2) ∧ w52.cell? ⟨gb210, 3, none⟩ = some (.slice A1_3 l1_3.length c1_3) ∧ w52.cell? ⟨gb210, 4, none⟩ = some (.slice A1_4 l1_4.length c1_4) ∧ w52.cell? ⟨gb210, 5, none⟩ = some (.slice (some ad235) l1_5.length c1_5) ∧ w52.cell? ⟨gb209, 0, none⟩ = some (.string a0_0) ∧ w52.cell? ⟨gb209, 1, none⟩ = some (.string a0_1) ∧ w52.cell? ⟨gb209, 2, none⟩ = some (.int .i64 a0_2) ∧ w52.cell? ⟨gb209, 3, none⟩ = some (.int .i64 a0_3) ∧ w52.cell? ⟨gb209, 4, none⟩ = some (.int .i64 a0_4) ∧ w52.cell? ⟨gb209, 5, none⟩ = some (.int .i64 a0_5) ∧ w52.cell? ⟨gb209, 6, none⟩ = some (.int .i64 a0_6) ∧ w52.cell? (ad235.add (x46_3).toNat) = some (.int .u8 (rd l1_5 x46_3)) := hS_
              refine norm_ (a' := ?_) ?_ ?_
              rotate_left
              ·simp only [putAll, Act.put, List.setIfInBounds_toArray, List.set_cons_zero, List.set_cons_succ]
               rfl
              refine two_ (i := 2) (j := 19) (Ni := some 57) (Nj := some 74) #[true, true, true, false, true, true, true, false, true, true, true, true, true, true, true, true, true, true, true, false, false, false, false, false] #[true, true, false, false, true, true, true, false, true, true, true, true, true, true, true, true, true, true, true, true, false, false, false, false] rfl rfl rfl rfl (two_of HT_.out (by kernel_rfl)) (by decide) (by decide) (fun K hK => ?_) (fun K hK => ?_)
              ·skip
               refine Kd.R_lit_step k44 _ 44 ?hg (N := 57) ?hd (xs := ([(⟨(⟨t213, t214⟩ : S27), (⟨t215, t216⟩ : S27)⟩ : S44)] : List (S44))) (inner := [.int .i64 t213, .int .i64 t214, .int .i64 t215, .int .i64 t216]) (ok := fun _ => True) (okp := fun _ => True) ?hr ?hp (fun _ hk => hk) trivial (Below.refl _ _) (Nat.le_refl _) (by simp) ?_; (case hd => rfl); (case hg => rfl); (case hr => first | (go_simp; done) | (go_simp; rfl)); (case hp => exact (Reps.c4 (show Kd.M k44 _ _ _ (⟨(⟨t213, t214⟩ : S27), (⟨t215, t216⟩ : S27)⟩ : S44) [.int .i64 t213, .int .i64 t214, .int .i64 t215, .int .i64 t216] from (k44_mkM _ _ _ (⟨(⟨t213, t214⟩ : S27), (⟨t215, t216⟩ : S27)⟩ : S44) )) (Reps.none _ _)))
               intro v224 w53 ho54 hb hg_ hnew_
               clear hg_ hnew_
               (first | rw [← Ny223.out] at ho54 | (simp only [Int.reduceToNat] at ho54; rw [← Ny223.out] at ho54))
               have n0_ := Aside0.mk (Kd.R_elder' (zr HO_7.out) (Kd.R_base ho54) hb)
               have n1_ := Aside0.mk (Kd.R_elder' (zr HO_8.out) (Kd.R_base ho54) hb)
               have n2_ := Aside0.mk (Kd.R_below (zr HO_9.out) hb)
               have n3_ := Aside0.mk (Kd.R_elder' (zr HO231.out) (Kd.R_base ho54) hb)
               have n4_ := Aside0.mk (Kd.R_lower (Kd.R_newB (Kd.R_newB (Kd.R_new' (Kd.R_new' (Kd.R_new' ho54 (Kd.R_lt (zr HO_7.out))) (Kd.R_lt (zr HO_8.out))) (Kd.R_lt (zr HO231.out))) (g := gb221) (o := .cells #[.int .i64 t213, .int .i64 t214, .int .i64 t215, .int .i64 t216] 44 (0, 0)) (zk BK221.out)) (g := gb222) (o := .cells #[.int .i64 t217, .int .i64 t218, .int .i64 t219, .int .i64 t220] 44 (0, 0)) (zk BK222.out)) (below_size (by repeat (first | (with_reducible first | exact HB.out | apply below_alloc | apply pw_below_drewN | apply below_drew1 | refine below_set ?_ GE209.out | refine below_set ?_ GE210.out | refine below_set ?_ GE221.out | refine below_set ?_ GE222.out) | exact HB.out))))
               have n5_ := Aside0.mk (zb BK209.out hb)
               have n6_ := Aside0.mk (zb BK210.out hb)
               have n7_ := Aside0.mk (zb BK221.out hb)
               have n8_ := Aside0.mk (zb BK222.out hb)
               have n9_ := Aside0.mk (below_step (by repeat (first | (with_reducible first | exact HB.out | apply below_alloc | apply pw_below_drewN | apply below_drew1 | refine below_set ?_ GE209.out | refine below_set ?_ GE210.out | refine below_set ?_ GE221.out | refine below_set ?_ GE222.out) | exact HB.out)) hb)
               clear HO_7
               clear HO_8
               clear HO_9
               clear HO231
               clear BK209
               clear BK210
               clear BK221
               clear BK222
               clear HB
               have HO_7 := n0_
               have HO_8 := n1_
               have HO_9 := n2_
               have HO231 := n3_
               have HO225 := n4_
               have BK209 := n5_
               have BK210 := n6_
               have BK221 := n7_
               have BK222 := n8_
               have HB := n9_
               clear n0_ n1_ n2_ n3_ n4_ n5_ n6_ n7_ n8_ n9_
               clear hb ho54
               refine hK.out _ _ ⟨(blk_cell BK221.out 0).trans rfl, (blk_cell BK221.out 1).trans rfl, (blk_cell BK221.out 2).trans rfl, (blk_cell BK221.out 3).trans rfl, (blk_cell BK222.out 0).trans rfl, (blk_cell BK222.out 1).trans rfl, (blk_cell BK222.out 2).trans rfl, (blk_cell BK222.out 3).trans rfl, (blk_cell BK210.out 0).trans rfl, (blk_cell BK210.out 1).trans rfl, (blk_cell BK210.out 2).trans rfl, (blk_cell BK210.out 3).trans rfl, (blk_cell BK210.out 4).trans rfl, (blk_cell BK210.out 5).trans rfl, (blk_cell BK209.out 0).trans rfl, (blk_cell BK209.out 1).trans rfl, (blk_cell BK209.out 2).trans rfl, (blk_cell BK209.out 3).trans rfl, (blk_cell BK209.out 4).trans rfl, (blk_cell BK209.out 5).trans rfl, (blk_cell BK209.out 6).trans rfl, ((HB.out.cell (World.block_lt_of_cell? w _ hw235_0)).trans hw235_0)⟩ (fun hHeld => ?_)
               clear hK K
               refine norm_ (a' := ?_) ?_ ?_
               rotate_left
               ·show Act.put _ (some 57) _ = _
                simp only [Act.put, List.setIfInBounds_toArray, List.set_cons_zero, List.set_cons_succ, i64_w, i32_w]
                rfl
               exact norm_ (by first | (simp only [putAll, Act.put, List.setIfInBounds_toArray, List.set_cons_zero, List.set_cons_succ]; done) | (simp only [putAll, Act.put, List.setIfInBounds_toArray, List.set_cons_zero, List.set_cons_succ]; rfl)) (hJ2_6 (v224, v230) _ ⟨hHeld, (by (with_reducible repeat (first | apply Kd.R_alloc | apply Kd.R_drewN | apply Kd.R_drew)); exact Kd.R_mono HO225.out (fun _ hk => ⟨hk.1.1.2, ⟨hk.1.1.1.1.2, ⟨hk.1.1.1.2, ⟨hk.1.2, hk.2⟩⟩⟩⟩)), (by (with_reducible repeat (first | apply Kd.R_alloc | apply Kd.R_drewN | apply Kd.R_drew)); exact Kd.R_mono HO231.out (fun _ hk => ⟨hk.2, ⟨hk.1.1, ⟨hk.1.2.1, ⟨hk.1.2.2.1, hk.1.2.2.2⟩⟩⟩⟩)), (by (with_reducible repeat (first | apply Kd.R_alloc | apply Kd.R_drewN | apply Kd.R_drew)); exact Kd.R_mono HO_7.out (fun _ hk => ⟨hk.2, ⟨hk.1.1, ⟨hk.1.2.1, ⟨hk.1.2.2.1, hk.1.2.2.2⟩⟩⟩⟩)), (by (with_reducible repeat (first | apply Kd.R_alloc | apply Kd.R_drewN | apply Kd.R_drew)); exact Kd.R_mono HO_8.out (fun _ hk => ⟨hk.2, ⟨hk.1.1, ⟨hk.1.2.1, ⟨hk.1.2.2.1, hk.1.2.2.2⟩⟩⟩⟩)), (zr HO_9.out), (zk BK209.out), (zk BK210.out), (zk BK221.out), (zk BK222.out), (by repeat (first | (with_reducible first | exact HB.out | apply below_alloc | apply pw_below_drewN | apply below_drew1 | refine below_set ?_ GE209.out | refine below_set ?_ GE210.out | refine below_set ?_ GE221.out | refine below_set ?_ GE222.out) | exact HB.out))⟩)
              ·skip
               refine Kd.R_lit_step (Kd.int .i64) _ 3 ?hg (N := 74) ?hd (xs := ([Int.tmod (wrap64 (rd l1_5 x46_3)) (wrap64 (a0_6 + 1))] : List Int)) (inner := [.int .i64 (Int.tmod (wrap64 (rd l1_5 x46_3)) (wrap64 (a0_6 + 1)))]) (ok := fun _ => True) (okp := fun _ => True) ?hr ?hp (fun _ hk => hk) trivial (Below.refl _ _) (Nat.le_refl _) (by simp) ?_; (case hd => rfl); (case hg => rfl); (case hr => first | (go_simp; done) | (go_simp; rfl)); (case hp => exact (Reps.one (show Kd.M (Kd.int .i64) _ _ _ (Int.tmod (wrap64 (rd l1_5 x46_3)) (wrap64 (a0_6 + 1))) [.int .i64 (Int.tmod (wrap64 (rd l1_5 x46_3)) (wrap64 (a0_6 + 1)))] from rfl) (Reps.none _ _)))
               intro v237 w53 ho54 hb hg_ hnew_
               clear hg_ hnew_
               (first | rw [← Ny236.out] at ho54 | (simp only [Int.reduceToNat] at ho54; rw [← Ny236.out] at ho54))
               have n0_ := Aside0.mk (Kd.R_below (zr HO_7.out) hb)
               have n1_ := Aside0.mk (Kd.R_below (zr HO_8.out) hb)
               have n2_ := Aside0.mk (Kd.R_elder' (zr HO_9.out) (Kd.R_base ho54) hb)
               have n3_ := Aside0.mk (Kd.R_below (zr HO231.out) hb)
               have n4_ := Aside0.mk (Kd.R_lower (Kd.R_new' ho54 (Kd.R_lt (zr HO_9.out))) (below_size (by repeat (first | (with_reducible first | exact HB.out | apply below_alloc | apply pw_below_drewN | apply below_drew1 | refine below_set ?_ GE209.out | refine below_set ?_ GE210.out | refine below_set ?_ GE221.out | refine below_set ?_ GE222.out) | exact HB.out))))
               have n5_ := Aside0.mk (zb BK209.out hb)
               have n6_ := Aside0.mk (zb BK210.out hb)
               have n7_ := Aside0.mk (zb BK221.out hb)
               have n8_ := Aside0.mk (zb BK222.out hb)
               have n9_ := Aside0.mk (below_step (by repeat (first | (with_reducible first | exact HB.out | apply below_alloc | apply pw_below_drewN | apply below_drew1 | refine below_set ?_ GE209.out | refine below_set ?_ GE210.out | refine below_set ?_ GE221.out | refine below_set ?_ GE222.out) | exact HB.out)) hb)
               clear HO_7
               clear HO_8
               clear HO_9
               clear HO231
               clear BK209
               clear BK210
               clear BK221
               clear BK222
               clear HB
               have HO_7 := n0_
               have HO_8 := n1_
               have HO_9 := n2_
               have HO231 := n3_
               have HO238 := n4_
               have BK209 := n5_
               have BK210 := n6_
               have BK221 := n7_
               have BK222 := n8_
               have HB := n9_
               clear n0_ n1_ n2_ n3_ n4_ n5_ n6_ n7_ n8_ n9_
               clear hb ho54
               refine hK.out _ _ ⟨(blk_cell BK221.out 0).trans rfl, (blk_cell BK221.out 1).trans rfl, (blk_cell BK221.out 2).trans rfl, (blk_cell BK221.out 3).trans rfl, (blk_cell BK222.out 0).trans rfl, (blk_cell BK222.out 1).trans rfl, (blk_cell BK222.out 2).trans rfl, (blk_cell BK222.out 3).trans rfl, (blk_cell BK210.out 0).trans rfl, (blk_cell BK210.out 1).trans rfl, (blk_cell BK210.out 2).trans rfl, (blk_cell BK210.out 3).trans rfl, (blk_cell BK210.out 4).trans rfl, (blk_cell BK210.out 5).trans rfl, (blk_cell BK209.out 0).trans rfl, (blk_cell BK209.out 1).trans rfl, (blk_cell BK209.out 2).trans rfl, (blk_cell BK209.out 3).trans rfl, (blk_cell BK209.out 4).trans rfl, (blk_cell BK209.out 5).trans rfl, (blk_cell BK209.out 6).trans rfl, ((HB.out.cell (World.block_lt_of_cell? w _ hw235_0)).trans hw235_0)⟩ (fun hHeld => ?_)
               clear hK K
               refine norm_ (a' := ?_) ?_ ?_
               rotate_left
               ·show Act.put _ (some 74) _ = _
                simp only [Act.put, List.setIfInBounds_toArray, List.set_cons_zero, List.set_cons_succ, i64_w, i32_w]
                rfl
               exact norm_ (by first | (simp only [putAll, Act.put, List.setIfInBounds_toArray, List.set_cons_zero, List.set_cons_succ]; done) | (simp only [putAll, Act.put, List.setIfInBounds_toArray, List.set_cons_zero, List.set_cons_succ]; rfl)) (hJ6_19 (v230, v237) _ ⟨hHeld, (zr HO231.out), (by (with_reducible repeat (first | apply Kd.R_alloc | apply Kd.R_drewN | apply Kd.R_drew)); exact Kd.R_mono HO238.out (fun _ hk => hk.2)), (zr HO_7.out), (zr HO_8.out), (by (with_reducible repeat (first | apply Kd.R_alloc | apply Kd.R_drewN | apply Kd.R_drew)); exact Kd.R_mono HO_9.out (fun _ hk => hk.2)), (zk BK209.out), (zk BK210.out), (zk BK221.out), (zk BK222.out), (by repeat (first | (with_reducible first | exact HB.out | apply below_alloc | apply pw_below_drewN | apply below_drew1 | refine below_set ?_ GE209.out | refine below_set ?_ GE210.out | refine below_set ?_ GE221.out | refine below_set ?_ GE222.out) | exact HB.out))⟩)
            ·skip
             rintro v224 w52 ⟨hS_, h0_, h1_, h2_, h3_, h4_, h5_, h6_, h7_, h8_⟩
             have n0_ : Aside0 (Kd.R k44 44 w52 w.heap.size (fun k_ => some k_ ≠ (.slice Ao45 x7_3.length co45 : Value).ownBlock ∧ some k_ ≠ (.slice Ao46 x8_3.length co46 : Value).ownBlock ∧ k_ ≠ gb221 ∧ k_ ≠ gb222) v224 y223) := ⟨h0_⟩
             have n1_ : Aside0 (Kd.R k44 44 w52 w.heap.size (fun k_ => some k_ ≠ (v224 : Value).ownBlock ∧ some k_ ≠ (.slice Ao46 x8_3.length co46 : Value).ownBlock ∧ k_ ≠ gb221 ∧ k_ ≠ gb222) (.slice Ao45 x7_3.length co45) x7_3) := ⟨h1_⟩
             have n2_ : Aside0 (Kd.R k44 44 w52 w.heap.size (fun k_ => some k_ ≠ (v224 : Value).ownBlock ∧ some k_ ≠ (.slice Ao45 x7_3.length co45 : Value).ownBlock ∧ k_ ≠ gb221 ∧ k_ ≠ gb222) (.slice Ao46 x8_3.length co46) x8_3) := ⟨h2_⟩
             have n3_ : Aside0 (Kd.R (Kd.int .i64) 3 w52 w.heap.size (fun _ => True) (.slice Ao47 x9_3.length co47) x9_3) := ⟨h3_⟩
             have n4_ : Aside0 (w52.heap[gb209]? = some (.cells #[.string a0_0, .string a0_1, .int .i64 a0_2, .int .i64 a0_3, .int .i64 a0_4, .int .i64 a0_5, .int .i64 a0_6] 25 (0, 0))) := ⟨h4_⟩
             have n5_ : Aside0 (w52.heap[gb210]? = some (.cells #[.int .i64 a1_0, .slice A1_1 l1_1.length c1_1, .slice A1_2 l1_2.length c1_2, .slice A1_3 l1_3.length c1_3, .slice A1_4 l1_4.length c1_4, .slice (some ad235) l1_5.length c1_5] 71 (0, 0))) := ⟨h5_⟩
             have n6_ : Aside0 (w52.heap[gb221]? = some (.cells #[.int .i64 t213, .int .i64 t214, .int .i64 t215, .int .i64 t216] 44 (0, 0))) := ⟨h6_⟩
             have n7_ : Aside0 (w52.heap[gb222]? = some (.cells #[.int .i64 t217, .int .i64 t218, .int .i64 t219, .int .i64 t220] 44 (0, 0))) := ⟨h7_⟩
             have n8_ : Aside0 (Below w.heap.size w w52) := ⟨h8_⟩
             clear HO_7
             clear HO_8
             clear HO_9
             clear BK209
             clear BK210
             clear BK221
             clear BK222
             clear HB
             clear h0_ h1_ h2_ h3_ h4_ h5_ h6_ h7_ h8_
             have HO225 := n0_
             have HO_7 := n1_
             have HO_8 := n2_
             have HO_9 := n3_
             have BK209 := n4_
             have BK210 := n5_
             have BK221 := n6_
             have BK222 := n7_
             have HB := n8_
             clear n0_ n1_ n2_ n3_ n4_ n5_ n6_ n7_ n8_
             have hHeld : w52.cell? ⟨gb221, 0, none⟩ = some (.int .i64 t213) ∧ w52.cell? ⟨gb221, 1, none⟩ = some (.int .i64 t214) ∧ w52.cell? ⟨gb221, 2, none⟩ = some (.int .i64 t215) ∧ w52.cell? ⟨gb221, 3, none⟩ = some (.int .i64 t216) ∧ w52.cell? ⟨gb222, 0, none⟩ = some (.int .i64 t217) ∧ w52.cell? ⟨gb222, 1, none⟩ = some (.int .i64 t218) ∧ w52.cell? ⟨gb222, 2, none⟩ = some (.int .i64 t219) ∧ w52.cell? ⟨gb222, 3, none⟩ = some (.int .i64 t220) ∧ w52.cell? ⟨gb210, 0, none⟩ = some (.int .i64 a1_0) ∧ w52.cell? ⟨gb210, 1, none⟩ = some (.slice A1_1 l1_1.length c1_1) ∧ w52.cell? ⟨gb210, 2, none⟩ = some (.slice A1_2 l1_2.length c1_2) ∧ w52.cell? ⟨gb210, 3, none⟩ = some (.slice A1_3 l1_3.length c1_3) ∧ w52.cell? ⟨gb210, 4, none⟩ = some (.slice A1_4 l1_4.length c1_4) ∧ w52.cell? ⟨gb210, 5, none⟩ = some (.slice (some ad235) l1_5.length c1_5) ∧ w52.cell? ⟨gb209, 0, none⟩ = some (.string a0_0) ∧ w52.cell? ⟨gb209, 1, none⟩ = some (.string a0_1) ∧ w52.cell? ⟨gb209, 2, none⟩ = some (.int .i64 a0_2) ∧ w52.cell? ⟨gb209, 3, none⟩ = some (.int .i64 a0_3) ∧ w52.cell? ⟨gb209, 4, none⟩ = some (.int .i64 a0_4) ∧ w52.cell? ⟨gb209, 5, none⟩ = some (.int .i64 a0_5) ∧ w52.cell? ⟨gb209, 6, none⟩ = some (.int .i64 a0_6) ∧ w52.cell? (ad235.add (x46_3).toNat) = some (.int .u8 (rd l1_5 x46_3)) := hS_
             obtain ⟨Ao54, co54, eo54⟩ := Kd.R_slice HO225.out
             (first | subst eo54 | (injection eo54 with f1_ f2_ f3_; have f4_ := f1_.symm; have f5_ := f3_.symm; clear f1_ f2_ f3_; subst f4_; subst f5_))
             refine norm_ (a' := ?_) ?_ ?_
             rotate_left
             ·simp only [putAll, Act.put, List.setIfInBounds_toArray, List.set_cons_zero, List.set_cons_succ]
              rfl
             refine three_ (i := 3) (j := 6) (k := 19) (Ni := some 58) (Nj := some 61) (Nk := some 74) #[true, true, true, true, true, true, false, false, true, true, true, true, true, true, true, true, true, true, true, false, false, false, false, false] #[true, true, true, false, true, true, true, false, true, true, true, true, true, true, true, true, true, true, true, false, false, false, false, false] #[true, true, true, false, true, true, false, false, true, true, true, true, true, true, true, true, true, true, true, true, false, false, false, false] rfl rfl rfl rfl rfl rfl (three_of HT_.out (by kernel_rfl)) (by decide) (by decide) (by decide) (fun K hK => ?_) (fun K hK => ?_) (fun K hK => ?_)
             ·skip
              refine Kd.R_append_rows_step k44 (w0 := w) w.heap.size (by rfl) (.tmp 55) (.tmp 57) 49 44 (.agg #[(.int .i64 0), (.int .i64 0), (.int .i64 0), (.int .i64 0)]) 32 rfl Try.underlying49 info44 rfl (by decide) (by omega) (.slice Ao45 x7_3.length co45) x7_3 y223 _ _ _ (fun k_ => some k_ ≠ (.slice Ao46 x8_3.length co46 : Value).ownBlock ∧ some k_ ≠ (.slice Ao54 y223.length co54 : Value).ownBlock ∧ k_ ≠ gb221 ∧ k_ ≠ gb222) (fun _ => False) rfl rfl ?aO ?aR (fun _ _ h => h) (fun _ h => h.elim) ?aF ?aB ?aS ?aL ?_
              (case aR => repeat (first | exact (Kd.R_reads' HO225.out).2.2 | (with_reducible refine Kd.C_alloc ?_ _) | (with_reducible refine Kd.C_drewN ?_ _) | (with_reducible refine Kd.C_drew ?_)))
              (case aB => exact (by repeat (first | (with_reducible first | exact HB.out | apply below_alloc | apply pw_below_drewN | apply below_drew1 | refine below_set ?_ GE209.out | refine below_set ?_ GE210.out | refine below_set ?_ GE221.out | refine below_set ?_ GE222.out) | exact HB.out)))
              (case aF => exact (fun k_ hk => ⟨Kd.fresh' (Kd.R_lt (zr HO_8.out)) k_ hk, Kd.fresh' (Kd.R_lt (zr HO225.out)) k_ hk, Kd.freshB (g := gb221) (o := .cells #[.int .i64 t213, .int .i64 t214, .int .i64 t215, .int .i64 t216] 44 (0, 0)) (zk BK221.out) k_ hk, Kd.freshB (g := gb222) (o := .cells #[.int .i64 t217, .int .i64 t218, .int .i64 t219, .int .i64 t220] 44 (0, 0)) (zk BK222.out) k_ hk⟩))
              (case aO => exact (by (with_reducible repeat (first | apply Kd.R_alloc | apply Kd.R_drewN | apply Kd.R_drew)); exact Kd.R_mono HO_7.out (fun _ hk => ⟨hk.2.1, ⟨hk.1, ⟨hk.2.2.1, hk.2.2.2⟩⟩⟩)))
              (case aS => exact (below_size (by repeat (first | (with_reducible first | exact HB.out | apply below_alloc | apply pw_below_drewN | apply below_drew1 | refine below_set ?_ GE209.out | refine below_set ?_ GE210.out | refine below_set ?_ GE221.out | refine below_set ?_ GE222.out) | exact HB.out))))
              (case aL => have := LMc27.out; omega)
              intro v227 w53 ho hb hg hat
              rw [← Ny226.out] at ho
              have n0_ := Aside0.mk (Kd.R_after (ok := (fun k_ => some k_ ≠ (.slice Ao54 y223.length co54 : Value).ownBlock ∧ k_ ≠ gb221 ∧ k_ ≠ gb222)) (by (with_reducible repeat (first | apply Kd.R_alloc | apply Kd.R_drewN | apply Kd.R_drew)); exact Kd.R_mono HO_8.out (fun _ hk => ⟨⟨hk.1, ⟨hk.2.2.1, hk.2.2.2⟩⟩, hk.2.1⟩)) hg hat)
              have n1_ := Aside0.mk (Kd.R_over' (zr HO_9.out) (Kd.R_typed (zr HO_7.out)) (by decide) hg)
              have n2_ := Aside0.mk (blk_grown (g := gb209) (o := .cells #[.string a0_0, .string a0_1, .int .i64 a0_2, .int .i64 a0_3, .int .i64 a0_4, .int .i64 a0_5, .int .i64 a0_6] 25 (0, 0)) (zk BK209.out) hg (Kd.R_ne HO_7.out BK209.out (by decide)))
              have n3_ := Aside0.mk (blk_grown (g := gb210) (o := .cells #[.int .i64 a1_0, .slice A1_1 l1_1.length c1_1, .slice A1_2 l1_2.length c1_2, .slice A1_3 l1_3.length c1_3, .slice A1_4 l1_4.length c1_4, .slice (some ad235) l1_5.length c1_5] 71 (0, 0)) (zk BK210.out) hg (Kd.R_ne HO_7.out BK210.out (by decide)))
              have n4_ := Aside0.mk (blk_grown (g := gb221) (o := .cells #[.int .i64 t213, .int .i64 t214, .int .i64 t215, .int .i64 t216] 44 (0, 0)) (zk BK221.out) hg (Kd.R_away HO_7.out (fun _ hk => hk.2.2.1)))
              have n5_ := Aside0.mk (blk_grown (g := gb222) (o := .cells #[.int .i64 t217, .int .i64 t218, .int .i64 t219, .int .i64 t220] 44 (0, 0)) (zk BK222.out) hg (Kd.R_away HO_7.out (fun _ hk => hk.2.2.2)))
              have n6_ := Aside0.mk (Kd.R_after (ok := (fun k_ => some k_ ≠ (.slice Ao46 x8_3.length co46 : Value).ownBlock ∧ k_ ≠ gb221 ∧ k_ ≠ gb222)) (by (with_reducible repeat (first | apply Kd.R_alloc | apply Kd.R_drewN | apply Kd.R_drew)); exact Kd.R_mono HO225.out (fun _ hk => ⟨⟨hk.2.1, ⟨hk.2.2.1, hk.2.2.2⟩⟩, hk.1⟩)) hg hat)
              have n7_ := Aside0.mk (hb)
              have n8_ := Aside0.mk (ho)
              clear HO_8
              clear HO_9
              clear BK209
              clear BK210
              clear BK221
              clear BK222
              clear HO225
              clear HB
              clear HO_7
              have HO_8 := n0_
              have HO_9 := n1_
              have BK209 := n2_
              have BK210 := n3_
              have BK221 := n4_
              have BK222 := n5_
              have HO225 := n6_
              have HB := n7_
              have HO228 := n8_
              clear n0_ n1_ n2_ n3_ n4_ n5_ n6_ n7_ n8_
              clear ho hb hg hat
              refine hK.out _ _ ⟨(blk_cell BK221.out 0).trans rfl, (blk_cell BK221.out 1).trans rfl, (blk_cell BK221.out 2).trans rfl, (blk_cell BK221.out 3).trans rfl, (blk_cell BK222.out 0).trans rfl, (blk_cell BK222.out 1).trans rfl, (blk_cell BK222.out 2).trans rfl, (blk_cell BK222.out 3).trans rfl, (blk_cell BK210.out 0).trans rfl, (blk_cell BK210.out 1).trans rfl, (blk_cell BK210.out 2).trans rfl, (blk_cell BK210.out 3).trans rfl, (blk_cell BK210.out 4).trans rfl, (blk_cell BK210.out 5).trans rfl, (blk_cell BK209.out 0).trans rfl, (blk_cell BK209.out 1).trans rfl, (blk_cell BK209.out 2).trans rfl, (blk_cell BK209.out 3).trans rfl, (blk_cell BK209.out 4).trans rfl, (blk_cell BK209.out 5).trans rfl, (blk_cell BK209.out 6).trans rfl, ((HB.out.cell (World.block_lt_of_cell? w _ hw235_0)).trans hw235_0)⟩ (fun hHeld => ?_)
              clear hK K
              refine norm_ (a' := ?_) ?_ ?_
              rotate_left
              ·show Act.put _ (some 58) _ = _
               simp only [Act.put, List.setIfInBounds_toArray, List.set_cons_zero, List.set_cons_succ, i64_w, i32_w]
               rfl
              exact norm_ (by first | (simp only [putAll, Act.put, List.setIfInBounds_toArray, List.set_cons_zero, List.set_cons_succ]; done) | (simp only [putAll, Act.put, List.setIfInBounds_toArray, List.set_cons_zero, List.set_cons_succ]; rfl)) (hJ2_3 (.slice Ao54 y223.length co54, v227) _ ⟨hHeld, (by (with_reducible repeat (first | apply Kd.R_alloc | apply Kd.R_drewN | apply Kd.R_drew)); exact Kd.R_mono HO225.out (fun _ hk => ⟨hk.2, ⟨hk.1.1, ⟨hk.1.2.1, hk.1.2.2⟩⟩⟩)), (by (with_reducible repeat (first | apply Kd.R_alloc | apply Kd.R_drewN | apply Kd.R_drew)); exact Kd.R_mono HO228.out (fun _ hk => ⟨hk.2.1, ⟨hk.1, ⟨hk.2.2.1, hk.2.2.2⟩⟩⟩)), (by (with_reducible repeat (first | apply Kd.R_alloc | apply Kd.R_drewN | apply Kd.R_drew)); exact Kd.R_mono HO_8.out (fun _ hk => ⟨hk.1.1, ⟨hk.2, ⟨hk.1.2.1, hk.1.2.2⟩⟩⟩)), (zr HO_9.out), (zk BK209.out), (zk BK210.out), (zk BK221.out), (zk BK222.out), (by repeat (first | (with_reducible first | exact HB.out | apply below_alloc | apply pw_below_drewN | apply below_drew1 | refine below_set ?_ GE209.out | refine below_set ?_ GE210.out | refine below_set ?_ GE221.out | refine below_set ?_ GE222.out) | exact HB.out))⟩)
             ·skip
              refine Kd.R_lit_step k44 _ 44 ?hg (N := 61) ?hd (xs := ([(⟨(⟨t217, t218⟩ : S27), (⟨t219, t220⟩ : S27)⟩ : S44)] : List (S44))) (inner := [.int .i64 t217, .int .i64 t218, .int .i64 t219, .int .i64 t220]) (ok := fun _ => True) (okp := fun _ => True) ?hr ?hp (fun _ hk => hk) trivial (Below.refl _ _) (Nat.le_refl _) (by simp) ?_; (case hd => rfl); (case hg => rfl); (case hr => first | (go_simp; done) | (go_simp; rfl)); (case hp => exact (Reps.c4 (show Kd.M k44 _ _ _ (⟨(⟨t217, t218⟩ : S27), (⟨t219, t220⟩ : S27)⟩ : S44) [.int .i64 t217, .int .i64 t218, .int .i64 t219, .int .i64 t220] from (k44_mkM _ _ _ (⟨(⟨t217, t218⟩ : S27), (⟨t219, t220⟩ : S27)⟩ : S44) )) (Reps.none _ _)))
              intro v230 w53 ho54 hb hg_ hnew_
              clear hg_ hnew_
              (first | rw [← Ny229.out] at ho54 | (simp only [Int.reduceToNat] at ho54; rw [← Ny229.out] at ho54))
              have n0_ := Aside0.mk (Kd.R_elder' (zr HO_7.out) (Kd.R_base ho54) hb)
              have n1_ := Aside0.mk (Kd.R_elder' (zr HO_8.out) (Kd.R_base ho54) hb)
              have n2_ := Aside0.mk (Kd.R_below (zr HO_9.out) hb)
              have n3_ := Aside0.mk (Kd.R_elder' (zr HO225.out) (Kd.R_base ho54) hb)
              have n4_ := Aside0.mk (Kd.R_lower (Kd.R_newB (Kd.R_newB (Kd.R_new' (Kd.R_new' (Kd.R_new' ho54 (Kd.R_lt (zr HO_7.out))) (Kd.R_lt (zr HO_8.out))) (Kd.R_lt (zr HO225.out))) (g := gb221) (o := .cells #[.int .i64 t213, .int .i64 t214, .int .i64 t215, .int .i64 t216] 44 (0, 0)) (zk BK221.out)) (g := gb222) (o := .cells #[.int .i64 t217, .int .i64 t218, .int .i64 t219, .int .i64 t220] 44 (0, 0)) (zk BK222.out)) (below_size (by repeat (first | (with_reducible first | exact HB.out | apply below_alloc | apply pw_below_drewN | apply below_drew1 | refine below_set ?_ GE209.out | refine below_set ?_ GE210.out | refine below_set ?_ GE221.out | refine below_set ?_ GE222.out) | exact HB.out))))
              have n5_ := Aside0.mk (zb BK209.out hb)
              have n6_ := Aside0.mk (zb BK210.out hb)
              have n7_ := Aside0.mk (zb BK221.out hb)
              have n8_ := Aside0.mk (zb BK222.out hb)
              have n9_ := Aside0.mk (below_step (by repeat (first | (with_reducible first | exact HB.out | apply below_alloc | apply pw_below_drewN | apply below_drew1 | refine below_set ?_ GE209.out | refine below_set ?_ GE210.out | refine below_set ?_ GE221.out | refine below_set ?_ GE222.out) | exact HB.out)) hb)
              clear HO_7
              clear HO_8
              clear HO_9
              clear HO225
              clear BK209
              clear BK210
              clear BK221
              clear BK222
              clear HB
              have HO_7 := n0_
              have HO_8 := n1_
              have HO_9 := n2_
              have HO225 := n3_
              have HO231 := n4_
              have BK209 := n5_
              have BK210 := n6_
              have BK221 := n7_
              have BK222 := n8_
              have HB := n9_
              clear n0_ n1_ n2_ n3_ n4_ n5_ n6_ n7_ n8_ n9_
              clear hb ho54
              refine hK.out _ _ ⟨(blk_cell BK221.out 0).trans rfl, (blk_cell BK221.out 1).trans rfl, (blk_cell BK221.out 2).trans rfl, (blk_cell BK221.out 3).trans rfl, (blk_cell BK222.out 0).trans rfl, (blk_cell BK222.out 1).trans rfl, (blk_cell BK222.out 2).trans rfl, (blk_cell BK222.out 3).trans rfl, (blk_cell BK210.out 0).trans rfl, (blk_cell BK210.out 1).trans rfl, (blk_cell BK210.out 2).trans rfl, (blk_cell BK210.out 3).trans rfl, (blk_cell BK210.out 4).trans rfl, (blk_cell BK210.out 5).trans rfl, (blk_cell BK209.out 0).trans rfl, (blk_cell BK209.out 1).trans rfl, (blk_cell BK209.out 2).trans rfl, (blk_cell BK209.out 3).trans rfl, (blk_cell BK209.out 4).trans rfl, (blk_cell BK209.out 5).trans rfl, (blk_cell BK209.out 6).trans rfl, ((HB.out.cell (World.block_lt_of_cell? w _ hw235_0)).trans hw235_0)⟩ (fun hHeld => ?_)
              clear hK K
              refine norm_ (a' := ?_) ?_ ?_
              rotate_left
              ·show Act.put _ (some 61) _ = _
               simp only [Act.put, List.setIfInBounds_toArray, List.set_cons_zero, List.set_cons_succ, i64_w, i32_w]
               rfl
              exact norm_ (by first | (simp only [putAll, Act.put, List.setIfInBounds_toArray, List.set_cons_zero, List.set_cons_succ]; done) | (simp only [putAll, Act.put, List.setIfInBounds_toArray, List.set_cons_zero, List.set_cons_succ]; rfl)) (hJ2_6 (Value.slice Ao54 y223.length co54, v230) _ ⟨hHeld, (by (with_reducible repeat (first | apply Kd.R_alloc | apply Kd.R_drewN | apply Kd.R_drew)); exact Kd.R_mono HO225.out (fun _ hk => ⟨hk.2, ⟨hk.1.1, ⟨hk.1.2.1, ⟨hk.1.2.2.1, hk.1.2.2.2⟩⟩⟩⟩)), (by (with_reducible repeat (first | apply Kd.R_alloc | apply Kd.R_drewN | apply Kd.R_drew)); exact Kd.R_mono HO231.out (fun _ hk => ⟨hk.1.1.2, ⟨hk.1.1.1.1.2, ⟨hk.1.1.1.2, ⟨hk.1.2, hk.2⟩⟩⟩⟩)), (by (with_reducible repeat (first | apply Kd.R_alloc | apply Kd.R_drewN | apply Kd.R_drew)); exact Kd.R_mono HO_7.out (fun _ hk => ⟨hk.1.1, ⟨hk.2, ⟨hk.1.2.1, ⟨hk.1.2.2.1, hk.1.2.2.2⟩⟩⟩⟩)), (by (with_reducible repeat (first | apply Kd.R_alloc | apply Kd.R_drewN | apply Kd.R_drew)); exact Kd.R_mono HO_8.out (fun _ hk => ⟨hk.1.1, ⟨hk.2, ⟨hk.1.2.1, ⟨hk.1.2.2.1, hk.1.2.2.2⟩⟩⟩⟩)), (zr HO_9.out), (zk BK209.out), (zk BK210.out), (zk BK221.out), (zk BK222.out), (by repeat (first | (with_reducible first | exact HB.out | apply below_alloc | apply pw_below_drewN | apply below_drew1 | refine below_set ?_ GE209.out | refine below_set ?_ GE210.out | refine below_set ?_ GE221.out | refine below_set ?_ GE222.out) | exact HB.out))⟩)
             ·skip
              refine Kd.R_lit_step (Kd.int .i64) _ 3 ?hg (N := 74) ?hd (xs := ([Int.tmod (wrap64 (rd l1_5 x46_3)) (wrap64 (a0_6 + 1))] : List Int)) (inner := [.int .i64 (Int.tmod (wrap64 (rd l1_5 x46_3)) (wrap64 (a0_6 + 1)))]) (ok := fun _ => True) (okp := fun _ => True) ?hr ?hp (fun _ hk => hk) trivial (Below.refl _ _) (Nat.le_refl _) (by simp) ?_; (case hd => rfl); (case hg => rfl); (case hr => first | (go_simp; done) | (go_simp; rfl)); (case hp => exact (Reps.one (show Kd.M (Kd.int .i64) _ _ _ (Int.tmod (wrap64 (rd l1_5 x46_3)) (wrap64 (a0_6 + 1))) [.int .i64 (Int.tmod (wrap64 (rd l1_5 x46_3)) (wrap64 (a0_6 + 1)))] from rfl) (Reps.none _ _)))
              intro v237 w53 ho54 hb hg_ hnew_
              clear hg_ hnew_
              (first | rw [← Ny236.out] at ho54 | (simp only [Int.reduceToNat] at ho54; rw [← Ny236.out] at ho54))
              have n0_ := Aside0.mk (Kd.R_below (zr HO_7.out) hb)
              have n1_ := Aside0.mk (Kd.R_below (zr HO_8.out) hb)
              have n2_ := Aside0.mk (Kd.R_elder' (zr HO_9.out) (Kd.R_base ho54) hb)
              have n3_ := Aside0.mk (Kd.R_below (zr HO225.out) hb)
              have n4_ := Aside0.mk (Kd.R_lower (Kd.R_new' ho54 (Kd.R_lt (zr HO_9.out))) (below_size (by repeat (first | (with_reducible first | exact HB.out | apply below_alloc | apply pw_below_drewN | apply below_drew1 | refine below_set ?_ GE209.out | refine below_set ?_ GE210.out | refine below_set ?_ GE221.out | refine below_set ?_ GE222.out) | exact HB.out))))
              have n5_ := Aside0.mk (zb BK209.out hb)
              have n6_ := Aside0.mk (zb BK210.out hb)
              have n7_ := Aside0.mk (zb BK221.out hb)
              have n8_ := Aside0.mk (zb BK222.out hb)
              have n9_ := Aside0.mk (below_step (by repeat (first | (with_reducible first | exact HB.out | apply below_alloc | apply pw_below_drewN | apply below_drew1 | refine below_set ?_ GE209.out | refine below_set ?_ GE210.out | refine below_set ?_ GE221.out | refine below_set ?_ GE222.out) | exact HB.out)) hb)
              clear HO_7
              clear HO_8
              clear HO_9
              clear HO225
              clear BK209
              clear BK210
              clear BK221
              clear BK222
              clear HB
              have HO_7 := n0_
              have HO_8 := n1_
              have HO_9 := n2_
              have HO225 := n3_
              have HO238 := n4_
              have BK209 := n5_
              have BK210 := n6_
              have BK221 := n7_
              have BK222 := n8_
              have HB := n9_
              clear n0_ n1_ n2_ n3_ n4_ n5_ n6_ n7_ n8_ n9_
              clear hb ho54
              refine hK.out _ _ ⟨(blk_cell BK221.out 0).trans rfl, (blk_cell BK221.out 1).trans rfl, (blk_cell BK221.out 2).trans rfl, (blk_cell BK221.out 3).trans rfl, (blk_cell BK222.out 0).trans rfl, (blk_cell BK222.out 1).trans rfl, (blk_cell BK222.out 2).trans rfl, (blk_cell BK222.out 3).trans rfl, (blk_cell BK210.out 0).trans rfl, (blk_cell BK210.out 1).trans rfl, (blk_cell BK210.out 2).trans rfl, (blk_cell BK210.out 3).trans rfl, (blk_cell BK210.out 4).trans rfl, (blk_cell BK210.out 5).trans rfl, (blk_cell BK209.out 0).trans rfl, (blk_cell BK209.out 1).trans rfl, (blk_cell BK209.out 2).trans rfl, (blk_cell BK209.out 3).trans rfl, (blk_cell BK209.out 4).trans rfl, (blk_cell BK209.out 5).trans rfl, (blk_cell BK209.out 6).trans rfl, ((HB.out.cell (World.block_lt_of_cell? w _ hw235_0)).trans hw235_0)⟩ (fun hHeld => ?_)
              clear hK K
              refine norm_ (a' := ?_) ?_ ?_
              rotate_left
              ·show Act.put _ (some 74) _ = _
               simp only [Act.put, List.setIfInBounds_toArray, List.set_cons_zero, List.set_cons_succ, i64_w, i32_w]
               rfl
              exact norm_ (by first | (simp only [putAll, Act.put, List.setIfInBounds_toArray, List.set_cons_zero, List.set_cons_succ]; done) | (simp only [putAll, Act.put, List.setIfInBounds_toArray, List.set_cons_zero, List.set_cons_succ]; rfl)) (hJ2_19 (Value.slice Ao54 y223.length co54, v237) _ ⟨hHeld, (zr HO225.out), (by (with_reducible repeat (first | apply Kd.R_alloc | apply Kd.R_drewN | apply Kd.R_drew)); exact Kd.R_mono HO238.out (fun _ hk => hk.2)), (zr HO_7.out), (zr HO_8.out), (by (with_reducible repeat (first | apply Kd.R_alloc | apply Kd.R_drewN | apply Kd.R_drew)); exact Kd.R_mono HO_9.out (fun _ hk => hk.2)), (zk BK209.out), (zk BK210.out), (zk BK221.out), (zk BK222.out), (by repeat (first | (with_reducible first | exact HB.out | apply below_alloc | apply pw_below_drewN | apply below_drew1 | refine below_set ?_ GE209.out | refine below_set ?_ GE210.out | refine below_set ?_ GE221.out | refine below_set ?_ GE222.out) | exact HB.out))⟩)
           ·skip
            rintro ⟨v230, v237⟩ w54 ⟨hS_, h0_, h1_, h2_, h3_, h4_, h5_, h6_, h7_, h8_, h9_⟩
            have n0_ : Aside0 (Kd.R k44 44 w54 w.heap.size (fun k_ => some k_ ≠ (.slice Ao45 x7_3.length co45 : Value).ownBlock ∧ some k_ ≠ (.slice Ao46 x8_3.length co46 : Value).ownBlock ∧ k_ ≠ gb221 ∧ k_ ≠ gb222) v230 y229) := ⟨h0_⟩
            have n1_ : Aside0 (Kd.R (Kd.int .i64) 3 w54 w.heap.size (fun k_ => some k_ ≠ (.slice Ao47 x9_3.length co47 : Value).ownBlock) v237 y236) := ⟨h1_⟩
            have n2_ : Aside0 (Kd.R k44 44 w54 w.heap.size (fun k_ => some k_ ≠ (v230 : Value).ownBlock ∧ some k_ ≠ (.slice Ao46 x8_3.length co46 : Value).ownBlock ∧ k_ ≠ gb221 ∧ k_ ≠ gb222) (.slice Ao45 x7_3.length co45) x7_3) := ⟨h2_⟩
            have n3_ : Aside0 (Kd.R k44 44 w54 w.heap.size (fun k_ => some k_ ≠ (v230 : Value).ownBlock ∧ some k_ ≠ (.slice Ao45 x7_3.length co45 : Value).ownBlock ∧ k_ ≠ gb221 ∧ k_ ≠ gb222) (.slice Ao46 x8_3.length co46) x8_3) := ⟨h3_⟩
            have n4_ : Aside0 (Kd.R (Kd.int .i64) 3 w54 w.heap.size (fun k_ => some k_ ≠ (v237 : Value).ownBlock) (.slice Ao47 x9_3.length co47) x9_3) := ⟨h4_⟩
            have n5_ : Aside0 (w54.heap[gb209]? = some (.cells #[.string a0_0, .string a0_1, .int .i64 a0_2, .int .i64 a0_3, .int .i64 a0_4, .int .i64 a0_5, .int .i64 a0_6] 25 (0, 0))) := ⟨h5_⟩
            have n6_ : Aside0 (w54.heap[gb210]? = some (.cells #[.int .i64 a1_0, .slice A1_1 l1_1.length c1_1, .slice A1_2 l1_2.length c1_2, .slice A1_3 l1_3.length c1_3, .slice A1_4 l1_4.length c1_4, .slice (some ad235) l1_5.length c1_5] 71 (0, 0))) := ⟨h6_⟩
            have n7_ : Aside0 (w54.heap[gb221]? = some (.cells #[.int .i64 t213, .int .i64 t214, .int .i64 t215, .int .i64 t216] 44 (0, 0))) := ⟨h7_⟩
            have n8_ : Aside0 (w54.heap[gb222]? = some (.cells #[.int .i64 t217, .int .i64 t218, .int .i64 t219, .int .i64 t220] 44 (0, 0))) := ⟨h8_⟩
            have n9_ : Aside0 (Below w.heap.size w w54) := ⟨h9_⟩
            clear HO_7
            clear HO_8
            clear HO_9
            clear BK209
            clear BK210
            clear BK221
            clear BK222
            clear HB
            clear h0_ h1_ h2_ h3_ h4_ h5_ h6_ h7_ h8_ h9_
            have HO231 := n0_
            have HO238 := n1_
            have HO_7 := n2_
            have HO_8 := n3_
            have HO_9 := n4_
            have BK209 := n5_
            have BK210 := n6_
            have BK221 := n7_
            have BK222 := n8_
            have HB := n9_
            clear n0_ n1_ n2_ n3_ n4_ n5_ n6_ n7_ n8_ n9_
            have hHeld : w54.cell? ⟨gb221, 0, none⟩ = some (.int .i64 t213) ∧ w54.cell? ⟨gb221, 1, none⟩ = some (.int .i64 t214) ∧ w54.cell? ⟨gb221, 2, none⟩ = some (.int .i64 t215) ∧ w54.cell? ⟨gb221, 3, none⟩ = some (.int .i64 t216) ∧ w54.cell? ⟨gb222, 0, none⟩ = some (.int .i64 t217) ∧ w54.cell? ⟨gb222, 1, none⟩ = some (.int .i64 t218) ∧ w54.cell? ⟨gb222, 2, none⟩ = some (.int .i64 t219) ∧ w54.cell? ⟨gb222, 3, none⟩ = some (.int .i64 t220) ∧ w54.cell? ⟨gb210, 0, none⟩ = some (.int .i64 a1_0) ∧ w54.cell? ⟨gb210, 1, none⟩ = some (.slice A1_1 l1_1.length c1_1) ∧ w54.cell? ⟨gb210, 2, none⟩ = some (.slice A1_2 l1_2.length c1_2) ∧ w54.cell? ⟨gb210, 3, none⟩ = some (.slice A1_3 l1_3.length c1_3) ∧ w54.cell? ⟨gb210, 4, none⟩ = some (.slice A1_4 l1_4.length c1_4) ∧ w54.cell? ⟨gb210, 5, none⟩ = some (.slice (some ad235) l1_5.length c1_5) ∧ w54.cell? ⟨gb209, 0, none⟩ = some (.string a0_0) ∧ w54.cell? ⟨gb209, 1, none⟩ = some (.string a0_1) ∧ w54.cell? ⟨gb209, 2, none⟩ = some (.int .i64 a0_2) ∧ w54.cell? ⟨gb209, 3, none⟩ = some (.int .i64 a0_3) ∧ w54.cell? ⟨gb209, 4, none⟩ = some (.int .i64 a0_4) ∧ w54.cell? ⟨gb209, 5, none⟩ = some (.int .i64 a0_5) ∧ w54.cell? ⟨gb209, 6, none⟩ = some (.int .i64 a0_6) ∧ w54.cell? (ad235.add (x46_3).toNat) = some (.int .u8 (rd l1_5 x46_3)) := hS_
            refine norm_ (a' := ?_) ?_ ?_
            rotate_left
            ·simp only [putAll, Act.put, List.setIfInBounds_toArray, List.set_cons_zero, List.set_cons_succ]
             rfl
            refine one_ (i := 2) (N := some 57) #[true, true, true, false, true, true, true, false, true, true, true, true, true, true, true, true, true, true, true, true, false, false, false, false] rfl rfl (one_of HT_.out (by kernel_rfl)) (by decide) (fun K hK => ?_)
            refine Kd.R_lit_step k44 _ 44 ?hg (N := 57) ?hd (xs := ([(⟨(⟨t213, t214⟩ : S27), (⟨t215, t216⟩ : S27)⟩ : S44)] : List (S44))) (inner := [.int .i64 t213, .int .i64 t214, .int .i64 t215, .int .i64 t216]) (ok := fun _ => True) (okp := fun _ => True) ?hr ?hp (fun _ hk => hk) trivial (Below.refl _ _) (Nat.le_refl _) (by simp) ?_; (case hd => rfl); (case hg => rfl); (case hr => first | (go_simp; done) | (go_simp; rfl)); (case hp => exact (Reps.c4 (show Kd.M k44 _ _ _ (⟨(⟨t213, t214⟩ : S27), (⟨t215, t216⟩ : S27)⟩ : S44) [.int .i64 t213, .int .i64 t214, .int .i64 t215, .int .i64 t216] from (k44_mkM _ _ _ (⟨(⟨t213, t214⟩ : S27), (⟨t215, t216⟩ : S27)⟩ : S44) )) (Reps.none _ _)))
            intro v224 w55 ho56 hb hg_ hnew_
            clear hg_ hnew_
            (first | rw [← Ny223.out] at ho56 | (simp only [Int.reduceToNat] at ho56; rw [← Ny223.out] at ho56))
            have n0_ := Aside0.mk (Kd.R_elder' (zr HO_7.out) (Kd.R_base ho56) hb)
            have n1_ := Aside0.mk (Kd.R_elder' (zr HO_8.out) (Kd.R_base ho56) hb)
            have n2_ := Aside0.mk (Kd.R_below (zr HO_9.out) hb)
            have n3_ := Aside0.mk (Kd.R_elder' (zr HO231.out) (Kd.R_base ho56) hb)
            have n4_ := Aside0.mk (Kd.R_below (zr HO238.out) hb)
            have n5_ := Aside0.mk (Kd.R_lower (Kd.R_newB (Kd.R_newB (Kd.R_new' (Kd.R_new' (Kd.R_new' ho56 (Kd.R_lt (zr HO_7.out))) (Kd.R_lt (zr HO_8.out))) (Kd.R_lt (zr HO231.out))) (g := gb221) (o := .cells #[.int .i64 t213, .int .i64 t214, .int .i64 t215, .int .i64 t216] 44 (0, 0)) (zk BK221.out)) (g := gb222) (o := .cells #[.int .i64 t217, .int .i64 t218, .int .i64 t219, .int .i64 t220] 44 (0, 0)) (zk BK222.out)) (below_size (by repeat (first | (with_reducible first | exact HB.out | apply below_alloc | apply pw_below_drewN | apply below_drew1 | refine below_set ?_ GE209.out | refine below_set ?_ GE210.out | refine below_set ?_ GE221.out | refine below_set ?_ GE222.out) | exact HB.out))))
            have n6_ := Aside0.mk (zb BK209.out hb)
            have n7_ := Aside0.mk (zb BK210.out hb)
            have n8_ := Aside0.mk (zb BK221.out hb)
            have n9_ := Aside0.mk (zb BK222.out hb)
            have n10_ := Aside0.mk (below_step (by repeat (first | (with_reducible first | exact HB.out | apply below_alloc | apply pw_below_drewN | apply below_drew1 | refine below_set ?_ GE209.out | refine below_set ?_ GE210.out | refine below_set ?_ GE221.out | refine below_set ?_ GE222.out) | exact HB.out)) hb)
            clear HO_7
            clear HO_8
            clear HO_9
            clear HO231
            clear HO238
            clear BK209
            clear BK210
            clear BK221
            clear BK222
            clear HB
            have HO_7 := n0_
            have HO_8 := n1_
            have HO_9 := n2_
            have HO231 := n3_
            have HO238 := n4_
            have HO225 := n5_
            have BK209 := n6_
            have BK210 := n7_
            have BK221 := n8_
            have BK222 := n9_
            have HB := n10_
            clear n0_ n1_ n2_ n3_ n4_ n5_ n6_ n7_ n8_ n9_ n10_
            clear hb ho56
            refine hK.out _ _ ⟨(blk_cell BK221.out 0).trans rfl, (blk_cell BK221.out 1).trans rfl, (blk_cell BK221.out 2).trans rfl, (blk_cell BK221.out 3).trans rfl, (blk_cell BK222.out 0).trans rfl, (blk_cell BK222.out 1).trans rfl, (blk_cell BK222.out 2).trans rfl, (blk_cell BK222.out 3).trans rfl, (blk_cell BK210.out 0).trans rfl, (blk_cell BK210.out 1).trans rfl, (blk_cell BK210.out 2).trans rfl, (blk_cell BK210.out 3).trans rfl, (blk_cell BK210.out 4).trans rfl, (blk_cell BK210.out 5).trans rfl, (blk_cell BK209.out 0).trans rfl, (blk_cell BK209.out 1).trans rfl, (blk_cell BK209.out 2).trans rfl, (blk_cell BK209.out 3).trans rfl, (blk_cell BK209.out 4).trans rfl, (blk_cell BK209.out 5).trans rfl, (blk_cell BK209.out 6).trans rfl, ((HB.out.cell (World.block_lt_of_cell? w _ hw235_0)).trans hw235_0)⟩ (fun hHeld => ?_)
            clear hK K
            refine norm_ (a' := ?_) ?_ ?_
            rotate_left
            ·show Act.put _ (some 57) _ = _
             simp only [Act.put, List.setIfInBounds_toArray, List.set_cons_zero, List.set_cons_succ, i64_w, i32_w]
             rfl
            exact norm_ (by first | (simp only [putAll, Act.put, List.setIfInBounds_toArray, List.set_cons_zero, List.set_cons_succ]; done) | (simp only [putAll, Act.put, List.setIfInBounds_toArray, List.set_cons_zero, List.set_cons_succ]; rfl)) (hJ2_6_19 (v224, v230, v237) _ ⟨hHeld, (by (with_reducible repeat (first | apply Kd.R_alloc | apply Kd.R_drewN | apply Kd.R_drew)); exact Kd.R_mono HO225.out (fun _ hk => ⟨hk.1.1.2, ⟨hk.1.1.1.1.2, ⟨hk.1.1.1.2, ⟨hk.1.2, hk.2⟩⟩⟩⟩)), (by (with_reducible repeat (first | apply Kd.R_alloc | apply Kd.R_drewN | apply Kd.R_drew)); exact Kd.R_mono HO231.out (fun _ hk => ⟨hk.2, ⟨hk.1.1, ⟨hk.1.2.1, ⟨hk.1.2.2.1, hk.1.2.2.2⟩⟩⟩⟩)), (zr HO238.out), (by (with_reducible repeat (first | apply Kd.R_alloc | apply Kd.R_drewN | apply Kd.R_drew)); exact Kd.R_mono HO_7.out (fun _ hk => ⟨hk.2, ⟨hk.1.1, ⟨hk.1.2.1, ⟨hk.1.2.2.1, hk.1.2.2.2⟩⟩⟩⟩)), (by (with_reducible repeat (first | apply Kd.R_alloc | apply Kd.R_drewN | apply Kd.R_drew)); exact Kd.R_mono HO_8.out (fun _ hk => ⟨hk.2, ⟨hk.1.1, ⟨hk.1.2.1, ⟨hk.1.2.2.1, hk.1.2.2.2⟩⟩⟩⟩)), (zr HO_9.out), (zk BK209.out), (zk BK210.out), (zk BK221.out), (zk BK222.out), (by repeat (first | (with_reducible first | exact HB.out | apply below_alloc | apply pw_below_drewN | apply below_drew1 | refine below_set ?_ GE209.out | refine below_set ?_ GE210.out | refine below_set ?_ GE221.out | refine below_set ?_ GE222.out) | exact HB.out))⟩)
          ·skip
           rintro ⟨v224, v237⟩ w54 ⟨hS_, h0_, h1_, h2_, h3_, h4_, h5_, h6_, h7_, h8_, h9_⟩
           have n0_ : Aside0 (Kd.R k44 44 w54 w.heap.size (fun k_ => some k_ ≠ (.slice Ao45 x7_3.length co45 : Value).ownBlock ∧ some k_ ≠ (.slice Ao46 x8_3.length co46 : Value).ownBlock ∧ k_ ≠ gb221 ∧ k_ ≠ gb222) v224 y223) := ⟨h0_⟩
           have n1_ : Aside0 (Kd.R (Kd.int .i64) 3 w54 w.heap.size (fun k_ => some k_ ≠ (.slice Ao47 x9_3.length co47 : Value).ownBlock) v237 y236) := ⟨h1_⟩
           have n2_ : Aside0 (Kd.R k44 44 w54 w.heap.size (fun k_ => some k_ ≠ (v224 : Value).ownBlock ∧ some k_ ≠ (.slice Ao46 x8_3.length co46 : Value).ownBlock ∧ k_ ≠ gb221 ∧ k_ ≠ gb222) (.slice Ao45 x7_3.length co45) x7_3) := ⟨h2_⟩
           have n3_ : Aside0 (Kd.R k44 44 w54 w.heap.size (fun k_ => some k_ ≠ (v224 : Value).ownBlock ∧ some k_ ≠ (.slice Ao45 x7_3.length co45 : Value).ownBlock ∧ k_ ≠ gb221 ∧ k_ ≠ gb222) (.slice Ao46 x8_3.length co46) x8_3) := ⟨h3_⟩
           have n4_ : Aside0 (Kd.R (Kd.int .i64) 3 w54 w.heap.size (fun k_ => some k_ ≠ (v237 : Value).ownBlock) (.slice Ao47 x9_3.length co47) x9_3) := ⟨h4_⟩
           have n5_ : Aside0 (w54.heap[gb209]? = some (.cells #[.string a0_0, .string a0_1, .int .i64 a0_2, .int .i64 a0_3, .int .i64 a0_4, .int .i64 a0_5, .int .i64 a0_6] 25 (0, 0))) := ⟨h5_⟩
           have n6_ : Aside0 (w54.heap[gb210]? = some (.cells #[.int .i64 a1_0, .slice A1_1 l1_1.length c1_1, .slice A1_2 l1_2.length c1_2, .slice A1_3 l1_3.length c1_3, .slice A1_4 l1_4.length c1_4, .slice (some ad235) l1_5.length c1_5] 71 (0, 0))) := ⟨h6_⟩
           have n7_ : Aside0 (w54.heap[gb221]? = some (.cells #[.int .i64 t213, .int .i64 t214, .int .i64 t215, .int .i64 t216] 44 (0, 0))) := ⟨h7_⟩
           have n8_ : Aside0 (w54.heap[gb222]? = some (.cells #[.int .i64 t217, .int .i64 t218, .int .i64 t219, .int .i64 t220] 44 (0, 0))) := ⟨h8_⟩
           have n9_ : Aside0 (Below w.heap.size w w54) := ⟨h9_⟩
           clear HO_7
           clear HO_8
           clear HO_9
           clear BK209
           clear BK210
           clear BK221
           clear BK222
           clear HB
           clear h0_ h1_ h2_ h3_ h4_ h5_ h6_ h7_ h8_ h9_
           have HO225 := n0_
           have HO238 := n1_
           have HO_7 := n2_
           have HO_8 := n3_
           have HO_9 := n4_
           have BK209 := n5_
           have BK210 := n6_
           have BK221 := n7_
           have BK222 := n8_
           have HB := n9_
           clear n0_ n1_ n2_ n3_ n4_ n5_ n6_ n7_ n8_ n9_
           have hHeld : w54.cell? ⟨gb221, 0, none⟩ = some (.int .i64 t213) ∧ w54.cell? ⟨gb221, 1, none⟩ = some (.int .i64 t214) ∧ w54.cell? ⟨gb221, 2, none⟩ = some (.int .i64 t215) ∧ w54.cell? ⟨gb221, 3, none⟩ = some (.int .i64 t216) ∧ w54.cell? ⟨gb222, 0, none⟩ = some (.int .i64 t217) ∧ w54.cell? ⟨gb222, 1, none⟩ = some (.int .i64 t218) ∧ w54.cell? ⟨gb222, 2, none⟩ = some (.int .i64 t219) ∧ w54.cell? ⟨gb222, 3, none⟩ = some (.int .i64 t220) ∧ w54.cell? ⟨gb210, 0, none⟩ = some (.int .i64 a1_0) ∧ w54.cell? ⟨gb210, 1, none⟩ = some (.slice A1_1 l1_1.length c1_1) ∧ w54.cell? ⟨gb210, 2, none⟩ = some (.slice A1_2 l1_2.length c1_2) ∧ w54.cell? ⟨gb210, 3, none⟩ = some (.slice A1_3 l1_3.length c1_3) ∧ w54.cell? ⟨gb210, 4, none⟩ = some (.slice A1_4 l1_4.length c1_4) ∧ w54.cell? ⟨gb210, 5, none⟩ = some (.slice (some ad235) l1_5.length c1_5) ∧ w54.cell? ⟨gb209, 0, none⟩ = some (.string a0_0) ∧ w54.cell? ⟨gb209, 1, none⟩ = some (.string a0_1) ∧ w54.cell? ⟨gb209, 2, none⟩ = some (.int .i64 a0_2) ∧ w54.cell? ⟨gb209, 3, none⟩ = some (.int .i64 a0_3) ∧ w54.cell? ⟨gb209, 4, none⟩ = some (.int .i64 a0_4) ∧ w54.cell? ⟨gb209, 5, none⟩ = some (.int .i64 a0_5) ∧ w54.cell? ⟨gb209, 6, none⟩ = some (.int .i64 a0_6) ∧ w54.cell? (ad235.add (x46_3).toNat) = some (.int .u8 (rd l1_5 x46_3)) := hS_
           obtain ⟨Ao56, co56, eo56⟩ := Kd.R_slice HO225.out
           (first | subst eo56 | (injection eo56 with f1_ f2_ f3_; have f4_ := f1_.symm; have f5_ := f3_.symm; clear f1_ f2_ f3_; subst f4_; subst f5_))
           refine norm_ (a' := ?_) ?_ ?_
           rotate_left
           ·simp only [putAll, Act.put, List.setIfInBounds_toArray, List.set_cons_zero, List.set_cons_succ]
            rfl
           refine two_ (i := 3) (j := 6) (Ni := some 58) (Nj := some 61) #[true, true, true, true, true, true, false, false, true, true, true, true, true, true, true, true, true, true, true, true, false, false, false, false] #[true, true, true, false, true, true, true, false, true, true, true, true, true, true, true, true, true, true, true, true, false, false, false, false] rfl rfl rfl rfl (two_of HT_.out (by kernel_rfl)) (by decide) (by decide) (fun K hK => ?_) (fun K hK => ?_)
           ·skip
            refine Kd.R_append_rows_step k44 (w0 := w) w.heap.size (by rfl) (.tmp 55) (.tmp 57) 49 44 (.agg #[(.int .i64 0), (.int .i64 0), (.int .i64 0), (.int .i64 0)]) 32 rfl Try.underlying49 info44 rfl (by decide) (by omega) (.slice Ao45 x7_3.length co45) x7_3 y223 _ _ _ (fun k_ => some k_ ≠ (.slice Ao46 x8_3.length co46 : Value).ownBlock ∧ some k_ ≠ (.slice Ao56 y223.length co56 : Value).ownBlock ∧ k_ ≠ gb221 ∧ k_ ≠ gb222) (fun _ => False) rfl rfl ?aO ?aR (fun _ _ h => h) (fun _ h => h.elim) ?aF ?aB ?aS ?aL ?_
            (case aR => repeat (first | exact (Kd.R_reads' HO225.out).2.2 | (with_reducible refine Kd.C_alloc ?_ _) | (with_reducible refine Kd.C_drewN ?_ _) | (with_reducible refine Kd.C_drew ?_)))
            (case aB => exact (by repeat (first | (with_reducible first | exact HB.out | apply below_alloc | apply pw_below_drewN | apply below_drew1 | refine below_set ?_ GE209.out | refine below_set ?_ GE210.out | refine below_set ?_ GE221.out | refine below_set ?_ GE222.out) | exact HB.out)))
            (case aF => exact (fun k_ hk => ⟨Kd.fresh' (Kd.R_lt (zr HO_8.out)) k_ hk, Kd.fresh' (Kd.R_lt (zr HO225.out)) k_ hk, Kd.freshB (g := gb221) (o := .cells #[.int .i64 t213, .int .i64 t214, .int .i64 t215, .int .i64 t216] 44 (0, 0)) (zk BK221.out) k_ hk, Kd.freshB (g := gb222) (o := .cells #[.int .i64 t217, .int .i64 t218, .int .i64 t219, .int .i64 t220] 44 (0, 0)) (zk BK222.out) k_ hk⟩))
            (case aO => exact (by (with_reducible repeat (first | apply Kd.R_alloc | apply Kd.R_drewN | apply Kd.R_drew)); exact Kd.R_mono HO_7.out (fun _ hk => ⟨hk.2.1, ⟨hk.1, ⟨hk.2.2.1, hk.2.2.2⟩⟩⟩)))
            (case aS => exact (below_size (by repeat (first | (with_reducible first | exact HB.out | apply below_alloc | apply pw_below_drewN | apply below_drew1 | refine below_set ?_ GE209.out | refine below_set ?_ GE210.out | refine below_set ?_ GE221.out | refine below_set ?_ GE222.out) | exact HB.out))))
            (case aL => have := LMc27.out; omega)
            intro v227 w55 ho hb hg hat
            rw [← Ny226.out] at ho
            have n0_ := Aside0.mk (Kd.R_after (ok := (fun k_ => some k_ ≠ (.slice Ao56 y223.length co56 : Value).ownBlock ∧ k_ ≠ gb221 ∧ k_ ≠ gb222)) (by (with_reducible repeat (first | apply Kd.R_alloc | apply Kd.R_drewN | apply Kd.R_drew)); exact Kd.R_mono HO_8.out (fun _ hk => ⟨⟨hk.1, ⟨hk.2.2.1, hk.2.2.2⟩⟩, hk.2.1⟩)) hg hat)
            have n1_ := Aside0.mk (Kd.R_over' (zr HO_9.out) (Kd.R_typed (zr HO_7.out)) (by decide) hg)
            have n2_ := Aside0.mk (blk_grown (g := gb209) (o := .cells #[.string a0_0, .string a0_1, .int .i64 a0_2, .int .i64 a0_3, .int .i64 a0_4, .int .i64 a0_5, .int .i64 a0_6] 25 (0, 0)) (zk BK209.out) hg (Kd.R_ne HO_7.out BK209.out (by decide)))
            have n3_ := Aside0.mk (blk_grown (g := gb210) (o := .cells #[.int .i64 a1_0, .slice A1_1 l1_1.length c1_1, .slice A1_2 l1_2.length c1_2, .slice A1_3 l1_3.length c1_3, .slice A1_4 l1_4.length c1_4, .slice (some ad235) l1_5.length c1_5] 71 (0, 0)) (zk BK210.out) hg (Kd.R_ne HO_7.out BK210.out (by decide)))
            have n4_ := Aside0.mk (blk_grown (g := gb221) (o := .cells #[.int .i64 t213, .int .i64 t214, .int .i64 t215, .int .i64 t216] 44 (0, 0)) (zk BK221.out) hg (Kd.R_away HO_7.out (fun _ hk => hk.2.2.1)))
            have n5_ := Aside0.mk (blk_grown (g := gb222) (o := .cells #[.int .i64 t217, .int .i64 t218, .int .i64 t219, .int .i64 t220] 44 (0, 0)) (zk BK222.out) hg (Kd.R_away HO_7.out (fun _ hk => hk.2.2.2)))
            have n6_ := Aside0.mk (Kd.R_after (ok := (fun k_ => some k_ ≠ (.slice Ao46 x8_3.length co46 : Value).ownBlock ∧ k_ ≠ gb221 ∧ k_ ≠ gb222)) (by (with_reducible repeat (first | apply Kd.R_alloc | apply Kd.R_drewN | apply Kd.R_drew)); exact Kd.R_mono HO225.out (fun _ hk => ⟨⟨hk.2.1, ⟨hk.2.2.1, hk.2.2.2⟩⟩, hk.1⟩)) hg hat)
            have n7_ := Aside0.mk (Kd.R_over' (zr HO238.out) (Kd.R_typed (zr HO_7.out)) (by decide) hg)
            have n8_ := Aside0.mk (hb)
            have n9_ := Aside0.mk (ho)
            clear HO_8
            clear HO_9
            clear BK209
            clear BK210
            clear BK221
            clear BK222
            clear HO225
            clear HO238
            clear HB
            clear HO_7
            have HO_8 := n0_
            have HO_9 := n1_
            have BK209 := n2_
            have BK210 := n3_
            have BK221 := n4_
            have BK222 := n5_
            have HO225 := n6_
            have HO238 := n7_
            have HB := n8_
            have HO228 := n9_
            clear n0_ n1_ n2_ n3_ n4_ n5_ n6_ n7_ n8_ n9_
            clear ho hb hg hat
            refine hK.out _ _ ⟨(blk_cell BK221.out 0).trans rfl, (blk_cell BK221.out 1).trans rfl, (blk_cell BK221.out 2).trans rfl, (blk_cell BK221.out 3).trans rfl, (blk_cell BK222.out 0).trans rfl, (blk_cell BK222.out 1).trans rfl, (blk_cell BK222.out 2).trans rfl, (blk_cell BK222.out 3).trans rfl, (blk_cell BK210.out 0).trans rfl, (blk_cell BK210.out 1).trans rfl, (blk_cell BK210.out 2).trans rfl, (blk_cell BK210.out 3).trans rfl, (blk_cell BK210.out 4).trans rfl, (blk_cell BK210.out 5).trans rfl, (blk_cell BK209.out 0).trans rfl, (blk_cell BK209.out 1).trans rfl, (blk_cell BK209.out 2).trans rfl, (blk_cell BK209.out 3).trans rfl, (blk_cell BK209.out 4).trans rfl, (blk_cell BK209.out 5).trans rfl, (blk_cell BK209.out 6).trans rfl, ((HB.out.cell (World.block_lt_of_cell? w _ hw235_0)).trans hw235_0)⟩ (fun hHeld => ?_)
            clear hK K
            refine norm_ (a' := ?_) ?_ ?_
            rotate_left
            ·show Act.put _ (some 58) _ = _
             simp only [Act.put, List.setIfInBounds_toArray, List.set_cons_zero, List.set_cons_succ, i64_w, i32_w]
             rfl
            exact norm_ (by first | (simp only [putAll, Act.put, List.setIfInBounds_toArray, List.set_cons_zero, List.set_cons_succ]; done) | (simp only [putAll, Act.put, List.setIfInBounds_toArray, List.set_cons_zero, List.set_cons_succ]; rfl)) (hJ2_3_19 (.slice Ao56 y223.length co56, v227, v237) _ ⟨hHeld, (by (with_reducible repeat (first | apply Kd.R_alloc | apply Kd.R_drewN | apply Kd.R_drew)); exact Kd.R_mono HO225.out (fun _ hk => ⟨hk.2, ⟨hk.1.1, ⟨hk.1.2.1, hk.1.2.2⟩⟩⟩)), (by (with_reducible repeat (first | apply Kd.R_alloc | apply Kd.R_drewN | apply Kd.R_drew)); exact Kd.R_mono HO228.out (fun _ hk => ⟨hk.2.1, ⟨hk.1, ⟨hk.2.2.1, hk.2.2.2⟩⟩⟩)), (zr HO238.out), (by (with_reducible repeat (first | apply Kd.R_alloc | apply Kd.R_drewN | apply Kd.R_drew)); exact Kd.R_mono HO_8.out (fun _ hk => ⟨hk.1.1, ⟨hk.2, ⟨hk.1.2.1, hk.1.2.2⟩⟩⟩)), (zr HO_9.out), (zk BK209.out), (zk BK210.out), (zk BK221.out), (zk BK222.out), (by repeat (first | (with_reducible first | exact HB.out | apply below_alloc | apply pw_below_drewN | apply below_drew1 | refine below_set ?_ GE209.out | refine below_set ?_ GE210.out | refine below_set ?_ GE221.out | refine below_set ?_ GE222.out) | exact HB.out))⟩)
           ·skip
            refine Kd.R_lit_step k44 _ 44 ?hg (N := 61) ?hd (xs := ([(⟨(⟨t217, t218⟩ : S27), (⟨t219, t220⟩ : S27)⟩ : S44)] : List (S44))) (inner := [.int .i64 t217, .int .i64 t218, .int .i64 t219, .int .i64 t220]) (ok := fun _ => True) (okp := fun _ => True) ?hr ?hp (fun _ hk => hk) trivial (Below.refl _ _) (Nat.le_refl _) (by simp) ?_; (case hd => rfl); (case hg => rfl); (case hr => first | (go_simp; done) | (go_simp; rfl)); (case hp => exact (Reps.c4 (show Kd.M k44 _ _ _ (⟨(⟨t217, t218⟩ : S27), (⟨t219, t220⟩ : S27)⟩ : S44) [.int .i64 t217, .int .i64 t218, .int .i64 t219, .int .i64 t220] from (k44_mkM _ _ _ (⟨(⟨t217, t218⟩ : S27), (⟨t219, t220⟩ : S27)⟩ : S44) )) (Reps.none _ _)))
            intro v230 w55 ho56 hb hg_ hnew_
            clear hg_ hnew_
            (first | rw [← Ny229.out] at ho56 | (simp only [Int.reduceToNat] at ho56; rw [← Ny229.out] at ho56))
            have n0_ := Aside0.mk (Kd.R_elder' (zr HO_7.out) (Kd.R_base ho56) hb)
            have n1_ := Aside0.mk (Kd.R_elder' (zr HO_8.out) (Kd.R_base ho56) hb)
            have n2_ := Aside0.mk (Kd.R_below (zr HO_9.out) hb)
            have n3_ := Aside0.mk (Kd.R_elder' (zr HO225.out) (Kd.R_base ho56) hb)
            have n4_ := Aside0.mk (Kd.R_below (zr HO238.out) hb)
            have n5_ := Aside0.mk (Kd.R_lower (Kd.R_newB (Kd.R_newB (Kd.R_new' (Kd.R_new' (Kd.R_new' ho56 (Kd.R_lt (zr HO_7.out))) (Kd.R_lt (zr HO_8.out))) (Kd.R_lt (zr HO225.out))) (g := gb221) (o := .cells #[.int .i64 t213, .int .i64 t214, .int .i64 t215, .int .i64 t216] 44 (0, 0)) (zk BK221.out)) (g := gb222) (o := .cells #[.int .i64 t217, .int .i64 t218, .int .i64 t219, .int .i64 t220] 44 (0, 0)) (zk BK222.out)) (below_size (by repeat (first | (with_reducible first | exact HB.out | apply below_alloc | apply pw_below_drewN | apply below_drew1 | refine below_set ?_ GE209.out | refine below_set ?_ GE210.out | refine below_set ?_ GE221.out | refine below_set ?_ GE222.out) | exact HB.out))))
            have n6_ := Aside0.mk (zb BK209.out hb)
            have n7_ := Aside0.mk (zb BK210.out hb)
            have n8_ := Aside0.mk (zb BK221.out hb)
            have n9_ := Aside0.mk (zb BK222.out hb)
            have n10_ := Aside0.mk (below_step (by repeat (first | (with_reducible first | exact HB.out | apply below_alloc | apply pw_below_drewN | apply below_drew1 | refine below_set ?_ GE209.out | refine below_set ?_ GE210.out | refine below_set ?_ GE221.out | refine below_set ?_ GE222.out) | exact HB.out)) hb)
            clear HO_7
            clear HO_8
            clear HO_9
            clear HO225
            clear HO238
            clear BK209
            clear BK210
            clear BK221
            clear BK222
            clear HB
            have HO_7 := n0_
            have HO_8 := n1_
            have HO_9 := n2_
            have HO225 := n3_
            have HO238 := n4_
            have HO231 := n5_
            have BK209 := n6_
            have BK210 := n7_
            have BK221 := n8_
            have BK222 := n9_
            have HB := n10_
            clear n0_ n1_ n2_ n3_ n4_ n5_ n6_ n7_ n8_ n9_ n10_
            clear hb ho56
            refine hK.out _ _ ⟨(blk_cell BK221.out 0).trans rfl, (blk_cell BK221.out 1).trans rfl, (blk_cell BK221.out 2).trans rfl, (blk_cell BK221.out 3).trans rfl, (blk_cell BK222.out 0).trans rfl, (blk_cell BK222.out 1).trans rfl, (blk_cell BK222.out 2).trans rfl, (blk_cell BK222.out 3).trans rfl, (blk_cell BK210.out 0).trans rfl, (blk_cell BK210.out 1).trans rfl, (blk_cell BK210.out 2).trans rfl, (blk_cell BK210.out 3).trans rfl, (blk_cell BK210.out 4).trans rfl, (blk_cell BK210.out 5).trans rfl, (blk_cell BK209.out 0).trans rfl, (blk_cell BK209.out 1).trans rfl, (blk_cell BK209.out 2).trans rfl, (blk_cell BK209.out 3).trans rfl, (blk_cell BK209.out 4).trans rfl, (blk_cell BK209.out 5).trans rfl, (blk_cell BK209.out 6).trans rfl, ((HB.out.cell (World.block_lt_of_cell? w _ hw235_0)).trans hw235_0)⟩ (fun hHeld => ?_)
            clear hK K
            refine norm_ (a' := ?_) ?_ ?_
            rotate_left
            ·show Act.put _ (some 61) _ = _
             simp only [Act.put, List.setIfInBounds_toArray, List.set_cons_zero, List.set_cons_succ, i64_w, i32_w]
             rfl
            exact norm_ (by first | (simp only [putAll, Act.put, List.setIfInBounds_toArray, List.set_cons_zero, List.set_cons_succ]; done) | (simp only [putAll, Act.put, List.setIfInBounds_toArray, List.set_cons_zero, List.set_cons_succ]; rfl)) (hJ2_6_19 (Value.slice Ao56 y223.length co56, v230, v237) _ ⟨hHeld, (by (with_reducible repeat (first | apply Kd.R_alloc | apply Kd.R_drewN | apply Kd.R_drew)); exact Kd.R_mono HO225.out (fun _ hk => ⟨hk.2, ⟨hk.1.1, ⟨hk.1.2.1, ⟨hk.1.2.2.1, hk.1.2.2.2⟩⟩⟩⟩)), (by (with_reducible repeat (first | apply Kd.R_alloc | apply Kd.R_drewN | apply Kd.R_drew)); exact Kd.R_mono HO231.out (fun _ hk => ⟨hk.1.1.2, ⟨hk.1.1.1.1.2, ⟨hk.1.1.1.2, ⟨hk.1.2, hk.2⟩⟩⟩⟩)), (zr HO238.out), (by (with_reducible repeat (first | apply Kd.R_alloc | apply Kd.R_drewN | apply Kd.R_drew)); exact Kd.R_mono HO_7.out (fun _ hk => ⟨hk.1.1, ⟨hk.2, ⟨hk.1.2.1, ⟨hk.1.2.2.1, hk.1.2.2.2⟩⟩⟩⟩)), (by (with_reducible repeat (first | apply Kd.R_alloc | apply Kd.R_drewN | apply Kd.R_drew)); exact Kd.R_mono HO_8.out (fun _ hk => ⟨hk.1.1, ⟨hk.2, ⟨hk.1.2.1, ⟨hk.1.2.2.1, hk.1.2.2.2⟩⟩⟩⟩)), (zr HO_9.out), (zk BK209.out), (zk BK210.out), (zk BK221.out), (zk BK222.out), (by repeat (first | (with_reducible first | exact HB.out | apply below_alloc | apply pw_below_drewN | apply below_drew1 | refine below_set ?_ GE209.out | refine below_set ?_ GE210.out | refine below_set ?_ GE221.out | refine below_set ?_ GE222.out) | exact HB.out))⟩)
         ·skip
          rintro ⟨v224, v230⟩ w54 ⟨hS_, h0_, h1_, h2_, h3_, h4_, h5_, h6_, h7_, h8_, h9_⟩
          have n0_ : Aside0 (Kd.R k44 44 w54 w.heap.size (fun k_ => some k_ ≠ (v230 : Value).ownBlock ∧ some k_ ≠ (.slice Ao45 x7_3.length co45 : Value).ownBlock ∧ some k_ ≠ (.slice Ao46 x8_3.length co46 : Value).ownBlock ∧ k_ ≠ gb221 ∧ k_ ≠ gb222) v224 y223) := ⟨h0_⟩
          have n1_ : Aside0 (Kd.R k44 44 w54 w.heap.size (fun k_ => some k_ ≠ (v224 : Value).ownBlock ∧ some k_ ≠ (.slice Ao45 x7_3.length co45 : Value).ownBlock ∧ some k_ ≠ (.slice Ao46 x8_3.length co46 : Value).ownBlock ∧ k_ ≠ gb221 ∧ k_ ≠ gb222) v230 y229) := ⟨h1_⟩
          have n2_ : Aside0 (Kd.R k44 44 w54 w.heap.size (fun k_ => some k_ ≠ (v224 : Value).ownBlock ∧ some k_ ≠ (v230 : Value).ownBlock ∧ some k_ ≠ (.slice Ao46 x8_3.length co46 : Value).ownBlock ∧ k_ ≠ gb221 ∧ k_ ≠ gb222) (.slice Ao45 x7_3.length co45) x7_3) := ⟨h2_⟩
          have n3_ : Aside0 (Kd.R k44 44 w54 w.heap.size (fun k_ => some k_ ≠ (v224 : Value).ownBlock ∧ some k_ ≠ (v230 : Value).ownBlock ∧ some k_ ≠ (.slice Ao45 x7_3.length co45 : Value).ownBlock ∧ k_ ≠ gb221 ∧ k_ ≠ gb222) (.slice Ao46 x8_3.length co46) x8_3) := ⟨h3_⟩
          have n4_ : Aside0 (Kd.R (Kd.int .i64) 3 w54 w.heap.size (fun _ => True) (.slice Ao47 x9_3.length co47) x9_3) := ⟨h4_⟩
          have n5_ : Aside0 (w54.heap[gb209]? = some (.cells #[.string a0_0, .string a0_1, .int .i64 a0_2, .int .i64 a0_3, .int .i64 a0_4, .int .i64 a0_5, .int .i64 a0_6] 25 (0, 0))) := ⟨h5_⟩
          have n6_ : Aside0 (w54.heap[gb210]? = some (.cells #[.int .i64 a1_0, .slice A1_1 l1_1.length c1_1, .slice A1_2 l1_2.length c1_2, .slice A1_3 l1_3.length c1_3, .slice A1_4 l1_4.length c1_4, .slice (some ad235) l1_5.length c1_5] 71 (0, 0))) := ⟨h6_⟩
          have n7_ : Aside0 (w54.heap[gb221]? = some (.cells #[.int .i64 t213, .int .i64 t214, .int .i64 t215, .int .i64 t216] 44 (0, 0))) := ⟨h7_⟩
          have n8_ : Aside0 (w54.heap[gb222]? = some (.cells #[.int .i64 t217, .int .i64 t218, .int .i64 t219, .int .i64 t220] 44 (0, 0))) := ⟨h8_⟩
          have n9_ : Aside0 (Below w.heap.size w w54) := ⟨h9_⟩
          clear HO_7
          clear HO_8
          clear HO_9
          clear BK209
          clear BK210
          clear BK221
          clear BK222
          clear HB
          clear h0_ h1_ h2_ h3_ h4_ h5_ h6_ h7_ h8_ h9_
          have HO225 := n0_
          have HO231 := n1_
          have HO_7 := n2_
          have HO_8 := n3_
          have HO_9 := n4_
          have BK209 := n5_
          have BK210 := n6_
          have BK221 := n7_
          have BK222 := n8_
          have HB := n9_
          clear n0_ n1_ n2_ n3_ n4_ n5_ n6_ n7_ n8_ n9_
          have hHeld : w54.cell? ⟨gb221, 0, none⟩ = some (.int .i64 t213) ∧ w54.cell? ⟨gb221, 1, none⟩ = some (.int .i64 t214) ∧ w54.cell? ⟨gb221, 2, none⟩ = some (.int .i64 t215) ∧ w54.cell? ⟨gb221, 3, none⟩ = some (.int .i64 t216) ∧ w54.cell? ⟨gb222, 0, none⟩ = some (.int .i64 t217) ∧ w54.cell? ⟨gb222, 1, none⟩ = some (.int .i64 t218) ∧ w54.cell? ⟨gb222, 2, none⟩ = some (.int .i64 t219) ∧ w54.cell? ⟨gb222, 3, none⟩ = some (.int .i64 t220) ∧ w54.cell? ⟨gb210, 0, none⟩ = some (.int .i64 a1_0) ∧ w54.cell? ⟨gb210, 1, none⟩ = some (.slice A1_1 l1_1.length c1_1) ∧ w54.cell? ⟨gb210, 2, none⟩ = some (.slice A1_2 l1_2.length c1_2) ∧ w54.cell? ⟨gb210, 3, none⟩ = some (.slice A1_3 l1_3.length c1_3) ∧ w54.cell? ⟨gb210, 4, none⟩ = some (.slice A1_4 l1_4.length c1_4) ∧ w54.cell? ⟨gb210, 5, none⟩ = some (.slice (some ad235) l1_5.length c1_5) ∧ w54.cell? ⟨gb209, 0, none⟩ = some (.string a0_0) ∧ w54.cell? ⟨gb209, 1, none⟩ = some (.string a0_1) ∧ w54.cell? ⟨gb209, 2, none⟩ = some (.int .i64 a0_2) ∧ w54.cell? ⟨gb209, 3, none⟩ = some (.int .i64 a0_3) ∧ w54.cell? ⟨gb209, 4, none⟩ = some (.int .i64 a0_4) ∧ w54.cell? ⟨gb209, 5, none⟩ = some (.int .i64 a0_5) ∧ w54.cell? ⟨gb209, 6, none⟩ = some (.int .i64 a0_6) ∧ w54.cell? (ad235.add (x46_3).toNat) = some (.int .u8 (rd l1_5 x46_3)) := hS_
          obtain ⟨Ao56, co56, eo56⟩ := Kd.R_slice HO225.out
          (first | subst eo56 | (injection eo56 with f1_ f2_ f3_; have f4_ := f1_.symm; have f5_ := f3_.symm; clear f1_ f2_ f3_; subst f4_; subst f5_))
          refine norm_ (a' := ?_) ?_ ?_
          rotate_left
          ·simp only [putAll, Act.put, List.setIfInBounds_toArray, List.set_cons_zero, List.set_cons_succ]
           rfl
          refine two_ (i := 3) (j := 19) (Ni := some 58) (Nj := some 74) #[true, true, true, true, true, true, true, false, true, true, true, true, true, true, true, true, true, true, true, false, false, false, false, false] #[true, true, true, false, true, true, true, false, true, true, true, true, true, true, true, true, true, true, true, true, false, false, false, false] rfl rfl rfl rfl (two_of HT_.out (by kernel_rfl)) (by decide) (by decide) (fun K hK => ?_) (fun K hK => ?_)
          ·skip
           refine Kd.R_append_rows_step k44 (w0 := w) w.heap.size (by rfl) (.tmp 55) (.tmp 57) 49 44 (.agg #[(.int .i64 0), (.int .i64 0), (.int .i64 0), (.int .i64 0)]) 32 rfl Try.underlying49 info44 rfl (by decide) (by omega) (.slice Ao45 x7_3.length co45) x7_3 y223 _ _ _ (fun k_ => some k_ ≠ (.slice Ao46 x8_3.length co46 : Value).ownBlock ∧ some k_ ≠ (.slice Ao56 y223.length co56 : Value).ownBlock ∧ some k_ ≠ (v230 : Value).ownBlock ∧ k_ ≠ gb221 ∧ k_ ≠ gb222) (fun _ => False) rfl rfl ?aO ?aR (fun _ _ h => h) (fun _ h => h.elim) ?aF ?aB ?aS ?aL ?_
           (case aR => repeat (first | exact (Kd.R_reads' HO225.out).2.2 | (with_reducible refine Kd.C_alloc ?_ _) | (with_reducible refine Kd.C_drewN ?_ _) | (with_reducible refine Kd.C_drew ?_)))
           (case aB => exact (by repeat (first | (with_reducible first | exact HB.out | apply below_alloc | apply pw_below_drewN | apply below_drew1 | refine below_set ?_ GE209.out | refine below_set ?_ GE210.out | refine below_set ?_ GE221.out | refine below_set ?_ GE222.out) | exact HB.out)))
           (case aF => exact (fun k_ hk => ⟨Kd.fresh' (Kd.R_lt (zr HO_8.out)) k_ hk, Kd.fresh' (Kd.R_lt (zr HO225.out)) k_ hk, Kd.fresh' (Kd.R_lt (zr HO231.out)) k_ hk, Kd.freshB (g := gb221) (o := .cells #[.int .i64 t213, .int .i64 t214, .int .i64 t215, .int .i64 t216] 44 (0, 0)) (zk BK221.out) k_ hk, Kd.freshB (g := gb222) (o := .cells #[.int .i64 t217, .int .i64 t218, .int .i64 t219, .int .i64 t220] 44 (0, 0)) (zk BK222.out) k_ hk⟩))
           (case aO => exact (by (with_reducible repeat (first | apply Kd.R_alloc | apply Kd.R_drewN | apply Kd.R_drew)); exact Kd.R_mono HO_7.out (fun _ hk => ⟨hk.2.2.1, ⟨hk.1, ⟨hk.2.1, ⟨hk.2.2.2.1, hk.2.2.2.2⟩⟩⟩⟩)))
           (case aS => exact (below_size (by repeat (first | (with_reducible first | exact HB.out | apply below_alloc | apply pw_below_drewN | apply below_drew1 | refine below_set ?_ GE209.out | refine below_set ?_ GE210.out | refine below_set ?_ GE221.out | refine below_set ?_ GE222.out) | exact HB.out))))
           (case aL => have := LMc27.out; omega)
           intro v227 w55 ho hb hg hat
           rw [← Ny226.out] at ho
           have n0_ := Aside0.mk (Kd.R_after (ok := (fun k_ => some k_ ≠ (.slice Ao56 y223.length co56 : Value).ownBlock ∧ some k_ ≠ (v230 : Value).ownBlock ∧ k_ ≠ gb221 ∧ k_ ≠ gb222)) (by (with_reducible repeat (first | apply Kd.R_alloc | apply Kd.R_drewN | apply Kd.R_drew)); exact Kd.R_mono HO_8.out (fun _ hk => ⟨⟨hk.1, ⟨hk.2.1, ⟨hk.2.2.2.1, hk.2.2.2.2⟩⟩⟩, hk.2.2.1⟩)) hg hat)
           have n1_ := Aside0.mk (Kd.R_over' (zr HO_9.out) (Kd.R_typed (zr HO_7.out)) (by decide) hg)
           have n2_ := Aside0.mk (blk_grown (g := gb209) (o := .cells #[.string a0_0, .string a0_1, .int .i64 a0_2, .int .i64 a0_3, .int .i64 a0_4, .int .i64 a0_5, .int .i64 a0_6] 25 (0, 0)) (zk BK209.out) hg (Kd.R_ne HO_7.out BK209.out (by decide)))
           have n3_ := Aside0.mk (blk_grown (g := gb210) (o := .cells #[.int .i64 a1_0, .slice A1_1 l1_1.length c1_1, .slice A1_2 l1_2.length c1_2, .slice A1_3 l1_3.length c1_3, .slice A1_4 l1_4.length c1_4, .slice (some ad235) l1_5.length c1_5] 71 (0, 0)) (zk BK210.out) hg (Kd.R_ne HO_7.out BK210.out (by decide)))
           have n4_ := Aside0.mk (blk_grown (g := gb221) (o := .cells #[.int .i64 t213, .int .i64 t214, .int .i64 t215, .int .i64 t216] 44 (0, 0)) (zk BK221.out) hg (Kd.R_away HO_7.out (fun _ hk => hk.2.2.2.1)))
           have n5_ := Aside0.mk (blk_grown (g := gb222) (o := .cells #[.int .i64 t217, .int .i64 t218, .int .i64 t219, .int .i64 t220] 44 (0, 0)) (zk BK222.out) hg (Kd.R_away HO_7.out (fun _ hk => hk.2.2.2.2)))
           have n6_ := Aside0.mk (Kd.R_after (ok := (fun k_ => some k_ ≠ (.slice Ao46 x8_3.length co46 : Value).ownBlock ∧ some k_ ≠ (v230 : Value).ownBlock ∧ k_ ≠ gb221 ∧ k_ ≠ gb222)) (by (with_reducible repeat (first | apply Kd.R_alloc | apply Kd.R_drewN | apply Kd.R_drew)); exact Kd.R_mono HO225.out (fun _ hk => ⟨⟨hk.2.2.1, ⟨hk.1, ⟨hk.2.2.2.1, hk.2.2.2.2⟩⟩⟩, hk.2.1⟩)) hg hat)
           have n7_ := Aside0.mk (Kd.R_after (ok := (fun k_ => some k_ ≠ (.slice Ao46 x8_3.length co46 : Value).ownBlock ∧ some k_ ≠ (.slice Ao56 y223.length co56 : Value).ownBlock ∧ k_ ≠ gb221 ∧ k_ ≠ gb222)) (by (with_reducible repeat (first | apply Kd.R_alloc | apply Kd.R_drewN | apply Kd.R_drew)); exact Kd.R_mono HO231.out (fun _ hk => ⟨⟨hk.2.2.1, ⟨hk.1, ⟨hk.2.2.2.1, hk.2.2.2.2⟩⟩⟩, hk.2.1⟩)) hg hat)
           have n8_ := Aside0.mk (hb)
           have n9_ := Aside0.mk (ho)
           clear HO_8
           clear HO_9
           clear BK209
           clear BK210
           clear BK221
           clear BK222
           clear HO225
           clear HO231
           clear HB
           clear HO_7
           have HO_8 := n0_
           have HO_9 := n1_
           have BK209 := n2_
           have BK210 := n3_
           have BK221 := n4_
           have BK222 := n5_
           have HO225 := n6_
           have HO231 := n7_
           have HB := n8_
           have HO228 := n9_
           clear n0_ n1_ n2_ n3_ n4_ n5_ n6_ n7_ n8_ n9_
           clear ho hb hg hat
           refine hK.out _ _ ⟨(blk_cell BK221.out 0).trans rfl, (blk_cell BK221.out 1).trans rfl, (blk_cell BK221.out 2).trans rfl, (blk_cell BK221.out 3).trans rfl, (blk_cell BK222.out 0).trans rfl, (blk_cell BK222.out 1).trans rfl, (blk_cell BK222.out 2).trans rfl, (blk_cell BK222.out 3).trans rfl, (blk_cell BK210.out 0).trans rfl, (blk_cell BK210.out 1).trans rfl, (blk_cell BK210.out 2).trans rfl, (blk_cell BK210.out 3).trans rfl, (blk_cell BK210.out 4).trans rfl, (blk_cell BK210.out 5).trans rfl, (blk_cell BK209.out 0).trans rfl, (blk_cell BK209.out 1).trans rfl, (blk_cell BK209.out 2).trans rfl, (blk_cell BK209.out 3).trans rfl, (blk_cell BK209.out 4).trans rfl, (blk_cell BK209.out 5).trans rfl, (blk_cell BK209.out 6).trans rfl, ((HB.out.cell (World.block_lt_of_cell? w _ hw235_0)).trans hw235_0)⟩ (fun hHeld => ?_)
           clear hK K
           refine norm_ (a' := ?_) ?_ ?_
           rotate_left
           ·show Act.put _ (some 58) _ = _
            simp only [Act.put, List.setIfInBounds_toArray, List.set_cons_zero, List.set_cons_succ, i64_w, i32_w]
            rfl
           exact norm_ (by first | (simp only [putAll, Act.put, List.setIfInBounds_toArray, List.set_cons_zero, List.set_cons_succ]; done) | (simp only [putAll, Act.put, List.setIfInBounds_toArray, List.set_cons_zero, List.set_cons_succ]; rfl)) (hJ2_3_6 (.slice Ao56 y223.length co56, v227, v230) _ ⟨hHeld, (by (with_reducible repeat (first | apply Kd.R_alloc | apply Kd.R_drewN | apply Kd.R_drew)); exact Kd.R_mono HO225.out (fun _ hk => ⟨hk.2, ⟨hk.1.2.1, ⟨hk.1.1, ⟨hk.1.2.2.1, hk.1.2.2.2⟩⟩⟩⟩)), (by (with_reducible repeat (first | apply Kd.R_alloc | apply Kd.R_drewN | apply Kd.R_drew)); exact Kd.R_mono HO228.out (fun _ hk => ⟨hk.2.1, ⟨hk.2.2.1, ⟨hk.1, ⟨hk.2.2.2.1, hk.2.2.2.2⟩⟩⟩⟩)), (by (with_reducible repeat (first | apply Kd.R_alloc | apply Kd.R_drewN | apply Kd.R_drew)); exact Kd.R_mono HO231.out (fun _ hk => ⟨hk.1.2.1, ⟨hk.2, ⟨hk.1.1, ⟨hk.1.2.2.1, hk.1.2.2.2⟩⟩⟩⟩)), (by (with_reducible repeat (first | apply Kd.R_alloc | apply Kd.R_drewN | apply Kd.R_drew)); exact Kd.R_mono HO_8.out (fun _ hk => ⟨hk.1.1, ⟨hk.2, ⟨hk.1.2.1, ⟨hk.1.2.2.1, hk.1.2.2.2⟩⟩⟩⟩)), (zr HO_9.out), (zk BK209.out), (zk BK210.out), (zk BK221.out), (zk BK222.out), (by repeat (first | (with_reducible first | exact HB.out | apply below_alloc | apply pw_below_drewN | apply below_drew1 | refine below_set ?_ GE209.out | refine below_set ?_ GE210.out | refine below_set ?_ GE221.out | refine below_set ?_ GE222.out) | exact HB.out))⟩)
          ·skip
           refine Kd.R_lit_step (Kd.int .i64) _ 3 ?hg (N := 74) ?hd (xs := ([Int.tmod (wrap64 (rd l1_5 x46_3)) (wrap64 (a0_6 + 1))] : List Int)) (inner := [.int .i64 (Int.tmod (wrap64 (rd l1_5 x46_3)) (wrap64 (a0_6 + 1)))]) (ok := fun _ => True) (okp := fun _ => True) ?hr ?hp (fun _ hk => hk) trivial (Below.refl _ _) (Nat.le_refl _) (by simp) ?_; (case hd => rfl); (case hg => rfl); (case hr => first | (go_simp; done) | (go_simp; rfl)); (case hp => exact (Reps.one (show Kd.M (Kd.int .i64) _ _ _ (Int.tmod (wrap64 (rd l1_5 x46_3)) (wrap64 (a0_6 + 1))) [.int .i64 (Int.tmod (wrap64 (rd l1_5 x46_3)) (wrap64 (a0_6 + 1)))] from rfl) (Reps.none _ _)))
           intro v237 w55 ho56 hb hg_ hnew_
           clear hg_ hnew_
           (first | rw [← Ny236.out] at ho56 | (simp only [Int.reduceToNat] at ho56; rw [← Ny236.out] at ho56))
           have n0_ := Aside0.mk (Kd.R_below (zr HO_7.out) hb)
           have n1_ := Aside0.mk (Kd.R_below (zr HO_8.out) hb)
           have n2_ := Aside0.mk (Kd.R_elder' (zr HO_9.out) (Kd.R_base ho56) hb)
           have n3_ := Aside0.mk (Kd.R_below (zr HO225.out) hb)
           have n4_ := Aside0.mk (Kd.R_below (zr HO231.out) hb)
           have n5_ := Aside0.mk (Kd.R_lower (Kd.R_new' ho56 (Kd.R_lt (zr HO_9.out))) (below_size (by repeat (first | (with_reducible first | exact HB.out | apply below_alloc | apply pw_below_drewN | apply below_drew1 | refine below_set ?_ GE209.out | refine below_set ?_ GE210.out | refine below_set ?_ GE221.out | refine below_set ?_ GE222.out) | exact HB.out))))
           have n6_ := Aside0.mk (zb BK209.out hb)
           have n7_ := Aside0.mk (zb BK210.out hb)
           have n8_ := Aside0.mk (zb BK221.out hb)
           have n9_ := Aside0.mk (zb BK222.out hb)
           have n10_ := Aside0.mk (below_step (by repeat (first | (with_reducible first | exact HB.out | apply below_alloc | apply pw_below_drewN | apply below_drew1 | refine below_set ?_ GE209.out | refine below_set ?_ GE210.out | refine below_set ?_ GE221.out | refine below_set ?_ GE222.out) | exact HB.out)) hb)
           clear HO_7
           clear HO_8
           clear HO_9
           clear HO225
           clear HO231
           clear BK209
           clear BK210
           clear BK221
           clear BK222
           clear HB
           have HO_7 := n0_
           have HO_8 := n1_
           have HO_9 := n2_
           have HO225 := n3_
           have HO231 := n4_
           have HO238 := n5_
           have BK209 := n6_
           have BK210 := n7_
           have BK221 := n8_
           have BK222 := n9_
           have HB := n10_
           clear n0_ n1_ n2_ n3_ n4_ n5_ n6_ n7_ n8_ n9_ n10_
           clear hb ho56
           refine hK.out _ _ ⟨(blk_cell BK221.out 0).trans rfl, (blk_cell BK221.out 1).trans rfl, (blk_cell BK221.out 2).trans rfl, (blk_cell BK221.out 3).trans rfl, (blk_cell BK222.out 0).trans rfl, (blk_cell BK222.out 1).trans rfl, (blk_cell BK222.out 2).trans rfl, (blk_cell BK222.out 3).trans rfl, (blk_cell BK210.out 0).trans rfl, (blk_cell BK210.out 1).trans rfl, (blk_cell BK210.out 2).trans rfl, (blk_cell BK210.out 3).trans rfl, (blk_cell BK210.out 4).trans rfl, (blk_cell BK210.out 5).trans rfl, (blk_cell BK209.out 0).trans rfl, (blk_cell BK209.out 1).trans rfl, (blk_cell BK209.out 2).trans rfl, (blk_cell BK209.out 3).trans rfl, (blk_cell BK209.out 4).trans rfl, (blk_cell BK209.out 5).trans rfl, (blk_cell BK209.out 6).trans rfl, ((HB.out.cell (World.block_lt_of_cell? w _ hw235_0)).trans hw235_0)⟩ (fun hHeld => ?_)
           clear hK K
           refine norm_ (a' := ?_) ?_ ?_
           rotate_left
           ·show Act.put _ (some 74) _ = _
            simp only [Act.put, List.setIfInBounds_toArray, List.set_cons_zero, List.set_cons_succ, i64_w, i32_w]
            rfl
           exact norm_ (by first | (simp only [putAll, Act.put, List.setIfInBounds_toArray, List.set_cons_zero, List.set_cons_succ]; done) | (simp only [putAll, Act.put, List.setIfInBounds_toArray, List.set_cons_zero, List.set_cons_succ]; rfl)) (hJ2_6_19 (Value.slice Ao56 y223.length co56, v230, v237) _ ⟨hHeld, (zr HO225.out), (zr HO231.out), (by (with_reducible repeat (first | apply Kd.R_alloc | apply Kd.R_drewN | apply Kd.R_drew)); exact Kd.R_mono HO238.out (fun _ hk => hk.2)), (zr HO_7.out), (zr HO_8.out), (by (with_reducible repeat (first | apply Kd.R_alloc | apply Kd.R_drewN | apply Kd.R_drew)); exact Kd.R_mono HO_9.out (fun _ hk => hk.2)), (zk BK209.out), (zk BK210.out), (zk BK221.out), (zk BK222.out), (by repeat (first | (with_reducible first | exact HB.out | apply below_alloc | apply pw_below_drewN | apply below_drew1 | refine below_set ?_ GE209.out | refine below_set ?_ GE210.out | refine below_set ?_ GE221.out | refine below_set ?_ GE222.out) | exact HB.out))⟩)
        ·skip
         rintro ⟨v224, v227⟩ w54 ⟨hS_, h0_, h1_, h2_, h3_, h4_, h5_, h6_, h7_, h8_⟩
         have n0_ : Aside0 (Kd.R k44 44 w54 w.heap.size (fun k_ => some k_ ≠ (v227 : Value).ownBlock ∧ some k_ ≠ (.slice Ao46 x8_3.length co46 : Value).ownBlock ∧ k_ ≠ gb221 ∧ k_ ≠ gb222) v224 y223) := ⟨h0_⟩
         have n1_ : Aside0 (Kd.R k44 44 w54 w.heap.size (fun k_ => some k_ ≠ (v224 : Value).ownBlock ∧ some k_ ≠ (.slice Ao46 x8_3.length co46 : Value).ownBlock ∧ k_ ≠ gb221 ∧ k_ ≠ gb222) v227 y226) := ⟨h1_⟩
         have n2_ : Aside0 (Kd.R k44 44 w54 w.heap.size (fun k_ => some k_ ≠ (v224 : Value).ownBlock ∧ some k_ ≠ (v227 : Value).ownBlock ∧ k_ ≠ gb221 ∧ k_ ≠ gb222) (.slice Ao46 x8_3.length co46) x8_3) := ⟨h2_⟩
         have n3_ : Aside0 (Kd.R (Kd.int .i64) 3 w54 w.heap.size (fun _ => True) (.slice Ao47 x9_3.length co47) x9_3) := ⟨h3_⟩
         have n4_ : Aside0 (w54.heap[gb209]? = some (.cells #[.string a0_0, .string a0_1, .int .i64 a0_2, .int .i64 a0_3, .int .i64 a0_4, .int .i64 a0_5, .int .i64 a0_6] 25 (0, 0))) := ⟨h4_⟩
         have n5_ : Aside0 (w54.heap[gb210]? = some (.cells #[.int .i64 a1_0, .slice A1_1 l1_1.length c1_1, .slice A1_2 l1_2.length c1_2, .slice A1_3 l1_3.length c1_3, .slice A1_4 l1_4.length c1_4, .slice (some ad235) l1_5.length c1_5] 71 (0, 0))) := ⟨h5_⟩
         have n6_ : Aside0 (w54.heap[gb221]? = some (.cells #[.int .i64 t213, .int .i64 t214, .int .i64 t215, .int .i64 t216] 44 (0, 0))) := ⟨h6_⟩
         have n7_ : Aside0 (w54.heap[gb222]? = some (.cells #[.int .i64 t217, .int .i64 t218, .int .i64 t219, .int .i64 t220] 44 (0, 0))) := ⟨h7_⟩
         have n8_ : Aside0 (Below w.heap.size w w54) := ⟨h8_⟩
         clear HO_7
         clear HO_8
         clear HO_9
         clear BK209
         clear BK210
         clear BK221
         clear BK222
         clear HB
         clear h0_ h1_ h2_ h3_ h4_ h5_ h6_ h7_ h8_
         have HO225 := n0_
         have HO228 := n1_
         have HO_8 := n2_
         have HO_9 := n3_
         have BK209 := n4_
         have BK210 := n5_
         have BK221 := n6_
         have BK222 := n7_
         have HB := n8_
         clear n0_ n1_ n2_ n3_ n4_ n5_ n6_ n7_ n8_
         have hHeld : w54.cell? ⟨gb221, 0, none⟩ = some (.int .i64 t213) ∧ w54.cell? ⟨gb221, 1, none⟩ = some (.int .i64 t214) ∧ w54.cell? ⟨gb221, 2, none⟩ = some (.int .i64 t215) ∧ w54.cell? ⟨gb221, 3, none⟩ = some (.int .i64 t216) ∧ w54.cell? ⟨gb222, 0, none⟩ = some (.int .i64 t217) ∧ w54.cell? ⟨gb222, 1, none⟩ = some (.int .i64 t218) ∧ w54.cell? ⟨gb222, 2, none⟩ = some (.int .i64 t219) ∧ w54.cell? ⟨gb222, 3, none⟩ = some (.int .i64 t220) ∧ w54.cell? ⟨gb210, 0, none⟩ = some (.int .i64 a1_0) ∧ w54.cell? ⟨gb210, 1, none⟩ = some (.slice A1_1 l1_1.length c1_1) ∧ w54.cell? ⟨gb210, 2, none⟩ = some (.slice A1_2 l1_2.length c1_2) ∧ w54.cell? ⟨gb210, 3, none⟩ = some (.slice A1_3 l1_3.length c1_3) ∧ w54.cell? ⟨gb210, 4, none⟩ = some (.slice A1_4 l1_4.length c1_4) ∧ w54.cell? ⟨gb210, 5, none⟩ = some (.slice (some ad235) l1_5.length c1_5) ∧ w54.cell? ⟨gb209, 0, none⟩ = some (.string a0_0) ∧ w54.cell? ⟨gb209, 1, none⟩ = some (.string a0_1) ∧ w54.cell? ⟨gb209, 2, none⟩ = some (.int .i64 a0_2) ∧ w54.cell? ⟨gb209, 3, none⟩ = some (.int .i64 a0_3) ∧ w54.cell? ⟨gb209, 4, none⟩ = some (.int .i64 a0_4) ∧ w54.cell? ⟨gb209, 5, none⟩ = some (.int .i64 a0_5) ∧ w54.cell? ⟨gb209, 6, none⟩ = some (.int .i64 a0_6) ∧ w54.cell? (ad235.add (x46_3).toNat) = some (.int .u8 (rd l1_5 x46_3)) := hS_
         refine norm_ (a' := ?_) ?_ ?_
         rotate_left
         ·simp only [putAll, Act.put, List.setIfInBounds_toArray, List.set_cons_zero, List.set_cons_succ]
          rfl
         refine two_ (i := 6) (j := 19) (Ni := some 61) (Nj := some 74) #[true, true, true, true, true, true, true, false, true, true, true, true, true, true, true, true, true, true, true, false, false, false, false, false] #[true, true, true, true, true, true, false, false, true, true, true, true, true, true, true, true, true, true, true, true, false, false, false, false] rfl rfl rfl rfl (two_of HT_.out (by kernel_rfl)) (by decide) (by decide) (fun K hK => ?_) (fun K hK => ?_)
         ·skip
          refine Kd.R_lit_step k44 _ 44 ?hg (N := 61) ?hd (xs := ([(⟨(⟨t217, t218⟩ : S27), (⟨t219, t220⟩ : S27)⟩ : S44)] : List (S44))) (inner := [.int .i64 t217, .int .i64 t218, .int .i64 t219, .int .i64 t220]) (ok := fun _ => True) (okp := fun _ => True) ?hr ?hp (fun _ hk => hk) trivial (Below.refl _ _) (Nat.le_refl _) (by simp) ?_; (case hd => rfl); (case hg => rfl); (case hr => first | (go_simp; done) | (go_simp; rfl)); (case hp => exact (Reps.c4 (show Kd.M k44 _ _ _ (⟨(⟨t217, t218⟩ : S27), (⟨t219, t220⟩ : S27)⟩ : S44) [.int .i64 t217, .int .i64 t218, .int .i64 t219, .int .i64 t220] from (k44_mkM _ _ _ (⟨(⟨t217, t218⟩ : S27), (⟨t219, t220⟩ : S27)⟩ : S44) )) (Reps.none _ _)))
          intro v230 w55 ho56 hb hg_ hnew_
          clear hg_ hnew_
          (first | rw [← Ny229.out] at ho56 | (simp only [Int.reduceToNat] at ho56; rw [← Ny229.out] at ho56))
          have n0_ := Aside0.mk (Kd.R_elder' (zr HO_8.out) (Kd.R_base ho56) hb)
          have n1_ := Aside0.mk (Kd.R_below (zr HO_9.out) hb)
          have n2_ := Aside0.mk (Kd.R_elder' (zr HO225.out) (Kd.R_base ho56) hb)
          have n3_ := Aside0.mk (Kd.R_elder' (zr HO228.out) (Kd.R_base ho56) hb)
          have n4_ := Aside0.mk (Kd.R_lower (Kd.R_newB (Kd.R_newB (Kd.R_new' (Kd.R_new' (Kd.R_new' ho56 (Kd.R_lt (zr HO_8.out))) (Kd.R_lt (zr HO225.out))) (Kd.R_lt (zr HO228.out))) (g := gb221) (o := .cells #[.int .i64 t213, .int .i64 t214, .int .i64 t215, .int .i64 t216] 44 (0, 0)) (zk BK221.out)) (g := gb222) (o := .cells #[.int .i64 t217, .int .i64 t218, .int .i64 t219, .int .i64 t220] 44 (0, 0)) (zk BK222.out)) (below_size (by repeat (first | (with_reducible first | exact HB.out | apply below_alloc | apply pw_below_drewN | apply below_drew1 | refine below_set ?_ GE209.out | refine below_set ?_ GE210.out | refine below_set ?_ GE221.out | refine below_set ?_ GE222.out) | exact HB.out))))
          have n5_ := Aside0.mk (zb BK209.out hb)
          have n6_ := Aside0.mk (zb BK210.out hb)
          have n7_ := Aside0.mk (zb BK221.out hb)
          have n8_ := Aside0.mk (zb BK222.out hb)
          have n9_ := Aside0.mk (below_step (by repeat (first | (with_reducible first | exact HB.out | apply below_alloc | apply pw_below_drewN | apply below_drew1 | refine below_set ?_ GE209.out | refine below_set ?_ GE210.out | refine below_set ?_ GE221.out | refine below_set ?_ GE222.out) | exact HB.out)) hb)
          clear HO_8
          clear HO_9
          clear HO225
          clear HO228
          clear BK209
          clear BK210
          clear BK221
          clear BK222
          clear HB
          have HO_8 := n0_
          have HO_9 := n1_
          have HO225 := n2_
          have HO228 := n3_
          have HO231 := n4_
          have BK209 := n5_
          have BK210 := n6_
          have BK221 := n7_
          have BK222 := n8_
          have HB := n9_
          clear n0_ n1_ n2_ n3_ n4_ n5_ n6_ n7_ n8_ n9_
          clear hb ho56
          refine hK.out _ _ ⟨(blk_cell BK221.out 0).trans rfl, (blk_cell BK221.out 1).trans rfl, (blk_cell BK221.out 2).trans rfl, (blk_cell BK221.out 3).trans rfl, (blk_cell BK222.out 0).trans rfl, (blk_cell BK222.out 1).trans rfl, (blk_cell BK222.out 2).trans rfl, (blk_cell BK222.out 3).trans rfl, (blk_cell BK210.out 0).trans rfl, (blk_cell BK210.out 1).trans rfl, (blk_cell BK210.out 2).trans rfl, (blk_cell BK210.out 3).trans rfl, (blk_cell BK210.out 4).trans rfl, (blk_cell BK210.out 5).trans rfl, (blk_cell BK209.out 0).trans rfl, (blk_cell BK209.out 1).trans rfl, (blk_cell BK209.out 2).trans rfl, (blk_cell BK209.out 3).trans rfl, (blk_cell BK209.out 4).trans rfl, (blk_cell BK209.out 5).trans rfl, (blk_cell BK209.out 6).trans rfl, ((HB.out.cell (World.block_lt_of_cell? w _ hw235_0)).trans hw235_0)⟩ (fun hHeld => ?_)
          clear hK K
          refine norm_ (a' := ?_) ?_ ?_
          rotate_left
          ·show Act.put _ (some 61) _ = _
           simp only [Act.put, List.setIfInBounds_toArray, List.set_cons_zero, List.set_cons_succ, i64_w, i32_w]
           rfl
          exact norm_ (by first | (simp only [putAll, Act.put, List.setIfInBounds_toArray, List.set_cons_zero, List.set_cons_succ]; done) | (simp only [putAll, Act.put, List.setIfInBounds_toArray, List.set_cons_zero, List.set_cons_succ]; rfl)) (hJ2_3_6 (v224, v227, v230) _ ⟨hHeld, (by (with_reducible repeat (first | apply Kd.R_alloc | apply Kd.R_drewN | apply Kd.R_drew)); exact Kd.R_mono HO225.out (fun _ hk => ⟨hk.1.1, ⟨hk.2, ⟨hk.1.2.1, ⟨hk.1.2.2.1, hk.1.2.2.2⟩⟩⟩⟩)), (by (with_reducible repeat (first | apply Kd.R_alloc | apply Kd.R_drewN | apply Kd.R_drew)); exact Kd.R_mono HO228.out (fun _ hk => ⟨hk.1.1, ⟨hk.2, ⟨hk.1.2.1, ⟨hk.1.2.2.1, hk.1.2.2.2⟩⟩⟩⟩)), (by (with_reducible repeat (first | apply Kd.R_alloc | apply Kd.R_drewN | apply Kd.R_drew)); exact Kd.R_mono HO231.out (fun _ hk => ⟨hk.1.1.1.2, ⟨hk.1.1.2, ⟨hk.1.1.1.1.2, ⟨hk.1.2, hk.2⟩⟩⟩⟩)), (by (with_reducible repeat (first | apply Kd.R_alloc | apply Kd.R_drewN | apply Kd.R_drew)); exact Kd.R_mono HO_8.out (fun _ hk => ⟨hk.1.1, ⟨hk.1.2.1, ⟨hk.2, ⟨hk.1.2.2.1, hk.1.2.2.2⟩⟩⟩⟩)), (zr HO_9.out), (zk BK209.out), (zk BK210.out), (zk BK221.out), (zk BK222.out), (by repeat (first | (with_reducible first | exact HB.out | apply below_alloc | apply pw_below_drewN | apply below_drew1 | refine below_set ?_ GE209.out | refine below_set ?_ GE210.out | refine below_set ?_ GE221.out | refine below_set ?_ GE222.out) | exact HB.out))⟩)
         ·skip
          refine Kd.R_lit_step (Kd.int .i64) _ 3 ?hg (N := 74) ?hd (xs := ([Int.tmod (wrap64 (rd l1_5 x46_3)) (wrap64 (a0_6 + 1))] : List Int)) (inner := [.int .i64 (Int.tmod (wrap64 (rd l1_5 x46_3)) (wrap64 (a0_6 + 1)))]) (ok := fun _ => True) (okp := fun _ => True) ?hr ?hp (fun _ hk => hk) trivial (Below.refl _ _) (Nat.le_refl _) (by simp) ?_; (case hd => rfl); (case hg => rfl); (case hr => first | (go_simp; done) | (go_simp; rfl)); (case hp => exact (Reps.one (show Kd.M (Kd.int .i64) _ _ _ (Int.tmod (wrap64 (rd l1_5 x46_3)) (wrap64 (a0_6 + 1))) [.int .i64 (Int.tmod (wrap64 (rd l1_5 x46_3)) (wrap64 (a0_6 + 1)))] from rfl) (Reps.none _ _)))
          intro v237 w55 ho56 hb hg_ hnew_
          clear hg_ hnew_
          (first | rw [← Ny236.out] at ho56 | (simp only [Int.reduceToNat] at ho56; rw [← Ny236.out] at ho56))
          have n0_ := Aside0.mk (Kd.R_below (zr HO_8.out) hb)
          have n1_ := Aside0.mk (Kd.R_elder' (zr HO_9.out) (Kd.R_base ho56) hb)
          have n2_ := Aside0.mk (Kd.R_below (zr HO225.out) hb)
          have n3_ := Aside0.mk (Kd.R_below (zr HO228.out) hb)
          have n4_ := Aside0.mk (Kd.R_lower (Kd.R_new' ho56 (Kd.R_lt (zr HO_9.out))) (below_size (by repeat (first | (with_reducible first | exact HB.out | apply below_alloc | apply pw_below_drewN | apply below_drew1 | refine below_set ?_ GE209.out | refine below_set ?_ GE210.out | refine below_set ?_ GE221.out | refine below_set ?_ GE222.out) | exact HB.out))))
          have n5_ := Aside0.mk (zb BK209.out hb)
          have n6_ := Aside0.mk (zb BK210.out hb)
          have n7_ := Aside0.mk (zb BK221.out hb)
          have n8_ := Aside0.mk (zb BK222.out hb)
          have n9_ := Aside0.mk (below_step (by repeat (first | (with_reducible first | exact HB.out | apply below_alloc | apply pw_below_drewN | apply below_drew1 | refine below_set ?_ GE209.out | refine below_set ?_ GE210.out | refine below_set ?_ GE221.out | refine below_set ?_ GE222.out) | exact HB.out)) hb)
          clear HO_8
          clear HO_9
          clear HO225
          clear HO228
          clear BK209
          clear BK210
          clear BK221
          clear BK222
          clear HB
          have HO_8 := n0_
          have HO_9 := n1_
          have HO225 := n2_
          have HO228 := n3_
          have HO238 := n4_
          have BK209 := n5_
          have BK210 := n6_
          have BK221 := n7_
          have BK222 := n8_
          have HB := n9_
          clear n0_ n1_ n2_ n3_ n4_ n5_ n6_ n7_ n8_ n9_
          clear hb ho56
          refine hK.out _ _ ⟨(blk_cell BK221.out 0).trans rfl, (blk_cell BK221.out 1).trans rfl, (blk_cell BK221.out 2).trans rfl, (blk_cell BK221.out 3).trans rfl, (blk_cell BK222.out 0).trans rfl, (blk_cell BK222.out 1).trans rfl, (blk_cell BK222.out 2).trans rfl, (blk_cell BK222.out 3).trans rfl, (blk_cell BK210.out 0).trans rfl, (blk_cell BK210.out 1).trans rfl, (blk_cell BK210.out 2).trans rfl, (blk_cell BK210.out 3).trans rfl, (blk_cell BK210.out 4).trans rfl, (blk_cell BK210.out 5).trans rfl, (blk_cell BK209.out 0).trans rfl, (blk_cell BK209.out 1).trans rfl, (blk_cell BK209.out 2).trans rfl, (blk_cell BK209.out 3).trans rfl, (blk_cell BK209.out 4).trans rfl, (blk_cell BK209.out 5).trans rfl, (blk_cell BK209.out 6).trans rfl, ((HB.out.cell (World.block_lt_of_cell? w _ hw235_0)).trans hw235_0)⟩ (fun hHeld => ?_)
          clear hK K
          refine norm_ (a' := ?_) ?_ ?_
          rotate_left
          ·show Act.put _ (some 74) _ = _
           simp only [Act.put, List.setIfInBounds_toArray, List.set_cons_zero, List.set_cons_succ, i64_w, i32_w]
           rfl
          exact norm_ (by first | (simp only [putAll, Act.put, List.setIfInBounds_toArray, List.set_cons_zero, List.set_cons_succ]; done) | (simp only [putAll, Act.put, List.setIfInBounds_toArray, List.set_cons_zero, List.set_cons_succ]; rfl)) (hJ2_3_19 (v224, v227, v237) _ ⟨hHeld, (zr HO225.out), (zr HO228.out), (by (with_reducible repeat (first | apply Kd.R_alloc | apply Kd.R_drewN | apply Kd.R_drew)); exact Kd.R_mono HO238.out (fun _ hk => hk.2)), (zr HO_8.out), (by (with_reducible repeat (first | apply Kd.R_alloc | apply Kd.R_drewN | apply Kd.R_drew)); exact Kd.R_mono HO_9.out (fun _ hk => hk.2)), (zk BK209.out), (zk BK210.out), (zk BK221.out), (zk BK222.out), (by repeat (first | (with_reducible first | exact HB.out | apply below_alloc | apply pw_below_drewN | apply below_drew1 | refine below_set ?_ GE209.out | refine below_set ?_ GE210.out | refine below_set ?_ GE221.out | refine below_set ?_ GE222.out) | exact HB.out))⟩)
       ·skip
        rintro ⟨v224, v230, v237⟩ w56 ⟨hS_, h0_, h1_, h2_, h3_, h4_, h5_, h6_, h7_, h8_, h9_, h10_⟩
        have n0_ : Aside0 (Kd.R k44 44 w56 w.heap.size (fun k_ => some k_ ≠ (v230 : Value).ownBlock ∧ some k_ ≠ (.slice Ao45 x7_3.length co45 : Value).ownBlock ∧ some k_ ≠ (.slice Ao46 x8_3.length co46 : Value).ownBlock ∧ k_ ≠ gb221 ∧ k_ ≠ gb222) v224 y223) := ⟨h0_⟩
        have n1_ : Aside0 (Kd.R k44 44 w56 w.heap.size (fun k_ => some k_ ≠ (v224 : Value).ownBlock ∧ some k_ ≠ (.slice Ao45 x7_3.length co45 : Value).ownBlock ∧ some k_ ≠ (.slice Ao46 x8_3.length co46 : Value).ownBlock ∧ k_ ≠ gb221 ∧ k_ ≠ gb222) v230 y229) := ⟨h1_⟩
        have n2_ : Aside0 (Kd.R (Kd.int .i64) 3 w56 w.heap.size (fun k_ => some k_ ≠ (.slice Ao47 x9_3.length co47 : Value).ownBlock) v237 y236) := ⟨h2_⟩
        have n3_ : Aside0 (Kd.R k44 44 w56 w.heap.size (fun k_ => some k_ ≠ (v224 : Value).ownBlock ∧ some k_ ≠ (v230 : Value).ownBlock ∧ some k_ ≠ (.slice Ao46 x8_3.length co46 : Value).ownBlock ∧ k_ ≠ gb221 ∧ k_ ≠ gb222) (.slice Ao45 x7_3.length co45) x7_3) := ⟨h3_⟩
        have n4_ : Aside0 (Kd.R k44 44 w56 w.heap.size (fun k_ => some k_ ≠ (v224 : Value).ownBlock ∧ some k_ ≠ (v230 : Value).ownBlock ∧ some k_ ≠ (.slice Ao45 x7_3.length co45 : Value).ownBlock ∧ k_ ≠ gb221 ∧ k_ ≠ gb222) (.slice Ao46 x8_3.length co46) x8_3) := ⟨h4_⟩
        have n5_ : Aside0 (Kd.R (Kd.int .i64) 3 w56 w.heap.size (fun k_ => some k_ ≠ (v237 : Value).ownBlock) (.slice Ao47 x9_3.length co47) x9_3) := ⟨h5_⟩
        have n6_ : Aside0 (w56.heap[gb209]? = some (.cells #[.string a0_0, .string a0_1, .int .i64 a0_2, .int .i64 a0_3, .int .i64 a0_4, .int .i64 a0_5, .int .i64 a0_6] 25 (0, 0))) := ⟨h6_⟩
        have n7_ : Aside0 (w56.heap[gb210]? = some (.cells #[.int .i64 a1_0, .slice A1_1 l1_1.length c1_1, .slice A1_2 l1_2.length c1_2, .slice A1_3 l1_3.length c1_3, .slice A1_4 l1_4.length c1_4, .slice (some ad235) l1_5.length c1_5] 71 (0, 0))) := ⟨h7_⟩
        have n8_ : Aside0 (w56.heap[gb221]? = some (.cells #[.int .i64 t213, .int .i64 t214, .int .i64 t215, .int .i64 t216] 44 (0, 0))) := ⟨h8_⟩
        have n9_ : Aside0 (w56.heap[gb222]? = some (.cells #[.int .i64 t217, .int .i64 t218, .int .i64 t219, .int .i64 t220] 44 (0, 0))) := ⟨h9_⟩
        have n10_ : Aside0 (Below w.heap.size w w56) := ⟨h10_⟩
        clear HO_7
        clear HO_8
        clear HO_9
        clear BK209
        clear BK210
        clear BK221
        clear BK222
        clear HB
        clear h0_ h1_ h2_ h3_ h4_ h5_ h6_ h7_ h8_ h9_ h10_
        have HO225 := n0_
        have HO231 := n1_
        have HO238 := n2_
        have HO_7 := n3_
        have HO_8 := n4_
        have HO_9 := n5_
        have BK209 := n6_
        have BK210 := n7_
        have BK221 := n8_
        have BK222 := n9_
        have HB := n10_
        clear n0_ n1_ n2_ n3_ n4_ n5_ n6_ n7_ n8_ n9_ n10_
        have hHeld : w56.cell? ⟨gb221, 0, none⟩ = some (.int .i64 t213) ∧ w56.cell? ⟨gb221, 1, none⟩ = some (.int .i64 t214) ∧ w56.cell? ⟨gb221, 2, none⟩ = some (.int .i64 t215) ∧ w56.cell? ⟨gb221, 3, none⟩ = some (.int .i64 t216) ∧ w56.cell? ⟨gb222, 0, none⟩ = some (.int .i64 t217) ∧ w56.cell? ⟨gb222, 1, none⟩ = some (.int .i64 t218) ∧ w56.cell? ⟨gb222, 2, none⟩ = some (.int .i64 t219) ∧ w56.cell? ⟨gb222, 3, none⟩ = some (.int .i64 t220) ∧ w56.cell? ⟨gb210, 0, none⟩ = some (.int .i64 a1_0) ∧ w56.cell? ⟨gb210, 1, none⟩ = some (.slice A1_1 l1_1.length c1_1) ∧ w56.cell? ⟨gb210, 2, none⟩ = some (.slice A1_2 l1_2.length c1_2) ∧ w56.cell? ⟨gb210, 3, none⟩ = some (.slice A1_3 l1_3.length c1_3) ∧ w56.cell? ⟨gb210, 4, none⟩ = some (.slice A1_4 l1_4.length c1_4) ∧ w56.cell? ⟨gb210, 5, none⟩ = some (.slice (some ad235) l1_5.length c1_5) ∧ w56.cell? ⟨gb209, 0, none⟩ = some (.string a0_0) ∧ w56.cell? ⟨gb209, 1, none⟩ = some (.string a0_1) ∧ w56.cell? ⟨gb209, 2, none⟩ = some (.int .i64 a0_2) ∧ w56.cell? ⟨gb209, 3, none⟩ = some (.int .i64 a0_3) ∧ w56.cell? ⟨gb209, 4, none⟩ = some (.int .i64 a0_4) ∧ w56.cell? ⟨gb209, 5, none⟩ = some (.int .i64 a0_5) ∧ w56.cell? ⟨gb209, 6, none⟩ = some (.int .i64 a0_6) ∧ w56.cell? (ad235.add (x46_3).toNat) = some (.int .u8 (rd l1_5 x46_3)) := hS_
        obtain ⟨Ao58, co58, eo58⟩ := Kd.R_slice HO225.out
        (first | subst eo58 | (injection eo58 with f1_ f2_ f3_; have f4_ := f1_.symm; have f5_ := f3_.symm; clear f1_ f2_ f3_; subst f4_; subst f5_))
        refine norm_ (a' := ?_) ?_ ?_
        rotate_left
        ·simp only [putAll, Act.put, List.setIfInBounds_toArray, List.set_cons_zero, List.set_cons_succ]
         rfl
        refine one_ (i := 3) (N := some 58) #[true, true, true, true, true, true, true, false, true, true, true, true, true, true, true, true, true, true, true, true, false, false, false, false] rfl rfl (one_of HT_.out (by kernel_rfl)) (by decide) (fun K hK => ?_)
        refine Kd.R_append_rows_step k44 (w0 := w) w.heap.size (by rfl) (.tmp 55) (.tmp 57) 49 44 (.agg #[(.int .i64 0), (.int .i64 0), (.int .i64 0), (.int .i64 0)]) 32 rfl Try.underlying49 info44 rfl (by decide) (by omega) (.slice Ao45 x7_3.length co45) x7_3 y223 _ _ _ (fun k_ => some k_ ≠ (.slice Ao46 x8_3.length co46 : Value).ownBlock ∧ some k_ ≠ (.slice Ao58 y223.length co58 : Value).ownBlock ∧ some k_ ≠ (v230 : Value).ownBlock ∧ k_ ≠ gb221 ∧ k_ ≠ gb222) (fun _ => False) rfl rfl ?aO ?aR (fun _ _ h => h) (fun _ h => h.elim) ?aF ?aB ?aS ?aL ?_
        (case aR => repeat (first | exact (Kd.R_reads' HO225.out).2.2 | (with_reducible refine Kd.C_alloc ?_ _) | (with_reducible refine Kd.C_drewN ?_ _) | (with_reducible refine Kd.C_drew ?_)))
        (case aB => exact (by repeat (first | (with_reducible first | exact HB.out | apply below_alloc | apply pw_below_drewN | apply below_drew1 | refine below_set ?_ GE209.out | refine below_set ?_ GE210.out | refine below_set ?_ GE221.out | refine below_set ?_ GE222.out) | exact HB.out)))
        (case aF => exact (fun k_ hk => ⟨Kd.fresh' (Kd.R_lt (zr HO_8.out)) k_ hk, Kd.fresh' (Kd.R_lt (zr HO225.out)) k_ hk, Kd.fresh' (Kd.R_lt (zr HO231.out)) k_ hk, Kd.freshB (g := gb221) (o := .cells #[.int .i64 t213, .int .i64 t214, .int .i64 t215, .int .i64 t216] 44 (0, 0)) (zk BK221.out) k_ hk, Kd.freshB (g := gb222) (o := .cells #[.int .i64 t217, .int .i64 t218, .int .i64 t219, .int .i64 t220] 44 (0, 0)) (zk BK222.out) k_ hk⟩))
        (case aO => exact (by (with_reducible repeat (first | apply Kd.R_alloc | apply Kd.R_drewN | apply Kd.R_drew)); exact Kd.R_mono HO_7.out (fun _ hk => ⟨hk.2.2.1, ⟨hk.1, ⟨hk.2.1, ⟨hk.2.2.2.1, hk.2.2.2.2⟩⟩⟩⟩)))
        (case aS => exact (below_size (by repeat (first | (with_reducible first | exact HB.out | apply below_alloc | apply pw_below_drewN | apply below_drew1 | refine below_set ?_ GE209.out | refine below_set ?_ GE210.out | refine below_set ?_ GE221.out | refine below_set ?_ GE222.out) | exact HB.out))))
        (case aL => have := LMc27.out; omega)
        intro v227 w57 ho hb hg hat
        rw [← Ny226.out] at ho
        have n0_ := Aside0.mk (Kd.R_after (ok := (fun k_ => some k_ ≠ (.slice Ao58 y223.length co58 : Value).ownBlock ∧ some k_ ≠ (v230 : Value).ownBlock ∧ k_ ≠ gb221 ∧ k_ ≠ gb222)) (by (with_reducible repeat (first | apply Kd.R_alloc | apply Kd.R_drewN | apply Kd.R_drew)); exact Kd.R_mono HO_8.out (fun _ hk => ⟨⟨hk.1, ⟨hk.2.1, ⟨hk.2.2.2.1, hk.2.2.2.2⟩⟩⟩, hk.2.2.1⟩)) hg hat)
        have n1_ := Aside0.mk (Kd.R_over' (zr HO_9.out) (Kd.R_typed (zr HO_7.out)) (by decide) hg)
        have n2_ := Aside0.mk (blk_grown (g := gb209) (o := .cells #[.string a0_0, .string a0_1, .int .i64 a0_2, .int .i64 a0_3, .int .i64 a0_4, .int .i64 a0_5, .int .i64 a0_6] 25 (0, 0)) (zk BK209.out) hg (Kd.R_ne HO_7.out BK209.out (by decide)))
        have n3_ := Aside0.mk (blk_grown (g := gb210) (o := .cells #[.int .i64 a1_0, .slice A1_1 l1_1.length c1_1, .slice A1_2 l1_2.length c1_2, .slice A1_3 l1_3.length c1_3, .slice A1_4 l1_4.length c1_4, .slice (some ad235) l1_5.length c1_5] 71 (0, 0)) (zk BK210.out) hg (Kd.R_ne HO_7.out BK210.out (by decide)))
        have n4_ := Aside0.mk (blk_grown (g := gb221) (o := .cells #[.int .i64 t213, .int .i64 t214, .int .i64 t215, .int .i64 t216] 44 (0, 0)) (zk BK221.out) hg (Kd.R_away HO_7.out (fun _ hk => hk.2.2.2.1)))
        have n5_ := Aside0.mk (blk_grown (g := gb222) (o := .cells #[.int .i64 t217, .int .i64 t218, .int .i64 t219, .int .i64 t220] 44 (0, 0)) (zk BK222.out) hg (Kd.R_away HO_7.out (fun _ hk => hk.2.2.2.2)))
        have n6_ := Aside0.mk (Kd.R_after (ok := (fun k_ => some k_ ≠ (.slice Ao46 x8_3.length co46 : Value).ownBlock ∧ some k_ ≠ (v230 : Value).ownBlock ∧ k_ ≠ gb221 ∧ k_ ≠ gb222)) (by (with_reducible repeat (first | apply Kd.R_alloc | apply Kd.R_drewN | apply Kd.R_drew)); exact Kd.R_mono HO225.out (fun _ hk => ⟨⟨hk.2.2.1, ⟨hk.1, ⟨hk.2.2.2.1, hk.2.2.2.2⟩⟩⟩, hk.2.1⟩)) hg hat)
        have n7_ := Aside0.mk (Kd.R_after (ok := (fun k_ => some k_ ≠ (.slice Ao46 x8_3.length co46 : Value).ownBlock ∧ some k_ ≠ (.slice Ao58 y223.length co58 : Value).ownBlock ∧ k_ ≠ gb221 ∧ k_ ≠ gb222)) (by (with_reducible repeat (first | apply Kd.R_alloc | apply Kd.R_drewN | apply Kd.R_drew)); exact Kd.R_mono HO231.out (fun _ hk => ⟨⟨hk.2.2.1, ⟨hk.1, ⟨hk.2.2.2.1, hk.2.2.2.2⟩⟩⟩, hk.2.1⟩)) hg hat)
        have n8_ := Aside0.mk (Kd.R_over' (zr HO238.out) (Kd.R_typed (zr HO_7.out)) (by decide) hg)
        have n9_ := Aside0.mk (hb)
        have n10_ := Aside0.mk (ho)
        clear HO_8
        clear HO_9
        clear BK209
        clear BK210
        clear BK221
        clear BK222
        clear HO225
        clear HO231
        clear HO238
        clear HB
        clear HO_7
        have HO_8 := n0_
        have HO_9 := n1_
        have BK209 := n2_
        have BK210 := n3_
        have BK221 := n4_
        have BK222 := n5_
        have HO225 := n6_
        have HO231 := n7_
        have HO238 := n8_
        have HB := n9_
        have HO228 := n10_
        clear n0_ n1_ n2_ n3_ n4_ n5_ n6_ n7_ n8_ n9_ n10_
        clear ho hb hg hat
        refine hK.out _ _ ⟨(blk_cell BK221.out 0).trans rfl, (blk_cell BK221.out 1).trans rfl, (blk_cell BK221.out 2).trans rfl, (blk_cell BK221.out 3).trans rfl, (blk_cell BK222.out 0).trans rfl, (blk_cell BK222.out 1).trans rfl, (blk_cell BK222.out 2).trans rfl, (blk_cell BK222.out 3).trans rfl, (blk_cell BK210.out 0).trans rfl, (blk_cell BK210.out 1).trans rfl, (blk_cell BK210.out 2).trans rfl, (blk_cell BK210.out 3).trans rfl, (blk_cell BK210.out 4).trans rfl, (blk_cell BK210.out 5).trans rfl, (blk_cell BK209.out 0).trans rfl, (blk_cell BK209.out 1).trans rfl, (blk_cell BK209.out 2).trans rfl, (blk_cell BK209.out 3).trans rfl, (blk_cell BK209.out 4).trans rfl, (blk_cell BK209.out 5).trans rfl, (blk_cell BK209.out 6).trans rfl, ((HB.out.cell (World.block_lt_of_cell? w _ hw235_0)).trans hw235_0)⟩ (fun hHeld => ?_)
        clear hK K
        refine norm_ (a' := ?_) ?_ ?_
        rotate_left
        ·show Act.put _ (some 58) _ = _
         simp only [Act.put, List.setIfInBounds_toArray, List.set_cons_zero, List.set_cons_succ, i64_w, i32_w]
         rfl
        exact norm_ (by first | (simp only [putAll, Act.put, List.setIfInBounds_toArray, List.set_cons_zero, List.set_cons_succ]; done) | (simp only [putAll, Act.put, List.setIfInBounds_toArray, List.set_cons_zero, List.set_cons_succ]; rfl)) (hJ2_3_6_19 (.slice Ao58 y223.length co58, v227, v230, v237) _ ⟨hHeld, (by (with_reducible repeat (first | apply Kd.R_alloc | apply Kd.R_drewN | apply Kd.R_drew)); exact Kd.R_mono HO225.out (fun _ hk => ⟨hk.2, ⟨hk.1.2.1, ⟨hk.1.1, ⟨hk.1.2.2.1, hk.1.2.2.2⟩⟩⟩⟩)), (by (with_reducible repeat (first | apply Kd.R_alloc | apply Kd.R_drewN | apply Kd.R_drew)); exact Kd.R_mono HO228.out (fun _ hk => ⟨hk.2.1, ⟨hk.2.2.1, ⟨hk.1, ⟨hk.2.2.2.1, hk.2.2.2.2⟩⟩⟩⟩)), (by (with_reducible repeat (first | apply Kd.R_alloc | apply Kd.R_drewN | apply Kd.R_drew)); exact Kd.R_mono HO231.out (fun _ hk => ⟨hk.1.2.1, ⟨hk.2, ⟨hk.1.1, ⟨hk.1.2.2.1, hk.1.2.2.2⟩⟩⟩⟩)), (zr HO238.out), (by (with_reducible repeat (first | apply Kd.R_alloc | apply Kd.R_drewN | apply Kd.R_drew)); exact Kd.R_mono HO_8.out (fun _ hk => ⟨hk.1.1, ⟨hk.2, ⟨hk.1.2.1, ⟨hk.1.2.2.1, hk.1.2.2.2⟩⟩⟩⟩)), (zr HO_9.out), (zk BK209.out), (zk BK210.out), (zk BK221.out), (zk BK222.out), (by repeat (first | (with_reducible first | exact HB.out | apply below_alloc | apply pw_below_drewN | apply below_drew1 | refine below_set ?_ GE209.out | refine below_set ?_ GE210.out | refine below_set ?_ GE221.out | refine below_set ?_ GE222.out) | exact HB.out))⟩)
      ·skip
       rintro ⟨v224, v227, v237⟩ w56 ⟨hS_, h0_, h1_, h2_, h3_, h4_, h5_, h6_, h7_, h8_, h9_⟩
       have n0_ : Aside0 (Kd.R k44 44 w56 w.heap.size (fun k_ => some k_ ≠ (v227 : Value).ownBlock ∧ some k_ ≠ (.slice Ao46 x8_3.length co46 : Value).ownBlock ∧ k_ ≠ gb221 ∧ k_ ≠ gb222) v224 y223) := ⟨h0_⟩
       have n1_ : Aside0 (Kd.R k44 44 w56 w.heap.size (fun k_ => some k_ ≠ (v224 : Value).ownBlock ∧ some k_ ≠ (.slice Ao46 x8_3.length co46 : Value).ownBlock ∧ k_ ≠ gb221 ∧ k_ ≠ gb222) v227 y226) := ⟨h1_⟩
       have n2_ : Aside0 (Kd.R (Kd.int .i64) 3 w56 w.heap.size (fun k_ => some k_ ≠ (.slice Ao47 x9_3.length co47 : Value).ownBlock) v237 y236) := ⟨h2_⟩
       have n3_ : Aside0 (Kd.R k44 44 w56 w.heap.size (fun k_ => some k_ ≠ (v224 : Value).ownBlock ∧ some k_ ≠ (v227 : Value).ownBlock ∧ k_ ≠ gb221 ∧ k_ ≠ gb222) (.slice Ao46 x8_3.length co46) x8_3) := ⟨h3_⟩
       have n4_ : Aside0 (Kd.R (Kd.int .i64) 3 w56 w.heap.size (fun k_ => some k_ ≠ (v237 : Value).ownBlock) (.slice Ao47 x9_3.length co47) x9_3) := ⟨h4_⟩
       have n5_ : Aside0 (w56.heap[gb209]? = some (.cells #[.string a0_0, .string a0_1, .int .i64 a0_2, .int .i64 a0_3, .int .i64 a0_4, .int .i64 a0_5, .int .i64 a0_6] 25 (0, 0))) := ⟨h5_⟩
       have n6_ : Aside0 (w56.heap[gb210]? = some (.cells #[.int .i64 a1_0, .slice A1_1 l1_1.length c1_1, .slice A1_2 l1_2.length c1_2, .slice A1_3 l1_3.length c1_3, .slice A1_4 l1_4.length c1_4, .slice (some ad235) l1_5.length c1_5] 71 (0, 0))) := ⟨h6_⟩
       have n7_ : Aside0 (w56.heap[gb221]? = some (.cells #[.int .i64 t213, .int .i64 t214, .int .i64 t215, .int .i64 t216] 44 (0, 0))) := ⟨h7_⟩
       have n8_ : Aside0 (w56.heap[gb222]? = some (.cells #[.int .i64 t217, .int .i64 t218, .int .i64 t219, .int .i64 t220] 44 (0, 0))) := ⟨h8_⟩
       have n9_ : Aside0 (Below w.heap.size w w56) := ⟨h9_⟩
       clear HO_7
       clear HO_8
       clear HO_9
       clear BK209
       clear BK210
       clear BK221
       clear BK222
       clear HB
       clear h0_ h1_ h2_ h3_ h4_ h5_ h6_ h7_ h8_ h9_
       have HO225 := n0_
       have HO228 := n1_
       have HO238 := n2_
       have HO_8 := n3_
       have HO_9 := n4_
       have BK209 := n5_
       have BK210 := n6_
       have BK221 := n7_
       have BK222 := n8_
       have HB := n9_
       clear n0_ n1_ n2_ n3_ n4_ n5_ n6_ n7_ n8_ n9_
       have hHeld : w56.cell? ⟨gb221, 0, none⟩ = some (.int .i64 t213) ∧ w56.cell? ⟨gb221, 1, none⟩ = some (.int .i64 t214) ∧ w56.cell? ⟨gb221, 2, none⟩ = some (.int .i64 t215) ∧ w56.cell? ⟨gb221, 3, none⟩ = some (.int .i64 t216) ∧ w56.cell? ⟨gb222, 0, none⟩ = some (.int .i64 t217) ∧ w56.cell? ⟨gb222, 1, none⟩ = some (.int .i64 t218) ∧ w56.cell? ⟨gb222, 2, none⟩ = some (.int .i64 t219) ∧ w56.cell? ⟨gb222, 3, none⟩ = some (.int .i64 t220) ∧ w56.cell? ⟨gb210, 0, none⟩ = some (.int .i64 a1_0) ∧ w56.cell? ⟨gb210, 1, none⟩ = some (.slice A1_1 l1_1.length c1_1) ∧ w56.cell? ⟨gb210, 2, none⟩ = some (.slice A1_2 l1_2.length c1_2) ∧ w56.cell? ⟨gb210, 3, none⟩ = some (.slice A1_3 l1_3.length c1_3) ∧ w56.cell? ⟨gb210, 4, none⟩ = some (.slice A1_4 l1_4.length c1_4) ∧ w56.cell? ⟨gb210, 5, none⟩ = some (.slice (some ad235) l1_5.length c1_5) ∧ w56.cell? ⟨gb209, 0, none⟩ = some (.string a0_0) ∧ w56.cell? ⟨gb209, 1, none⟩ = some (.string a0_1) ∧ w56.cell? ⟨gb209, 2, none⟩ = some (.int .i64 a0_2) ∧ w56.cell? ⟨gb209, 3, none⟩ = some (.int .i64 a0_3) ∧ w56.cell? ⟨gb209, 4, none⟩ = some (.int .i64 a0_4) ∧ w56.cell? ⟨gb209, 5, none⟩ = some (.int .i64 a0_5) ∧ w56.cell? ⟨gb209, 6, none⟩ = some (.int .i64 a0_6) ∧ w56.cell? (ad235.add (x46_3).toNat) = some (.int .u8 (rd l1_5 x46_3)) := hS_
       refine norm_ (a' := ?_) ?_ ?_
       rotate_left
       ·simp only [putAll, Act.put, List.setIfInBounds_toArray, List.set_cons_zero, List.set_cons_succ]
        rfl
       refine one_ (i := 6) (N := some 61) #[true, true, true, true, true, true, true, false, true, true, true, true, true, true, true, true, true, true, true, true, false, false, false, false] rfl rfl (one_of HT_.out (by kernel_rfl)) (by decide) (fun K hK => ?_)
       refine Kd.R_lit_step k44 _ 44 ?hg (N := 61) ?hd (xs := ([(⟨(⟨t217, t218⟩ : S27), (⟨t219, t220⟩ : S27)⟩ : S44)] : List (S44))) (inner := [.int .i64 t217, .int .i64 t218, .int .i64 t219, .int .i64 t220]) (ok := fun _ => True) (okp := fun _ => True) ?hr ?hp (fun _ hk => hk) trivial (Below.refl _ _) (Nat.le_refl _) (by simp) ?_; (case hd => rfl); (case hg => rfl); (case hr => first | (go_simp; done) | (go_simp; rfl)); (case hp => exact (Reps.c4 (show Kd.M k44 _ _ _ (⟨(⟨t217, t218⟩ : S27), (⟨t219, t220⟩ : S27)⟩ : S44) [.int .i64 t217, .int .i64 t218, .int .i64 t219, .int .i64 t220] from (k44_mkM _ _ _ (⟨(⟨t217, t218⟩ : S27), (⟨t219, t220⟩ : S27)⟩ : S44) )) (Reps.none _ _)))
       intro v230 w57 ho58 hb hg_ hnew_
       clear hg_ hnew_
       (first | rw [← Ny229.out] at ho58 | (simp only [Int.reduceToNat] at ho58; rw [← Ny229.out] at ho58))
       have n0_ := Aside0.mk (Kd.R_elder' (zr HO_8.out) (Kd.R_base ho58) hb)
       have n1_ := Aside0.mk (Kd.R_below (zr HO_9.out) hb)
       have n2_ := Aside0.mk (Kd.R_elder' (zr HO225.out) (Kd.R_base ho58) hb)
       have n3_ := Aside0.mk (Kd.R_elder' (zr HO228.out) (Kd.R_base ho58) hb)
       have n4_ := Aside0.mk (Kd.R_below (zr HO238.out) hb)
       have n5_ := Aside0.mk (Kd.R_lower (Kd.R_newB (Kd.R_newB (Kd.R_new' (Kd.R_new' (Kd.R_new' ho58 (Kd.R_lt (zr HO_8.out))) (Kd.R_lt (zr HO225.out))) (Kd.R_lt (zr HO228.out))) (g := gb221) (o := .cells #[.int .i64 t213, .int .i64 t214, .int .i64 t215, .int .i64 t216] 44 (0, 0)) (zk BK221.out)) (g := gb222) (o := .cells #[.int .i64 t217, .int .i64 t218, .int .i64 t219, .int .i64 t220] 44 (0, 0)) (zk BK222.out)) (below_size (by repeat (first | (with_reducible first | exact HB.out | apply below_alloc | apply pw_below_drewN | apply below_drew1 | refine below_set ?_ GE209.out | refine below_set ?_ GE210.out | refine below_set ?_ GE221.out | refine below_set ?_ GE222.out) | exact HB.out))))
       have n6_ := Aside0.mk (zb BK209.out hb)
       have n7_ := Aside0.mk (zb BK210.out hb)
       have n8_ := Aside0.mk (zb BK221.out hb)
       have n9_ := Aside0.mk (zb BK222.out hb)
       have n10_ := Aside0.mk (below_step (by repeat (first | (with_reducible first | exact HB.out | apply below_alloc | apply pw_below_drewN | apply below_drew1 | refine below_set ?_ GE209.out | refine below_set ?_ GE210.out | refine below_set ?_ GE221.out | refine below_set ?_ GE222.out) | exact HB.out)) hb)
       clear HO_8
       clear HO_9
       clear HO225
       clear HO228
       clear HO238
       clear BK209
       clear BK210
       clear BK221
       clear BK222
       clear HB
       have HO_8 := n0_
       have HO_9 := n1_
       have HO225 := n2_
       have HO228 := n3_
       have HO238 := n4_
       have HO231 := n5_
       have BK209 := n6_
       have BK210 := n7_
       have BK221 := n8_
       have BK222 := n9_
       have HB := n10_
       clear n0_ n1_ n2_ n3_ n4_ n5_ n6_ n7_ n8_ n9_ n10_
       clear hb ho58
       refine hK.out _ _ ⟨(blk_cell BK221.out 0).trans rfl, (blk_cell BK221.out 1).trans rfl, (blk_cell BK221.out 2).trans rfl, (blk_cell BK221.out 3).trans rfl, (blk_cell BK222.out 0).trans rfl, (blk_cell BK222.out 1).trans rfl, (blk_cell BK222.out 2).trans rfl, (blk_cell BK222.out 3).trans rfl, (blk_cell BK210.out 0).trans rfl, (blk_cell BK210.out 1).trans rfl, (blk_cell BK210.out 2).trans rfl, (blk_cell BK210.out 3).trans rfl, (blk_cell BK210.out 4).trans rfl, (blk_cell BK210.out 5).trans rfl, (blk_cell BK209.out 0).trans rfl, (blk_cell BK209.out 1).trans rfl, (blk_cell BK209.out 2).trans rfl, (blk_cell BK209.out 3).trans rfl, (blk_cell BK209.out 4).trans rfl, (blk_cell BK209.out 5).trans rfl, (blk_cell BK209.out 6).trans rfl, ((HB.out.cell (World.block_lt_of_cell? w _ hw235_0)).trans hw235_0)⟩ (fun hHeld => ?_)
       clear hK K
       refine norm_ (a' := ?_) ?_ ?_
       rotate_left
       ·show Act.put _ (some 61) _ = _
        simp only [Act.put, List.setIfInBounds_toArray, List.set_cons_zero, List.set_cons_succ, i64_w, i32_w]
        rfl
       exact norm_ (by first | (simp only [putAll, Act.put, List.setIfInBounds_toArray, List.set_cons_zero, List.set_cons_succ]; done) | (simp only [putAll, Act.put, List.setIfInBounds_toArray, List.set_cons_zero, List.set_cons_succ]; rfl)) (hJ2_3_6_19 (v224, v227, v230, v237) _ ⟨hHeld, (by (with_reducible repeat (first | apply Kd.R_alloc | apply Kd.R_drewN | apply Kd.R_drew)); exact Kd.R_mono HO225.out (fun _ hk => ⟨hk.1.1, ⟨hk.2, ⟨hk.1.2.1, ⟨hk.1.2.2.1, hk.1.2.2.2⟩⟩⟩⟩)), (by (with_reducible repeat (first | apply Kd.R_alloc | apply Kd.R_drewN | apply Kd.R_drew)); exact Kd.R_mono HO228.out (fun _ hk => ⟨hk.1.1, ⟨hk.2, ⟨hk.1.2.1, ⟨hk.1.2.2.1, hk.1.2.2.2⟩⟩⟩⟩)), (by (with_reducible repeat (first | apply Kd.R_alloc | apply Kd.R_drewN | apply Kd.R_drew)); exact Kd.R_mono HO231.out (fun _ hk => ⟨hk.1.1.1.2, ⟨hk.1.1.2, ⟨hk.1.1.1.1.2, ⟨hk.1.2, hk.2⟩⟩⟩⟩)), (zr HO238.out), (by (with_reducible repeat (first | apply Kd.R_alloc | apply Kd.R_drewN | apply Kd.R_drew)); exact Kd.R_mono HO_8.out (fun _ hk => ⟨hk.1.1, ⟨hk.1.2.1, ⟨hk.2, ⟨hk.1.2.2.1, hk.1.2.2.2⟩⟩⟩⟩)), (zr HO_9.out), (zk BK209.out), (zk BK210.out), (zk BK221.out), (zk BK222.out), (by repeat (first | (with_reducible first | exact HB.out | apply below_alloc | apply pw_below_drewN | apply below_drew1 | refine below_set ?_ GE209.out | refine below_set ?_ GE210.out | refine below_set ?_ GE221.out | refine below_set ?_ GE222.out) | exact HB.out))⟩)
     ·skip
      rintro ⟨v224, v227, v230⟩ w56 ⟨hS_, h0_, h1_, h2_, h3_, h4_, h5_, h6_, h7_, h8_, h9_⟩
      have n0_ : Aside0 (Kd.R k44 44 w56 w.heap.size (fun k_ => some k_ ≠ (v227 : Value).ownBlock ∧ some k_ ≠ (v230 : Value).ownBlock ∧ some k_ ≠ (.slice Ao46 x8_3.length co46 : Value).ownBlock ∧ k_ ≠ gb221 ∧ k_ ≠ gb222) v224 y223) := ⟨h0_⟩
      have n1_ : Aside0 (Kd.R k44 44 w56 w.heap.size (fun k_ => some k_ ≠ (v224 : Value).ownBlock ∧ some k_ ≠ (v230 : Value).ownBlock ∧ some k_ ≠ (.slice Ao46 x8_3.length co46 : Value).ownBlock ∧ k_ ≠ gb221 ∧ k_ ≠ gb222) v227 y226) := ⟨h1_⟩
      have n2_ : Aside0 (Kd.R k44 44 w56 w.heap.size (fun k_ => some k_ ≠ (v224 : Value).ownBlock ∧ some k_ ≠ (v227 : Value).ownBlock ∧ some k_ ≠ (.slice Ao46 x8_3.length co46 : Value).ownBlock ∧ k_ ≠ gb221 ∧ k_ ≠ gb222) v230 y229) := ⟨h2_⟩
      have n3_ : Aside0 (Kd.R k44 44 w56 w.heap.size (fun k_ => some k_ ≠ (v224 : Value).ownBlock ∧ some k_ ≠ (v227 : Value).ownBlock ∧ some k_ ≠ (v230 : Value).ownBlock ∧ k_ ≠ gb221 ∧ k_ ≠ gb222) (.slice Ao46 x8_3.length co46) x8_3) := ⟨h3_⟩
      have n4_ : Aside0 (Kd.R (Kd.int .i64) 3 w56 w.heap.size (fun _ => True) (.slice Ao47 x9_3.length co47) x9_3) := ⟨h4_⟩
      have n5_ : Aside0 (w56.heap[gb209]? = some (.cells #[.string a0_0, .string a0_1, .int .i64 a0_2, .int .i64 a0_3, .int .i64 a0_4, .int .i64 a0_5, .int .i64 a0_6] 25 (0, 0))) := ⟨h5_⟩
      have n6_ : Aside0 (w56.heap[gb210]? = some (.cells #[.int .i64 a1_0, .slice A1_1 l1_1.length c1_1, .slice A1_2 l1_2.length c1_2, .slice A1_3 l1_3.length c1_3, .slice A1_4 l1_4.length c1_4, .slice (some ad235) l1_5.length c1_5] 71 (0, 0))) := ⟨h6_⟩
      have n7_ : Aside0 (w56.heap[gb221]? = some (.cells #[.int .i64 t213, .int .i64 t214, .int .i64 t215, .int .i64 t216] 44 (0, 0))) := ⟨h7_⟩
      have n8_ : Aside0 (w56.heap[gb222]? = some (.cells #[.int .i64 t217, .int .i64 t218, .int .i64 t219, .int .i64 t220] 44 (0, 0))) := ⟨h8_⟩
      have n9_ : Aside0 (Below w.heap.size w w56) := ⟨h9_⟩
      clear HO_7
      clear HO_8
      clear HO_9
      clear BK209
      clear BK210
      clear BK221
      clear BK222
      clear HB
      clear h0_ h1_ h2_ h3_ h4_ h5_ h6_ h7_ h8_ h9_
      have HO225 := n0_
      have HO228 := n1_
      have HO231 := n2_
      have HO_8 := n3_
      have HO_9 := n4_
      have BK209 := n5_
      have BK210 := n6_
      have BK221 := n7_
      have BK222 := n8_
      have HB := n9_
      clear n0_ n1_ n2_ n3_ n4_ n5_ n6_ n7_ n8_ n9_
      have hHeld : w56.cell? ⟨gb221, 0, none⟩ = some (.int .i64 t213) ∧ w56.cell? ⟨gb221, 1, none⟩ = some (.int .i64 t214) ∧ w56.cell? ⟨gb221, 2, none⟩ = some (.int .i64 t215) ∧ w56.cell? ⟨gb221, 3, none⟩ = some (.int .i64 t216) ∧ w56.cell? ⟨gb222, 0, none⟩ = some (.int .i64 t217) ∧ w56.cell? ⟨gb222, 1, none⟩ = some (.int .i64 t218) ∧ w56.cell? ⟨gb222, 2, none⟩ = some (.int .i64 t219) ∧ w56.cell? ⟨gb222, 3, none⟩ = some (.int .i64 t220) ∧ w56.cell? ⟨gb210, 0, none⟩ = some (.int .i64 a1_0) ∧ w56.cell? ⟨gb210, 1, none⟩ = some (.slice A1_1 l1_1.length c1_1) ∧ w56.cell? ⟨gb210, 2, none⟩ = some (.slice A1_2 l1_2.length c1_2) ∧ w56.cell? ⟨gb210, 3, none⟩ = some (.slice A1_3 l1_3.length c1_3) ∧ w56.cell? ⟨gb210, 4, none⟩ = some (.slice A1_4 l1_4.length c1_4) ∧ w56.cell? ⟨gb210, 5, none⟩ = some (.slice (some ad235) l1_5.length c1_5) ∧ w56.cell? ⟨gb209, 0, none⟩ = some (.string a0_0) ∧ w56.cell? ⟨gb209, 1, none⟩ = some (.string a0_1) ∧ w56.cell? ⟨gb209, 2, none⟩ = some (.int .i64 a0_2) ∧ w56.cell? ⟨gb209, 3, none⟩ = some (.int .i64 a0_3) ∧ w56.cell? ⟨gb209, 4, none⟩ = some (.int .i64 a0_4) ∧ w56.cell? ⟨gb209, 5, none⟩ = some (.int .i64 a0_5) ∧ w56.cell? ⟨gb209, 6, none⟩ = some (.int .i64 a0_6) ∧ w56.cell? (ad235.add (x46_3).toNat) = some (.int .u8 (rd l1_5 x46_3)) := hS_
      obtain ⟨Ao58, co58, eo58⟩ := Kd.R_slice HO231.out
      (first | subst eo58 | (injection eo58 with f1_ f2_ f3_; have f4_ := f1_.symm; have f5_ := f3_.symm; clear f1_ f2_ f3_; subst f4_; subst f5_))
      refine norm_ (a' := ?_) ?_ ?_
      rotate_left
      ·simp only [putAll, Act.put, List.setIfInBounds_toArray, List.set_cons_zero, List.set_cons_succ]
       rfl
      refine two_ (i := 7) (j := 19) (Ni := some 62) (Nj := some 74) #[true, true, true, true, true, true, true, true, true, true, true, true, true, true, true, true, true, true, true, false, false, false, false, false] #[true, true, true, true, true, true, true, false, true, true, true, true, true, true, true, true, true, true, true, true, false, false, false, false] rfl rfl rfl rfl (two_of HT_.out (by kernel_rfl)) (by decide) (by decide) (fun K hK => ?_) (fun K hK => ?_)
      ·skip
       refine Kd.R_append_rows_step k44 (w0 := w) w.heap.size (by rfl) (.tmp 59) (.tmp 61) 49 44 (.agg #[(.int .i64 0), (.int .i64 0), (.int .i64 0), (.int .i64 0)]) 32 rfl Try.underlying49 info44 rfl (by decide) (by omega) (.slice Ao46 x8_3.length co46) x8_3 y229 _ _ _ (fun k_ => some k_ ≠ (v224 : Value).ownBlock ∧ some k_ ≠ (v227 : Value).ownBlock ∧ some k_ ≠ (.slice Ao58 y229.length co58 : Value).ownBlock ∧ k_ ≠ gb221 ∧ k_ ≠ gb222) (fun _ => False) rfl rfl ?aO ?aR (fun _ _ h => h) (fun _ h => h.elim) ?aF ?aB ?aS ?aL ?_
       (case aR => repeat (first | exact (Kd.R_reads' HO231.out).2.2 | (with_reducible refine Kd.C_alloc ?_ _) | (with_reducible refine Kd.C_drewN ?_ _) | (with_reducible refine Kd.C_drew ?_)))
       (case aB => exact (by repeat (first | (with_reducible first | exact HB.out | apply below_alloc | apply pw_below_drewN | apply below_drew1 | refine below_set ?_ GE209.out | refine below_set ?_ GE210.out | refine below_set ?_ GE221.out | refine below_set ?_ GE222.out) | exact HB.out)))
       (case aF => exact (fun k_ hk => ⟨Kd.fresh' (Kd.R_lt (zr HO225.out)) k_ hk, Kd.fresh' (Kd.R_lt (zr HO228.out)) k_ hk, Kd.fresh' (Kd.R_lt (zr HO231.out)) k_ hk, Kd.freshB (g := gb221) (o := .cells #[.int .i64 t213, .int .i64 t214, .int .i64 t215, .int .i64 t216] 44 (0, 0)) (zk BK221.out) k_ hk, Kd.freshB (g := gb222) (o := .cells #[.int .i64 t217, .int .i64 t218, .int .i64 t219, .int .i64 t220] 44 (0, 0)) (zk BK222.out) k_ hk⟩))
       (case aO => exact (zr HO_8.out))
       (case aS => exact (below_size (by repeat (first | (with_reducible first | exact HB.out | apply below_alloc | apply pw_below_drewN | apply below_drew1 | refine below_set ?_ GE209.out | refine below_set ?_ GE210.out | refine below_set ?_ GE221.out | refine below_set ?_ GE222.out) | exact HB.out))))
       (case aL => have := LMc28.out; omega)
       intro v233 w57 ho hb hg hat
       rw [← Ny232.out] at ho
       have n0_ := Aside0.mk (Kd.R_over' (zr HO_9.out) (Kd.R_typed (zr HO_8.out)) (by decide) hg)
       have n1_ := Aside0.mk (blk_grown (g := gb209) (o := .cells #[.string a0_0, .string a0_1, .int .i64 a0_2, .int .i64 a0_3, .int .i64 a0_4, .int .i64 a0_5, .int .i64 a0_6] 25 (0, 0)) (zk BK209.out) hg (Kd.R_ne HO_8.out BK209.out (by decide)))
       have n2_ := Aside0.mk (blk_grown (g := gb210) (o := .cells #[.int .i64 a1_0, .slice A1_1 l1_1.length c1_1, .slice A1_2 l1_2.length c1_2, .slice A1_3 l1_3.length c1_3, .slice A1_4 l1_4.length c1_4, .slice (some ad235) l1_5.length c1_5] 71 (0, 0)) (zk BK210.out) hg (Kd.R_ne HO_8.out BK210.out (by decide)))
       have n3_ := Aside0.mk (blk_grown (g := gb221) (o := .cells #[.int .i64 t213, .int .i64 t214, .int .i64 t215, .int .i64 t216] 44 (0, 0)) (zk BK221.out) hg (Kd.R_away HO_8.out (fun _ hk => hk.2.2.2.1)))
       have n4_ := Aside0.mk (blk_grown (g := gb222) (o := .cells #[.int .i64 t217, .int .i64 t218, .int .i64 t219, .int .i64 t220] 44 (0, 0)) (zk BK222.out) hg (Kd.R_away HO_8.out (fun _ hk => hk.2.2.2.2)))
       have n5_ := Aside0.mk (Kd.R_after (ok := (fun k_ => some k_ ≠ (v227 : Value).ownBlock ∧ some k_ ≠ (.slice Ao58 y229.length co58 : Value).ownBlock ∧ k_ ≠ gb221 ∧ k_ ≠ gb222)) (by (with_reducible repeat (first | apply Kd.R_alloc | apply Kd.R_drewN | apply Kd.R_drew)); exact Kd.R_mono HO225.out (fun _ hk => ⟨⟨hk.1, ⟨hk.2.1, ⟨hk.2.2.2.1, hk.2.2.2.2⟩⟩⟩, hk.2.2.1⟩)) hg hat)
       have n6_ := Aside0.mk (Kd.R_after (ok := (fun k_ => some k_ ≠ (v224 : Value).ownBlock ∧ some k_ ≠ (.slice Ao58 y229.length co58 : Value).ownBlock ∧ k_ ≠ gb221 ∧ k_ ≠ gb222)) (by (with_reducible repeat (first | apply Kd.R_alloc | apply Kd.R_drewN | apply Kd.R_drew)); exact Kd.R_mono HO228.out (fun _ hk => ⟨⟨hk.1, ⟨hk.2.1, ⟨hk.2.2.2.1, hk.2.2.2.2⟩⟩⟩, hk.2.2.1⟩)) hg hat)
       have n7_ := Aside0.mk (Kd.R_after (ok := (fun k_ => some k_ ≠ (v224 : Value).ownBlock ∧ some k_ ≠ (v227 : Value).ownBlock ∧ k_ ≠ gb221 ∧ k_ ≠ gb222)) (by (with_reducible repeat (first | apply Kd.R_alloc | apply Kd.R_drewN | apply Kd.R_drew)); exact Kd.R_mono HO231.out (fun _ hk => ⟨⟨hk.1, ⟨hk.2.1, ⟨hk.2.2.2.1, hk.2.2.2.2⟩⟩⟩, hk.2.2.1⟩)) hg hat)
       have n8_ := Aside0.mk (hb)
       have n9_ := Aside0.mk (ho)
       clear HO_9
       clear BK209
       clear BK210
       clear BK221
       clear BK222
       clear HO225
       clear HO228
       clear HO231
       clear HB
       clear HO_8
       have HO_9 := n0_
       have BK209 := n1_
       have BK210 := n2_
       have BK221 := n3_
       have BK222 := n4_
       have HO225 := n5_
       have HO228 := n6_
       have HO231 := n7_
       have HB := n8_
       have HO234 := n9_
       clear n0_ n1_ n2_ n3_ n4_ n5_ n6_ n7_ n8_ n9_
       clear ho hb hg hat
       refine hK.out _ _ ⟨(blk_cell BK221.out 0).trans rfl, (blk_cell BK221.out 1).trans rfl, (blk_cell BK221.out 2).trans rfl, (blk_cell BK221.out 3).trans rfl, (blk_cell BK222.out 0).trans rfl, (blk_cell BK222.out 1).trans rfl, (blk_cell BK222.out 2).trans rfl, (blk_cell BK222.out 3).trans rfl, (blk_cell BK210.out 0).trans rfl, (blk_cell BK210.out 1).trans rfl, (blk_cell BK210.out 2).trans rfl, (blk_cell BK210.out 3).trans rfl, (blk_cell BK210.out 4).trans rfl, (blk_cell BK210.out 5).trans rfl, (blk_cell BK209.out 0).trans rfl, (blk_cell BK209.out 1).trans rfl, (blk_cell BK209.out 2).trans rfl, (blk_cell BK209.out 3).trans rfl, (blk_cell BK209.out 4).trans rfl, (blk_cell BK209.out 5).trans rfl, (blk_cell BK209.out 6).trans rfl, ((HB.out.cell (World.block_lt_of_cell? w _ hw235_0)).trans hw235_0)⟩ (fun hHeld => ?_)
       clear hK K
       refine norm_ (a' := ?_) ?_ ?_
       rotate_left
       ·show Act.put _ (some 62) _ = _
        simp only [Act.put, List.setIfInBounds_toArray, List.set_cons_zero, List.set_cons_succ, i64_w, i32_w]
        rfl
       exact norm_ (by first | (simp only [putAll, Act.put, List.setIfInBounds_toArray, List.set_cons_zero, List.set_cons_succ]; done) | (simp only [putAll, Act.put, List.setIfInBounds_toArray, List.set_cons_zero, List.set_cons_succ]; rfl)) (hJ2_3_6_7 (v224, v227, .slice Ao58 y229.length co58, v233) _ ⟨hHeld, (by (with_reducible repeat (first | apply Kd.R_alloc | apply Kd.R_drewN | apply Kd.R_drew)); exact Kd.R_mono HO225.out (fun _ hk => ⟨hk.1.1, ⟨hk.1.2.1, ⟨hk.2, ⟨hk.1.2.2.1, hk.1.2.2.2⟩⟩⟩⟩)), (by (with_reducible repeat (first | apply Kd.R_alloc | apply Kd.R_drewN | apply Kd.R_drew)); exact Kd.R_mono HO228.out (fun _ hk => ⟨hk.1.1, ⟨hk.1.2.1, ⟨hk.2, ⟨hk.1.2.2.1, hk.1.2.2.2⟩⟩⟩⟩)), (by (with_reducible repeat (first | apply Kd.R_alloc | apply Kd.R_drewN | apply Kd.R_drew)); exact Kd.R_mono HO231.out (fun _ hk => ⟨hk.1.1, ⟨hk.1.2.1, ⟨hk.2, ⟨hk.1.2.2.1, hk.1.2.2.2⟩⟩⟩⟩)), (zr HO234.out), (zr HO_9.out), (zk BK209.out), (zk BK210.out), (zk BK221.out), (zk BK222.out), (by repeat (first | (with_reducible first | exact HB.out | apply below_alloc | apply pw_below_drewN | apply below_drew1 | refine below_set ?_ GE209.out | refine below_set ?_ GE210.out | refine below_set ?_ GE221.out | refine below_set ?_ GE222.out) | exact HB.out))⟩)
      ·skip
       refine Kd.R_lit_step (Kd.int .i64) _ 3 ?hg (N := 74) ?hd (xs := ([Int.tmod (wrap64 (rd l1_5 x46_3)) (wrap64 (a0_6 + 1))] : List Int)) (inner := [.int .i64 (Int.tmod (wrap64 (rd l1_5 x46_3)) (wrap64 (a0_6 + 1)))]) (ok := fun _ => True) (okp := fun _ => True) ?hr ?hp (fun _ hk => hk) trivial (Below.refl _ _) (Nat.le_refl _) (by simp) ?_; (case hd => rfl); (case hg => rfl); (case hr => first | (go_simp; done) | (go_simp; rfl)); (case hp => exact (Reps.one (show Kd.M (Kd.int .i64) _ _ _ (Int.tmod (wrap64 (rd l1_5 x46_3)) (wrap64 (a0_6 + 1))) [.int .i64 (Int.tmod (wrap64 (rd l1_5 x46_3)) (wrap64 (a0_6 + 1)))] from rfl) (Reps.none _ _)))
       intro v237 w57 ho58 hb hg_ hnew_
       clear hg_ hnew_
       (first | rw [← Ny236.out] at ho58 | (simp only [Int.reduceToNat] at ho58; rw [← Ny236.out] at ho58))
       have n0_ := Aside0.mk (Kd.R_below (zr HO_8.out) hb)
       have n1_ := Aside0.mk (Kd.R_elder' (zr HO_9.out) (Kd.R_base ho58) hb)
       have n2_ := Aside0.mk (Kd.R_below (zr HO225.out) hb)
       have n3_ := Aside0.mk (Kd.R_below (zr HO228.out) hb)
       have n4_ := Aside0.mk (Kd.R_below (zr HO231.out) hb)
       have n5_ := Aside0.mk (Kd.R_lower (Kd.R_new' ho58 (Kd.R_lt (zr HO_9.out))) (below_size (by repeat (first | (with_reducible first | exact HB.out | apply below_alloc | apply pw_below_drewN | apply below_drew1 | refine below_set ?_ GE209.out | refine below_set ?_ GE210.out | refine below_set ?_ GE221.out | refine below_set ?_ GE222.out) | exact HB.out))))
       have n6_ := Aside0.mk (zb BK209.out hb)
       have n7_ := Aside0.mk (zb BK210.out hb)
       have n8_ := Aside0.mk (zb BK221.out hb)
       have n9_ := Aside0.mk (zb BK222.out hb)
       have n10_ := Aside0.mk (below_step (by repeat (first | (with_reducible first | exact HB.out | apply below_alloc | apply pw_below_drewN | apply below_drew1 | refine below_set ?_ GE209.out | refine below_set ?_ GE210.out | refine below_set ?_ GE221.out | refine below_set ?_ GE222.out) | exact HB.out)) hb)
       clear HO_8
       clear HO_9
       clear HO225
       clear HO228
       clear HO231
       clear BK209
       clear BK210
       clear BK221
       clear BK222
       clear HB
       have HO_8 := n0_
       have HO_9 := n1_
       have HO225 := n2_
       have HO228 := n3_
       have HO231 := n4_
       have HO238 := n5_
       have BK209 := n6_
       have BK210 := n7_
       have BK221 := n8_
       have BK222 := n9_
       have HB := n10_
       clear n0_ n1_ n2_ n3_ n4_ n5_ n6_ n7_ n8_ n9_ n10_
       clear hb ho58
       refine hK.out _ _ ⟨(blk_cell BK221.out 0).trans rfl, (blk_cell BK221.out 1).trans rfl, (blk_cell BK221.out 2).trans rfl, (blk_cell BK221.out 3).trans rfl, (blk_cell BK222.out 0).trans rfl, (blk_cell BK222.out 1).trans rfl, (blk_cell BK222.out 2).trans rfl, (blk_cell BK222.out 3).trans rfl, (blk_cell BK210.out 0).trans rfl, (blk_cell BK210.out 1).trans rfl, (blk_cell BK210.out 2).trans rfl, (blk_cell BK210.out 3).trans rfl, (blk_cell BK210.out 4).trans rfl, (blk_cell BK210.out 5).trans rfl, (blk_cell BK209.out 0).trans rfl, (blk_cell BK209.out 1).trans rfl, (blk_cell BK209.out 2).trans rfl, (blk_cell BK209.out 3).trans rfl, (blk_cell BK209.out 4).trans rfl, (blk_cell BK209.out 5).trans rfl, (blk_cell BK209.out 6).trans rfl, ((HB.out.cell (World.block_lt_of_cell? w _ hw235_0)).trans hw235_0)⟩ (fun hHeld => ?_)
       clear hK K
       refine norm_ (a' := ?_) ?_ ?_
       rotate_left
       ·show Act.put _ (some 74) _ = _
        simp only [Act.put, List.setIfInBounds_toArray, List.set_cons_zero, List.set_cons_succ, i64_w, i32_w]
        rfl
       exact norm_ (by first | (simp only [putAll, Act.put, List.setIfInBounds_toArray, List.set_cons_zero, List.set_cons_succ]; done) | (simp only [putAll, Act.put, List.setIfInBounds_toArray, List.set_cons_zero, List.set_cons_succ]; rfl)) (hJ2_3_6_19 (v224, v227, Value.slice Ao58 y229.length co58, v237) _ ⟨hHeld, (zr HO225.out), (zr HO228.out), (zr HO231.out), (by (with_reducible repeat (first | apply Kd.R_alloc | apply Kd.R_drewN | apply Kd.R_drew)); exact Kd.R_mono HO238.out (fun _ hk => hk.2)), (zr HO_8.out), (by (with_reducible repeat (first | apply Kd.R_alloc | apply Kd.R_drewN | apply Kd.R_drew)); exact Kd.R_mono HO_9.out (fun _ hk => hk.2)), (zk BK209.out), (zk BK210.out), (zk BK221.out), (zk BK222.out), (by repeat (first | (with_reducible first | exact HB.out | apply below_alloc | apply pw_below_drewN | apply below_drew1 | refine below_set ?_ GE209.out | refine below_set ?_ GE210.out | refine below_set ?_ GE221.out | refine below_set ?_ GE222.out) | exact HB.out))⟩)
    ·skip
     rintro ⟨v224, v227, v230, v237⟩ w58 ⟨hS_, h0_, h1_, h2_, h3_, h4_, h5_, h6_, h7_, h8_, h9_, h10_⟩
     have n0_ : Aside0 (Kd.R k44 44 w58 w.heap.size (fun k_ => some k_ ≠ (v227 : Value).ownBlock ∧ some k_ ≠ (v230 : Value).ownBlock ∧ some k_ ≠ (.slice Ao46 x8_3.length co46 : Value).ownBlock ∧ k_ ≠ gb221 ∧ k_ ≠ gb222) v224 y223) := ⟨h0_⟩
     have n1_ : Aside0 (Kd.R k44 44 w58 w.heap.size (fun k_ => some k_ ≠ (v224 : Value).ownBlock ∧ some k_ ≠ (v230 : Value).ownBlock ∧ some k_ ≠ (.slice Ao46 x8_3.length co46 : Value).ownBlock ∧ k_ ≠ gb221 ∧ k_ ≠ gb222) v227 y226) := ⟨h1_⟩
     have n2_ : Aside0 (Kd.R k44 44 w58 w.heap.size (fun k_ => some k_ ≠ (v224 : Value).ownBlock ∧ some k_ ≠ (v227 : Value).ownBlock ∧ some k_ ≠ (.slice Ao46 x8_3.length co46 : Value).ownBlock ∧ k_ ≠ gb221 ∧ k_ ≠ gb222) v230 y229) := ⟨h2_⟩
     have n3_ : Aside0 (Kd.R (Kd.int .i64) 3 w58 w.heap.size (fun k_ => some k_ ≠ (.slice Ao47 x9_3.length co47 : Value).ownBlock) v237 y236) := ⟨h3_⟩
     have n4_ : Aside0 (Kd.R k44 44 w58 w.heap.size (fun k_ => some k_ ≠ (v224 : Value).ownBlock ∧ some k_ ≠ (v227 : Value).ownBlock ∧ some k_ ≠ (v230 : Value).ownBlock ∧ k_ ≠ gb221 ∧ k_ ≠ gb222) (.slice Ao46 x8_3.length co46) x8_3) := ⟨h4_⟩
     have n5_ : Aside0 (Kd.R (Kd.int .i64) 3 w58 w.heap.size (fun k_ => some k_ ≠ (v237 : Value).ownBlock) (.slice Ao47 x9_3.length co47) x9_3) := ⟨h5_⟩
     have n6_ : Aside0 (w58.heap[gb209]? = some (.cells #[.string a0_0, .string a0_1, .int .i64 a0_2, .int .i64 a0_3, .int .i64 a0_4, .int .i64 a0_5, .int .i64 a0_6] 25 (0, 0))) := ⟨h6_⟩
     have n7_ : Aside0 (w58.heap[gb210]? = some (.cells #[.int .i64 a1_0, .slice A1_1 l1_1.length c1_1, .slice A1_2 l1_2.length c1_2, .slice A1_3 l1_3.length c1_3, .slice A1_4 l1_4.length c1_4, .slice (some ad235) l1_5.length c1_5] 71 (0, 0))) := ⟨h7_⟩
     have n8_ : Aside0 (w58.heap[gb221]? = some (.cells #[.int .i64 t213, .int .i64 t214, .int .i64 t215, .int .i64 t216] 44 (0, 0))) := ⟨h8_⟩
     have n9_ : Aside0 (w58.heap[gb222]? = some (.cells #[.int .i64 t217, .int .i64 t218, .int .i64 t219, .int .i64 t220] 44 (0, 0))) := ⟨h9_⟩
     have n10_ : Aside0 (Below w.heap.size w w58) := ⟨h10_⟩
     clear HO_7
     clear HO_8
     clear HO_9
     clear BK209
     clear BK210
     clear BK221
     clear BK222
     clear HB
     clear h0_ h1_ h2_ h3_ h4_ h5_ h6_ h7_ h8_ h9_ h10_
     have HO225 := n0_
     have HO228 := n1_
     have HO231 := n2_
     have HO238 := n3_
     have HO_8 := n4_
     have HO_9 := n5_
     have BK209 := n6_
     have BK210 := n7_
     have BK221 := n8_
     have BK222 := n9_
     have HB := n10_
     clear n0_ n1_ n2_ n3_ n4_ n5_ n6_ n7_ n8_ n9_ n10_
     have hHeld : w58.cell? ⟨gb221, 0, none⟩ = some (.int .i64 t213) ∧ w58.cell? ⟨gb221, 1, none⟩ = some (.int .i64 t214) ∧ w58.cell? ⟨gb221, 2, none⟩ = some (.int .i64 t215) ∧ w58.cell? ⟨gb221, 3, none⟩ = some (.int .i64 t216) ∧ w58.cell? ⟨gb222, 0, none⟩ = some (.int .i64 t217) ∧ w58.cell? ⟨gb222, 1, none⟩ = some (.int .i64 t218) ∧ w58.cell? ⟨gb222, 2, none⟩ = some (.int .i64 t219) ∧ w58.cell? ⟨gb222, 3, none⟩ = some (.int .i64 t220) ∧ w58.cell? ⟨gb210, 0, none⟩ = some (.int .i64 a1_0) ∧ w58.cell? ⟨gb210, 1, none⟩ = some (.slice A1_1 l1_1.length c1_1) ∧ w58.cell? ⟨gb210, 2, none⟩ = some (.slice A1_2 l1_2.length c1_2) ∧ w58.cell? ⟨gb210, 3, none⟩ = some (.slice A1_3 l1_3.length c1_3) ∧ w58.cell? ⟨gb210, 4, none⟩ = some (.slice A1_4 l1_4.length c1_4) ∧ w58.cell? ⟨gb210, 5, none⟩ = some (.slice (some ad235) l1_5.length c1_5) ∧ w58.cell? ⟨gb209, 0, none⟩ = some (.string a0_0) ∧ w58.cell? ⟨gb209, 1, none⟩ = some (.string a0_1) ∧ w58.cell? ⟨gb209, 2, none⟩ = some (.int .i64 a0_2) ∧ w58.cell? ⟨gb209, 3, none⟩ = some (.int .i64 a0_3) ∧ w58.cell? ⟨gb209, 4, none⟩ = some (.int .i64 a0_4) ∧ w58.cell? ⟨gb209, 5, none⟩ = some (.int .i64 a0_5) ∧ w58.cell? ⟨gb209, 6, none⟩ = some (.int .i64 a0_6) ∧ w58.cell? (ad235.add (x46_3).toNat) = some (.int .u8 (rd l1_5 x46_3)) := hS_
     obtain ⟨Ao60, co60, eo60⟩ := Kd.R_slice HO231.out
     (first | subst eo60 | (injection eo60 with f1_ f2_ f3_; have f4_ := f1_.symm; have f5_ := f3_.symm; clear f1_ f2_ f3_; subst f4_; subst f5_))
     refine norm_ (a' := ?_) ?_ ?_
     rotate_left
     ·simp only [putAll, Act.put, List.setIfInBounds_toArray, List.set_cons_zero, List.set_cons_succ]
      rfl
     refine one_ (i := 7) (N := some 62) #[true, true, true, true, true, true, true, true, true, true, true, true, true, true, true, true, true, true, true, true, false, false, false, false] rfl rfl (one_of HT_.out (by kernel_rfl)) (by decide) (fun K hK => ?_)
     refine Kd.R_append_rows_step k44 (w0 := w) w.heap.size (by rfl) (.tmp 59) (.tmp 61) 49 44 (.agg #[(.int .i64 0), (.int .i64 0), (.int .i64 0), (.int .i64 0)]) 32 rfl Try.underlying49 info44 rfl (by decide) (by omega) (.slice Ao46 x8_3.length co46) x8_3 y229 _ _ _ (fun k_ => some k_ ≠ (v224 : Value).ownBlock ∧ some k_ ≠ (v227 : Value).ownBlock ∧ some k_ ≠ (.slice Ao60 y229.length co60 : Value).ownBlock ∧ k_ ≠ gb221 ∧ k_ ≠ gb222) (fun _ => False) rfl rfl ?aO ?aR (fun _ _ h => h) (fun _ h => h.elim) ?aF ?aB ?aS ?aL ?_
     (case aR => repeat (first | exact (Kd.R_reads' HO231.out).2.2 | (with_reducible refine Kd.C_alloc ?_ _) | (with_reducible refine Kd.C_drewN ?_ _) | (with_reducible refine Kd.C_drew ?_)))
     (case aB => exact (by repeat (first | (with_reducible first | exact HB.out | apply below_alloc | apply pw_below_drewN | apply below_drew1 | refine below_set ?_ GE209.out | refine below_set ?_ GE210.out | refine below_set ?_ GE221.out | refine below_set ?_ GE222.out) | exact HB.out)))
     (case aF => exact (fun k_ hk => ⟨Kd.fresh' (Kd.R_lt (zr HO225.out)) k_ hk, Kd.fresh' (Kd.R_lt (zr HO228.out)) k_ hk, Kd.fresh' (Kd.R_lt (zr HO231.out)) k_ hk, Kd.freshB (g := gb221) (o := .cells #[.int .i64 t213, .int .i64 t214, .int .i64 t215, .int .i64 t216] 44 (0, 0)) (zk BK221.out) k_ hk, Kd.freshB (g := gb222) (o := .cells #[.int .i64 t217, .int .i64 t218, .int .i64 t219, .int .i64 t220] 44 (0, 0)) (zk BK222.out) k_ hk⟩))
     (case aO => exact (zr HO_8.out))
     (case aS => exact (below_size (by repeat (first | (with_reducible first | exact HB.out | apply below_alloc | apply pw_below_drewN | apply below_drew1 | refine below_set ?_ GE209.out | refine below_set ?_ GE210.out | refine below_set ?_ GE221.out | refine below_set ?_ GE222.out) | exact HB.out))))
     (case aL => have := LMc28.out; omega)
     intro v233 w59 ho hb hg hat
     rw [← Ny232.out] at ho
     have n0_ := Aside0.mk (Kd.R_over' (zr HO_9.out) (Kd.R_typed (zr HO_8.out)) (by decide) hg)
     have n1_ := Aside0.mk (blk_grown (g := gb209) (o := .cells #[.string a0_0, .string a0_1, .int .i64 a0_2, .int .i64 a0_3, .int .i64 a0_4, .int .i64 a0_5, .int .i64 a0_6] 25 (0, 0)) (zk BK209.out) hg (Kd.R_ne HO_8.out BK209.out (by decide)))
     have n2_ := Aside0.mk (blk_grown (g := gb210) (o := .cells #[.int .i64 a1_0, .slice A1_1 l1_1.length c1_1, .slice A1_2 l1_2.length c1_2, .slice A1_3 l1_3.length c1_3, .slice A1_4 l1_4.length c1_4, .slice (some ad235) l1_5.length c1_5] 71 (0, 0)) (zk BK210.out) hg (Kd.R_ne HO_8.out BK210.out (by decide)))
     have n3_ := Aside0.mk (blk_grown (g := gb221) (o := .cells #[.int .i64 t213, .int .i64 t214, .int .i64 t215, .int .i64 t216] 44 (0, 0)) (zk BK221.out) hg (Kd.R_away HO_8.out (fun _ hk => hk.2.2.2.1)))
     have n4_ := Aside0.mk (blk_grown (g := gb222) (o := .cells #[.int .i64 t217, .int .i64 t218, .int .i64 t219, .int .i64 t220] 44 (0, 0)) (zk BK222.out) hg (Kd.R_away HO_8.out (fun _ hk => hk.2.2.2.2)))
     have n5_ := Aside0.mk (Kd.R_after (ok := (fun k_ => some k_ ≠ (v227 : Value).ownBlock ∧ some k_ ≠ (.slice Ao60 y229.length co60 : Value).ownBlock ∧ k_ ≠ gb221 ∧ k_ ≠ gb222)) (by (with_reducible repeat (first | apply Kd.R_alloc | apply Kd.R_drewN | apply Kd.R_drew)); exact Kd.R_mono HO225.out (fun _ hk => ⟨⟨hk.1, ⟨hk.2.1, ⟨hk.2.2.2.1, hk.2.2.2.2⟩⟩⟩, hk.2.2.1⟩)) hg hat)
     have n6_ := Aside0.mk (Kd.R_after (ok := (fun k_ => some k_ ≠ (v224 : Value).ownBlock ∧ some k_ ≠ (.slice Ao60 y229.length co60 : Value).ownBlock ∧ k_ ≠ gb221 ∧ k_ ≠ gb222)) (by (with_reducible repeat (first | apply Kd.R_alloc | apply Kd.R_drewN | apply Kd.R_drew)); exact Kd.R_mono HO228.out (fun _ hk => ⟨⟨hk.1, ⟨hk.2.1, ⟨hk.2.2.2.1, hk.2.2.2.2⟩⟩⟩, hk.2.2.1⟩)) hg hat)
     have n7_ := Aside0.mk (Kd.R_after (ok := (fun k_ => some k_ ≠ (v224 : Value).ownBlock ∧ some k_ ≠ (v227 : Value).ownBlock ∧ k_ ≠ gb221 ∧ k_ ≠ gb222)) (by (with_reducible repeat (first | apply Kd.R_alloc | apply Kd.R_drewN | apply Kd.R_drew)); exact Kd.R_mono HO231.out (fun _ hk => ⟨⟨hk.1, ⟨hk.2.1, ⟨hk.2.2.2.1, hk.2.2.2.2⟩⟩⟩, hk.2.2.1⟩)) hg hat)
     have n8_ := Aside0.mk (Kd.R_over' (zr HO238.out) (Kd.R_typed (zr HO_8.out)) (by decide) hg)
     have n9_ := Aside0.mk (hb)
     have n10_ := Aside0.mk (ho)
     clear HO_9
     clear BK209
     clear BK210
     clear BK221
     clear BK222
     clear HO225
     clear HO228
     clear HO231
     clear HO238
     clear HB
     clear HO_8
     have HO_9 := n0_
     have BK209 := n1_
     have BK210 := n2_
     have BK221 := n3_
     have BK222 := n4_
     have HO225 := n5_
     have HO228 := n6_
     have HO231 := n7_
     have HO238 := n8_
     have HB := n9_
     have HO234 := n10_
     clear n0_ n1_ n2_ n3_ n4_ n5_ n6_ n7_ n8_ n9_ n10_
     clear ho hb hg hat
     refine hK.out _ _ ⟨(blk_cell BK221.out 0).trans rfl, (blk_cell BK221.out 1).trans rfl, (blk_cell BK221.out 2).trans rfl, (blk_cell BK221.out 3).trans rfl, (blk_cell BK222.out 0).trans rfl, (blk_cell BK222.out 1).trans rfl, (blk_cell BK222.out 2).trans rfl, (blk_cell BK222.out 3).trans rfl, (blk_cell BK210.out 0).trans rfl, (blk_cell BK210.out 1).trans rfl, (blk_cell BK210.out 2).trans rfl, (blk_cell BK210.out 3).trans rfl, (blk_cell BK210.out 4).trans rfl, (blk_cell BK210.out 5).trans rfl, (blk_cell BK209.out 0).trans rfl, (blk_cell BK209.out 1).trans rfl, (blk_cell BK209.out 2).trans rfl, (blk_cell BK209.out 3).trans rfl, (blk_cell BK209.out 4).trans rfl, (blk_cell BK209.out 5).trans rfl, (blk_cell BK209.out 6).trans rfl, ((HB.out.cell (World.block_lt_of_cell? w _ hw235_0)).trans hw235_0)⟩ (fun hHeld => ?_)
     clear hK K
     refine norm_ (a' := ?_) ?_ ?_
     rotate_left
     ·show Act.put _ (some 62) _ = _
      simp only [Act.put, List.setIfInBounds_toArray, List.set_cons_zero, List.set_cons_succ, i64_w, i32_w]
      rfl
     exact norm_ (by first | (simp only [putAll, Act.put, List.setIfInBounds_toArray, List.set_cons_zero, List.set_cons_succ]; done) | (simp only [putAll, Act.put, List.setIfInBounds_toArray, List.set_cons_zero, List.set_cons_succ]; rfl)) (hJ2_3_6_7_19 (v224, v227, .slice Ao60 y229.length co60, v233, v237) _ ⟨hHeld, (by (with_reducible repeat (first | apply Kd.R_alloc | apply Kd.R_drewN | apply Kd.R_drew)); exact Kd.R_mono HO225.out (fun _ hk => ⟨hk.1.1, ⟨hk.1.2.1, ⟨hk.2, ⟨hk.1.2.2.1, hk.1.2.2.2⟩⟩⟩⟩)), (by (with_reducible repeat (first | apply Kd.R_alloc | apply Kd.R_drewN | apply Kd.R_drew)); exact Kd.R_mono HO228.out (fun _ hk => ⟨hk.1.1, ⟨hk.1.2.1, ⟨hk.2, ⟨hk.1.2.2.1, hk.1.2.2.2⟩⟩⟩⟩)), (by (with_reducible repeat (first | apply Kd.R_alloc | apply Kd.R_drewN | apply Kd.R_drew)); exact Kd.R_mono HO231.out (fun _ hk => ⟨hk.1.1, ⟨hk.1.2.1, ⟨hk.2, ⟨hk.1.2.2.1, hk.1.2.2.2⟩⟩⟩⟩)), (zr HO234.out), (zr HO238.out), (zr HO_9.out), (zk BK209.out), (zk BK210.out), (zk BK221.out), (zk BK222.out), (by repeat (first | (with_reducible first | exact HB.out | apply below_alloc | apply pw_below_drewN | apply below_drew1 | refine below_set ?_ GE209.out | refine below_set ?_ GE210.out | refine below_set ?_ GE221.out | refine below_set ?_ GE222.out) | exact HB.out))⟩)
   ·skip
    rintro ⟨v224, v227, v230, v233⟩ w58 ⟨hS_, h0_, h1_, h2_, h3_, h4_, h5_, h6_, h7_, h8_, h9_⟩
    have n0_ : Aside0 (Kd.R k44 44 w58 w.heap.size (fun k_ => some k_ ≠ (v227 : Value).ownBlock ∧ some k_ ≠ (v230 : Value).ownBlock ∧ some k_ ≠ (v233 : Value).ownBlock ∧ k_ ≠ gb221 ∧ k_ ≠ gb222) v224 y223) := ⟨h0_⟩
    have n1_ : Aside0 (Kd.R k44 44 w58 w.heap.size (fun k_ => some k_ ≠ (v224 : Value).ownBlock ∧ some k_ ≠ (v230 : Value).ownBlock ∧ some k_ ≠ (v233 : Value).ownBlock ∧ k_ ≠ gb221 ∧ k_ ≠ gb222) v227 y226) := ⟨h1_⟩
    have n2_ : Aside0 (Kd.R k44 44 w58 w.heap.size (fun k_ => some k_ ≠ (v224 : Value).ownBlock ∧ some k_ ≠ (v227 : Value).ownBlock ∧ some k_ ≠ (v233 : Value).ownBlock ∧ k_ ≠ gb221 ∧ k_ ≠ gb222) v230 y229) := ⟨h2_⟩
    have n3_ : Aside0 (Kd.R k44 44 w58 w.heap.size (fun k_ => some k_ ≠ (v224 : Value).ownBlock ∧ some k_ ≠ (v227 : Value).ownBlock ∧ some k_ ≠ (v230 : Value).ownBlock ∧ k_ ≠ gb221 ∧ k_ ≠ gb222) v233 y232) := ⟨h3_⟩
    have n4_ : Aside0 (Kd.R (Kd.int .i64) 3 w58 w.heap.size (fun _ => True) (.slice Ao47 x9_3.length co47) x9_3) := ⟨h4_⟩
    have n5_ : Aside0 (w58.heap[gb209]? = some (.cells #[.string a0_0, .string a0_1, .int .i64 a0_2, .int .i64 a0_3, .int .i64 a0_4, .int .i64 a0_5, .int .i64 a0_6] 25 (0, 0))) := ⟨h5_⟩
    have n6_ : Aside0 (w58.heap[gb210]? = some (.cells #[.int .i64 a1_0, .slice A1_1 l1_1.length c1_1, .slice A1_2 l1_2.length c1_2, .slice A1_3 l1_3.length c1_3, .slice A1_4 l1_4.length c1_4, .slice (some ad235) l1_5.length c1_5] 71 (0, 0))) := ⟨h6_⟩
    have n7_ : Aside0 (w58.heap[gb221]? = some (.cells #[.int .i64 t213, .int .i64 t214, .int .i64 t215, .int .i64 t216] 44 (0, 0))) := ⟨h7_⟩
    have n8_ : Aside0 (w58.heap[gb222]? = some (.cells #[.int .i64 t217, .int .i64 t218, .int .i64 t219, .int .i64 t220] 44 (0, 0))) := ⟨h8_⟩
    have n9_ : Aside0 (Below w.heap.size w w58) := ⟨h9_⟩
    clear HO_7
    clear HO_8
    clear HO_9
    clear BK209
    clear BK210
    clear BK221
    clear BK222
    clear HB
    clear h0_ h1_ h2_ h3_ h4_ h5_ h6_ h7_ h8_ h9_
    have HO225 := n0_
    have HO228 := n1_
    have HO231 := n2_
    have HO234 := n3_
    have HO_9 := n4_
    have BK209 := n5_
    have BK210 := n6_
    have BK221 := n7_
    have BK222 := n8_
    have HB := n9_
    clear n0_ n1_ n2_ n3_ n4_ n5_ n6_ n7_ n8_ n9_
    have hHeld : w58.cell? ⟨gb221, 0, none⟩ = some (.int .i64 t213) ∧ w58.cell? ⟨gb221, 1, none⟩ = some (.int .i64 t214) ∧ w58.cell? ⟨gb221, 2, none⟩ = some (.int .i64 t215) ∧ w58.cell? ⟨gb221, 3, none⟩ = some (.int .i64 t216) ∧ w58.cell? ⟨gb222, 0, none⟩ = some (.int .i64 t217) ∧ w58.cell? ⟨gb222, 1, none⟩ = some (.int .i64 t218) ∧ w58.cell? ⟨gb222, 2, none⟩ = some (.int .i64 t219) ∧ w58.cell? ⟨gb222, 3, none⟩ = some (.int .i64 t220) ∧ w58.cell? ⟨gb210, 0, none⟩ = some (.int .i64 a1_0) ∧ w58.cell? ⟨gb210, 1, none⟩ = some (.slice A1_1 l1_1.length c1_1) ∧ w58.cell? ⟨gb210, 2, none⟩ = some (.slice A1_2 l1_2.length c1_2) ∧ w58.cell? ⟨gb210, 3, none⟩ = some (.slice A1_3 l1_3.length c1_3) ∧ w58.cell? ⟨gb210, 4, none⟩ = some (.slice A1_4 l1_4.length c1_4) ∧ w58.cell? ⟨gb210, 5, none⟩ = some (.slice (some ad235) l1_5.length c1_5) ∧ w58.cell? ⟨gb209, 0, none⟩ = some (.string a0_0) ∧ w58.cell? ⟨gb209, 1, none⟩ = some (.string a0_1) ∧ w58.cell? ⟨gb209, 2, none⟩ = some (.int .i64 a0_2) ∧ w58.cell? ⟨gb209, 3, none⟩ = some (.int .i64 a0_3) ∧ w58.cell? ⟨gb209, 4, none⟩ = some (.int .i64 a0_4) ∧ w58.cell? ⟨gb209, 5, none⟩ = some (.int .i64 a0_5) ∧ w58.cell? ⟨gb209, 6, none⟩ = some (.int .i64 a0_6) ∧ w58.cell? (ad235.add (x46_3).toNat) = some (.int .u8 (rd l1_5 x46_3)) := hS_
    refine norm_ (a' := ?_) ?_ ?_
    rotate_left
    ·simp only [putAll, Act.put, List.setIfInBounds_toArray, List.set_cons_zero, List.set_cons_succ]
     rfl
    refine one_ (i := 19) (N := some 74) #[true, true, true, true, true, true, true, true, true, true, true, true, true, true, true, true, true, true, true, true, false, false, false, false] rfl rfl (one_of HT_.out (by kernel_rfl)) (by decide) (fun K hK => ?_)
    refine Kd.R_lit_step (Kd.int .i64) _ 3 ?hg (N := 74) ?hd (xs := ([Int.tmod (wrap64 (rd l1_5 x46_3)) (wrap64 (a0_6 + 1))] : List Int)) (inner := [.int .i64 (Int.tmod (wrap64 (rd l1_5 x46_3)) (wrap64 (a0_6 + 1)))]) (ok := fun _ => True) (okp := fun _ => True) ?hr ?hp (fun _ hk => hk) trivial (Below.refl _ _) (Nat.le_refl _) (by simp) ?_; (case hd => rfl); (case hg => rfl); (case hr => first | (go_simp; done) | (go_simp; rfl)); (case hp => exact (Reps.one (show Kd.M (Kd.int .i64) _ _ _ (Int.tmod (wrap64 (rd l1_5 x46_3)) (wrap64 (a0_6 + 1))) [.int .i64 (Int.tmod (wrap64 (rd l1_5 x46_3)) (wrap64 (a0_6 + 1)))] from rfl) (Reps.none _ _)))
    intro v237 w59 ho60 hb hg_ hnew_
    clear hg_ hnew_
    (first | rw [← Ny236.out] at ho60 | (simp only [Int.reduceToNat] at ho60; rw [← Ny236.out] at ho60))
    have n0_ := Aside0.mk (Kd.R_elder' (zr HO_9.out) (Kd.R_base ho60) hb)
    have n1_ := Aside0.mk (Kd.R_below (zr HO225.out) hb)
    have n2_ := Aside0.mk (Kd.R_below (zr HO228.out) hb)
    have n3_ := Aside0.mk (Kd.R_below (zr HO231.out) hb)
    have n4_ := Aside0.mk (Kd.R_below (zr HO234.out) hb)
    have n5_ := Aside0.mk (Kd.R_lower (Kd.R_new' ho60 (Kd.R_lt (zr HO_9.out))) (below_size (by repeat (first | (with_reducible first | exact HB.out | apply below_alloc | apply pw_below_drewN | apply below_drew1 | refine below_set ?_ GE209.out | refine below_set ?_ GE210.out | refine below_set ?_ GE221.out | refine below_set ?_ GE222.out) | exact HB.out))))
    have n6_ := Aside0.mk (zb BK209.out hb)
    have n7_ := Aside0.mk (zb BK210.out hb)
    have n8_ := Aside0.mk (zb BK221.out hb)
    have n9_ := Aside0.mk (zb BK222.out hb)
    have n10_ := Aside0.mk (below_step (by repeat (first | (with_reducible first | exact HB.out | apply below_alloc | apply pw_below_drewN | apply below_drew1 | refine below_set ?_ GE209.out | refine below_set ?_ GE210.out | refine below_set ?_ GE221.out | refine below_set ?_ GE222.out) | exact HB.out)) hb)
    clear HO_9
    clear HO225
    clear HO228
    clear HO231
    clear HO234
    clear BK209
    clear BK210
    clear BK221
    clear BK222
    clear HB
    have HO_9 := n0_
    have HO225 := n1_
    have HO228 := n2_
    have HO231 := n3_
    have HO234 := n4_
    have HO238 := n5_
    have BK209 := n6_
    have BK210 := n7_
    have BK221 := n8_
    have BK222 := n9_
    have HB := n10_
    clear n0_ n1_ n2_ n3_ n4_ n5_ n6_ n7_ n8_ n9_ n10_
    clear hb ho60
    refine hK.out _ _ ⟨(blk_cell BK221.out 0).trans rfl, (blk_cell BK221.out 1).trans rfl, (blk_cell BK221.out 2).trans rfl, (blk_cell BK221.out 3).trans rfl, (blk_cell BK222.out 0).trans rfl, (blk_cell BK222.out 1).trans rfl, (blk_cell BK222.out 2).trans rfl, (blk_cell BK222.out 3).trans rfl, (blk_cell BK210.out 0).trans rfl, (blk_cell BK210.out 1).trans rfl, (blk_cell BK210.out 2).trans rfl, (blk_cell BK210.out 3).trans rfl, (blk_cell BK210.out 4).trans rfl, (blk_cell BK210.out 5).trans rfl, (blk_cell BK209.out 0).trans rfl, (blk_cell BK209.out 1).trans rfl, (blk_cell BK209.out 2).trans rfl, (blk_cell BK209.out 3).trans rfl, (blk_cell BK209.out 4).trans rfl, (blk_cell BK209.out 5).trans rfl, (blk_cell BK209.out 6).trans rfl, ((HB.out.cell (World.block_lt_of_cell? w _ hw235_0)).trans hw235_0)⟩ (fun hHeld => ?_)
    clear hK K
    refine norm_ (a' := ?_) ?_ ?_
    rotate_left
    ·show Act.put _ (some 74) _ = _
     simp only [Act.put, List.setIfInBounds_toArray, List.set_cons_zero, List.set_cons_succ, i64_w, i32_w]
     rfl
    exact norm_ (by first | (simp only [putAll, Act.put, List.setIfInBounds_toArray, List.set_cons_zero, List.set_cons_succ]; done) | (simp only [putAll, Act.put, List.setIfInBounds_toArray, List.set_cons_zero, List.set_cons_succ]; rfl)) (hJ2_3_6_7_19 (v224, v227, v230, v233, v237) _ ⟨hHeld, (zr HO225.out), (zr HO228.out), (zr HO231.out), (zr HO234.out), (by (with_reducible repeat (first | apply Kd.R_alloc | apply Kd.R_drewN | apply Kd.R_drew)); exact Kd.R_mono HO238.out (fun _ hk => hk.2)), (by (with_reducible repeat (first | apply Kd.R_alloc | apply Kd.R_drewN | apply Kd.R_drew)); exact Kd.R_mono HO_9.out (fun _ hk => hk.2)), (zk BK209.out), (zk BK210.out), (zk BK221.out), (zk BK222.out), (by repeat (first | (with_reducible first | exact HB.out | apply below_alloc | apply pw_below_drewN | apply below_drew1 | refine below_set ?_ GE209.out | refine below_set ?_ GE210.out | refine below_set ?_ GE221.out | refine below_set ?_ GE222.out) | exact HB.out))⟩)
  rintro ⟨v224, v227, v230, v233, v237⟩ w60 ⟨hS_, h0_, h1_, h2_, h3_, h4_, h5_, h6_, h7_, h8_, h9_, h10_⟩
  have n0_ : Aside0 (Kd.R k44 44 w60 w.heap.size (fun k_ => some k_ ≠ (v227 : Value).ownBlock ∧ some k_ ≠ (v230 : Value).ownBlock ∧ some k_ ≠ (v233 : Value).ownBlock ∧ k_ ≠ gb221 ∧ k_ ≠ gb222) v224 y223) := ⟨h0_⟩
  have n1_ : Aside0 (Kd.R k44 44 w60 w.heap.size (fun k_ => some k_ ≠ (v224 : Value).ownBlock ∧ some k_ ≠ (v230 : Value).ownBlock ∧ some k_ ≠ (v233 : Value).ownBlock ∧ k_ ≠ gb221 ∧ k_ ≠ gb222) v227 y226) := ⟨h1_⟩
  have n2_ : Aside0 (Kd.R k44 44 w60 w.heap.size (fun k_ => some k_ ≠ (v224 : Value).ownBlock ∧ some k_ ≠ (v227 : Value).ownBlock ∧ some k_ ≠ (v233 : Value).ownBlock ∧ k_ ≠ gb221 ∧ k_ ≠ gb222) v230 y229) := ⟨h2_⟩
  have n3_ : Aside0 (Kd.R k44 44 w60 w.heap.size (fun k_ => some k_ ≠ (v224 : Value).ownBlock ∧ some k_ ≠ (v227 : Value).ownBlock ∧ some k_ ≠ (v230 : Value).ownBlock ∧ k_ ≠ gb221 ∧ k_ ≠ gb222) v233 y232) := ⟨h3_⟩
  have n4_ : Aside0 (Kd.R (Kd.int .i64) 3 w60 w.heap.size (fun k_ => some k_ ≠ (.slice Ao47 x9_3.length co47 : Value).ownBlock) v237 y236) := ⟨h4_⟩
  have n5_ : Aside0 (Kd.R (Kd.int .i64) 3 w60 w.heap.size (fun k_ => some k_ ≠ (v237 : Value).ownBlock) (.slice Ao47 x9_3.length co47) x9_3) := ⟨h5_⟩
  have n6_ : Aside0 (w60.heap[gb209]? = some (.cells #[.string a0_0, .string a0_1, .int .i64 a0_2, .int .i64 a0_3, .int .i64 a0_4, .int .i64 a0_5, .int .i64 a0_6] 25 (0, 0))) := ⟨h6_⟩
  have n7_ : Aside0 (w60.heap[gb210]? = some (.cells #[.int .i64 a1_0, .slice A1_1 l1_1.length c1_1, .slice A1_2 l1_2.length c1_2, .slice A1_3 l1_3.length c1_3, .slice A1_4 l1_4.length c1_4, .slice (some ad235) l1_5.length c1_5] 71 (0, 0))) := ⟨h7_⟩
  have n8_ : Aside0 (w60.heap[gb221]? = some (.cells #[.int .i64 t213, .int .i64 t214, .int .i64 t215, .int .i64 t216] 44 (0, 0))) := ⟨h8_⟩
  have n9_ : Aside0 (w60.heap[gb222]? = some (.cells #[.int .i64 t217, .int .i64 t218, .int .i64 t219, .int .i64 t220] 44 (0, 0))) := ⟨h9_⟩
  have n10_ : Aside0 (Below w.heap.size w w60) := ⟨h10_⟩
  clear HO_7
  clear HO_8
  clear HO_9
  clear BK209
  clear BK210
  clear BK221
  clear BK222
  clear HB
  clear h0_ h1_ h2_ h3_ h4_ h5_ h6_ h7_ h8_ h9_ h10_
  have HO225 := n0_
  have HO228 := n1_
  have HO231 := n2_
  have HO234 := n3_
  have HO238 := n4_
  have HO_9 := n5_
  have BK209 := n6_
  have BK210 := n7_
  have BK221 := n8_
  have BK222 := n9_
  have HB := n10_
  clear n0_ n1_ n2_ n3_ n4_ n5_ n6_ n7_ n8_ n9_ n10_
  have hHeld : w60.cell? ⟨gb221, 0, none⟩ = some (.int .i64 t213) ∧ w60.cell? ⟨gb221, 1, none⟩ = some (.int .i64 t214) ∧ w60.cell? ⟨gb221, 2, none⟩ = some (.int .i64 t215) ∧ w60.cell? ⟨gb221, 3, none⟩ = some (.int .i64 t216) ∧ w60.cell? ⟨gb222, 0, none⟩ = some (.int .i64 t217) ∧ w60.cell? ⟨gb222, 1, none⟩ = some (.int .i64 t218) ∧ w60.cell? ⟨gb222, 2, none⟩ = some (.int .i64 t219) ∧ w60.cell? ⟨gb222, 3, none⟩ = some (.int .i64 t220) ∧ w60.cell? ⟨gb210, 0, none⟩ = some (.int .i64 a1_0) ∧ w60.cell? ⟨gb210, 1, none⟩ = some (.slice A1_1 l1_1.length c1_1) ∧ w60.cell? ⟨gb210, 2, none⟩ = some (.slice A1_2 l1_2.length c1_2) ∧ w60.cell? ⟨gb210, 3, none⟩ = some (.slice A1_3 l1_3.length c1_3) ∧ w60.cell? ⟨gb210, 4, none⟩ = some (.slice A1_4 l1_4.length c1_4) ∧ w60.cell? ⟨gb210, 5, none⟩ = some (.slice (some ad235) l1_5.length c1_5) ∧ w60.cell? ⟨gb209, 0, none⟩ = some (.string a0_0) ∧ w60.cell? ⟨gb209, 1, none⟩ = some (.string a0_1) ∧ w60.cell? ⟨gb209, 2, none⟩ = some (.int .i64 a0_2) ∧ w60.cell? ⟨gb209, 3, none⟩ = some (.int .i64 a0_3) ∧ w60.cell? ⟨gb209, 4, none⟩ = some (.int .i64 a0_4) ∧ w60.cell? ⟨gb209, 5, none⟩ = some (.int .i64 a0_5) ∧ w60.cell? ⟨gb209, 6, none⟩ = some (.int .i64 a0_6) ∧ w60.cell? (ad235.add (x46_3).toNat) = some (.int .u8 (rd l1_5 x46_3)) := hS_
  obtain ⟨Ao62, co62, eo62⟩ := Kd.R_slice HO238.out
  (first | subst eo62 | (injection eo62 with f1_ f2_ f3_; have f4_ := f1_.symm; have f5_ := f3_.symm; clear f1_ f2_ f3_; subst f4_; subst f5_))
  refine norm_ (a' := ?_) ?_ ?_
  rotate_left
  ·simp only [putAll, Act.put, List.setIfInBounds_toArray, List.set_cons_zero, List.set_cons_succ]
   rfl
  refine one_ (i := 20) (N := some 75) #[true, true, true, true, true, true, true, true, true, true, true, true, true, true, true, true, true, true, true, true, true, false, false, false] rfl rfl (one_of HT_.out (by kernel_rfl)) (by decide) (fun K hK => ?_)
  refine Kd.R_append_rows_step (Kd.int .i64) (w0 := w) w.heap.size (by rfl) (.tmp 63) (.tmp 74) 50 3 (.int .i64 0) 8 rfl Try.underlying50 info3 rfl (by decide) (by omega) (.slice Ao47 x9_3.length co47) x9_3 y236 _ _ _ (fun k_ => some k_ ≠ (.slice Ao62 y236.length co62 : Value).ownBlock) (fun _ => False) rfl rfl ?aO ?aR (fun _ _ h => h) (fun _ h => h.elim) ?aF ?aB ?aS ?aL ?_
  (case aR => repeat (first | exact (Kd.R_reads' HO238.out).2.2 | (with_reducible refine Kd.C_alloc ?_ _) | (with_reducible refine Kd.C_drewN ?_ _) | (with_reducible refine Kd.C_drew ?_)))
  (case aB => exact (by repeat (first | (with_reducible first | exact HB.out | apply below_alloc | apply pw_below_drewN | apply below_drew1 | refine below_set ?_ GE209.out | refine below_set ?_ GE210.out | refine below_set ?_ GE221.out | refine below_set ?_ GE222.out) | exact HB.out)))
  (case aF => exact (fun k_ hk => Kd.fresh' (Kd.R_lt (zr HO238.out)) k_ hk))
  (case aO => exact (zr HO_9.out))
  (case aS => exact (below_size (by repeat (first | (with_reducible first | exact HB.out | apply below_alloc | apply pw_below_drewN | apply below_drew1 | refine below_set ?_ GE209.out | refine below_set ?_ GE210.out | refine below_set ?_ GE221.out | refine below_set ?_ GE222.out) | exact HB.out))))
  (case aL => have := LMc32.out; omega)
  intro v240 w61 ho hb hg hat
  rw [← Ny239.out] at ho
  have n0_ := Aside0.mk (blk_grown (g := gb209) (o := .cells #[.string a0_0, .string a0_1, .int .i64 a0_2, .int .i64 a0_3, .int .i64 a0_4, .int .i64 a0_5, .int .i64 a0_6] 25 (0, 0)) (zk BK209.out) hg (Kd.R_ne HO_9.out BK209.out (by decide)))
  have n1_ := Aside0.mk (blk_grown (g := gb210) (o := .cells #[.int .i64 a1_0, .slice A1_1 l1_1.length c1_1, .slice A1_2 l1_2.length c1_2, .slice A1_3 l1_3.length c1_3, .slice A1_4 l1_4.length c1_4, .slice (some ad235) l1_5.length c1_5] 71 (0, 0)) (zk BK210.out) hg (Kd.R_ne HO_9.out BK210.out (by decide)))
  have n2_ := Aside0.mk (blk_grown (g := gb221) (o := .cells #[.int .i64 t213, .int .i64 t214, .int .i64 t215, .int .i64 t216] 44 (0, 0)) (zk BK221.out) hg (Kd.R_ne HO_9.out BK221.out (by decide)))
  have n3_ := Aside0.mk (blk_grown (g := gb222) (o := .cells #[.int .i64 t217, .int .i64 t218, .int .i64 t219, .int .i64 t220] 44 (0, 0)) (zk BK222.out) hg (Kd.R_ne HO_9.out BK222.out (by decide)))
  have n4_ := Aside0.mk (Kd.R_over' (zr HO225.out) (Kd.R_typed (zr HO_9.out)) (by decide) hg)
  have n5_ := Aside0.mk (Kd.R_over' (zr HO228.out) (Kd.R_typed (zr HO_9.out)) (by decide) hg)
  have n6_ := Aside0.mk (Kd.R_over' (zr HO231.out) (Kd.R_typed (zr HO_9.out)) (by decide) hg)
  have n7_ := Aside0.mk (Kd.R_over' (zr HO234.out) (Kd.R_typed (zr HO_9.out)) (by decide) hg)
  have n8_ := Aside0.mk (Kd.R_after (ok := (fun _ => True)) (by (with_reducible repeat (first | apply Kd.R_alloc | apply Kd.R_drewN | apply Kd.R_drew)); exact Kd.R_mono HO238.out (fun _ hk => ⟨trivial, hk⟩)) hg hat)
  have n9_ := Aside0.mk (hb)
  have n10_ := Aside0.mk (ho)
  clear BK209
  clear BK210
  clear BK221
  clear BK222
  clear HO225
  clear HO228
  clear HO231
  clear HO234
  clear HO238
  clear HB
  clear HO_9
  have BK209 := n0_
  have BK210 := n1_
  have BK221 := n2_
  have BK222 := n3_
  have HO225 := n4_
  have HO228 := n5_
  have HO231 := n6_
  have HO234 := n7_
  have HO238 := n8_
  have HB := n9_
  have HO241 := n10_
  clear n0_ n1_ n2_ n3_ n4_ n5_ n6_ n7_ n8_ n9_ n10_
  clear ho hb hg hat
  refine hK.out _ _ ⟨(blk_cell BK221.out 0).trans rfl, (blk_cell BK221.out 1).trans rfl, (blk_cell BK221.out 2).trans rfl, (blk_cell BK221.out 3).trans rfl, (blk_cell BK222.out 0).trans rfl, (blk_cell BK222.out 1).trans rfl, (blk_cell BK222.out 2).trans rfl, (blk_cell BK222.out 3).trans rfl, (blk_cell BK210.out 0).trans rfl, (blk_cell BK210.out 1).trans rfl, (blk_cell BK210.out 2).trans rfl, (blk_cell BK210.out 3).trans rfl, (blk_cell BK210.out 4).trans rfl, (blk_cell BK210.out 5).trans rfl, (blk_cell BK209.out 0).trans rfl, (blk_cell BK209.out 1).trans rfl, (blk_cell BK209.out 2).trans rfl, (blk_cell BK209.out 3).trans rfl, (blk_cell BK209.out 4).trans rfl, (blk_cell BK209.out 5).trans rfl, (blk_cell BK209.out 6).trans rfl, ((HB.out.cell (World.block_lt_of_cell? w _ hw235_0)).trans hw235_0)⟩ (fun hHeld => ?_)
  clear hK K
  refine norm_ (a' := ?_) ?_ ?_
  rotate_left
  ·show Act.put _ (some 75) _ = _
   simp only [Act.put, List.setIfInBounds_toArray, List.set_cons_zero, List.set_cons_succ, i64_w, i32_w]
   rfl
  refine pure_ (i := 21) (N := some 7) (v := ?_) (a' := ?_) #[true, true, true, true, true, true, true, true, true, true, true, true, true, true, true, true, true, true, true, true, true, true, false, false] rfl rfl (any_of HT_.out (by kernel_rfl)) (fun _ _ _ h => hP _ _ _ _ _ h) (Or.inl ⟨by rfl, ?_⟩) ?_ ?_
  rotate_left
  ·intro w'
   go_simp
   with_reducible rfl
  rotate_left
  ·simp only [Act.put, List.setIfInBounds_toArray, List.set_cons_zero, List.set_cons_succ, i64_w, i32_w]
   rfl
  refine pure_ (i := 22) (N := some 8) (v := ?_) (a' := ?_) #[true, true, true, true, true, true, true, true, true, true, true, true, true, true, true, true, true, true, true, true, true, true, true, false] rfl rfl (any_of HT_.out (by kernel_rfl)) (fun _ _ _ h => hP _ _ _ _ _ h) (Or.inl ⟨by rfl, ?_⟩) ?_ ?_
  rotate_left
  ·intro w'
   go_simp
   with_reducible rfl
  rotate_left
  ·simp only [Act.put, List.setIfInBounds_toArray, List.set_cons_zero, List.set_cons_succ, i64_w, i32_w]
   rfl
  refine pure_ (i := 23) (N := some 9) (v := ?_) (a' := ?_) #[true, true, true, true, true, true, true, true, true, true, true, true, true, true, true, true, true, true, true, true, true, true, true, true] rfl rfl (any_of HT_.out (by kernel_rfl)) (fun _ _ _ h => hP _ _ _ _ _ h) (Or.inl ⟨by rfl, ?_⟩) ?_ ?_
  rotate_left
  ·intro w'
   go_simp
   with_reducible rfl
  rotate_left
  ·simp only [Act.put, List.setIfInBounds_toArray, List.set_cons_zero, List.set_cons_succ, i64_w, i32_w]
   rfl
  refine done_ (done_of HT_.out (by kernel_rfl)) ?_
  exact hQ _ _ _ _ _ _ _ _ _ _ _ _ _ _ _ _ _ _ _ _ _ _ _ _ _ ⟨by (with_reducible repeat (first | apply Kd.R_alloc | apply Kd.R_drewN | apply Kd.R_drew)); exact Kd.R_mono HO228.out (fun _ hk => hk.2.2.1)⟩ ⟨by (with_reducible repeat (first | apply Kd.R_alloc | apply Kd.R_drewN | apply Kd.R_drew)); exact Kd.R_mono HO234.out (fun _ hk => hk.2.1)⟩ ⟨by (with_reducible repeat (first | apply Kd.R_alloc | apply Kd.R_drewN | apply Kd.R_drew)); exact Kd.R_mono HO241.out (fun _ hk => trivial)⟩ ⟨zk BK209.out⟩ ⟨zk BK210.out⟩ HB
end Go.Proofs.Ytenjkflckkmahaa.Q
