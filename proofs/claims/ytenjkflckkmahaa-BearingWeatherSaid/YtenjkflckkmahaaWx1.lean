/- The last part of the walk of a statement's own function, split off. -/
import Derived.Test.YtenjkflckkmahaaQ0
import Derived.Test.YtenjkflckkmahaaQ1
import Derived.Test.YtenjkflckkmahaaQ2
import Derived.Test.YtenjkflckkmahaaQ3
import Derived.Test.YtenjkflckkmahaaRuns2
import Derived.Test.YtenjkflckkmahaaSky
import Derived.Test.YtenjkflckkmahaaDay15
import Derived.Test.YtenjkflckkmahaaWx0
namespace Go.Proofs.Ytenjkflckkmahaa.Q
open Go.RowKit Go.Proofs.YtenjkflckkmahaaW.PrintWords Go.Proofs.YtenjkflckkmahaaW.PrintLast Go.Proofs.YtenjkflckkmahaaW.PrintMore
attribute [local go_sem] max2_int min2_int max_two min_two max_three min_three max_four min_four   -- for this text's walks alone
set_option linter.unusedVariables false
set_option linter.unusedSimpArgs false

def fastilaw29_BearingWeather.T24 : Bool × List (List Nat × List Nat) := (true, [([], []), ([], []), ([1], [1]), ([0, 2], [0, 2]), ([3], [3]), ([], []), ([], []), ([6], [6]), ([5, 7], [5, 7]), ([8], [8]), ([4, 0, 1, 2, 3, 4], [4]), ([9, 10, 0, 1, 2, 3, 4, 5, 6, 7, 8, 9, 10], [9])])
def fastilaw29_BearingWeather.B24 : List Nat := [0, 0, 2, 7, 15, 0, 0, 64, 224, 480, 31, 2047]
theorem fastilaw29_BearingWeather.tab24 : rtab .any (opsOf Try.f14 24) = fastilaw29_BearingWeather.T24 := by kernel_rfl
theorem fastilaw29_BearingWeather.bits24 : waitsOk fastilaw29_BearingWeather.T24.2 fastilaw29_BearingWeather.B24 = true := by kernel_rfl
set_option maxHeartbeats 32000000 in
set_option maxRecDepth 100000 in
theorem rest120 {K K1 : Act → World → Prop} (k : Nat) (a0_0 : ByteArray) (a0_1 : ByteArray) (a0_2 : Int) (a0_3 : Int) (a0_4 : Int) (a0_5 : Int) (a0_6 : Int) (a1_0 : Int) (A1_1 : Option Addr) (c1_1 : Nat) (l1_1 : List Int) (A1_2 : Option Addr) (c1_2 : Nat) (l1_2 : List Int) (A1_3 : Option Addr) (c1_3 : Nat) (l1_3 : List Int) (A1_4 : Option Addr) (c1_4 : Nat) (l1_4 : List Int) (A1_5 : Option Addr) (c1_5 : Nat) (l1_5 : List Int) (r : Bool) (w : World) (HR1_1 : Aside0 ((Kd.int IntKind.u8).C w A1_1 l1_1.length l1_1)) (HC1_1 : Aside0 (l1_1.length ≤ c1_1)) (HR1_2 : Aside0 ((Kd.int IntKind.u8).C w A1_2 l1_2.length l1_2)) (HC1_2 : Aside0 (l1_2.length ≤ c1_2)) (HR1_3 : Aside0 ((Kd.int IntKind.u8).C w A1_3 l1_3.length l1_3)) (HC1_3 : Aside0 (l1_3.length ≤ c1_3)) (HR1_4 : Aside0 ((Kd.int IntKind.u8).C w A1_4 l1_4.length l1_4)) (HC1_4 : Aside0 (l1_4.length ≤ c1_4)) (HR1_5 : Aside0 ((Kd.int IntKind.u8).C w A1_5 l1_5.length l1_5)) (HC1_5 : Aside0 (l1_5.length ≤ c1_5)) (A3 : Aside0 (fastilaw29_sane.f k = some true)) (gb209 : Nat) (GW209 : Aside0 (w.heap.size ≤ gb209)) (GE209 : Aside0 (w.heap.size ≤ gb209)) (gb210 : Nat) (GW210 : Aside0 (w.heap.size ≤ gb210)) (GE210 : Aside0 (w.heap.size ≤ gb210)) (NB209_210 : Aside0 (gb209 ≠ gb210)) (NB210_209 : Aside0 (gb210 ≠ gb209)) (hnb9 : gb210 ≠ gb209) (hnc9 : gb209 ≠ gb210) (kj4 : Nat) (HJ4 : Aside0 (kj4 + 1 ≤ k)) (hnb21 : gb210 ≠ gb209) (hnc21 : gb209 ≠ gb210) (kj19 : Nat) (HJ19 : Aside0 (kj19 + 1 ≤ kj4)) (u10 : Value) (u11 : Value) (u12 : Value) (x7_3 : List S44) (x8_3 : List S44) (x9_3 : List Int) (x46_3 : Int) (k3 : Nat) (HK3 : Aside0 (k3 + 1 ≤ kj19)) (ji63 : Int) (hji63 : mx 0 (wrap64 (a1_0 - 3)) = ji63) (hji63_ : (if 0 < wrap64 (a1_0 - 3) then wrap64 (a1_0 - 3) else 0) = ji63) (ji64 : Int) (hji64 : mn 1000 (wrap64 (a1_0 + 5)) = ji64) (hji64_ : (if wrap64 (a1_0 + 5) < 1000 then wrap64 (a1_0 + 5) else 1000) = ji64) (t244 : List S27) (t247 : Int) (A65 : Aside0 (turf_Run.f a0_0 a0_1 a0_2 a0_3 a0_4 a0_5 a0_6 a1_0 a1_0 x7_3 x9_3 = some (t244, t247))) (t248 : List S27) (t251 : Int) (A66 : Aside0 (turf_Run.f a0_0 a0_1 a0_2 a0_3 a0_4 a0_5 a0_6 ji63 ji64 x8_3 x9_3 = some (t248, t251))) (gb242 : Nat) (GW242 : Aside0 (w.heap.size ≤ gb242)) (GE242 : Aside0 (w.heap.size ≤ gb242)) (NB209_242 : Aside0 (gb209 ≠ gb242)) (NB242_209 : Aside0 (gb242 ≠ gb209)) (NB210_242 : Aside0 (gb210 ≠ gb242)) (NB242_210 : Aside0 (gb242 ≠ gb210)) (gb243 : Nat) (GW243 : Aside0 (w.heap.size ≤ gb243)) (GE243 : Aside0 (w.heap.size ≤ gb243)) (NB209_243 : Aside0 (gb209 ≠ gb243)) (NB243_209 : Aside0 (gb243 ≠ gb209)) (NB210_243 : Aside0 (gb210 ≠ gb243)) (NB243_210 : Aside0 (gb243 ≠ gb210)) (NB242_243 : Aside0 (gb242 ≠ gb243)) (NB243_242 : Aside0 (gb243 ≠ gb242)) (hnb70 : gb242 ≠ gb209) (hnc70 : gb209 ≠ gb242) (hnb71 : gb242 ≠ gb210) (hnc71 : gb210 ≠ gb242) (hnb72 : gb242 ≠ gb243) (hnc72 : gb243 ≠ gb242) (hnb74 : gb243 ≠ gb209) (hnc74 : gb209 ≠ gb243) (hnb75 : gb243 ≠ gb210) (hnc75 : gb210 ≠ gb243) (hnb77 : gb209 ≠ gb210) (hnc77 : gb210 ≠ gb209) (Ao79 : Option Addr) (co79 : Nat) (Ao80 : Option Addr) (co80 : Nat) (v245 : Value) (Ao84 : Option Addr) (co84 : Nat) (v249 : Value) (wc : World) (u25 : Value) (u26 : Value) (u27 : Value) (u28 : Value) (u29 : Value) (u30 : Value) (u31 : Value) (u32 : Value) (u33 : Value) (u34 : Value) (u35 : Value) (u36 : Value) (u37 : Value) (u38 : Value) (u39 : Value) (u40 : Value) (u41 : Value) (u42 : Value) (u43 : Value) (u44 : Value) (u47 : Value) (u48 : Value) (u49 : Value) (u50 : Value) (u51 : Value) (u52 : Value) (u53 : Value) (u54 : Value) (u55 : Value) (u56 : Value) (u57 : Value) (u58 : Value) (u59 : Value) (u60 : Value) (u61 : Value) (u62 : Value) (u63 : Value) (u64 : Value) (u65 : Value) (u66 : Value) (u67 : Value) (u68 : Value) (u69 : Value) (u70 : Value) (u71 : Value) (u72 : Value) (u73 : Value) (u74 : Value) (u75 : Value) (u76 : Value) (u77 : Value) (u78 : Value) (u79 : Value) (u80 : Value) (u81 : Value) (u82 : Value) (u83 : Value) (u84 : Value) (u85 : Value) (u86 : Value) (u87 : Value) (u88 : Value) (u89 : Value) (u90 : Value) (u91 : Value) (u92 : Value) (u93 : Value) (u94 : Value) (u95 : Value) (u96 : Value) (u97 : Value) (u98 : Value) (u99 : Value) (u100 : Value) (u101 : Value) (u102 : Value) (u103 : Value) (u104 : Value) (u105 : Value) (u106 : Value) (u107 : Value) (u108 : Value) (u109 : Value) (u110 : Value) (u111 : Value) (u112 : Value) (u113 : Value) (u114 : Value) (u115 : Value) (u116 : Value) (u117 : Value) (u118 : Value) (u119 : Value) (u121 : Value) (u122 : Value) (u123 : Value) (u124 : Value) (u125 : Value) (u126 : Value) (u127 : Value) (u128 : Value) (u129 : Value) (u130 : Value) (u131 : Value) (u132 : Value) (u133 : Value) (u134 : Value) (u135 : Value) (u136 : Value) (u137 : Value) (u138 : Value) (u139 : Value) (u140 : Value) (u141 : Value) (u142 : Value) (u143 : Value) (u144 : Value) (u145 : Value) (u146 : Value) (u147 : Value) (u148 : Value) (u149 : Value) (u150 : Value) (u151 : Value) (u152 : Value) (u153 : Value) (u154 : Value) (u155 : Value) (u156 : Value) (u157 : Value) (u158 : Value) (u159 : Value) (u160 : Value) (u161 : Value) (u162 : Value) (u163 : Value) (u164 : Value) (u165 : Value) (u166 : Value) (u167 : Value) (u168 : Value) (u169 : Value) (u170 : Value) (u171 : Value) (u172 : Value) (u173 : Value) (u174 : Value) (u175 : Value) (u176 : Value) (u177 : Value) (u178 : Value) (kq : Nat) (x120_66 : Bool) (HA : Aside0 (fastilaw29_BearingWeather.j3 kq (↑l1_5.length) t244 t248 x120_66 a0_0 a0_1 a0_2 a0_3 a0_4 a0_5 a0_6 a1_0 a1_0 ji63 ji64 = some r)) (HJ66 : Aside0 (kq ≤ k3)) (HO_15 : Aside0 (k27.R 27 wc w.heap.size (fun k_ => some k_ ≠ v249.ownBlock ∧ k_ ≠ gb242 ∧ k_ ≠ gb243) v245 t244)) (HO_17 : Aside0 (k27.R 27 wc w.heap.size (fun k_ => some k_ ≠ v245.ownBlock ∧ k_ ≠ gb242 ∧ k_ ≠ gb243) v249 t248)) (BK209 : Aside0 (wc.heap[gb209]? = some (Obj.cells #[Value.string a0_0, Value.string a0_1, Value.int IntKind.i64 a0_2, Value.int IntKind.i64 a0_3, Value.int IntKind.i64 a0_4, Value.int IntKind.i64 a0_5, Value.int IntKind.i64 a0_6] 25))) (BK210 : Aside0 (wc.heap[gb210]? = some (Obj.cells #[Value.int IntKind.i64 a1_0, Value.slice A1_1 l1_1.length c1_1, Value.slice A1_2 l1_2.length c1_2, Value.slice A1_3 l1_3.length c1_3, Value.slice A1_4 l1_4.length c1_4, Value.slice A1_5 l1_5.length c1_5] 71))) (BK242 : Aside0 (wc.heap[gb242]? = some (Obj.cells #[Value.int IntKind.i64 a1_0, Value.int IntKind.i64 a1_0] 27))) (BK243 : Aside0 (wc.heap[gb243]? = some (Obj.cells #[Value.int IntKind.i64 ji63, Value.int IntKind.i64 ji64] 27))) (HB : Aside0 (Below w.heap.size w wc))
    (hK1_ : ∀ (a_ : Act) (w_ : World), Code.wp Try.prog ((Code.region 22 #[{ dst := some 121, op := Op.load 27 (Operand.tmp 13), type := 27, pos := "law.go:125", after := #[], guard := none }, { dst := some 122, op := Op.load 27 (Operand.tmp 14), type := 27, pos := "law.go:125", after := #[{ on := 4, ground := Ground.gcOnly Departure.lateStores }], guard := none }, { dst := some 19, op := Op.alloc 27, type := 0, pos := "law.go:125", after := #[], guard := none }, { dst := some 20, op := Op.alloc 27, type := 0, pos := "law.go:125", after := #[], guard := none }, { dst := none, op := Op.store 27 (Operand.tmp 19) (Operand.tmp 121), type := 0, pos := "law.go:125", after := #[{ on := 2, ground := Ground.data }, { on := 0, ground := Ground.data }, { on := 0, ground := Ground.phase }, { on := 1, ground := Ground.textOnly Departure.lateStores }, { on := 2, ground := Ground.phase }, { on := 3, ground := Ground.phase }], guard := none }, { dst := none, op := Op.store 27 (Operand.tmp 20) (Operand.tmp 122), type := 0, pos := "law.go:125", after := #[{ on := 3, ground := Ground.data }, { on := 1, ground := Ground.data }, { on := 4, ground := Ground.chain }, { on := 0, ground := Ground.phase }, { on := 1, ground := Ground.phase }, { on := 2, ground := Ground.phase }, { on := 3, ground := Ground.phase }, { on := 4, ground := Ground.phase }], guard := none }] true).seq (((Code.region 23 #[{ dst := some 123, op := Op.move (Operand.tmp 5), type := 3, pos := "law.go:126", after := #[], guard := none }, { dst := some 124, op := Op.binOp BinOp.gtr 3 (Operand.tmp 123) (Operand.const (Value.int IntKind.i64 0)) 3, type := 4, pos := "law.go:126", after := #[{ on := 0, ground := Ground.data }], guard := none }] false).seq (Code.cond (Operand.tmp 124) (Code.region 24 #[{ dst := some 125, op := Op.move (Operand.tmp 15), type := 40, pos := "law.go:127", after := #[], guard := none }, { dst := some 126, op := Op.move (Operand.tmp 5), type := 3, pos := "law.go:127", after := #[], guard := none }, { dst := some 127, op := Op.binOp BinOp.sub 3 (Operand.tmp 126) (Operand.const (Value.int IntKind.i64 1)) 3, type := 3, pos := "law.go:127", after := #[{ on := 1, ground := Ground.data }], guard := none }, { dst := some 128, op := Op.indexAddr 40 (Operand.tmp 125) (Operand.tmp 127), type := 0, pos := "law.go:127", after := #[{ on := 0, ground := Ground.data }, { on := 2, ground := Ground.data }], guard := none }, { dst := some 129, op := Op.load 27 (Operand.tmp 128), type := 27, pos := "law.go:127", after := #[{ on := 3, ground := Ground.data }], guard := none }, { dst := some 130, op := Op.move (Operand.tmp 17), type := 40, pos := "law.go:127", after := #[{ on := 10, ground := Ground.gcOnly Departure.lateStores }], guard := none }, { dst := some 131, op := Op.move (Operand.tmp 5), type := 3, pos := "law.go:127", after := #[{ on := 10, ground := Ground.gcOnly Departure.lateStores }], guard := none }, { dst := some 132, op := Op.binOp BinOp.sub 3 (Operand.tmp 131) (Operand.const (Value.int IntKind.i64 1)) 3, type := 3, pos := "law.go:127", after := #[{ on := 6, ground := Ground.data }, { on := 10, ground := Ground.gcOnly Departure.lateStores }], guard := none }, { dst := some 133, op := Op.indexAddr 40 (Operand.tmp 130) (Operand.tmp 132), type := 0, pos := "law.go:127", after := #[{ on := 5, ground := Ground.data }, { on := 7, ground := Ground.data }, { on := 10, ground := Ground.gcOnly Departure.lateStores }], guard := none }, { dst := some 134, op := Op.load 27 (Operand.tmp 133), type := 27, pos := "law.go:127", after := #[{ on := 8, ground := Ground.data }, { on := 10, ground := Ground.gcOnly Departure.lateStores }], guard := none }, { dst := none, op := Op.store 27 (Operand.tmp 19) (Operand.tmp 129), type := 0, pos := "law.go:127", after := #[{ on := 4, ground := Ground.data }, { on := 0, ground := Ground.phase }, { on := 1, ground := Ground.phase }, { on := 2, ground := Ground.phase }, { on := 3, ground := Ground.phase }, { on := 4, ground := Ground.phase }, { on := 5, ground := Ground.textOnly Departure.lateStores }, { on := 6, ground := Ground.textOnly Departure.lateStores }, { on := 7, ground := Ground.textOnly Departure.lateStores }, { on := 8, ground := Ground.textOnly Departure.lateStores }, { on := 9, ground := Ground.textOnly Departure.lateStores }], guard := none }, { dst := none, op := Op.store 27 (Operand.tmp 20) (Operand.tmp 134), type := 0, pos := "law.go:127", after := #[{ on := 9, ground := Ground.data }, { on := 10, ground := Ground.chain }, { on := 0, ground := Ground.phase }, { on := 1, ground := Ground.phase }, { on := 2, ground := Ground.phase }, { on := 3, ground := Ground.phase }, { on := 4, ground := Ground.phase }, { on := 5, ground := Ground.phase }, { on := 6, ground := Ground.phase }, { on := 7, ground := Ground.phase }, { on := 8, ground := Ground.phase }, { on := 9, ground := Ground.phase }, { on := 10, ground := Ground.phase }], guard := none }] true) Code.skip)).seq ((Code.region 25 #[{ dst := some 136, op := Op.load 25 (Operand.tmp 2), type := 25, pos := "law.go:129", after := #[], guard := none }, { dst := some 137, op := Op.load 27 (Operand.tmp 20), type := 27, pos := "law.go:129", after := #[], guard := none }, { dst := some 138, op := Op.call { callee := Callee.value (Operand.func 20), args := #[Operand.tmp 136, Operand.tmp 137, Operand.const (Value.int IntKind.i64 0), Operand.const (Value.bool false)], argTypes := #[25, 27, 3, 4] }, type := 35, pos := "law.go:129", after := #[{ on := 0, ground := Ground.data }, { on := 1, ground := Ground.data }], guard := none }, { dst := some 135, op := Op.move (Operand.tmp 138), type := 35, pos := "law.go:129", after := #[{ on := 2, ground := Ground.data }], guard := none }, { dst := some 139, op := Op.extract (Operand.tmp 135) 0, type := 4, pos := "law.go:129", after := #[{ on := 3, ground := Ground.data }], guard := none }, { dst := some 140, op := Op.extract (Operand.tmp 135) 1, type := 29, pos := "law.go:129", after := #[{ on := 3, ground := Ground.data }, { on := 6, ground := Ground.gcOnly Departure.lateStores }], guard := none }, { dst := some 21, op := Op.assign (Operand.tmp 139), type := 4, pos := "law.go:129", after := #[{ on := 4, ground := Ground.data }, { on := 2, ground := Ground.chain }, { on := 0, ground := Ground.phase }, { on := 1, ground := Ground.phase }, { on := 2, ground := Ground.phase }, { on := 3, ground := Ground.phase }, { on := 4, ground := Ground.phase }, { on := 5, ground := Ground.textOnly Departure.lateStores }], guard := none }, { dst := some 22, op := Op.assign (Operand.tmp 140), type := 29, pos := "law.go:129", after := #[{ on := 5, ground := Ground.data }, { on := 6, ground := Ground.chain }, { on := 0, ground := Ground.phase }, { on := 1, ground := Ground.phase }, { on := 2, ground := Ground.phase }, { on := 3, ground := Ground.phase }, { on := 4, ground := Ground.phase }, { on := 5, ground := Ground.phase }, { on := 6, ground := Ground.phase }], guard := none }] false).seq ((Code.region 26 #[{ dst := some 142, op := Op.load 25 (Operand.tmp 2), type := 25, pos := "law.go:130", after := #[], guard := none }, { dst := some 143, op := Op.load 27 (Operand.tmp 20), type := 27, pos := "law.go:130", after := #[], guard := none }, { dst := some 144, op := Op.call { callee := Callee.value (Operand.func 20), args := #[Operand.tmp 142, Operand.tmp 143, Operand.const (Value.int IntKind.i64 1000), Operand.const (Value.bool true)], argTypes := #[25, 27, 3, 4] }, type := 35, pos := "law.go:130", after := #[{ on := 0, ground := Ground.data }, { on := 1, ground := Ground.data }], guard := none }, { dst := some 141, op := Op.move (Operand.tmp 144), type := 35, pos := "law.go:130", after := #[{ on := 2, ground := Ground.data }], guard := none }, { dst := some 145, op := Op.extract (Operand.tmp 141) 0, type := 4, pos := "law.go:130", after := #[{ on := 3, ground := Ground.data }], guard := none }, { dst := some 146, op := Op.extract (Operand.tmp 141) 1, type := 29, pos := "law.go:130", after := #[{ on := 3, ground := Ground.data }, { on := 6, ground := Ground.gcOnly Departure.lateStores }], guard := none }, { dst := some 23, op := Op.assign (Operand.tmp 145), type := 4, pos := "law.go:130", after := #[{ on := 4, ground := Ground.data }, { on := 2, ground := Ground.chain }, { on := 0, ground := Ground.phase }, { on := 1, ground := Ground.phase }, { on := 2, ground := Ground.phase }, { on := 3, ground := Ground.phase }, { on := 4, ground := Ground.phase }, { on := 5, ground := Ground.textOnly Departure.lateStores }], guard := none }, { dst := some 24, op := Op.assign (Operand.tmp 146), type := 29, pos := "law.go:130", after := #[{ on := 5, ground := Ground.data }, { on := 6, ground := Ground.chain }, { on := 0, ground := Ground.phase }, { on := 1, ground := Ground.phase }, { on := 2, ground := Ground.phase }, { on := 3, ground := Ground.phase }, { on := 4, ground := Ground.phase }, { on := 5, ground := Ground.phase }, { on := 6, ground := Ground.phase }], guard := none }] false).seq (((Code.region 27 #[{ dst := some 147, op := Op.move (Operand.tmp 22), type := 29, pos := "law.go:131", after := #[], guard := none }, { dst := some 148, op := Op.binOp BinOp.neq 29 (Operand.tmp 147) (Operand.const (Value.int IntKind.i64 0)) 29, type := 4, pos := "law.go:131", after := #[{ on := 0, ground := Ground.data }], guard := none }, { dst := some 149, op := Op.move (Operand.tmp 148), type := 4, pos := "law.go:131", after := #[{ on := 1, ground := Ground.data }], guard := none }, { dst := some 150, op := Op.move (Operand.tmp 24), type := 29, pos := "law.go:131", after := #[{ on := 2, ground := Ground.guard }], guard := some (2, false) }, { dst := some 151, op := Op.binOp BinOp.neq 29 (Operand.tmp 150) (Operand.const (Value.int IntKind.i64 0)) 29, type := 4, pos := "law.go:131", after := #[{ on := 3, ground := Ground.data }, { on := 2, ground := Ground.guard }], guard := some (2, false) }, { dst := some 152, op := Op.pick (Operand.tmp 149) (Operand.const (Value.bool true)) (Operand.tmp 151), type := 4, pos := "law.go:131", after := #[{ on := 2, ground := Ground.data }, { on := 4, ground := Ground.data }], guard := none }, { dst := some 153, op := Op.move (Operand.tmp 152), type := 4, pos := "law.go:131", after := #[{ on := 5, ground := Ground.data }, { on := 2, ground := Ground.chain }], guard := none }, { dst := some 154, op := Op.fieldAddr 27 (Operand.tmp 19) 0, type := 0, pos := "law.go:131", after := #[{ on := 6, ground := Ground.guard }], guard := some (6, false) }, { dst := some 155, op := Op.load 3 (Operand.tmp 154), type := 3, pos := "law.go:131", after := #[{ on := 7, ground := Ground.data }, { on := 6, ground := Ground.guard }], guard := some (6, false) }, { dst := some 156, op := Op.fieldAddr 27 (Operand.tmp 19) 1, type := 0, pos := "law.go:131", after := #[{ on := 6, ground := Ground.guard }], guard := some (6, false) }, { dst := some 157, op := Op.load 3 (Operand.tmp 156), type := 3, pos := "law.go:131", after := #[{ on := 9, ground := Ground.data }, { on := 6, ground := Ground.guard }], guard := some (6, false) }, { dst := some 158, op := Op.binOp BinOp.neq 3 (Operand.tmp 155) (Operand.tmp 157) 3, type := 4, pos := "law.go:131", after := #[{ on := 8, ground := Ground.data }, { on := 10, ground := Ground.data }, { on := 6, ground := Ground.guard }], guard := some (6, false) }, { dst := some 159, op := Op.pick (Operand.tmp 153) (Operand.const (Value.bool true)) (Operand.tmp 158), type := 4, pos := "law.go:131", after := #[{ on := 6, ground := Ground.data }, { on := 11, ground := Ground.data }], guard := none }] false).seq (Code.cond (Operand.tmp 159) ((Code.region 28 #[{ dst := some 4, op := Op.assign (Operand.const (Value.bool false)), type := 4, pos := "law.go:132", after := #[], guard := none }] false).seq Code.ret) Code.skip)).seq ((Code.region 29 #[{ dst := some 160, op := Op.move (Operand.tmp 21), type := 4, pos := "law.go:134", after := #[], guard := none }, { dst := some 161, op := Op.unOp UnOp.not 4 (Operand.tmp 160), type := 4, pos := "law.go:134", after := #[{ on := 0, ground := Ground.data }], guard := none }, { dst := some 162, op := Op.move (Operand.tmp 161), type := 4, pos := "law.go:134", after := #[{ on := 1, ground := Ground.data }], guard := none }, { dst := some 163, op := Op.fieldAddr 27 (Operand.tmp 19) 0, type := 0, pos := "law.go:134", after := #[{ on := 2, ground := Ground.guard }], guard := some (2, false) }, { dst := some 164, op := Op.load 3 (Operand.tmp 163), type := 3, pos := "law.go:134", after := #[{ on := 3, ground := Ground.data }, { on := 2, ground := Ground.guard }], guard := some (2, false) }, { dst := some 165, op := Op.fieldAddr 25 (Operand.tmp 2) 2, type := 0, pos := "law.go:134", after := #[{ on := 2, ground := Ground.guard }], guard := some (2, false) }, { dst := some 166, op := Op.load 3 (Operand.tmp 165), type := 3, pos := "law.go:134", after := #[{ on := 5, ground := Ground.data }, { on := 2, ground := Ground.guard }], guard := some (2, false) }, { dst := some 167, op := Op.binOp BinOp.geq 3 (Operand.tmp 164) (Operand.tmp 166) 3, type := 4, pos := "law.go:134", after := #[{ on := 4, ground := Ground.data }, { on := 6, ground := Ground.data }, { on := 2, ground := Ground.guard }], guard := some (2, false) }, { dst := some 168, op := Op.pick (Operand.tmp 162) (Operand.const (Value.bool true)) (Operand.tmp 167), type := 4, pos := "law.go:134", after := #[{ on := 2, ground := Ground.data }, { on := 7, ground := Ground.data }], guard := none }, { dst := some 169, op := Op.move (Operand.tmp 168), type := 4, pos := "law.go:134", after := #[{ on := 8, ground := Ground.data }, { on := 2, ground := Ground.chain }], guard := none }, { dst := some 170, op := Op.move (Operand.tmp 23), type := 4, pos := "law.go:134", after := #[{ on := 9, ground := Ground.guard }], guard := some (9, true) }, { dst := some 171, op := Op.move (Operand.tmp 170), type := 4, pos := "law.go:134", after := #[{ on := 10, ground := Ground.data }, { on := 9, ground := Ground.chain }, { on := 9, ground := Ground.guard }], guard := some (9, true) }, { dst := some 172, op := Op.fieldAddr 27 (Operand.tmp 19) 0, type := 0, pos := "law.go:134", after := #[{ on := 11, ground := Ground.guard }], guard := some (11, false) }, { dst := some 173, op := Op.load 3 (Operand.tmp 172), type := 3, pos := "law.go:134", after := #[{ on := 12, ground := Ground.data }, { on := 11, ground := Ground.guard }], guard := some (11, false) }, { dst := some 174, op := Op.fieldAddr 25 (Operand.tmp 2) 2, type := 0, pos := "law.go:134", after := #[{ on := 11, ground := Ground.guard }], guard := some (11, false) }, { dst := some 175, op := Op.load 3 (Operand.tmp 174), type := 3, pos := "law.go:134", after := #[{ on := 14, ground := Ground.data }, { on := 11, ground := Ground.guard }], guard := some (11, false) }, { dst := some 176, op := Op.binOp BinOp.lss 3 (Operand.tmp 173) (Operand.tmp 175) 3, type := 4, pos := "law.go:134", after := #[{ on := 13, ground := Ground.data }, { on := 15, ground := Ground.data }, { on := 11, ground := Ground.guard }], guard := some (11, false) }, { dst := some 177, op := Op.pick (Operand.tmp 171) (Operand.const (Value.bool true)) (Operand.tmp 176), type := 4, pos := "law.go:134", after := #[{ on := 11, ground := Ground.data }, { on := 16, ground := Ground.data }, { on := 9, ground := Ground.guard }], guard := some (9, true) }, { dst := some 178, op := Op.pick (Operand.tmp 169) (Operand.tmp 177) (Operand.const (Value.bool false)), type := 4, pos := "law.go:134", after := #[{ on := 9, ground := Ground.data }, { on := 17, ground := Ground.data }], guard := none }, { dst := some 4, op := Op.assign (Operand.tmp 178), type := 4, pos := "law.go:134", after := #[{ on := 18, ground := Ground.data }, { on := 11, ground := Ground.chain }, { on := 0, ground := Ground.phase }, { on := 1, ground := Ground.phase }, { on := 2, ground := Ground.phase }, { on := 3, ground := Ground.phase }, { on := 4, ground := Ground.phase }, { on := 5, ground := Ground.phase }, { on := 6, ground := Ground.phase }, { on := 7, ground := Ground.phase }, { on := 8, ground := Ground.phase }, { on := 9, ground := Ground.phase }, { on := 10, ground := Ground.phase }, { on := 11, ground := Ground.phase }, { on := 12, ground := Ground.phase }, { on := 13, ground := Ground.phase }, { on := 14, ground := Ground.phase }, { on := 15, ground := Ground.phase }, { on := 16, ground := Ground.phase }, { on := 17, ground := Ground.phase }, { on := 18, ground := Ground.phase }], guard := none }] false).seq Code.ret)))))) (bodyPost Try.prog Try.f14 fun e w' => e = Ending.returned (Value.bool r) ∧ Below w.heap.size w w') a_ w_ → K1 a_ w_)
    (hK_ : ∀ (a_ : Act) (w_ : World), Code.wp Try.prog (Code.cond (Operand.tmp 120) ((Code.region 21 #[{ dst := some 4, op := Op.assign (Operand.const (Value.bool false)), type := 4, pos := "law.go:123", after := #[], guard := none }] false).seq Code.ret) Code.skip) (Exit.then K1 (bodyPost Try.prog Try.f14 fun e w' => e = Ending.returned (Value.bool r) ∧ Below w.heap.size w w')) a_ w_ → K a_ w_) :
    K { tmps := #[Value.agg #[Value.string a0_0, Value.string a0_1, Value.int IntKind.i64 a0_2, Value.int IntKind.i64 a0_3, Value.int IntKind.i64 a0_4, Value.int IntKind.i64 a0_5, Value.int IntKind.i64 a0_6], Value.agg #[Value.int IntKind.i64 a1_0, Value.slice A1_1 l1_1.length c1_1, Value.slice A1_2 l1_2.length c1_2, Value.slice A1_3 l1_3.length c1_3, Value.slice A1_4 l1_4.length c1_4, Value.slice A1_5 l1_5.length c1_5], Value.pointer (some { block := gb209, off := 0 }), Value.pointer (some { block := gb210, off := 0 }), Value.bool false, Value.int IntKind.i64 ↑l1_5.length, Value.int IntKind.i64 a1_0, Value.slice Ao79 x7_3.length co79, Value.slice Ao84 x8_3.length co84, Value.slice Ao80 x9_3.length co80, u10, u11, u12, Value.pointer (some { block := gb242, off := 0 }), Value.pointer (some { block := gb243, off := 0 }), v245, Value.int IntKind.i64 t247, v249, Value.int IntKind.i64 t251, undef, undef, undef, undef, undef, undef, u25, u26, u27, u28, u29, u30, u31, u32, u33, u34, u35, u36, u37, u38, u39, u40, u41, u42, u43, u44, Value.int IntKind.i64 ↑l1_5.length, Value.int IntKind.i64 x46_3, u47, u48, u49, u50, u51, u52, u53, u54, u55, u56, u57, u58, u59, u60, u61, u62, u63, u64, u65, u66, u67, u68, u69, u70, u71, u72, u73, u74, u75, u76, u77, u78, u79, u80, u81, u82, u83, u84, u85, u86, u87, u88, u89, u90, u91, u92, u93, u94, u95, u96, u97, u98, u99, u100, u101, u102, u103, u104, u105, u106, u107, u108, u109, u110, u111, u112, u113, u114, u115, u116, u117, u118, u119, Value.bool x120_66, u121, u122, u123, u124, u125, u126, u127, u128, u129, u130, u131, u132, u133, u134, u135, u136, u137, u138, u139, u140, u141, u142, u143, u144, u145, u146, u147, u148, u149, u150, u151, u152, u153, u154, u155, u156, u157, u158, u159, u160, u161, u162, u163, u164, u165, u166, u167, u168, u169, u170, u171, u172, u173, u174, u175, u176, u177, u178], defers := [] } wc := by
  cases kq with
  | zero => exact absurd HA.out (by simp [fastilaw29_BearingWeather.j3])
  | succ kj66 =>
   have H := HA.out
   clear HA
   simp only [fastilaw29_BearingWeather.j3] at H
   by_cases c92 : x120_66 = true
   ·subst c92
    have H1 : (some false) = some r := by rw [if_pos rfl] at H; exact H
    clear H
    have H := H1
    clear H1
    obtain rfl := Option.some.inj H
    go_wp2
    go_ret
    exact ⟨by first | rfl | (simp [errW_none, errW_some] <;> rfl) | (simp only [← hji63, ← hji64]; first | rfl | (simp [errW_none, errW_some] <;> rfl)) | (simp [*, errW_none, errW_some] <;> rfl), by repeat (first | (with_reducible first | exact HB.out | apply below_alloc | apply pw_below_drewN | apply below_drew1 | refine below_set ?_ GE209.out | refine below_set ?_ GE210.out | refine below_set ?_ GE242.out | refine below_set ?_ GE243.out) | exact HB.out)⟩
   ·replace c92 := Bool.eq_false_iff.mpr c92
    subst c92
    have H1 : (if (l1_5.length : Int) > 0 then (if 0 ≤ (wrap64 ((l1_5.length : Int) - 1)) then (if (wrap64 ((l1_5.length : Int) - 1)) < (t244.length : Int) then (if (wrap64 ((l1_5.length : Int) - 1)) < (t248.length : Int) then (fastilaw29_BearingWeather.j4 kj66 a0_0 a0_1 a0_2 a0_3 a0_4 a0_5 a0_6 ((rd_T27 t244 (wrap64 ((l1_5.length : Int) - 1))).f0) ((rd_T27 t244 (wrap64 ((l1_5.length : Int) - 1))).f1) ((rd_T27 t248 (wrap64 ((l1_5.length : Int) - 1))).f0) ((rd_T27 t248 (wrap64 ((l1_5.length : Int) - 1))).f1)) else (none)) else (none)) else (none)) else (fastilaw29_BearingWeather.j4 kj66 a0_0 a0_1 a0_2 a0_3 a0_4 a0_5 a0_6 a1_0 a1_0 ji63 ji64)) = some r := by rw [if_neg (show ¬ (false = true) by decide)] at H; exact H
    clear H
    have H := H1
    clear H1
    have HC93 := Aside0.mk H
    clear H
    try go_wp2
    have n0_ := Aside0.mk (Kd.R_drew HO_15.out)
    have n1_ := Aside0.mk (Kd.R_drew HO_17.out)
    have n2_ := Aside0.mk (blk_drew BK209.out)
    have n3_ := Aside0.mk (blk_drew BK210.out)
    have n4_ := Aside0.mk (blk_drew BK242.out)
    have n5_ := Aside0.mk (blk_drew BK243.out)
    have n6_ := Aside0.mk (below_drew1 HB.out)
    clear HO_15
    clear HO_17
    clear BK209
    clear BK210
    clear BK242
    clear BK243
    clear HB
    have HO_15 := n0_
    have HO_17 := n1_
    have BK209 := n2_
    have BK210 := n3_
    have BK242 := n4_
    have BK243 := n5_
    have HB := n6_
    clear n0_ n1_ n2_ n3_ n4_ n5_ n6_
    refine start_ (n := 6) (S := fun w' => w'.cell? ⟨gb242, 0, none⟩ = some (.int .i64 a1_0) ∧ w'.cell? ⟨gb242, 1, none⟩ = some (.int .i64 a1_0) ∧ w'.cell? ⟨gb243, 0, none⟩ = some (.int .i64 ji63) ∧ w'.cell? ⟨gb243, 1, none⟩ = some (.int .i64 ji64)) (ds := []) #[false, false, false, false, false, false] (by kernel_rfl) rfl rfl ⟨(blk_cell BK242.out 0).trans rfl, (blk_cell BK242.out 1).trans rfl, (blk_cell BK243.out 0).trans rfl, (blk_cell BK243.out 1).trans rfl⟩ (fun hHeld => ?_)
    generalize wc.drew = w94 at HO_15 HO_17 BK209 BK210 BK242 BK243 HB hHeld ⊢
    refine take_ (i := 0) (N := some 121) (v := ?_) (a' := ?_) #[true, false, false, false, false, false] rfl rfl (by kernel_rfl) (fun _ _ _ h => h) (Or.inl ⟨by rfl, ?_⟩) hHeld ?_ ?_
    rotate_left
    ·rintro w' ⟨s0, s1, s2, s3⟩
     go_simp
     with_reducible rfl
    rotate_left
    ·simp only [Act.put, List.setIfInBounds_toArray, List.set_cons_zero, List.set_cons_succ, i64_w, i32_w]
     rfl
    refine take_ (i := 1) (N := some 122) (v := ?_) (a' := ?_) #[true, true, false, false, false, false] rfl rfl (by kernel_rfl) (fun _ _ _ h => h) (Or.inl ⟨by rfl, ?_⟩) hHeld ?_ ?_
    rotate_left
    ·rintro w' ⟨s0, s1, s2, s3⟩
     go_simp
     with_reducible rfl
    rotate_left
    ·simp only [Act.put, List.setIfInBounds_toArray, List.set_cons_zero, List.set_cons_succ, i64_w, i32_w]
     rfl
    refine join_ (σ := Nat × Nat) 2 #[true, true, true, true, false, false] (fun s_ => [(19, .pointer (some ⟨s_.1, 0, none⟩)), (20, .pointer (some ⟨s_.2, 0, none⟩))]) (fun s_ w' => (w'.cell? ⟨gb242, 0, none⟩ = some (.int .i64 a1_0) ∧ w'.cell? ⟨gb242, 1, none⟩ = some (.int .i64 a1_0) ∧ w'.cell? ⟨gb243, 0, none⟩ = some (.int .i64 ji63) ∧ w'.cell? ⟨gb243, 1, none⟩ = some (.int .i64 ji64)) ∧ (Kd.R k27 27 w' w.heap.size (fun k_ => some k_ ≠ (v249 : Value).ownBlock ∧ k_ ≠ gb242 ∧ k_ ≠ gb243 ∧ k_ ≠ s_.1 ∧ k_ ≠ s_.2) v245 t244) ∧ (Kd.R k27 27 w' w.heap.size (fun k_ => some k_ ≠ (v245 : Value).ownBlock ∧ k_ ≠ gb242 ∧ k_ ≠ gb243 ∧ k_ ≠ s_.1 ∧ k_ ≠ s_.2) v249 t248) ∧ (w'.heap[gb209]? = some (.cells #[.string a0_0, .string a0_1, .int .i64 a0_2, .int .i64 a0_3, .int .i64 a0_4, .int .i64 a0_5, .int .i64 a0_6] 25 (0, 0))) ∧ (w'.heap[gb210]? = some (.cells #[.int .i64 a1_0, .slice A1_1 l1_1.length c1_1, .slice A1_2 l1_2.length c1_2, .slice A1_3 l1_3.length c1_3, .slice A1_4 l1_4.length c1_4, .slice A1_5 l1_5.length c1_5] 71 (0, 0))) ∧ (w'.heap[gb242]? = some (.cells #[.int .i64 a1_0, .int .i64 a1_0] 27 (0, 0))) ∧ (w'.heap[gb243]? = some (.cells #[.int .i64 ji63, .int .i64 ji64] 27 (0, 0))) ∧ (w'.heap[s_.1]? = some (.cells #[.int .i64 0, .int .i64 0] 27 (0, 0))) ∧ (w'.heap[s_.2]? = some (.cells #[.int .i64 0, .int .i64 0] 27 (0, 0))) ∧ (w.heap.size ≤ s_.1) ∧ (w.heap.size ≤ s_.1) ∧ (gb209 ≠ s_.1) ∧ (s_.1 ≠ gb209) ∧ (gb210 ≠ s_.1) ∧ (s_.1 ≠ gb210) ∧ (gb242 ≠ s_.1) ∧ (s_.1 ≠ gb242) ∧ (gb243 ≠ s_.1) ∧ (s_.1 ≠ gb243) ∧ (s_.2 ≠ s_.1) ∧ (s_.1 ≠ s_.2) ∧ (w.heap.size ≤ s_.2) ∧ (w.heap.size ≤ s_.2) ∧ (gb209 ≠ s_.2) ∧ (s_.2 ≠ gb209) ∧ (gb210 ≠ s_.2) ∧ (s_.2 ≠ gb210) ∧ (gb242 ≠ s_.2) ∧ (s_.2 ≠ gb242) ∧ (gb243 ≠ s_.2) ∧ (s_.2 ≠ gb243) ∧ (Below w.heap.size w w')) ?_ ?_
    rotate_left
    ·intro hCont
     refine two_ (i := 2) (j := 3) (Ni := some 19) (Nj := some 20) #[true, true, true, false, false, false] #[true, true, false, true, false, false] rfl rfl rfl rfl (by kernel_rfl) (by decide) (by decide) (fun K hK => ?_) (fun K hK => ?_)
     ·skip
      refine box_step ?hg (N := 19) ?hd (cs := #[.int .i64 0, .int .i64 0]) (t := 27) ?hr ?_; (case hd => rfl); (case hg => rfl); (case hr => first | (go_simp; done) | (go_simp; rfl))
      intro gb252 hg w95 hbox hb
      have n0_ := Aside0.mk (Kd.R_below (Kd.R_elderB (zr HO_15.out) gb252 (Nat.le_of_eq hg.symm)) hb)
      have n1_ := Aside0.mk (Kd.R_below (Kd.R_elderB (zr HO_17.out) gb252 (Nat.le_of_eq hg.symm)) hb)
      have n2_ := Aside0.mk (zb BK209.out hb)
      have n3_ := Aside0.mk (zb BK210.out hb)
      have n4_ := Aside0.mk (zb BK242.out hb)
      have n5_ := Aside0.mk (zb BK243.out hb)
      have n6_ := Aside0.mk (below_step (by repeat (first | (with_reducible first | exact HB.out | apply below_alloc | apply pw_below_drewN | apply below_drew1 | refine below_set ?_ GE209.out | refine below_set ?_ GE210.out | refine below_set ?_ GE242.out | refine below_set ?_ GE243.out) | exact HB.out)) hb)
      have n7_ := Aside0.mk (hbox)
      have n8_ := Aside0.mk ((by rw [hg]; exact (below_size (by repeat (first | (with_reducible first | exact HB.out | apply below_alloc | apply pw_below_drewN | apply below_drew1 | refine below_set ?_ GE209.out | refine below_set ?_ GE210.out | refine below_set ?_ GE242.out | refine below_set ?_ GE243.out) | exact HB.out))) : w.heap.size ≤ gb252))
      have n9_ := Aside0.mk ((by rw [hg]; exact (below_size (by repeat (first | (with_reducible first | exact HB.out | apply below_alloc | apply pw_below_drewN | apply below_drew1 | refine below_set ?_ GE209.out | refine below_set ?_ GE210.out | refine below_set ?_ GE242.out | refine below_set ?_ GE243.out) | exact HB.out))) : w.heap.size ≤ gb252))
      have n10_ := Aside0.mk ((by rw [hg]; exact Nat.ne_of_lt (blk_lt (zk BK209.out)) : gb209 ≠ gb252))
      have n11_ := Aside0.mk ((by rw [hg]; exact Nat.ne_of_gt (blk_lt (zk BK209.out)) : gb252 ≠ gb209))
      have n12_ := Aside0.mk ((by rw [hg]; exact Nat.ne_of_lt (blk_lt (zk BK210.out)) : gb210 ≠ gb252))
      have n13_ := Aside0.mk ((by rw [hg]; exact Nat.ne_of_gt (blk_lt (zk BK210.out)) : gb252 ≠ gb210))
      have n14_ := Aside0.mk ((by rw [hg]; exact Nat.ne_of_lt (blk_lt (zk BK242.out)) : gb242 ≠ gb252))
      have n15_ := Aside0.mk ((by rw [hg]; exact Nat.ne_of_gt (blk_lt (zk BK242.out)) : gb252 ≠ gb242))
      have n16_ := Aside0.mk ((by rw [hg]; exact Nat.ne_of_lt (blk_lt (zk BK243.out)) : gb243 ≠ gb252))
      have n17_ := Aside0.mk ((by rw [hg]; exact Nat.ne_of_gt (blk_lt (zk BK243.out)) : gb252 ≠ gb243))
      clear HO_15
      clear HO_17
      clear BK209
      clear BK210
      clear BK242
      clear BK243
      clear HB
      have HO_15 := n0_
      have HO_17 := n1_
      have BK209 := n2_
      have BK210 := n3_
      have BK242 := n4_
      have BK243 := n5_
      have HB := n6_
      have BK252 := n7_
      have GW252 := n8_
      have GE252 := n9_
      have NB209_252 := n10_
      have NB252_209 := n11_
      have NB210_252 := n12_
      have NB252_210 := n13_
      have NB242_252 := n14_
      have NB252_242 := n15_
      have NB243_252 := n16_
      have NB252_243 := n17_
      clear n0_ n1_ n2_ n3_ n4_ n5_ n6_ n7_ n8_ n9_ n10_ n11_ n12_ n13_ n14_ n15_ n16_ n17_
      clear hb hbox hg
      refine hK.out _ _ ⟨(blk_cell BK242.out 0).trans rfl, (blk_cell BK242.out 1).trans rfl, (blk_cell BK243.out 0).trans rfl, (blk_cell BK243.out 1).trans rfl⟩ (fun hHeld => ?_)
      clear hK K
      refine norm_ (a' := ?_) ?_ ?_
      rotate_left
      ·show Act.put _ (some 19) _ = _
       simp only [Act.put, List.setIfInBounds_toArray, List.set_cons_zero, List.set_cons_succ, i64_w, i32_w]
       rfl
      refine one_ (i := 3) (N := some 20) #[true, true, true, true, false, false] rfl rfl (by kernel_rfl) (by decide) (fun K hK => ?_)
      refine box_step ?hg (N := 20) ?hd (cs := #[.int .i64 0, .int .i64 0]) (t := 27) ?hr ?_; (case hd => rfl); (case hg => rfl); (case hr => first | (go_simp; done) | (go_simp; rfl))
      intro gb253 hg w96 hbox hb
      have n0_ := Aside0.mk (Kd.R_below (Kd.R_elderB (zr HO_15.out) gb253 (Nat.le_of_eq hg.symm)) hb)
      have n1_ := Aside0.mk (Kd.R_below (Kd.R_elderB (zr HO_17.out) gb253 (Nat.le_of_eq hg.symm)) hb)
      have n2_ := Aside0.mk (zb BK209.out hb)
      have n3_ := Aside0.mk (zb BK210.out hb)
      have n4_ := Aside0.mk (zb BK242.out hb)
      have n5_ := Aside0.mk (zb BK243.out hb)
      have n6_ := Aside0.mk (zb BK252.out hb)
      have n7_ := Aside0.mk (below_step (by repeat (first | (with_reducible first | exact HB.out | apply below_alloc | apply pw_below_drewN | apply below_drew1 | refine below_set ?_ GE209.out | refine below_set ?_ GE210.out | refine below_set ?_ GE242.out | refine below_set ?_ GE243.out | refine below_set ?_ GE252.out) | exact HB.out)) hb)
      have n8_ := Aside0.mk (hbox)
      have n9_ := Aside0.mk ((by rw [hg]; exact (below_size (by repeat (first | (with_reducible first | exact HB.out | apply below_alloc | apply pw_below_drewN | apply below_drew1 | refine below_set ?_ GE209.out | refine below_set ?_ GE210.out | refine below_set ?_ GE242.out | refine below_set ?_ GE243.out | refine below_set ?_ GE252.out) | exact HB.out))) : w.heap.size ≤ gb253))
      have n10_ := Aside0.mk ((by rw [hg]; exact (below_size (by repeat (first | (with_reducible first | exact HB.out | apply below_alloc | apply pw_below_drewN | apply below_drew1 | refine below_set ?_ GE209.out | refine below_set ?_ GE210.out | refine below_set ?_ GE242.out | refine below_set ?_ GE243.out | refine below_set ?_ GE252.out) | exact HB.out))) : w.heap.size ≤ gb253))
      have n11_ := Aside0.mk ((by rw [hg]; exact Nat.ne_of_lt (blk_lt (zk BK209.out)) : gb209 ≠ gb253))
      have n12_ := Aside0.mk ((by rw [hg]; exact Nat.ne_of_gt (blk_lt (zk BK209.out)) : gb253 ≠ gb209))
      have n13_ := Aside0.mk ((by rw [hg]; exact Nat.ne_of_lt (blk_lt (zk BK210.out)) : gb210 ≠ gb253))
      have n14_ := Aside0.mk ((by rw [hg]; exact Nat.ne_of_gt (blk_lt (zk BK210.out)) : gb253 ≠ gb210))
      have n15_ := Aside0.mk ((by rw [hg]; exact Nat.ne_of_lt (blk_lt (zk BK242.out)) : gb242 ≠ gb253))
      have n16_ := Aside0.mk ((by rw [hg]; exact Nat.ne_of_gt (blk_lt (zk BK242.out)) : gb253 ≠ gb242))
      have n17_ := Aside0.mk ((by rw [hg]; exact Nat.ne_of_lt (blk_lt (zk BK243.out)) : gb243 ≠ gb253))
      have n18_ := Aside0.mk ((by rw [hg]; exact Nat.ne_of_gt (blk_lt (zk BK243.out)) : gb253 ≠ gb243))
      have n19_ := Aside0.mk ((by rw [hg]; exact Nat.ne_of_lt (blk_lt (zk BK252.out)) : gb252 ≠ gb253))
      have n20_ := Aside0.mk ((by rw [hg]; exact Nat.ne_of_gt (blk_lt (zk BK252.out)) : gb253 ≠ gb252))
      clear HO_15
      clear HO_17
      clear BK209
      clear BK210
      clear BK242
      clear BK243
      clear BK252
      clear HB
      have HO_15 := n0_
      have HO_17 := n1_
      have BK209 := n2_
      have BK210 := n3_
      have BK242 := n4_
      have BK243 := n5_
      have BK252 := n6_
      have HB := n7_
      have BK253 := n8_
      have GW253 := n9_
      have GE253 := n10_
      have NB209_253 := n11_
      have NB253_209 := n12_
      have NB210_253 := n13_
      have NB253_210 := n14_
      have NB242_253 := n15_
      have NB253_242 := n16_
      have NB243_253 := n17_
      have NB253_243 := n18_
      have NB252_253 := n19_
      have NB253_252 := n20_
      clear n0_ n1_ n2_ n3_ n4_ n5_ n6_ n7_ n8_ n9_ n10_ n11_ n12_ n13_ n14_ n15_ n16_ n17_ n18_ n19_ n20_
      clear hb hbox hg
      refine hK.out _ _ ⟨(blk_cell BK242.out 0).trans rfl, (blk_cell BK242.out 1).trans rfl, (blk_cell BK243.out 0).trans rfl, (blk_cell BK243.out 1).trans rfl⟩ (fun hHeld => ?_)
      clear hK K
      refine norm_ (a' := ?_) ?_ ?_
      rotate_left
      ·show Act.put _ (some 20) _ = _
       simp only [Act.put, List.setIfInBounds_toArray, List.set_cons_zero, List.set_cons_succ, i64_w, i32_w]
       rfl
      exact norm_ (by simp only [putAll, Act.put, List.setIfInBounds_toArray, List.set_cons_zero, List.set_cons_succ]) (hCont (gb252, gb253) _ ⟨hHeld, (by (with_reducible repeat (first | apply Kd.R_alloc | apply Kd.R_drewN | apply Kd.R_drew)); exact Kd.R_mono HO_15.out (fun _ hk => ⟨hk.1.1.1, ⟨hk.1.1.2.1, ⟨hk.1.1.2.2, ⟨hk.1.2, hk.2⟩⟩⟩⟩)), (by (with_reducible repeat (first | apply Kd.R_alloc | apply Kd.R_drewN | apply Kd.R_drew)); exact Kd.R_mono HO_17.out (fun _ hk => ⟨hk.1.1.1, ⟨hk.1.1.2.1, ⟨hk.1.1.2.2, ⟨hk.1.2, hk.2⟩⟩⟩⟩)), (zk BK209.out), (zk BK210.out), (zk BK242.out), (zk BK243.out), (zk BK252.out), (zk BK253.out), GW252.out, GE252.out, NB209_252.out, NB252_209.out, NB210_252.out, NB252_210.out, NB242_252.out, NB252_242.out, NB243_252.out, NB252_243.out, NB253_252.out, NB252_253.out, GW253.out, GE253.out, NB209_253.out, NB253_209.out, NB210_253.out, NB253_210.out, NB242_253.out, NB253_242.out, NB243_253.out, NB253_243.out, (by repeat (first | (with_reducible first | exact HB.out | apply below_alloc | apply pw_below_drewN | apply below_drew1 | refine below_set ?_ GE209.out | refine below_set ?_ GE210.out | refine below_set ?_ GE242.out | refine below_set ?_ GE243.out | refine below_set ?_ GE252.out | refine below_set ?_ GE253.out) | exact HB.out))⟩)
     ·skip
      refine box_step ?hg (N := 20) ?hd (cs := #[.int .i64 0, .int .i64 0]) (t := 27) ?hr ?_; (case hd => rfl); (case hg => rfl); (case hr => first | (go_simp; done) | (go_simp; rfl))
      intro gb253 hg w95 hbox hb
      have n0_ := Aside0.mk (Kd.R_below (Kd.R_elderB (zr HO_15.out) gb253 (Nat.le_of_eq hg.symm)) hb)
      have n1_ := Aside0.mk (Kd.R_below (Kd.R_elderB (zr HO_17.out) gb253 (Nat.le_of_eq hg.symm)) hb)
      have n2_ := Aside0.mk (zb BK209.out hb)
      have n3_ := Aside0.mk (zb BK210.out hb)
      have n4_ := Aside0.mk (zb BK242.out hb)
      have n5_ := Aside0.mk (zb BK243.out hb)
      have n6_ := Aside0.mk (below_step (by repeat (first | (with_reducible first | exact HB.out | apply below_alloc | apply pw_below_drewN | apply below_drew1 | refine below_set ?_ GE209.out | refine below_set ?_ GE210.out | refine below_set ?_ GE242.out | refine below_set ?_ GE243.out) | exact HB.out)) hb)
      have n7_ := Aside0.mk (hbox)
      have n8_ := Aside0.mk ((by rw [hg]; exact (below_size (by repeat (first | (with_reducible first | exact HB.out | apply below_alloc | apply pw_below_drewN | apply below_drew1 | refine below_set ?_ GE209.out | refine below_set ?_ GE210.out | refine below_set ?_ GE242.out | refine below_set ?_ GE243.out) | exact HB.out))) : w.heap.size ≤ gb253))
      have n9_ := Aside0.mk ((by rw [hg]; exact (below_size (by repeat (first | (with_reducible first | exact HB.out | apply below_alloc | apply pw_below_drewN | apply below_drew1 | refine below_set ?_ GE209.out | refine below_set ?_ GE210.out | refine below_set ?_ GE242.out | refine below_set ?_ GE243.out) | exact HB.out))) : w.heap.size ≤ gb253))
      have n10_ := Aside0.mk ((by rw [hg]; exact Nat.ne_of_lt (blk_lt (zk BK209.out)) : gb209 ≠ gb253))
      have n11_ := Aside0.mk ((by rw [hg]; exact Nat.ne_of_gt (blk_lt (zk BK209.out)) : gb253 ≠ gb209))
      have n12_ := Aside0.mk ((by rw [hg]; exact Nat.ne_of_lt (blk_lt (zk BK210.out)) : gb210 ≠ gb253))
      have n13_ := Aside0.mk ((by rw [hg]; exact Nat.ne_of_gt (blk_lt (zk BK210.out)) : gb253 ≠ gb210))
      have n14_ := Aside0.mk ((by rw [hg]; exact Nat.ne_of_lt (blk_lt (zk BK242.out)) : gb242 ≠ gb253))
      have n15_ := Aside0.mk ((by rw [hg]; exact Nat.ne_of_gt (blk_lt (zk BK242.out)) : gb253 ≠ gb242))
      have n16_ := Aside0.mk ((by rw [hg]; exact Nat.ne_of_lt (blk_lt (zk BK243.out)) : gb243 ≠ gb253))
      have n17_ := Aside0.mk ((by rw [hg]; exact Nat.ne_of_gt (blk_lt (zk BK243.out)) : gb253 ≠ gb243))
      clear HO_15
      clear HO_17
      clear BK209
      clear BK210
      clear BK242
      clear BK243
      clear HB
      have HO_15 := n0_
      have HO_17 := n1_
      have BK209 := n2_
      have BK210 := n3_
      have BK242 := n4_
      have BK243 := n5_
      have HB := n6_
      have BK253 := n7_
      have GW253 := n8_
      have GE253 := n9_
      have NB209_253 := n10_
      have NB253_209 := n11_
      have NB210_253 := n12_
      have NB253_210 := n13_
      have NB242_253 := n14_
      have NB253_242 := n15_
      have NB243_253 := n16_
      have NB253_243 := n17_
      clear n0_ n1_ n2_ n3_ n4_ n5_ n6_ n7_ n8_ n9_ n10_ n11_ n12_ n13_ n14_ n15_ n16_ n17_
      clear hb hbox hg
      refine hK.out _ _ ⟨(blk_cell BK242.out 0).trans rfl, (blk_cell BK242.out 1).trans rfl, (blk_cell BK243.out 0).trans rfl, (blk_cell BK243.out 1).trans rfl⟩ (fun hHeld => ?_)
      clear hK K
      refine norm_ (a' := ?_) ?_ ?_
      rotate_left
      ·show Act.put _ (some 20) _ = _
       simp only [Act.put, List.setIfInBounds_toArray, List.set_cons_zero, List.set_cons_succ, i64_w, i32_w]
       rfl
      refine one_ (i := 2) (N := some 19) #[true, true, true, true, false, false] rfl rfl (by kernel_rfl) (by decide) (fun K hK => ?_)
      refine box_step ?hg (N := 19) ?hd (cs := #[.int .i64 0, .int .i64 0]) (t := 27) ?hr ?_; (case hd => rfl); (case hg => rfl); (case hr => first | (go_simp; done) | (go_simp; rfl))
      intro gb252 hg w96 hbox hb
      have n0_ := Aside0.mk (Kd.R_below (Kd.R_elderB (zr HO_15.out) gb252 (Nat.le_of_eq hg.symm)) hb)
      have n1_ := Aside0.mk (Kd.R_below (Kd.R_elderB (zr HO_17.out) gb252 (Nat.le_of_eq hg.symm)) hb)
      have n2_ := Aside0.mk (zb BK209.out hb)
      have n3_ := Aside0.mk (zb BK210.out hb)
      have n4_ := Aside0.mk (zb BK242.out hb)
      have n5_ := Aside0.mk (zb BK243.out hb)
      have n6_ := Aside0.mk (zb BK253.out hb)
      have n7_ := Aside0.mk (below_step (by repeat (first | (with_reducible first | exact HB.out | apply below_alloc | apply pw_below_drewN | apply below_drew1 | refine below_set ?_ GE209.out | refine below_set ?_ GE210.out | refine below_set ?_ GE242.out | refine below_set ?_ GE243.out | refine below_set ?_ GE253.out) | exact HB.out)) hb)
      have n8_ := Aside0.mk (hbox)
      have n9_ := Aside0.mk ((by rw [hg]; exact (below_size (by repeat (first | (with_reducible first | exact HB.out | apply below_alloc | apply pw_below_drewN | apply below_drew1 | refine below_set ?_ GE209.out | refine below_set ?_ GE210.out | refine below_set ?_ GE242.out | refine below_set ?_ GE243.out | refine below_set ?_ GE253.out) | exact HB.out))) : w.heap.size ≤ gb252))
      have n10_ := Aside0.mk ((by rw [hg]; exact (below_size (by repeat (first | (with_reducible first | exact HB.out | apply below_alloc | apply pw_below_drewN | apply below_drew1 | refine below_set ?_ GE209.out | refine below_set ?_ GE210.out | refine below_set ?_ GE242.out | refine below_set ?_ GE243.out | refine below_set ?_ GE253.out) | exact HB.out))) : w.heap.size ≤ gb252))
      have n11_ := Aside0.mk ((by rw [hg]; exact Nat.ne_of_lt (blk_lt (zk BK209.out)) : gb209 ≠ gb252))
      have n12_ := Aside0.mk ((by rw [hg]; exact Nat.ne_of_gt (blk_lt (zk BK209.out)) : gb252 ≠ gb209))
      have n13_ := Aside0.mk ((by rw [hg]; exact Nat.ne_of_lt (blk_lt (zk BK210.out)) : gb210 ≠ gb252))
      have n14_ := Aside0.mk ((by rw [hg]; exact Nat.ne_of_gt (blk_lt (zk BK210.out)) : gb252 ≠ gb210))
      have n15_ := Aside0.mk ((by rw [hg]; exact Nat.ne_of_lt (blk_lt (zk BK242.out)) : gb242 ≠ gb252))
      have n16_ := Aside0.mk ((by rw [hg]; exact Nat.ne_of_gt (blk_lt (zk BK242.out)) : gb252 ≠ gb242))
      have n17_ := Aside0.mk ((by rw [hg]; exact Nat.ne_of_lt (blk_lt (zk BK243.out)) : gb243 ≠ gb252))
      have n18_ := Aside0.mk ((by rw [hg]; exact Nat.ne_of_gt (blk_lt (zk BK243.out)) : gb252 ≠ gb243))
      have n19_ := Aside0.mk ((by rw [hg]; exact Nat.ne_of_lt (blk_lt (zk BK253.out)) : gb253 ≠ gb252))
      have n20_ := Aside0.mk ((by rw [hg]; exact Nat.ne_of_gt (blk_lt (zk BK253.out)) : gb252 ≠ gb253))
      clear HO_15
      clear HO_17
      clear BK209
      clear BK210
      clear BK242
      clear BK243
      clear BK253
      clear HB
      have HO_15 := n0_
      have HO_17 := n1_
      have BK209 := n2_
      have BK210 := n3_
      have BK242 := n4_
      have BK243 := n5_
      have BK253 := n6_
      have HB := n7_
      have BK252 := n8_
      have GW252 := n9_
      have GE252 := n10_
      have NB209_252 := n11_
      have NB252_209 := n12_
      have NB210_252 := n13_
      have NB252_210 := n14_
      have NB242_252 := n15_
      have NB252_242 := n16_
      have NB243_252 := n17_
      have NB252_243 := n18_
      have NB253_252 := n19_
      have NB252_253 := n20_
      clear n0_ n1_ n2_ n3_ n4_ n5_ n6_ n7_ n8_ n9_ n10_ n11_ n12_ n13_ n14_ n15_ n16_ n17_ n18_ n19_ n20_
      clear hb hbox hg
      refine hK.out _ _ ⟨(blk_cell BK242.out 0).trans rfl, (blk_cell BK242.out 1).trans rfl, (blk_cell BK243.out 0).trans rfl, (blk_cell BK243.out 1).trans rfl⟩ (fun hHeld => ?_)
      clear hK K
      refine norm_ (a' := ?_) ?_ ?_
      rotate_left
      ·show Act.put _ (some 19) _ = _
       simp only [Act.put, List.setIfInBounds_toArray, List.set_cons_zero, List.set_cons_succ, i64_w, i32_w]
       rfl
      exact norm_ (by simp only [putAll, Act.put, List.setIfInBounds_toArray, List.set_cons_zero, List.set_cons_succ]) (hCont (gb252, gb253) _ ⟨hHeld, (by (with_reducible repeat (first | apply Kd.R_alloc | apply Kd.R_drewN | apply Kd.R_drew)); exact Kd.R_mono HO_15.out (fun _ hk => ⟨hk.1.1.1, ⟨hk.1.1.2.1, ⟨hk.1.1.2.2, ⟨hk.2, hk.1.2⟩⟩⟩⟩)), (by (with_reducible repeat (first | apply Kd.R_alloc | apply Kd.R_drewN | apply Kd.R_drew)); exact Kd.R_mono HO_17.out (fun _ hk => ⟨hk.1.1.1, ⟨hk.1.1.2.1, ⟨hk.1.1.2.2, ⟨hk.2, hk.1.2⟩⟩⟩⟩)), (zk BK209.out), (zk BK210.out), (zk BK242.out), (zk BK243.out), (zk BK252.out), (zk BK253.out), GW252.out, GE252.out, NB209_252.out, NB252_209.out, NB210_252.out, NB252_210.out, NB242_252.out, NB252_242.out, NB243_252.out, NB252_243.out, NB253_252.out, NB252_253.out, GW253.out, GE253.out, NB209_253.out, NB253_209.out, NB210_253.out, NB253_210.out, NB242_253.out, NB253_242.out, NB243_253.out, NB253_243.out, (by repeat (first | (with_reducible first | exact HB.out | apply below_alloc | apply pw_below_drewN | apply below_drew1 | refine below_set ?_ GE209.out | refine below_set ?_ GE210.out | refine below_set ?_ GE242.out | refine below_set ?_ GE243.out | refine below_set ?_ GE253.out | refine below_set ?_ GE252.out) | exact HB.out))⟩)
    rintro ⟨gb252, gb253⟩ w97 ⟨hS_, h0_, h1_, h2_, h3_, h4_, h5_, h6_, h7_, h8_, h9_, h10_, h11_, h12_, h13_, h14_, h15_, h16_, h17_, h18_, h19_, h20_, h21_, h22_, h23_, h24_, h25_, h26_, h27_, h28_, h29_, h30_⟩
    have n0_ : Aside0 (Kd.R k27 27 w97 w.heap.size (fun k_ => some k_ ≠ (v249 : Value).ownBlock ∧ k_ ≠ gb242 ∧ k_ ≠ gb243 ∧ k_ ≠ gb252 ∧ k_ ≠ gb253) v245 t244) := ⟨h0_⟩
    have n1_ : Aside0 (Kd.R k27 27 w97 w.heap.size (fun k_ => some k_ ≠ (v245 : Value).ownBlock ∧ k_ ≠ gb242 ∧ k_ ≠ gb243 ∧ k_ ≠ gb252 ∧ k_ ≠ gb253) v249 t248) := ⟨h1_⟩
    have n2_ : Aside0 (w97.heap[gb209]? = some (.cells #[.string a0_0, .string a0_1, .int .i64 a0_2, .int .i64 a0_3, .int .i64 a0_4, .int .i64 a0_5, .int .i64 a0_6] 25 (0, 0))) := ⟨h2_⟩
    have n3_ : Aside0 (w97.heap[gb210]? = some (.cells #[.int .i64 a1_0, .slice A1_1 l1_1.length c1_1, .slice A1_2 l1_2.length c1_2, .slice A1_3 l1_3.length c1_3, .slice A1_4 l1_4.length c1_4, .slice A1_5 l1_5.length c1_5] 71 (0, 0))) := ⟨h3_⟩
    have n4_ : Aside0 (w97.heap[gb242]? = some (.cells #[.int .i64 a1_0, .int .i64 a1_0] 27 (0, 0))) := ⟨h4_⟩
    have n5_ : Aside0 (w97.heap[gb243]? = some (.cells #[.int .i64 ji63, .int .i64 ji64] 27 (0, 0))) := ⟨h5_⟩
    have n6_ : Aside0 (w97.heap[gb252]? = some (.cells #[.int .i64 0, .int .i64 0] 27 (0, 0))) := ⟨h6_⟩
    have n7_ : Aside0 (w97.heap[gb253]? = some (.cells #[.int .i64 0, .int .i64 0] 27 (0, 0))) := ⟨h7_⟩
    have n8_ : Aside0 (w.heap.size ≤ gb252) := ⟨h8_⟩
    have n9_ : Aside0 (w.heap.size ≤ gb252) := ⟨h9_⟩
    have n10_ : Aside0 (gb209 ≠ gb252) := ⟨h10_⟩
    have n11_ : Aside0 (gb252 ≠ gb209) := ⟨h11_⟩
    have n12_ : Aside0 (gb210 ≠ gb252) := ⟨h12_⟩
    have n13_ : Aside0 (gb252 ≠ gb210) := ⟨h13_⟩
    have n14_ : Aside0 (gb242 ≠ gb252) := ⟨h14_⟩
    have n15_ : Aside0 (gb252 ≠ gb242) := ⟨h15_⟩
    have n16_ : Aside0 (gb243 ≠ gb252) := ⟨h16_⟩
    have n17_ : Aside0 (gb252 ≠ gb243) := ⟨h17_⟩
    have n18_ : Aside0 (gb253 ≠ gb252) := ⟨h18_⟩
    have n19_ : Aside0 (gb252 ≠ gb253) := ⟨h19_⟩
    have n20_ : Aside0 (w.heap.size ≤ gb253) := ⟨h20_⟩
    have n21_ : Aside0 (w.heap.size ≤ gb253) := ⟨h21_⟩
    have n22_ : Aside0 (gb209 ≠ gb253) := ⟨h22_⟩
    have n23_ : Aside0 (gb253 ≠ gb209) := ⟨h23_⟩
    have n24_ : Aside0 (gb210 ≠ gb253) := ⟨h24_⟩
    have n25_ : Aside0 (gb253 ≠ gb210) := ⟨h25_⟩
    have n26_ : Aside0 (gb242 ≠ gb253) := ⟨h26_⟩
    have n27_ : Aside0 (gb253 ≠ gb242) := ⟨h27_⟩
    have n28_ : Aside0 (gb243 ≠ gb253) := ⟨h28_⟩
    have n29_ : Aside0 (gb253 ≠ gb243) := ⟨h29_⟩
    have n30_ : Aside0 (Below w.heap.size w w97) := ⟨h30_⟩
    clear HO_15
    clear HO_17
    clear BK209
    clear BK210
    clear BK242
    clear BK243
    clear HB
    clear h0_ h1_ h2_ h3_ h4_ h5_ h6_ h7_ h8_ h9_ h10_ h11_ h12_ h13_ h14_ h15_ h16_ h17_ h18_ h19_ h20_ h21_ h22_ h23_ h24_ h25_ h26_ h27_ h28_ h29_ h30_
    have HO_15 := n0_
    have HO_17 := n1_
    have BK209 := n2_
    have BK210 := n3_
    have BK242 := n4_
    have BK243 := n5_
    have BK252 := n6_
    have BK253 := n7_
    have GW252 := n8_
    have GE252 := n9_
    have NB209_252 := n10_
    have NB252_209 := n11_
    have NB210_252 := n12_
    have NB252_210 := n13_
    have NB242_252 := n14_
    have NB252_242 := n15_
    have NB243_252 := n16_
    have NB252_243 := n17_
    have NB253_252 := n18_
    have NB252_253 := n19_
    have GW253 := n20_
    have GE253 := n21_
    have NB209_253 := n22_
    have NB253_209 := n23_
    have NB210_253 := n24_
    have NB253_210 := n25_
    have NB242_253 := n26_
    have NB253_242 := n27_
    have NB243_253 := n28_
    have NB253_243 := n29_
    have HB := n30_
    clear n0_ n1_ n2_ n3_ n4_ n5_ n6_ n7_ n8_ n9_ n10_ n11_ n12_ n13_ n14_ n15_ n16_ n17_ n18_ n19_ n20_ n21_ n22_ n23_ n24_ n25_ n26_ n27_ n28_ n29_ n30_
    have hHeld : w97.cell? ⟨gb242, 0, none⟩ = some (.int .i64 a1_0) ∧ w97.cell? ⟨gb242, 1, none⟩ = some (.int .i64 a1_0) ∧ w97.cell? ⟨gb243, 0, none⟩ = some (.int .i64 ji63) ∧ w97.cell? ⟨gb243, 1, none⟩ = some (.int .i64 ji64) := hS_
    refine norm_ (a' := ?_) ?_ ?_
    rotate_left
    ·simp only [putAll, Act.put, List.setIfInBounds_toArray, List.set_cons_zero, List.set_cons_succ]
     rfl
    refine one_ (i := 4) (N := none) #[true, true, true, true, true, false] rfl rfl (by kernel_rfl) (by decide) (fun K hK => ?_)
    have hs98 : w97.cell? ⟨gb252, 0, none⟩ = some (.int .i64 0) := (blk_cell BK252.out 0).trans rfl
    have hfs98 := blk_frozen BK252.out 0
    have hns98_0 := NB209_252.out
    have hns98_1 := NB210_252.out
    have hns98_2 := NB242_252.out
    have hns98_3 := NB243_252.out
    have hns98_5 := NB253_252.out
    have hms98_0 := NB252_209.out
    have hms98_1 := NB252_210.out
    have hms98_2 := NB252_242.out
    have hms98_3 := NB252_243.out
    have hms98_5 := NB252_253.out
    have hs99 : w97.cell? ⟨gb252, 1, none⟩ = some (.int .i64 0) := (blk_cell BK252.out 1).trans rfl
    have hfs99 := blk_frozen BK252.out 1
    have hns99_0 := NB209_252.out
    have hns99_1 := NB210_252.out
    have hns99_2 := NB242_252.out
    have hns99_3 := NB243_252.out
    have hns99_5 := NB253_252.out
    have hms99_0 := NB252_209.out
    have hms99_1 := NB252_210.out
    have hms99_2 := NB252_242.out
    have hms99_3 := NB252_243.out
    have hms99_5 := NB252_253.out
    refine skip_ (w1 := ?_) (by rfl) rfl ?_ ?_
    rotate_left
    ·go_simp
     rfl
    refine hK.out _ _ ⟨((cell_far (p := ⟨gb252, _, none⟩) NB242_252.out _).trans (((cell_far (p := ⟨gb252, _, none⟩) NB242_252.out _).trans (hHeld.1)))), ((cell_far (p := ⟨gb252, _, none⟩) NB242_252.out _).trans (((cell_far (p := ⟨gb252, _, none⟩) NB242_252.out _).trans (hHeld.2.1)))), ((cell_far (p := ⟨gb252, _, none⟩) NB243_252.out _).trans (((cell_far (p := ⟨gb252, _, none⟩) NB243_252.out _).trans (hHeld.2.2.1)))), ((cell_far (p := ⟨gb252, _, none⟩) NB243_252.out _).trans (((cell_far (p := ⟨gb252, _, none⟩) NB243_252.out _).trans (hHeld.2.2.2))))⟩ (fun hHeld => ?_)
    clear hK K
    refine one_ (i := 5) (N := none) #[true, true, true, true, true, true] rfl rfl (by kernel_rfl) (by decide) (fun K hK => ?_)
    have hs100 : w97.cell? ⟨gb253, 0, none⟩ = some (.int .i64 0) := (blk_cell BK253.out 0).trans rfl
    have hfs100 := blk_frozen BK253.out 0
    have hns100_0 := NB209_253.out
    have hns100_1 := NB210_253.out
    have hns100_2 := NB242_253.out
    have hns100_3 := NB243_253.out
    have hns100_4 := NB252_253.out
    have hms100_0 := NB253_209.out
    have hms100_1 := NB253_210.out
    have hms100_2 := NB253_242.out
    have hms100_3 := NB253_243.out
    have hms100_4 := NB253_252.out
    have hs101 : w97.cell? ⟨gb253, 1, none⟩ = some (.int .i64 0) := (blk_cell BK253.out 1).trans rfl
    have hfs101 := blk_frozen BK253.out 1
    have hns101_0 := NB209_253.out
    have hns101_1 := NB210_253.out
    have hns101_2 := NB242_253.out
    have hns101_3 := NB243_253.out
    have hns101_4 := NB252_253.out
    have hms101_0 := NB253_209.out
    have hms101_1 := NB253_210.out
    have hms101_2 := NB253_242.out
    have hms101_3 := NB253_243.out
    have hms101_4 := NB253_252.out
    refine skip_ (w1 := ?_) (by rfl) rfl ?_ ?_
    rotate_left
    ·go_simp
     rfl
    refine hK.out _ _ ⟨((cell_far (p := ⟨gb253, _, none⟩) NB242_253.out _).trans (((cell_far (p := ⟨gb253, _, none⟩) NB242_253.out _).trans (hHeld.1)))), ((cell_far (p := ⟨gb253, _, none⟩) NB242_253.out _).trans (((cell_far (p := ⟨gb253, _, none⟩) NB242_253.out _).trans (hHeld.2.1)))), ((cell_far (p := ⟨gb253, _, none⟩) NB243_253.out _).trans (((cell_far (p := ⟨gb253, _, none⟩) NB243_253.out _).trans (hHeld.2.2.1)))), ((cell_far (p := ⟨gb253, _, none⟩) NB243_253.out _).trans (((cell_far (p := ⟨gb253, _, none⟩) NB243_253.out _).trans (hHeld.2.2.2))))⟩ (fun hHeld => ?_)
    clear hK K
    refine done_ (by kernel_rfl) ?_
    go_upto_if 124 with (fail)
    go_cut [] (fun wc => ∃ (kq : Nat) (x253000_92 : Int) (x253001_92 : Int) (x254000_92 : Int) (x254001_92 : Int), Aside0 (fastilaw29_BearingWeather.j4 kq a0_0 a0_1 a0_2 a0_3 a0_4 a0_5 a0_6 x253000_92 x253001_92 x254000_92 x254001_92 = some r) ∧ Aside0 (kq ≤ kj66) ∧ Aside0 (wc.heap[gb209]? = some (.cells #[.string a0_0, .string a0_1, .int .i64 a0_2, .int .i64 a0_3, .int .i64 a0_4, .int .i64 a0_5, .int .i64 a0_6] 25 (0, 0))) ∧ Aside0 (wc.heap[gb210]? = some (.cells #[.int .i64 a1_0, (.slice A1_1 l1_1.length c1_1), (.slice A1_2 l1_2.length c1_2), (.slice A1_3 l1_3.length c1_3), (.slice A1_4 l1_4.length c1_4), (.slice A1_5 l1_5.length c1_5)] 71 (0, 0))) ∧ Aside0 (wc.heap[gb242]? = some (.cells #[.int .i64 a1_0, .int .i64 a1_0] 27 (0, 0))) ∧ Aside0 (wc.heap[gb243]? = some (.cells #[.int .i64 ji63, .int .i64 ji64] 27 (0, 0))) ∧ Aside0 (wc.heap[gb252]? = some (.cells #[.int .i64 x253000_92, .int .i64 x253001_92] 27 (0, 0))) ∧ Aside0 (wc.heap[gb253]? = some (.cells #[.int .i64 x254000_92, .int .i64 x254001_92] 27 (0, 0))) ∧ Aside0 (Below w.heap.size w wc))
    case first =>
     have H := HC93.out
     clear HC93
     by_cases c102 : (l1_5.length : Int) > 0
     ·rw [if_pos c102] at H
      have c102b0 : decide (0 < (l1_5.length : Int)) = true := decide_eq_true c102
      have c102b1 : decide (0 < l1_5.length) = true := decide_eq_true (by omega)
      have c102p : 0 < l1_5.length := by omega
      clear c102
      (first | rw [c102b0] | (simp only [i64_w, i32_w]; rw [c102b0]) | skip)
      obtain ⟨ji103, hji103⟩ : ∃ j_ : Int, (wrap64 ((l1_5.length : Int) - 1)) = j_ := ⟨_, rfl⟩
      replace H : (if 0 ≤ (ji103) then (if (ji103) < (t244.length : Int) then (if (ji103) < (t248.length : Int) then (fastilaw29_BearingWeather.j4 kj66 a0_0 a0_1 a0_2 a0_3 a0_4 a0_5 a0_6 ((rd_T27 t244 (ji103)).f0) ((rd_T27 t244 (ji103)).f1) ((rd_T27 t248 (ji103)).f0) ((rd_T27 t248 (ji103)).f1)) else (none)) else (none)) else (none)) = some r := by first | (rw [hji103] at H; exact H) | (simp only [hji103] at H ⊢; exact H)
      have hji103w : (IntKind.i64.wrap ((l1_5.length : Int) - 1)) = ji103 := (i64_w _).trans hji103
      by_cases c104 : 0 ≤ (ji103)
      ·rw [if_pos c104] at H
       have c104b0 : decide (0 ≤ (ji103)) = true := decide_eq_true c104
       clear c104
       by_cases c105 : (ji103) < (t244.length : Int)
       ·rw [if_pos c105] at H
        have c105b0 : decide ((ji103) < (t244.length : Int)) = true := decide_eq_true c105
        clear c105
        by_cases c106 : (ji103) < (t248.length : Int)
        ·rw [if_pos c106] at H
         have c106b0 : decide ((ji103) < (t248.length : Int)) = true := decide_eq_true c106
         clear c106
         have H' := Aside0.mk H
         clear H
         try go_wp2
         have n0_ : Aside0 (Kd.R k27 27 ((((w97.setCell ⟨gb252, 0, none⟩ (.int .i64 a1_0)).setCell ⟨gb252, 1, none⟩ (.int .i64 a1_0)).setCell ⟨gb253, 0, none⟩ (.int .i64 ji63)).setCell ⟨gb253, 1, none⟩ (.int .i64 ji64)) w.heap.size (fun k_ => some k_ ≠ (v249 : Value).ownBlock ∧ k_ ≠ gb242 ∧ k_ ≠ gb243 ∧ k_ ≠ gb252 ∧ k_ ≠ gb253) v245 t244) := ⟨by (with_reducible repeat (first | apply Kd.R_alloc | apply Kd.R_drewN | apply Kd.R_drew)); exact Kd.R_mono (Kd.R_far (p := ⟨gb253, 1, none⟩) (Kd.R_far (p := ⟨gb253, 0, none⟩) (Kd.R_far (p := ⟨gb252, 1, none⟩) (Kd.R_far (p := ⟨gb252, 0, none⟩) (Kd.R_mono (Kd.R_mono HO_15.out (fun k_ hk => (⟨hk, hk.2.2.2.1⟩ : _ ∧ k_ ≠ gb252))) (fun k_ hk => (⟨hk, hk.1.2.2.2.2⟩ : _ ∧ k_ ≠ gb253))) (fun _ hk => hk.1.2) (.int .i64 a1_0)) (fun _ hk => hk.1.2) (.int .i64 a1_0)) (fun _ hk => hk.2) (.int .i64 ji63)) (fun _ hk => hk.2) (.int .i64 ji64)) (fun _ hk => ⟨hk.1.1.1, ⟨hk.1.1.2.1, ⟨hk.1.1.2.2.1, ⟨hk.1.1.2.2.2.1, hk.1.1.2.2.2.2⟩⟩⟩⟩)⟩
         have n1_ : Aside0 (Kd.R k27 27 ((((w97.setCell ⟨gb252, 0, none⟩ (.int .i64 a1_0)).setCell ⟨gb252, 1, none⟩ (.int .i64 a1_0)).setCell ⟨gb253, 0, none⟩ (.int .i64 ji63)).setCell ⟨gb253, 1, none⟩ (.int .i64 ji64)) w.heap.size (fun k_ => some k_ ≠ (v245 : Value).ownBlock ∧ k_ ≠ gb242 ∧ k_ ≠ gb243 ∧ k_ ≠ gb252 ∧ k_ ≠ gb253) v249 t248) := ⟨by (with_reducible repeat (first | apply Kd.R_alloc | apply Kd.R_drewN | apply Kd.R_drew)); exact Kd.R_mono (Kd.R_far (p := ⟨gb253, 1, none⟩) (Kd.R_far (p := ⟨gb253, 0, none⟩) (Kd.R_far (p := ⟨gb252, 1, none⟩) (Kd.R_far (p := ⟨gb252, 0, none⟩) (Kd.R_mono (Kd.R_mono HO_17.out (fun k_ hk => (⟨hk, hk.2.2.2.1⟩ : _ ∧ k_ ≠ gb252))) (fun k_ hk => (⟨hk, hk.1.2.2.2.2⟩ : _ ∧ k_ ≠ gb253))) (fun _ hk => hk.1.2) (.int .i64 a1_0)) (fun _ hk => hk.1.2) (.int .i64 a1_0)) (fun _ hk => hk.2) (.int .i64 ji63)) (fun _ hk => hk.2) (.int .i64 ji64)) (fun _ hk => ⟨hk.1.1.1, ⟨hk.1.1.2.1, ⟨hk.1.1.2.2.1, ⟨hk.1.1.2.2.2.1, hk.1.1.2.2.2.2⟩⟩⟩⟩)⟩
         have n2_ : Aside0 (((((w97.setCell ⟨gb252, 0, none⟩ (.int .i64 a1_0)).setCell ⟨gb252, 1, none⟩ (.int .i64 a1_0)).setCell ⟨gb253, 0, none⟩ (.int .i64 ji63)).setCell ⟨gb253, 1, none⟩ (.int .i64 ji64)).heap[gb209]? = some (.cells #[.string a0_0, .string a0_1, .int .i64 a0_2, .int .i64 a0_3, .int .i64 a0_4, .int .i64 a0_5, .int .i64 a0_6] 25 (0, 0))) := ⟨by (with_reducible repeat (first | refine blk_drewN ?_ _ | refine blk_drew ?_ | refine blk_alloc ?_ _)); refine blk_far ?_ NB209_253.out _; (with_reducible repeat (first | refine blk_drewN ?_ _ | refine blk_drew ?_ | refine blk_alloc ?_ _)); refine blk_far ?_ NB209_253.out _; (with_reducible repeat (first | refine blk_drewN ?_ _ | refine blk_drew ?_ | refine blk_alloc ?_ _)); refine blk_far ?_ NB209_252.out _; (with_reducible repeat (first | refine blk_drewN ?_ _ | refine blk_drew ?_ | refine blk_alloc ?_ _)); refine blk_far ?_ NB209_252.out _; (with_reducible repeat (first | refine blk_drewN ?_ _ | refine blk_drew ?_ | refine blk_alloc ?_ _)); exact BK209.out⟩
         have n3_ : Aside0 (((((w97.setCell ⟨gb252, 0, none⟩ (.int .i64 a1_0)).setCell ⟨gb252, 1, none⟩ (.int .i64 a1_0)).setCell ⟨gb253, 0, none⟩ (.int .i64 ji63)).setCell ⟨gb253, 1, none⟩ (.int .i64 ji64)).heap[gb210]? = some (.cells #[.int .i64 a1_0, .slice A1_1 l1_1.length c1_1, .slice A1_2 l1_2.length c1_2, .slice A1_3 l1_3.length c1_3, .slice A1_4 l1_4.length c1_4, .slice A1_5 l1_5.length c1_5] 71 (0, 0))) := ⟨by (with_reducible repeat (first | refine blk_drewN ?_ _ | refine blk_drew ?_ | refine blk_alloc ?_ _)); refine blk_far ?_ NB210_253.out _; (with_reducible repeat (first | refine blk_drewN ?_ _ | refine blk_drew ?_ | refine blk_alloc ?_ _)); refine blk_far ?_ NB210_253.out _; (with_reducible repeat (first | refine blk_drewN ?_ _ | refine blk_drew ?_ | refine blk_alloc ?_ _)); refine blk_far ?_ NB210_252.out _; (with_reducible repeat (first | refine blk_drewN ?_ _ | refine blk_drew ?_ | refine blk_alloc ?_ _)); refine blk_far ?_ NB210_252.out _; (with_reducible repeat (first | refine blk_drewN ?_ _ | refine blk_drew ?_ | refine blk_alloc ?_ _)); exact BK210.out⟩
         have n4_ : Aside0 (((((w97.setCell ⟨gb252, 0, none⟩ (.int .i64 a1_0)).setCell ⟨gb252, 1, none⟩ (.int .i64 a1_0)).setCell ⟨gb253, 0, none⟩ (.int .i64 ji63)).setCell ⟨gb253, 1, none⟩ (.int .i64 ji64)).heap[gb242]? = some (.cells #[.int .i64 a1_0, .int .i64 a1_0] 27 (0, 0))) := ⟨by (with_reducible repeat (first | refine blk_drewN ?_ _ | refine blk_drew ?_ | refine blk_alloc ?_ _)); refine blk_far ?_ NB242_253.out _; (with_reducible repeat (first | refine blk_drewN ?_ _ | refine blk_drew ?_ | refine blk_alloc ?_ _)); refine blk_far ?_ NB242_253.out _; (with_reducible repeat (first | refine blk_drewN ?_ _ | refine blk_drew ?_ | refine blk_alloc ?_ _)); refine blk_far ?_ NB242_252.out _; (with_reducible repeat (first | refine blk_drewN ?_ _ | refine blk_drew ?_ | refine blk_alloc ?_ _)); refine blk_far ?_ NB242_252.out _; (with_reducible repeat (first | refine blk_drewN ?_ _ | refine blk_drew ?_ | refine blk_alloc ?_ _)); exact BK242.out⟩
         have n5_ : Aside0 (((((w97.setCell ⟨gb252, 0, none⟩ (.int .i64 a1_0)).setCell ⟨gb252, 1, none⟩ (.int .i64 a1_0)).setCell ⟨gb253, 0, none⟩ (.int .i64 ji63)).setCell ⟨gb253, 1, none⟩ (.int .i64 ji64)).heap[gb243]? = some (.cells #[.int .i64 ji63, .int .i64 ji64] 27 (0, 0))) := ⟨by (with_reducible repeat (first | refine blk_drewN ?_ _ | refine blk_drew ?_ | refine blk_alloc ?_ _)); refine blk_far ?_ NB243_253.out _; (with_reducible repeat (first | refine blk_drewN ?_ _ | refine blk_drew ?_ | refine blk_alloc ?_ _)); refine blk_far ?_ NB243_253.out _; (with_reducible repeat (first | refine blk_drewN ?_ _ | refine blk_drew ?_ | refine blk_alloc ?_ _)); refine blk_far ?_ NB243_252.out _; (with_reducible repeat (first | refine blk_drewN ?_ _ | refine blk_drew ?_ | refine blk_alloc ?_ _)); refine blk_far ?_ NB243_252.out _; (with_reducible repeat (first | refine blk_drewN ?_ _ | refine blk_drew ?_ | refine blk_alloc ?_ _)); exact BK243.out⟩
         have n6_ : Aside0 (((((w97.setCell ⟨gb252, 0, none⟩ (.int .i64 a1_0)).setCell ⟨gb252, 1, none⟩ (.int .i64 a1_0)).setCell ⟨gb253, 0, none⟩ (.int .i64 ji63)).setCell ⟨gb253, 1, none⟩ (.int .i64 ji64)).heap[gb252]? = some (.cells #[.int .i64 a1_0, .int .i64 a1_0] 27 (0, 0))) := ⟨by (with_reducible repeat (first | refine blk_drewN ?_ _ | refine blk_drew ?_ | refine blk_alloc ?_ _)); refine blk_far ?_ NB252_253.out _; (with_reducible repeat (first | refine blk_drewN ?_ _ | refine blk_drew ?_ | refine blk_alloc ?_ _)); refine blk_far ?_ NB252_253.out _; (with_reducible repeat (first | refine blk_drewN ?_ _ | refine blk_drew ?_ | refine blk_alloc ?_ _)); refine blk_put (cs := #[.int .i64 a1_0, .int .i64 0]) ?_ 1 _ rfl; (with_reducible repeat (first | refine blk_drewN ?_ _ | refine blk_drew ?_ | refine blk_alloc ?_ _)); refine blk_put (cs := #[.int .i64 0, .int .i64 0]) ?_ 0 _ rfl; (with_reducible repeat (first | refine blk_drewN ?_ _ | refine blk_drew ?_ | refine blk_alloc ?_ _)); exact BK252.out⟩
         have n7_ : Aside0 (((((w97.setCell ⟨gb252, 0, none⟩ (.int .i64 a1_0)).setCell ⟨gb252, 1, none⟩ (.int .i64 a1_0)).setCell ⟨gb253, 0, none⟩ (.int .i64 ji63)).setCell ⟨gb253, 1, none⟩ (.int .i64 ji64)).heap[gb253]? = some (.cells #[.int .i64 ji63, .int .i64 ji64] 27 (0, 0))) := ⟨by (with_reducible repeat (first | refine blk_drewN ?_ _ | refine blk_drew ?_ | refine blk_alloc ?_ _)); refine blk_put (cs := #[.int .i64 ji63, .int .i64 0]) ?_ 1 _ rfl; (with_reducible repeat (first | refine blk_drewN ?_ _ | refine blk_drew ?_ | refine blk_alloc ?_ _)); refine blk_put (cs := #[.int .i64 0, .int .i64 0]) ?_ 0 _ rfl; (with_reducible repeat (first | refine blk_drewN ?_ _ | refine blk_drew ?_ | refine blk_alloc ?_ _)); refine blk_far ?_ NB253_252.out _; (with_reducible repeat (first | refine blk_drewN ?_ _ | refine blk_drew ?_ | refine blk_alloc ?_ _)); refine blk_far ?_ NB253_252.out _; (with_reducible repeat (first | refine blk_drewN ?_ _ | refine blk_drew ?_ | refine blk_alloc ?_ _)); exact BK253.out⟩
         have n8_ : Aside0 (Below w.heap.size w ((((w97.setCell ⟨gb252, 0, none⟩ (.int .i64 a1_0)).setCell ⟨gb252, 1, none⟩ (.int .i64 a1_0)).setCell ⟨gb253, 0, none⟩ (.int .i64 ji63)).setCell ⟨gb253, 1, none⟩ (.int .i64 ji64))) := ⟨by repeat (first | (with_reducible first | exact HB.out | apply below_alloc | apply pw_below_drewN | apply below_drew1 | refine below_set ?_ GE209.out | refine below_set ?_ GE210.out | refine below_set ?_ GE242.out | refine below_set ?_ GE243.out | refine below_set ?_ GE252.out | refine below_set ?_ GE253.out) | exact HB.out)⟩
         (try clear HO_15)
         (try clear HO_17)
         (try clear BK209)
         (try clear BK210)
         (try clear BK242)
         (try clear BK243)
         (try clear BK252)
         (try clear BK253)
         (try clear HB)
         generalize ((((w97.setCell ⟨gb252, 0, none⟩ (.int .i64 a1_0)).setCell ⟨gb252, 1, none⟩ (.int .i64 a1_0)).setCell ⟨gb253, 0, none⟩ (.int .i64 ji63)).setCell ⟨gb253, 1, none⟩ (.int .i64 ji64)) = w107 at n0_ n1_ n2_ n3_ n4_ n5_ n6_ n7_ n8_ ⊢
         have HO_15 := n0_
         have HO_17 := n1_
         have BK209 := n2_
         have BK210 := n3_
         have BK242 := n4_
         have BK243 := n5_
         have BK252 := n6_
         have BK253 := n7_
         have HB := n8_
         clear n0_ n1_ n2_ n3_ n4_ n5_ n6_ n7_ n8_
         have n0_ := Aside0.mk (Kd.R_drew HO_15.out)
         have n1_ := Aside0.mk (Kd.R_drew HO_17.out)
         have n2_ := Aside0.mk (blk_drew BK209.out)
         have n3_ := Aside0.mk (blk_drew BK210.out)
         have n4_ := Aside0.mk (blk_drew BK242.out)
         have n5_ := Aside0.mk (blk_drew BK243.out)
         have n6_ := Aside0.mk (blk_drew BK252.out)
         have n7_ := Aside0.mk (blk_drew BK253.out)
         have n8_ := Aside0.mk (below_drew1 HB.out)
         clear HO_15
         clear HO_17
         clear BK209
         clear BK210
         clear BK242
         clear BK243
         clear BK252
         clear BK253
         clear HB
         have HO_15 := n0_
         have HO_17 := n1_
         have BK209 := n2_
         have BK210 := n3_
         have BK242 := n4_
         have BK243 := n5_
         have BK252 := n6_
         have BK253 := n7_
         have HB := n8_
         clear n0_ n1_ n2_ n3_ n4_ n5_ n6_ n7_ n8_
         obtain ⟨Ao109, co109, eo109⟩ := Kd.R_slice HO_15.out
         (first | subst eo109 | (injection eo109 with f1_ f2_ f3_; have f4_ := f1_.symm; have f5_ := f3_.symm; clear f1_ f2_ f3_; subst f4_; subst f5_))
         have p254 : 0 ≤ ((ji103) : Int) := of_decide_eq_true (by first | (with_reducible assumption) | assumption)
         have q254 : (ji103) < (t244.length : Int) := of_decide_eq_true (by first | (with_reducible assumption) | assumption)
         obtain ⟨ad254, e254, hx254_0, hx254_1⟩ := at_T27 (Kd.R_reads' HO_15.out).2.2 (ji103) p254 q254
         cases e254
         replace p254 := eq_true p254
         replace q254 := eq_true q254
         obtain ⟨Ao110, co110, eo110⟩ := Kd.R_slice HO_17.out
         (first | subst eo110 | (injection eo110 with f1_ f2_ f3_; have f4_ := f1_.symm; have f5_ := f3_.symm; clear f1_ f2_ f3_; subst f4_; subst f5_))
         have p255 : 0 ≤ ((ji103) : Int) := of_decide_eq_true (by first | (with_reducible assumption) | assumption)
         have q255 : (ji103) < (t248.length : Int) := of_decide_eq_true (by first | (with_reducible assumption) | assumption)
         obtain ⟨ad255, e255, hx255_0, hx255_1⟩ := at_T27 (Kd.R_reads' HO_17.out).2.2 (ji103) p255 q255
         cases e255
         replace p255 := eq_true p255
         replace q255 := eq_true q255
         refine start_ (n := 12) (S := fun w' => w'.cell? (ad254.add (((ji103)).toNat * 2)) = some (.int .i64 ((rd_T27 t244 (ji103)).f0)) ∧ w'.cell? ⟨(ad254.add (((ji103)).toNat * 2)).block, (ad254.add (((ji103)).toNat * 2)).off + 1, none⟩ = some (.int .i64 ((rd_T27 t244 (ji103)).f1)) ∧ w'.cell? (ad255.add (((ji103)).toNat * 2)) = some (.int .i64 ((rd_T27 t248 (ji103)).f0)) ∧ w'.cell? ⟨(ad255.add (((ji103)).toNat * 2)).block, (ad255.add (((ji103)).toNat * 2)).off + 1, none⟩ = some (.int .i64 ((rd_T27 t248 (ji103)).f1))) (ds := []) #[false, false, false, false, false, false, false, false, false, false, false, false] (by kernel_rfl) rfl rfl ⟨hx254_0, hx254_1, hx255_0, hx255_1⟩ (fun hHeld => ?_); refine with_tabW fastilaw29_BearingWeather.tab24 fastilaw29_BearingWeather.bits24 (fun HT_ HW_ => ?_)
         generalize w107.drew = w108 at HO_15 HO_17 BK209 BK210 BK242 BK243 BK252 BK253 HB hx254_0 hx254_1 hx255_0 hx255_1 hHeld ⊢
         refine pure_ (i := 0) (N := some 125) (v := ?_) (a' := ?_) #[true, false, false, false, false, false, false, false, false, false, false, false] rfl rfl (any_of HT_.out (by kernel_rfl)) (fun _ _ _ h => h) (Or.inl ⟨by rfl, ?_⟩) ?_ ?_
         rotate_left
         ·intro w'
          go_simp
          with_reducible rfl
         rotate_left
         ·simp only [Act.put, List.setIfInBounds_toArray, List.set_cons_zero, List.set_cons_succ, i64_w, i32_w]
          rfl
         refine pure_ (i := 1) (N := some 126) (v := ?_) (a' := ?_) #[true, true, false, false, false, false, false, false, false, false, false, false] rfl rfl (any_of HT_.out (by kernel_rfl)) (fun _ _ _ h => h) (Or.inl ⟨by rfl, ?_⟩) ?_ ?_
         rotate_left
         ·intro w'
          go_simp
          with_reducible rfl
         rotate_left
         ·simp only [Act.put, List.setIfInBounds_toArray, List.set_cons_zero, List.set_cons_succ, i64_w, i32_w]
          rfl
         refine pure_ (i := 2) (N := some 127) (v := ?_) (a' := ?_) #[true, true, true, false, false, false, false, false, false, false, false, false] rfl rfl (any_of HT_.out (by kernel_rfl)) (fun _ _ _ h => h) (Or.inl ⟨by rfl, ?_⟩) ?_ ?_
         rotate_left
         ·intro w'
          go_simp
          with_reducible rfl
         rotate_left
         ·simp only [Act.put, List.setIfInBounds_toArray, List.set_cons_zero, List.set_cons_succ, i64_w, i32_w]
          rfl
         refine pure_ (i := 3) (N := some 128) (v := ?_) (a' := ?_) #[true, true, true, true, false, false, false, false, false, false, false, false] rfl rfl (any_of HT_.out (by kernel_rfl)) (fun _ _ _ h => h) (Or.inl ⟨by rfl, ?_⟩) ?_ ?_
         rotate_left
         ·intro w'
          go_simp
          with_reducible rfl
         rotate_left
         ·simp only [Act.put, List.setIfInBounds_toArray, List.set_cons_zero, List.set_cons_succ, i64_w, i32_w]
          rfl
         refine pure_ (i := 5) (N := some 130) (v := ?_) (a' := ?_) #[true, true, true, true, false, true, false, false, false, false, false, false] rfl rfl (any_of HT_.out (by kernel_rfl)) (fun _ _ _ h => h) (Or.inl ⟨by rfl, ?_⟩) ?_ ?_
         rotate_left
         ·intro w'
          go_simp
          with_reducible rfl
         rotate_left
         ·simp only [Act.put, List.setIfInBounds_toArray, List.set_cons_zero, List.set_cons_succ, i64_w, i32_w]
          rfl
         refine pure_ (i := 6) (N := some 131) (v := ?_) (a' := ?_) #[true, true, true, true, false, true, true, false, false, false, false, false] rfl rfl (any_of HT_.out (by kernel_rfl)) (fun _ _ _ h => h) (Or.inl ⟨by rfl, ?_⟩) ?_ ?_
         rotate_left
         ·intro w'
          go_simp
          with_reducible rfl
         rotate_left
         ·simp only [Act.put, List.setIfInBounds_toArray, List.set_cons_zero, List.set_cons_succ, i64_w, i32_w]
          rfl
         refine pure_ (i := 7) (N := some 132) (v := ?_) (a' := ?_) #[true, true, true, true, false, true, true, true, false, false, false, false] rfl rfl (any_of HT_.out (by kernel_rfl)) (fun _ _ _ h => h) (Or.inl ⟨by rfl, ?_⟩) ?_ ?_
         rotate_left
         ·intro w'
          go_simp
          with_reducible rfl
         rotate_left
         ·simp only [Act.put, List.setIfInBounds_toArray, List.set_cons_zero, List.set_cons_succ, i64_w, i32_w]
          rfl
         refine pure_ (i := 8) (N := some 133) (v := ?_) (a' := ?_) #[true, true, true, true, false, true, true, true, true, false, false, false] rfl rfl (any_of HT_.out (by kernel_rfl)) (fun _ _ _ h => h) (Or.inl ⟨by rfl, ?_⟩) ?_ ?_
         rotate_left
         ·intro w'
          go_simp
          with_reducible rfl
         rotate_left
         ·simp only [Act.put, List.setIfInBounds_toArray, List.set_cons_zero, List.set_cons_succ, i64_w, i32_w]
          rfl
         refine take_ (i := 4) (N := some 129) (v := ?_) (a' := ?_) #[true, true, true, true, true, true, true, true, true, false, false, false] rfl rfl (take_ofW HT_.out HW_.out (by kernel_rfl)) (fun _ _ _ h => h) (Or.inl ⟨by rfl, ?_⟩) hHeld ?_ ?_
         rotate_left
         ·rintro w' ⟨s0, s1, s2, s3⟩
          go_simp
          with_reducible rfl
         rotate_left
         ·simp only [Act.put, List.setIfInBounds_toArray, List.set_cons_zero, List.set_cons_succ, i64_w, i32_w]
          rfl
         refine take_ (i := 9) (N := some 134) (v := ?_) (a' := ?_) #[true, true, true, true, true, true, true, true, true, true, false, false] rfl rfl (take_ofW HT_.out HW_.out (by kernel_rfl)) (fun _ _ _ h => h) (Or.inl ⟨by rfl, ?_⟩) hHeld ?_ ?_
         rotate_left
         ·rintro w' ⟨s0, s1, s2, s3⟩
          go_simp
          with_reducible rfl
         rotate_left
         ·simp only [Act.put, List.setIfInBounds_toArray, List.set_cons_zero, List.set_cons_succ, i64_w, i32_w]
          rfl
         refine one_ (i := 10) (N := none) #[true, true, true, true, true, true, true, true, true, true, true, false] rfl rfl (one_of HT_.out (by kernel_rfl)) (by decide) (fun K hK => ?_)
         have hs111 : w108.cell? ⟨gb252, 0, none⟩ = some (.int .i64 a1_0) := (blk_cell BK252.out 0).trans rfl
         have hfs111 := blk_frozen BK252.out 0
         have hns111_0 := NB209_252.out
         have hns111_1 := NB210_252.out
         have hns111_2 := NB242_252.out
         have hns111_3 := NB243_252.out
         have hns111_5 := NB253_252.out
         have hms111_0 := NB252_209.out
         have hms111_1 := NB252_210.out
         have hms111_2 := NB252_242.out
         have hms111_3 := NB252_243.out
         have hms111_5 := NB252_253.out
         have hs112 : w108.cell? ⟨gb252, 1, none⟩ = some (.int .i64 a1_0) := (blk_cell BK252.out 1).trans rfl
         have hfs112 := blk_frozen BK252.out 1
         have hns112_0 := NB209_252.out
         have hns112_1 := NB210_252.out
         have hns112_2 := NB242_252.out
         have hns112_3 := NB243_252.out
         have hns112_5 := NB253_252.out
         have hms112_0 := NB252_209.out
         have hms112_1 := NB252_210.out
         have hms112_2 := NB252_242.out
         have hms112_3 := NB252_243.out
         have hms112_5 := NB252_253.out
         refine skip_ (w1 := ?_) (by rfl) rfl ?_ ?_
         rotate_left
         ·go_simp
          rfl
         refine hK.out _ _ ⟨((cell_far (p := ⟨gb252, _, none⟩) (by first | exact Kd.own_blk (Kd.R_away HO_15.out (fun _ hk => hk.2.2.2.1)) | (rw [add_block]; exact Kd.own_blk (Kd.R_away HO_15.out (fun _ hk => hk.2.2.2.1))) | (show (Addr.add _ _).block ≠ _; rw [add_block]; exact Kd.own_blk (Kd.R_away HO_15.out (fun _ hk => hk.2.2.2.1))) | (dsimp only; exact Kd.own_blk (Kd.R_away HO_15.out (fun _ hk => hk.2.2.2.1)))) _).trans (((cell_far (p := ⟨gb252, _, none⟩) (by first | exact Kd.own_blk (Kd.R_away HO_15.out (fun _ hk => hk.2.2.2.1)) | (rw [add_block]; exact Kd.own_blk (Kd.R_away HO_15.out (fun _ hk => hk.2.2.2.1))) | (show (Addr.add _ _).block ≠ _; rw [add_block]; exact Kd.own_blk (Kd.R_away HO_15.out (fun _ hk => hk.2.2.2.1))) | (dsimp only; exact Kd.own_blk (Kd.R_away HO_15.out (fun _ hk => hk.2.2.2.1)))) _).trans (hHeld.1)))), ((cell_far (p := ⟨gb252, _, none⟩) (by first | exact Kd.own_blk (Kd.R_away HO_15.out (fun _ hk => hk.2.2.2.1)) | (rw [add_block]; exact Kd.own_blk (Kd.R_away HO_15.out (fun _ hk => hk.2.2.2.1))) | (show (Addr.add _ _).block ≠ _; rw [add_block]; exact Kd.own_blk (Kd.R_away HO_15.out (fun _ hk => hk.2.2.2.1))) | (dsimp only; exact Kd.own_blk (Kd.R_away HO_15.out (fun _ hk => hk.2.2.2.1)))) _).trans (((cell_far (p := ⟨gb252, _, none⟩) (by first | exact Kd.own_blk (Kd.R_away HO_15.out (fun _ hk => hk.2.2.2.1)) | (rw [add_block]; exact Kd.own_blk (Kd.R_away HO_15.out (fun _ hk => hk.2.2.2.1))) | (show (Addr.add _ _).block ≠ _; rw [add_block]; exact Kd.own_blk (Kd.R_away HO_15.out (fun _ hk => hk.2.2.2.1))) | (dsimp only; exact Kd.own_blk (Kd.R_away HO_15.out (fun _ hk => hk.2.2.2.1)))) _).trans (hHeld.2.1)))), ((cell_far (p := ⟨gb252, _, none⟩) (by first | exact Kd.own_blk (Kd.R_away HO_17.out (fun _ hk => hk.2.2.2.1)) | (rw [add_block]; exact Kd.own_blk (Kd.R_away HO_17.out (fun _ hk => hk.2.2.2.1))) | (show (Addr.add _ _).block ≠ _; rw [add_block]; exact Kd.own_blk (Kd.R_away HO_17.out (fun _ hk => hk.2.2.2.1))) | (dsimp only; exact Kd.own_blk (Kd.R_away HO_17.out (fun _ hk => hk.2.2.2.1)))) _).trans (((cell_far (p := ⟨gb252, _, none⟩) (by first | exact Kd.own_blk (Kd.R_away HO_17.out (fun _ hk => hk.2.2.2.1)) | (rw [add_block]; exact Kd.own_blk (Kd.R_away HO_17.out (fun _ hk => hk.2.2.2.1))) | (show (Addr.add _ _).block ≠ _; rw [add_block]; exact Kd.own_blk (Kd.R_away HO_17.out (fun _ hk => hk.2.2.2.1))) | (dsimp only; exact Kd.own_blk (Kd.R_away HO_17.out (fun _ hk => hk.2.2.2.1)))) _).trans (hHeld.2.2.1)))), ((cell_far (p := ⟨gb252, _, none⟩) (by first | exact Kd.own_blk (Kd.R_away HO_17.out (fun _ hk => hk.2.2.2.1)) | (rw [add_block]; exact Kd.own_blk (Kd.R_away HO_17.out (fun _ hk => hk.2.2.2.1))) | (show (Addr.add _ _).block ≠ _; rw [add_block]; exact Kd.own_blk (Kd.R_away HO_17.out (fun _ hk => hk.2.2.2.1))) | (dsimp only; exact Kd.own_blk (Kd.R_away HO_17.out (fun _ hk => hk.2.2.2.1)))) _).trans (((cell_far (p := ⟨gb252, _, none⟩) (by first | exact Kd.own_blk (Kd.R_away HO_17.out (fun _ hk => hk.2.2.2.1)) | (rw [add_block]; exact Kd.own_blk (Kd.R_away HO_17.out (fun _ hk => hk.2.2.2.1))) | (show (Addr.add _ _).block ≠ _; rw [add_block]; exact Kd.own_blk (Kd.R_away HO_17.out (fun _ hk => hk.2.2.2.1))) | (dsimp only; exact Kd.own_blk (Kd.R_away HO_17.out (fun _ hk => hk.2.2.2.1)))) _).trans (hHeld.2.2.2))))⟩ (fun hHeld => ?_)
         clear hK K
         refine one_ (i := 11) (N := none) #[true, true, true, true, true, true, true, true, true, true, true, true] rfl rfl (one_of HT_.out (by kernel_rfl)) (by decide) (fun K hK => ?_)
         have hs113 : w108.cell? ⟨gb253, 0, none⟩ = some (.int .i64 ji63) := (blk_cell BK253.out 0).trans rfl
         have hfs113 := blk_frozen BK253.out 0
         have hns113_0 := NB209_253.out
         have hns113_1 := NB210_253.out
         have hns113_2 := NB242_253.out
         have hns113_3 := NB243_253.out
         have hns113_4 := NB252_253.out
         have hms113_0 := NB253_209.out
         have hms113_1 := NB253_210.out
         have hms113_2 := NB253_242.out
         have hms113_3 := NB253_243.out
         have hms113_4 := NB253_252.out
         have hs114 : w108.cell? ⟨gb253, 1, none⟩ = some (.int .i64 ji64) := (blk_cell BK253.out 1).trans rfl
         have hfs114 := blk_frozen BK253.out 1
         have hns114_0 := NB209_253.out
         have hns114_1 := NB210_253.out
         have hns114_2 := NB242_253.out
         have hns114_3 := NB243_253.out
         have hns114_4 := NB252_253.out
         have hms114_0 := NB253_209.out
         have hms114_1 := NB253_210.out
         have hms114_2 := NB253_242.out
         have hms114_3 := NB253_243.out
         have hms114_4 := NB253_252.out
         refine skip_ (w1 := ?_) (by rfl) rfl ?_ ?_
         rotate_left
         ·go_simp
          rfl
         refine hK.out _ _ ⟨((cell_far (p := ⟨gb253, _, none⟩) (by first | exact Kd.own_blk (Kd.R_away HO_15.out (fun _ hk => hk.2.2.2.2)) | (rw [add_block]; exact Kd.own_blk (Kd.R_away HO_15.out (fun _ hk => hk.2.2.2.2))) | (show (Addr.add _ _).block ≠ _; rw [add_block]; exact Kd.own_blk (Kd.R_away HO_15.out (fun _ hk => hk.2.2.2.2))) | (dsimp only; exact Kd.own_blk (Kd.R_away HO_15.out (fun _ hk => hk.2.2.2.2)))) _).trans (((cell_far (p := ⟨gb253, _, none⟩) (by first | exact Kd.own_blk (Kd.R_away HO_15.out (fun _ hk => hk.2.2.2.2)) | (rw [add_block]; exact Kd.own_blk (Kd.R_away HO_15.out (fun _ hk => hk.2.2.2.2))) | (show (Addr.add _ _).block ≠ _; rw [add_block]; exact Kd.own_blk (Kd.R_away HO_15.out (fun _ hk => hk.2.2.2.2))) | (dsimp only; exact Kd.own_blk (Kd.R_away HO_15.out (fun _ hk => hk.2.2.2.2)))) _).trans (hHeld.1)))), ((cell_far (p := ⟨gb253, _, none⟩) (by first | exact Kd.own_blk (Kd.R_away HO_15.out (fun _ hk => hk.2.2.2.2)) | (rw [add_block]; exact Kd.own_blk (Kd.R_away HO_15.out (fun _ hk => hk.2.2.2.2))) | (show (Addr.add _ _).block ≠ _; rw [add_block]; exact Kd.own_blk (Kd.R_away HO_15.out (fun _ hk => hk.2.2.2.2))) | (dsimp only; exact Kd.own_blk (Kd.R_away HO_15.out (fun _ hk => hk.2.2.2.2)))) _).trans (((cell_far (p := ⟨gb253, _, none⟩) (by first | exact Kd.own_blk (Kd.R_away HO_15.out (fun _ hk => hk.2.2.2.2)) | (rw [add_block]; exact Kd.own_blk (Kd.R_away HO_15.out (fun _ hk => hk.2.2.2.2))) | (show (Addr.add _ _).block ≠ _; rw [add_block]; exact Kd.own_blk (Kd.R_away HO_15.out (fun _ hk => hk.2.2.2.2))) | (dsimp only; exact Kd.own_blk (Kd.R_away HO_15.out (fun _ hk => hk.2.2.2.2)))) _).trans (hHeld.2.1)))), ((cell_far (p := ⟨gb253, _, none⟩) (by first | exact Kd.own_blk (Kd.R_away HO_17.out (fun _ hk => hk.2.2.2.2)) | (rw [add_block]; exact Kd.own_blk (Kd.R_away HO_17.out (fun _ hk => hk.2.2.2.2))) | (show (Addr.add _ _).block ≠ _; rw [add_block]; exact Kd.own_blk (Kd.R_away HO_17.out (fun _ hk => hk.2.2.2.2))) | (dsimp only; exact Kd.own_blk (Kd.R_away HO_17.out (fun _ hk => hk.2.2.2.2)))) _).trans (((cell_far (p := ⟨gb253, _, none⟩) (by first | exact Kd.own_blk (Kd.R_away HO_17.out (fun _ hk => hk.2.2.2.2)) | (rw [add_block]; exact Kd.own_blk (Kd.R_away HO_17.out (fun _ hk => hk.2.2.2.2))) | (show (Addr.add _ _).block ≠ _; rw [add_block]; exact Kd.own_blk (Kd.R_away HO_17.out (fun _ hk => hk.2.2.2.2))) | (dsimp only; exact Kd.own_blk (Kd.R_away HO_17.out (fun _ hk => hk.2.2.2.2)))) _).trans (hHeld.2.2.1)))), ((cell_far (p := ⟨gb253, _, none⟩) (by first | exact Kd.own_blk (Kd.R_away HO_17.out (fun _ hk => hk.2.2.2.2)) | (rw [add_block]; exact Kd.own_blk (Kd.R_away HO_17.out (fun _ hk => hk.2.2.2.2))) | (show (Addr.add _ _).block ≠ _; rw [add_block]; exact Kd.own_blk (Kd.R_away HO_17.out (fun _ hk => hk.2.2.2.2))) | (dsimp only; exact Kd.own_blk (Kd.R_away HO_17.out (fun _ hk => hk.2.2.2.2)))) _).trans (((cell_far (p := ⟨gb253, _, none⟩) (by first | exact Kd.own_blk (Kd.R_away HO_17.out (fun _ hk => hk.2.2.2.2)) | (rw [add_block]; exact Kd.own_blk (Kd.R_away HO_17.out (fun _ hk => hk.2.2.2.2))) | (show (Addr.add _ _).block ≠ _; rw [add_block]; exact Kd.own_blk (Kd.R_away HO_17.out (fun _ hk => hk.2.2.2.2))) | (dsimp only; exact Kd.own_blk (Kd.R_away HO_17.out (fun _ hk => hk.2.2.2.2)))) _).trans (hHeld.2.2.2))))⟩ (fun hHeld => ?_)
         clear hK K
         refine done_ (done_of HT_.out (by kernel_rfl)) ?_
         try go_wp2
         go_meet
         case rel => exact ⟨_, ((rd_T27 t244 (ji103)).f0), ((rd_T27 t244 (ji103)).f1), ((rd_T27 t248 (ji103)).f0), ((rd_T27 t248 (ji103)).f1), H', ⟨by have := HJ4.out; have := HJ19.out; have := HK3.out; have := HJ66.out; first | omega | exact Nat.le_refl _⟩, ⟨by (with_reducible repeat (first | refine blk_drewN ?_ _ | refine blk_drew ?_ | refine blk_alloc ?_ _)); refine blk_far ?_ NB209_253.out _; (with_reducible repeat (first | refine blk_drewN ?_ _ | refine blk_drew ?_ | refine blk_alloc ?_ _)); refine blk_far ?_ NB209_253.out _; (with_reducible repeat (first | refine blk_drewN ?_ _ | refine blk_drew ?_ | refine blk_alloc ?_ _)); refine blk_far ?_ NB209_252.out _; (with_reducible repeat (first | refine blk_drewN ?_ _ | refine blk_drew ?_ | refine blk_alloc ?_ _)); refine blk_far ?_ NB209_252.out _; (with_reducible repeat (first | refine blk_drewN ?_ _ | refine blk_drew ?_ | refine blk_alloc ?_ _)); exact BK209.out⟩, ⟨by (with_reducible repeat (first | refine blk_drewN ?_ _ | refine blk_drew ?_ | refine blk_alloc ?_ _)); refine blk_far ?_ NB210_253.out _; (with_reducible repeat (first | refine blk_drewN ?_ _ | refine blk_drew ?_ | refine blk_alloc ?_ _)); refine blk_far ?_ NB210_253.out _; (with_reducible repeat (first | refine blk_drewN ?_ _ | refine blk_drew ?_ | refine blk_alloc ?_ _)); refine blk_far ?_ NB210_252.out _; (with_reducible repeat (first | refine blk_drewN ?_ _ | refine blk_drew ?_ | refine blk_alloc ?_ _)); refine blk_far ?_ NB210_252.out _; (with_reducible repeat (first | refine blk_drewN ?_ _ | refine blk_drew ?_ | refine blk_alloc ?_ _)); exact BK210.out⟩, ⟨by (with_reducible repeat (first | refine blk_drewN ?_ _ | refine blk_drew ?_ | refine blk_alloc ?_ _)); refine blk_far ?_ NB242_253.out _; (with_reducible repeat (first | refine blk_drewN ?_ _ | refine blk_drew ?_ | refine blk_alloc ?_ _)); refine blk_far ?_ NB242_253.out _; (with_reducible repeat (first | refine blk_drewN ?_ _ | refine blk_drew ?_ | refine blk_alloc ?_ _)); refine blk_far ?_ NB242_252.out _; (with_reducible repeat (first | refine blk_drewN ?_ _ | refine blk_drew ?_ | refine blk_alloc ?_ _)); refine blk_far ?_ NB242_252.out _; (with_reducible repeat (first | refine blk_drewN ?_ _ | refine blk_drew ?_ | refine blk_alloc ?_ _)); exact BK242.out⟩, ⟨by (with_reducible repeat (first | refine blk_drewN ?_ _ | refine blk_drew ?_ | refine blk_alloc ?_ _)); refine blk_far ?_ NB243_253.out _; (with_reducible repeat (first | refine blk_drewN ?_ _ | refine blk_drew ?_ | refine blk_alloc ?_ _)); refine blk_far ?_ NB243_253.out _; (with_reducible repeat (first | refine blk_drewN ?_ _ | refine blk_drew ?_ | refine blk_alloc ?_ _)); refine blk_far ?_ NB243_252.out _; (with_reducible repeat (first | refine blk_drewN ?_ _ | refine blk_drew ?_ | refine blk_alloc ?_ _)); refine blk_far ?_ NB243_252.out _; (with_reducible repeat (first | refine blk_drewN ?_ _ | refine blk_drew ?_ | refine blk_alloc ?_ _)); exact BK243.out⟩, ⟨by (with_reducible repeat (first | refine blk_drewN ?_ _ | refine blk_drew ?_ | refine blk_alloc ?_ _)); refine blk_far ?_ NB252_253.out _; (with_reducible repeat (first | refine blk_drewN ?_ _ | refine blk_drew ?_ | refine blk_alloc ?_ _)); refine blk_far ?_ NB252_253.out _; (with_reducible repeat (first | refine blk_drewN ?_ _ | refine blk_drew ?_ | refine blk_alloc ?_ _)); refine blk_put (cs := #[.int .i64 ((rd_T27 t244 (ji103)).f0), .int .i64 a1_0]) ?_ 1 _ rfl; (with_reducible repeat (first | refine blk_drewN ?_ _ | refine blk_drew ?_ | refine blk_alloc ?_ _)); refine blk_put (cs := #[.int .i64 a1_0, .int .i64 a1_0]) ?_ 0 _ rfl; (with_reducible repeat (first | refine blk_drewN ?_ _ | refine blk_drew ?_ | refine blk_alloc ?_ _)); exact BK252.out⟩, ⟨by (with_reducible repeat (first | refine blk_drewN ?_ _ | refine blk_drew ?_ | refine blk_alloc ?_ _)); refine blk_put (cs := #[.int .i64 ((rd_T27 t248 (ji103)).f0), .int .i64 ji64]) ?_ 1 _ rfl; (with_reducible repeat (first | refine blk_drewN ?_ _ | refine blk_drew ?_ | refine blk_alloc ?_ _)); refine blk_put (cs := #[.int .i64 ji63, .int .i64 ji64]) ?_ 0 _ rfl; (with_reducible repeat (first | refine blk_drewN ?_ _ | refine blk_drew ?_ | refine blk_alloc ?_ _)); refine blk_far ?_ NB253_252.out _; (with_reducible repeat (first | refine blk_drewN ?_ _ | refine blk_drew ?_ | refine blk_alloc ?_ _)); refine blk_far ?_ NB253_252.out _; (with_reducible repeat (first | refine blk_drewN ?_ _ | refine blk_drew ?_ | refine blk_alloc ?_ _)); exact BK253.out⟩, ⟨by repeat (first | (with_reducible first | exact HB.out | apply below_alloc | apply pw_below_drewN | apply below_drew1 | refine below_set ?_ GE209.out | refine below_set ?_ GE210.out | refine below_set ?_ GE242.out | refine below_set ?_ GE243.out | refine below_set ?_ GE252.out | refine below_set ?_ GE253.out) | exact HB.out)⟩⟩
        ·rw [if_neg c106] at H
         exact absurd H (by simp)
       ·rw [if_neg c105] at H
        exact absurd H (by simp)
      ·rw [if_neg c104] at H
       exact absurd H (by simp)
     ·rw [if_neg c102] at H
      have c102b0 : decide (0 < (l1_5.length : Int)) = false := decide_eq_false c102
      have c102b1 : decide (0 < l1_5.length) = false := decide_eq_false (by omega)
      have c102n : ¬ 0 < l1_5.length := by omega
      clear c102
      (first | rw [c102b0] | (simp only [i64_w, i32_w]; rw [c102b0]) | skip)
      have H' := Aside0.mk H
      clear H
      go_wp2
      go_meet
      case rel => exact ⟨_, (a1_0), (a1_0), (ji63), (ji64), H', ⟨by have := HJ4.out; have := HJ19.out; have := HK3.out; have := HJ66.out; first | omega | exact Nat.le_refl _⟩, ⟨by (with_reducible repeat (first | refine blk_drewN ?_ _ | refine blk_drew ?_ | refine blk_alloc ?_ _)); refine blk_far ?_ NB209_253.out _; (with_reducible repeat (first | refine blk_drewN ?_ _ | refine blk_drew ?_ | refine blk_alloc ?_ _)); refine blk_far ?_ NB209_253.out _; (with_reducible repeat (first | refine blk_drewN ?_ _ | refine blk_drew ?_ | refine blk_alloc ?_ _)); refine blk_far ?_ NB209_252.out _; (with_reducible repeat (first | refine blk_drewN ?_ _ | refine blk_drew ?_ | refine blk_alloc ?_ _)); refine blk_far ?_ NB209_252.out _; (with_reducible repeat (first | refine blk_drewN ?_ _ | refine blk_drew ?_ | refine blk_alloc ?_ _)); exact BK209.out⟩, ⟨by (with_reducible repeat (first | refine blk_drewN ?_ _ | refine blk_drew ?_ | refine blk_alloc ?_ _)); refine blk_far ?_ NB210_253.out _; (with_reducible repeat (first | refine blk_drewN ?_ _ | refine blk_drew ?_ | refine blk_alloc ?_ _)); refine blk_far ?_ NB210_253.out _; (with_reducible repeat (first | refine blk_drewN ?_ _ | refine blk_drew ?_ | refine blk_alloc ?_ _)); refine blk_far ?_ NB210_252.out _; (with_reducible repeat (first | refine blk_drewN ?_ _ | refine blk_drew ?_ | refine blk_alloc ?_ _)); refine blk_far ?_ NB210_252.out _; (with_reducible repeat (first | refine blk_drewN ?_ _ | refine blk_drew ?_ | refine blk_alloc ?_ _)); exact BK210.out⟩, ⟨by (with_reducible repeat (first | refine blk_drewN ?_ _ | refine blk_drew ?_ | refine blk_alloc ?_ _)); refine blk_far ?_ NB242_253.out _; (with_reducible repeat (first | refine blk_drewN ?_ _ | refine blk_drew ?_ | refine blk_alloc ?_ _)); refine blk_far ?_ NB242_253.out _; (with_reducible repeat (first | refine blk_drewN ?_ _ | refine blk_drew ?_ | refine blk_alloc ?_ _)); refine blk_far ?_ NB242_252.out _; (with_reducible repeat (first | refine blk_drewN ?_ _ | refine blk_drew ?_ | refine blk_alloc ?_ _)); refine blk_far ?_ NB242_252.out _; (with_reducible repeat (first | refine blk_drewN ?_ _ | refine blk_drew ?_ | refine blk_alloc ?_ _)); exact BK242.out⟩, ⟨by (with_reducible repeat (first | refine blk_drewN ?_ _ | refine blk_drew ?_ | refine blk_alloc ?_ _)); refine blk_far ?_ NB243_253.out _; (with_reducible repeat (first | refine blk_drewN ?_ _ | refine blk_drew ?_ | refine blk_alloc ?_ _)); refine blk_far ?_ NB243_253.out _; (with_reducible repeat (first | refine blk_drewN ?_ _ | refine blk_drew ?_ | refine blk_alloc ?_ _)); refine blk_far ?_ NB243_252.out _; (with_reducible repeat (first | refine blk_drewN ?_ _ | refine blk_drew ?_ | refine blk_alloc ?_ _)); refine blk_far ?_ NB243_252.out _; (with_reducible repeat (first | refine blk_drewN ?_ _ | refine blk_drew ?_ | refine blk_alloc ?_ _)); exact BK243.out⟩, ⟨by (with_reducible repeat (first | refine blk_drewN ?_ _ | refine blk_drew ?_ | refine blk_alloc ?_ _)); refine blk_far ?_ NB252_253.out _; (with_reducible repeat (first | refine blk_drewN ?_ _ | refine blk_drew ?_ | refine blk_alloc ?_ _)); refine blk_far ?_ NB252_253.out _; (with_reducible repeat (first | refine blk_drewN ?_ _ | refine blk_drew ?_ | refine blk_alloc ?_ _)); refine blk_put (cs := #[.int .i64 a1_0, .int .i64 0]) ?_ 1 _ rfl; (with_reducible repeat (first | refine blk_drewN ?_ _ | refine blk_drew ?_ | refine blk_alloc ?_ _)); refine blk_put (cs := #[.int .i64 0, .int .i64 0]) ?_ 0 _ rfl; (with_reducible repeat (first | refine blk_drewN ?_ _ | refine blk_drew ?_ | refine blk_alloc ?_ _)); exact BK252.out⟩, ⟨by (with_reducible repeat (first | refine blk_drewN ?_ _ | refine blk_drew ?_ | refine blk_alloc ?_ _)); refine blk_put (cs := #[.int .i64 ji63, .int .i64 0]) ?_ 1 _ rfl; (with_reducible repeat (first | refine blk_drewN ?_ _ | refine blk_drew ?_ | refine blk_alloc ?_ _)); refine blk_put (cs := #[.int .i64 0, .int .i64 0]) ?_ 0 _ rfl; (with_reducible repeat (first | refine blk_drewN ?_ _ | refine blk_drew ?_ | refine blk_alloc ?_ _)); refine blk_far ?_ NB253_252.out _; (with_reducible repeat (first | refine blk_drewN ?_ _ | refine blk_drew ?_ | refine blk_alloc ?_ _)); refine blk_far ?_ NB253_252.out _; (with_reducible repeat (first | refine blk_drewN ?_ _ | refine blk_drew ?_ | refine blk_alloc ?_ _)); exact BK253.out⟩, ⟨by repeat (first | (with_reducible first | exact HB.out | apply below_alloc | apply pw_below_drewN | apply below_drew1 | refine below_set ?_ GE209.out | refine below_set ?_ GE210.out | refine below_set ?_ GE242.out | refine below_set ?_ GE243.out | refine below_set ?_ GE252.out | refine below_set ?_ GE253.out) | exact HB.out)⟩⟩
    case rest =>
     clear HC93
     try clear c1
     try clear p2
     try clear q2
     try clear hx2
     try clear p6
     try clear c10
     try clear p25
     try clear q25
     try clear hx25
     try clear p64
     try clear c102
     try clear c102b0
     try clear c102b1
     try clear c104
     try clear c104b0
     try clear c105
     try clear c105b0
     try clear c106
     try clear c106b0
     try clear hx254_0
     try clear hx254_1
     try clear hx255_0
     try clear hx255_1
     try clear p254
     try clear p255
     try clear q254
     try clear q255
     obtain ⟨kq, x253000_92, x253001_92, x254000_92, x254001_92, HA, HJ92, BK209, BK210, BK242, BK243, BK252, BK253, HB⟩ := hcut
     cases kq with
     | zero => exact absurd HA.out (by simp [fastilaw29_BearingWeather.j4])
     | succ kj92 =>
      have H := HA.out
      clear HA
      simp only [fastilaw29_BearingWeather.j4] at H
      replace H := Option.bind_eq_some_iff.mp H
      obtain ⟨⟨t256, t257⟩, A1150, H⟩ := H
      replace H : ((bearing_Permit.f kj92 a0_0 a0_1 a0_2 a0_3 a0_4 a0_5 a0_6 x254000_92 x254001_92 1000 true).bind fun bt258 => (if t257 = 0 then (if bt258.2 = 0 then (fastilaw29_BearingWeather.j5 kj92 t256 bt258.1 (x253000_92 != x253001_92) a0_0 a0_1 a0_2 a0_3 a0_4 a0_5 a0_6 x253000_92 x253001_92) else (fastilaw29_BearingWeather.j5 kj92 t256 bt258.1 true a0_0 a0_1 a0_2 a0_3 a0_4 a0_5 a0_6 x253000_92 x253001_92)) else (fastilaw29_BearingWeather.j5 kj92 t256 bt258.1 true a0_0 a0_1 a0_2 a0_3 a0_4 a0_5 a0_6 x253000_92 x253001_92))) = some r := H
      have A115 := Aside0.mk A1150
      clear A1150
      replace H := Option.bind_eq_some_iff.mp H
      obtain ⟨⟨t258, t259⟩, A1160, H⟩ := H
      replace H : (if t257 = 0 then (if t259 = 0 then (fastilaw29_BearingWeather.j5 kj92 t256 t258 (x253000_92 != x253001_92) a0_0 a0_1 a0_2 a0_3 a0_4 a0_5 a0_6 x253000_92 x253001_92) else (fastilaw29_BearingWeather.j5 kj92 t256 t258 true a0_0 a0_1 a0_2 a0_3 a0_4 a0_5 a0_6 x253000_92 x253001_92)) else (fastilaw29_BearingWeather.j5 kj92 t256 t258 true a0_0 a0_1 a0_2 a0_3 a0_4 a0_5 a0_6 x253000_92 x253001_92)) = some r := H
      have A116 := Aside0.mk A1160
      clear A1160
      have HC117 := Aside0.mk H
      clear H
      have hnb118 := NB209_210.out
      have hnc118 := NB210_209.out
      have hnb119 := NB209_242.out
      have hnc119 := NB242_209.out
      have hnb120 := NB209_243.out
      have hnc120 := NB243_209.out
      have hnb121 := NB209_252.out
      have hnc121 := NB252_209.out
      have hnb122 := NB209_253.out
      have hnc122 := NB253_209.out
      have hcz123_0 : wc.cell? ⟨gb209, 0, none⟩ = some (.string a0_0) := (blk_cell BK209.out 0).trans rfl
      have hcz123_1 : wc.cell? ⟨gb209, 1, none⟩ = some (.string a0_1) := (blk_cell BK209.out 1).trans rfl
      have hcz123_2 : wc.cell? ⟨gb209, 2, none⟩ = some (.int .i64 a0_2) := (blk_cell BK209.out 2).trans rfl
      have hcz123_3 : wc.cell? ⟨gb209, 3, none⟩ = some (.int .i64 a0_3) := (blk_cell BK209.out 3).trans rfl
      have hcz123_4 : wc.cell? ⟨gb209, 4, none⟩ = some (.int .i64 a0_4) := (blk_cell BK209.out 4).trans rfl
      have hcz123_5 : wc.cell? ⟨gb209, 5, none⟩ = some (.int .i64 a0_5) := (blk_cell BK209.out 5).trans rfl
      have hcz123_6 : wc.cell? ⟨gb209, 6, none⟩ = some (.int .i64 a0_6) := (blk_cell BK209.out 6).trans rfl
      have hfz123_0 := blk_frozen BK209.out 0
      have hfz123_1 := blk_frozen BK209.out 1
      have hfz123_2 := blk_frozen BK209.out 2
      have hfz123_3 := blk_frozen BK209.out 3
      have hfz123_4 := blk_frozen BK209.out 4
      have hfz123_5 := blk_frozen BK209.out 5
      have hfz123_6 := blk_frozen BK209.out 6
      have hnb124 := NB253_210.out
      have hnc124 := NB210_253.out
      have hnb125 := NB253_242.out
      have hnc125 := NB242_253.out
      have hnb126 := NB253_243.out
      have hnc126 := NB243_253.out
      have hnb127 := NB253_252.out
      have hnc127 := NB252_253.out
      have hcz128_0 : wc.cell? ⟨gb253, 0, none⟩ = some (.int .i64 x254000_92) := (blk_cell BK253.out 0).trans rfl
      have hcz128_1 : wc.cell? ⟨gb253, 1, none⟩ = some (.int .i64 x254001_92) := (blk_cell BK253.out 1).trans rfl
      have hfz128_0 := blk_frozen BK253.out 0
      have hfz128_1 := blk_frozen BK253.out 1
      go_upto_region 27 with (first | ((with_reducible refine gate_callee (f := 20) rfl ?_); refine goesL_ (some 138) rfl rfl Try.func20 (by kernel_rfl) rfl #[.agg #[.string a0_0, .string a0_1, .int .i64 a0_2, .int .i64 a0_3, .int .i64 a0_4, .int .i64 a0_5, .int .i64 a0_6], .agg #[.int .i64 x254000_92, .int .i64 x254001_92], .int .i64 0, .bool false] rfl (by (try simp only [List.map_toArray, List.map_cons, List.map_nil]); first | done | rfl | (simp only [List.length_drop, List.length_take]; rfl)) ?_; (with_reducible refine (bearing_Permit.calls kj92 a0_0 a0_1 a0_2 a0_3 a0_4 a0_5 a0_6 x254000_92 x254001_92 0 false t256 t257 _ A115.out).mono ?_); rintro e w129 ⟨rfl, hb⟩; refine ⟨_, rfl, ?_⟩; have n0_ := Aside0.mk (zb BK209.out hb); have n1_ := Aside0.mk (zb BK210.out hb); have n2_ := Aside0.mk (zb BK242.out hb); have n3_ := Aside0.mk (zb BK243.out hb); have n4_ := Aside0.mk (zb BK252.out hb); have n5_ := Aside0.mk (zb BK253.out hb); have n6_ := Aside0.mk (below_step (by repeat (first | (with_reducible first | exact HB.out | apply below_alloc | apply pw_below_drewN | apply below_drew1 | refine below_set ?_ GE209.out | refine below_set ?_ GE210.out | refine below_set ?_ GE242.out | refine below_set ?_ GE243.out | refine below_set ?_ GE252.out | refine below_set ?_ GE253.out) | exact HB.out)) hb); clear BK209; clear BK210; clear BK242; clear BK243; clear BK252; clear BK253; clear HB; have BK209 := n0_; have BK210 := n1_; have BK242 := n2_; have BK243 := n3_; have BK252 := n4_; have BK253 := n5_; have HB := n6_; clear n0_ n1_ n2_ n3_ n4_ n5_ n6_; (try clear hb); (try clear hb2); (try clear hk); (try clear hi); have hcz130_0 : w129.cell? ⟨gb209, 0, none⟩ = some (.string a0_0) := (blk_cell BK209.out 0).trans rfl; have hcz130_1 : w129.cell? ⟨gb209, 1, none⟩ = some (.string a0_1) := (blk_cell BK209.out 1).trans rfl; have hcz130_2 : w129.cell? ⟨gb209, 2, none⟩ = some (.int .i64 a0_2) := (blk_cell BK209.out 2).trans rfl; have hcz130_3 : w129.cell? ⟨gb209, 3, none⟩ = some (.int .i64 a0_3) := (blk_cell BK209.out 3).trans rfl; have hcz130_4 : w129.cell? ⟨gb209, 4, none⟩ = some (.int .i64 a0_4) := (blk_cell BK209.out 4).trans rfl; have hcz130_5 : w129.cell? ⟨gb209, 5, none⟩ = some (.int .i64 a0_5) := (blk_cell BK209.out 5).trans rfl; have hcz130_6 : w129.cell? ⟨gb209, 6, none⟩ = some (.int .i64 a0_6) := (blk_cell BK209.out 6).trans rfl; have hfz130_0 := blk_frozen BK209.out 0; have hfz130_1 := blk_frozen BK209.out 1; have hfz130_2 := blk_frozen BK209.out 2; have hfz130_3 := blk_frozen BK209.out 3; have hfz130_4 := blk_frozen BK209.out 4; have hfz130_5 := blk_frozen BK209.out 5; have hfz130_6 := blk_frozen BK209.out 6; have hcz131_0 : w129.cell? ⟨gb253, 0, none⟩ = some (.int .i64 x254000_92) := (blk_cell BK253.out 0).trans rfl; have hcz131_1 : w129.cell? ⟨gb253, 1, none⟩ = some (.int .i64 x254001_92) := (blk_cell BK253.out 1).trans rfl; have hfz131_0 := blk_frozen BK253.out 0; have hfz131_1 := blk_frozen BK253.out 1) | ((with_reducible refine gate_callee (f := 20) rfl ?_); refine goesL_ (some 144) rfl rfl Try.func20 (by kernel_rfl) rfl #[.agg #[.string a0_0, .string a0_1, .int .i64 a0_2, .int .i64 a0_3, .int .i64 a0_4, .int .i64 a0_5, .int .i64 a0_6], .agg #[.int .i64 x254000_92, .int .i64 x254001_92], .int .i64 1000, .bool true] rfl (by (try simp only [List.map_toArray, List.map_cons, List.map_nil]); first | done | rfl | (simp only [List.length_drop, List.length_take]; rfl)) ?_; (with_reducible refine (bearing_Permit.calls kj92 a0_0 a0_1 a0_2 a0_3 a0_4 a0_5 a0_6 x254000_92 x254001_92 1000 true t258 t259 _ A116.out).mono ?_); rintro e w132 ⟨rfl, hb⟩; refine ⟨_, rfl, ?_⟩; have n0_ := Aside0.mk (zb BK209.out hb); have n1_ := Aside0.mk (zb BK210.out hb); have n2_ := Aside0.mk (zb BK242.out hb); have n3_ := Aside0.mk (zb BK243.out hb); have n4_ := Aside0.mk (zb BK252.out hb); have n5_ := Aside0.mk (zb BK253.out hb); have n6_ := Aside0.mk (below_step (by repeat (first | (with_reducible first | exact HB.out | apply below_alloc | apply pw_below_drewN | apply below_drew1 | refine below_set ?_ GE209.out | refine below_set ?_ GE210.out | refine below_set ?_ GE242.out | refine below_set ?_ GE243.out | refine below_set ?_ GE252.out | refine below_set ?_ GE253.out) | exact HB.out)) hb); clear BK209; clear BK210; clear BK242; clear BK243; clear BK252; clear BK253; clear HB; have BK209 := n0_; have BK210 := n1_; have BK242 := n2_; have BK243 := n3_; have BK252 := n4_; have BK253 := n5_; have HB := n6_; clear n0_ n1_ n2_ n3_ n4_ n5_ n6_; (try clear hb); (try clear hb2); (try clear hk); (try clear hi)))
      (try simp only [Act.put, List.setIfInBounds_toArray, List.set_cons_zero, List.set_cons_succ])
      go_cut [159] (fun v159 wc => ∃ (kq : Nat) (x159_116 : Bool), v159 = .bool x159_116 ∧ Aside0 (fastilaw29_BearingWeather.j5 kq t256 t258 x159_116 a0_0 a0_1 a0_2 a0_3 a0_4 a0_5 a0_6 x253000_92 x253001_92 = some r) ∧ Aside0 (kq ≤ kj92) ∧ Aside0 (wc.heap[gb209]? = some (.cells #[.string a0_0, .string a0_1, .int .i64 a0_2, .int .i64 a0_3, .int .i64 a0_4, .int .i64 a0_5, .int .i64 a0_6] 25 (0, 0))) ∧ Aside0 (wc.heap[gb210]? = some (.cells #[.int .i64 a1_0, (.slice A1_1 l1_1.length c1_1), (.slice A1_2 l1_2.length c1_2), (.slice A1_3 l1_3.length c1_3), (.slice A1_4 l1_4.length c1_4), (.slice A1_5 l1_5.length c1_5)] 71 (0, 0))) ∧ Aside0 (wc.heap[gb242]? = some (.cells #[.int .i64 a1_0, .int .i64 a1_0] 27 (0, 0))) ∧ Aside0 (wc.heap[gb243]? = some (.cells #[.int .i64 ji63, .int .i64 ji64] 27 (0, 0))) ∧ Aside0 (wc.heap[gb252]? = some (.cells #[.int .i64 x253000_92, .int .i64 x253001_92] 27 (0, 0))) ∧ Aside0 (wc.heap[gb253]? = some (.cells #[.int .i64 x254000_92, .int .i64 x254001_92] 27 (0, 0))) ∧ Aside0 (Below w.heap.size w wc))
      case first =>
       have H := HC117.out
       clear HC117
       by_cases c133 : t257 = 0
       ·rw [if_pos c133] at H
        have c133b0 : (t257 == 0) = true := beq_iff_eq.mpr c133
        have c133b1 : (t257 != 0) = false := bne_eq_false_iff_eq.mpr c133
        clear c133
        (first | rw [c133b0] | (simp only [i64_w, i32_w]; rw [c133b0]) | skip)
        by_cases c134 : t259 = 0
        ·rw [if_pos c134] at H
         have c134b0 : (t259 == 0) = true := beq_iff_eq.mpr c134
         have c134b1 : (t259 != 0) = false := bne_eq_false_iff_eq.mpr c134
         clear c134
         have H' := Aside0.mk H
         clear H
         have hnb135 := NB252_209.out
         have hnc135 := NB209_252.out
         have hnb136 := NB252_210.out
         have hnc136 := NB210_252.out
         have hnb137 := NB252_242.out
         have hnc137 := NB242_252.out
         have hnb138 := NB252_243.out
         have hnc138 := NB243_252.out
         have hnb139 := NB252_253.out
         have hnc139 := NB253_252.out
         have hcz140_0 : w132.cell? ⟨gb252, 0, none⟩ = some (.int .i64 x253000_92) := (blk_cell BK252.out 0).trans rfl
         have hcz140_1 : w132.cell? ⟨gb252, 1, none⟩ = some (.int .i64 x253001_92) := (blk_cell BK252.out 1).trans rfl
         have hfz140_0 := blk_frozen BK252.out 0
         have hfz140_1 := blk_frozen BK252.out 1
         go_wp2
         go_meet
         case rel => exact ⟨_, ((x253000_92 != x253001_92)), (by first | rfl | (simp; done) | (simp [*]; done)), H', ⟨by have := HJ4.out; have := HJ19.out; have := HK3.out; have := HJ66.out; have := HJ92.out; first | omega | exact Nat.le_refl _⟩, ⟨zk BK209.out⟩, ⟨zk BK210.out⟩, ⟨zk BK242.out⟩, ⟨zk BK243.out⟩, ⟨zk BK252.out⟩, ⟨zk BK253.out⟩, ⟨by repeat (first | (with_reducible first | exact HB.out | apply below_alloc | apply pw_below_drewN | apply below_drew1 | refine below_set ?_ GE209.out | refine below_set ?_ GE210.out | refine below_set ?_ GE242.out | refine below_set ?_ GE243.out | refine below_set ?_ GE252.out | refine below_set ?_ GE253.out) | exact HB.out)⟩⟩
        ·rw [if_neg c134] at H
         have c134b0 : (t259 == 0) = false := beq_eq_false_iff_ne.mpr c134
         have c134b1 : (t259 != 0) = true := bne_iff_ne.mpr c134
         have H' := Aside0.mk H
         clear H
         go_wp2
         go_meet
         case rel => exact ⟨_, (true), (by first | rfl | (simp; done) | (simp [*]; done)), H', ⟨by have := HJ4.out; have := HJ19.out; have := HK3.out; have := HJ66.out; have := HJ92.out; first | omega | exact Nat.le_refl _⟩, ⟨zk BK209.out⟩, ⟨zk BK210.out⟩, ⟨zk BK242.out⟩, ⟨zk BK243.out⟩, ⟨zk BK252.out⟩, ⟨zk BK253.out⟩, ⟨by repeat (first | (with_reducible first | exact HB.out | apply below_alloc | apply pw_below_drewN | apply below_drew1 | refine below_set ?_ GE209.out | refine below_set ?_ GE210.out | refine below_set ?_ GE242.out | refine below_set ?_ GE243.out | refine below_set ?_ GE252.out | refine below_set ?_ GE253.out) | exact HB.out)⟩⟩
       ·rw [if_neg c133] at H
        have c133b0 : (t257 == 0) = false := beq_eq_false_iff_ne.mpr c133
        have c133b1 : (t257 != 0) = true := bne_iff_ne.mpr c133
        (first | rw [c133b0] | (simp only [i64_w, i32_w]; rw [c133b0]) | skip)
        have H' := Aside0.mk H
        clear H
        go_wp2
        go_meet
        case rel => exact ⟨_, (true), (by first | rfl | (simp; done) | (simp [*]; done)), H', ⟨by have := HJ4.out; have := HJ19.out; have := HK3.out; have := HJ66.out; have := HJ92.out; first | omega | exact Nat.le_refl _⟩, ⟨zk BK209.out⟩, ⟨zk BK210.out⟩, ⟨zk BK242.out⟩, ⟨zk BK243.out⟩, ⟨zk BK252.out⟩, ⟨zk BK253.out⟩, ⟨by repeat (first | (with_reducible first | exact HB.out | apply below_alloc | apply pw_below_drewN | apply below_drew1 | refine below_set ?_ GE209.out | refine below_set ?_ GE210.out | refine below_set ?_ GE242.out | refine below_set ?_ GE243.out | refine below_set ?_ GE252.out | refine below_set ?_ GE253.out) | exact HB.out)⟩⟩
      case rest =>
       clear HC117
       try clear c1
       try clear c2
       try clear p2
       try clear q2
       try clear hx2
       try clear p6
       try clear c10
       try clear c11
       try clear c12
       try clear c13
       try clear c20
       try clear p25
       try clear q25
       try clear hx25
       try clear p64
       try clear c102
       try clear c102b0
       try clear c102b1
       try clear c104
       try clear c104b0
       try clear c105
       try clear c105b0
       try clear c106
       try clear c106b0
       try clear c118
       try clear c119
       try clear c120
       try clear c121
       try clear c122
       try clear c124
       try clear c125
       try clear c126
       try clear c127
       try clear c133
       try clear c133b0
       try clear c133b1
       try clear c134
       try clear c134b0
       try clear c134b1
       try clear c135
       try clear c136
       try clear c137
       try clear c138
       try clear c139
       try clear hcz123_0
       try clear hcz123_1
       try clear hcz123_2
       try clear hcz123_3
       try clear hcz123_4
       try clear hcz123_5
       try clear hcz123_6
       try clear hcz128_0
       try clear hcz128_1
       try clear hcz130_0
       try clear hcz130_1
       try clear hcz130_2
       try clear hcz130_3
       try clear hcz130_4
       try clear hcz130_5
       try clear hcz130_6
       try clear hcz131_0
       try clear hcz131_1
       try clear hcz140_0
       try clear hcz140_1
       try clear hfz123_0
       try clear hfz123_1
       try clear hfz123_2
       try clear hfz123_3
       try clear hfz123_4
       try clear hfz123_5
       try clear hfz123_6
       try clear hfz128_0
       try clear hfz128_1
       try clear hfz130_0
       try clear hfz130_1
       try clear hfz130_2
       try clear hfz130_3
       try clear hfz130_4
       try clear hfz130_5
       try clear hfz130_6
       try clear hfz131_0
       try clear hfz131_1
       try clear hfz140_0
       try clear hfz140_1
       try clear hx254_0
       try clear hx254_1
       try clear hx255_0
       try clear hx255_1
       try clear p2
       try clear p25
       try clear p254
       try clear p255
       try clear p6
       try clear p64
       try clear q2
       try clear q25
       try clear q254
       try clear q255
       obtain ⟨kq, x159_116, rfl, HA, HJ116, BK209, BK210, BK242, BK243, BK252, BK253, HB⟩ := hcut
       cases kq with
       | zero => exact absurd HA.out (by simp [fastilaw29_BearingWeather.j5])
       | succ kj116 =>
        have H := HA.out
        clear HA
        simp only [fastilaw29_BearingWeather.j5] at H
        by_cases c141 : x159_116 = true
        ·subst c141
         have H1 : (some false) = some r := by rw [if_pos rfl] at H; exact H
         clear H
         have H := H1
         clear H1
         obtain rfl := Option.some.inj H
         go_wp2
         go_ret
         exact ⟨by first | rfl | (simp [errW_none, errW_some] <;> rfl) | (simp only [← hji63, ← hji64]; first | rfl | (simp [errW_none, errW_some] <;> rfl)) | (simp [*, errW_none, errW_some] <;> rfl), by repeat (first | (with_reducible first | exact HB.out | apply below_alloc | apply pw_below_drewN | apply below_drew1 | refine below_set ?_ GE209.out | refine below_set ?_ GE210.out | refine below_set ?_ GE242.out | refine below_set ?_ GE243.out | refine below_set ?_ GE252.out | refine below_set ?_ GE253.out) | exact HB.out)⟩
        ·replace c141 := Bool.eq_false_iff.mpr c141
         subst c141
         have H1 : (if t256 = true then (if x253000_92 ≥ a0_3 then (if t258 = true then (fastilaw29_BearingWeather.j6 kj116 true) else (fastilaw29_BearingWeather.j6 kj116 (decide (x253000_92 < a0_3)))) else (fastilaw29_BearingWeather.j6 kj116 false)) else (if t258 = true then (fastilaw29_BearingWeather.j6 kj116 true) else (fastilaw29_BearingWeather.j6 kj116 (decide (x253000_92 < a0_3))))) = some r := by rw [if_neg (show ¬ (false = true) by decide)] at H; exact H
         clear H
         have H := H1
         clear H1
         have HC142 := Aside0.mk H
         clear H
         go_upto_region 29 with (fail)
         go_cut [4] (fun v4 wc => ∃ (kq : Nat) (x4_141 : Bool), v4 = .bool x4_141 ∧ Aside0 (fastilaw29_BearingWeather.j6 kq x4_141 = some r) ∧ Aside0 (kq ≤ kj116) ∧ Aside0 (wc.heap[gb209]? = some (.cells #[.string a0_0, .string a0_1, .int .i64 a0_2, .int .i64 a0_3, .int .i64 a0_4, .int .i64 a0_5, .int .i64 a0_6] 25 (0, 0))) ∧ Aside0 (wc.heap[gb210]? = some (.cells #[.int .i64 a1_0, (.slice A1_1 l1_1.length c1_1), (.slice A1_2 l1_2.length c1_2), (.slice A1_3 l1_3.length c1_3), (.slice A1_4 l1_4.length c1_4), (.slice A1_5 l1_5.length c1_5)] 71 (0, 0))) ∧ Aside0 (wc.heap[gb242]? = some (.cells #[.int .i64 a1_0, .int .i64 a1_0] 27 (0, 0))) ∧ Aside0 (wc.heap[gb243]? = some (.cells #[.int .i64 ji63, .int .i64 ji64] 27 (0, 0))) ∧ Aside0 (wc.heap[gb252]? = some (.cells #[.int .i64 x253000_92, .int .i64 x253001_92] 27 (0, 0))) ∧ Aside0 (wc.heap[gb253]? = some (.cells #[.int .i64 x254000_92, .int .i64 x254001_92] 27 (0, 0))) ∧ Aside0 (Below w.heap.size w wc))
         case first =>
          have H := HC142.out
          clear HC142
          by_cases c143 : t256 = true
          ·subst c143
           have H1 : (if x253000_92 ≥ a0_3 then (if t258 = true then (fastilaw29_BearingWeather.j6 kj116 true) else (fastilaw29_BearingWeather.j6 kj116 (decide (x253000_92 < a0_3)))) else (fastilaw29_BearingWeather.j6 kj116 false)) = some r := by rw [if_pos rfl] at H; exact H
           clear H
           have H := H1
           clear H1
           by_cases c144 : x253000_92 ≥ a0_3
           ·rw [if_pos c144] at H
            have c144b0 : decide (a0_3 ≤ x253000_92) = true := decide_eq_true c144
            clear c144
            (first | rw [c144b0] | (simp only [i64_w, i32_w]; rw [c144b0]) | skip)
            by_cases c145 : t258 = true
            ·subst c145
             have H1 : (fastilaw29_BearingWeather.j6 kj116 true) = some r := by rw [if_pos rfl] at H; exact H
             clear H
             have H := H1
             clear H1
             have H' := Aside0.mk H
             clear H
             have hnb146 := NB252_209.out
             have hnc146 := NB209_252.out
             have hnb147 := NB252_210.out
             have hnc147 := NB210_252.out
             have hnb148 := NB252_242.out
             have hnc148 := NB242_252.out
             have hnb149 := NB252_243.out
             have hnc149 := NB243_252.out
             have hnb150 := NB252_253.out
             have hnc150 := NB253_252.out
             have hcz151_0 : wc.cell? ⟨gb252, 0, none⟩ = some (.int .i64 x253000_92) := (blk_cell BK252.out 0).trans rfl
             have hcz151_1 : wc.cell? ⟨gb252, 1, none⟩ = some (.int .i64 x253001_92) := (blk_cell BK252.out 1).trans rfl
             have hfz151_0 := blk_frozen BK252.out 0
             have hfz151_1 := blk_frozen BK252.out 1
             have hnb152 := NB209_210.out
             have hnc152 := NB210_209.out
             have hnb153 := NB209_242.out
             have hnc153 := NB242_209.out
             have hnb154 := NB209_243.out
             have hnc154 := NB243_209.out
             have hnb155 := NB209_253.out
             have hnc155 := NB253_209.out
             have hcz156_0 : wc.cell? ⟨gb209, 0, none⟩ = some (.string a0_0) := (blk_cell BK209.out 0).trans rfl
             have hcz156_1 : wc.cell? ⟨gb209, 1, none⟩ = some (.string a0_1) := (blk_cell BK209.out 1).trans rfl
             have hcz156_2 : wc.cell? ⟨gb209, 2, none⟩ = some (.int .i64 a0_2) := (blk_cell BK209.out 2).trans rfl
             have hcz156_3 : wc.cell? ⟨gb209, 3, none⟩ = some (.int .i64 a0_3) := (blk_cell BK209.out 3).trans rfl
             have hcz156_4 : wc.cell? ⟨gb209, 4, none⟩ = some (.int .i64 a0_4) := (blk_cell BK209.out 4).trans rfl
             have hcz156_5 : wc.cell? ⟨gb209, 5, none⟩ = some (.int .i64 a0_5) := (blk_cell BK209.out 5).trans rfl
             have hcz156_6 : wc.cell? ⟨gb209, 6, none⟩ = some (.int .i64 a0_6) := (blk_cell BK209.out 6).trans rfl
             have hfz156_0 := blk_frozen BK209.out 0
             have hfz156_1 := blk_frozen BK209.out 1
             have hfz156_2 := blk_frozen BK209.out 2
             have hfz156_3 := blk_frozen BK209.out 3
             have hfz156_4 := blk_frozen BK209.out 4
             have hfz156_5 := blk_frozen BK209.out 5
             have hfz156_6 := blk_frozen BK209.out 6
             go_wp2
             go_meet
             case rel => exact ⟨_, (true), (by first | rfl | (simp; done) | (simp [*]; done)), H', ⟨by have := HJ4.out; have := HJ19.out; have := HK3.out; have := HJ66.out; have := HJ92.out; have := HJ116.out; first | omega | exact Nat.le_refl _⟩, ⟨zk BK209.out⟩, ⟨zk BK210.out⟩, ⟨zk BK242.out⟩, ⟨zk BK243.out⟩, ⟨zk BK252.out⟩, ⟨zk BK253.out⟩, ⟨by repeat (first | (with_reducible first | exact HB.out | apply below_alloc | apply pw_below_drewN | apply below_drew1 | refine below_set ?_ GE209.out | refine below_set ?_ GE210.out | refine below_set ?_ GE242.out | refine below_set ?_ GE243.out | refine below_set ?_ GE252.out | refine below_set ?_ GE253.out) | exact HB.out)⟩⟩
            ·replace c145 := Bool.eq_false_iff.mpr c145
             subst c145
             have H1 : (fastilaw29_BearingWeather.j6 kj116 (decide (x253000_92 < a0_3))) = some r := by rw [if_neg (show ¬ (false = true) by decide)] at H; exact H
             clear H
             have H := H1
             clear H1
             have H' := Aside0.mk H
             clear H
             have hnb157 := NB252_209.out
             have hnc157 := NB209_252.out
             have hnb158 := NB252_210.out
             have hnc158 := NB210_252.out
             have hnb159 := NB252_242.out
             have hnc159 := NB242_252.out
             have hnb160 := NB252_243.out
             have hnc160 := NB243_252.out
             have hnb161 := NB252_253.out
             have hnc161 := NB253_252.out
             have hcz162_0 : wc.cell? ⟨gb252, 0, none⟩ = some (.int .i64 x253000_92) := (blk_cell BK252.out 0).trans rfl
             have hcz162_1 : wc.cell? ⟨gb252, 1, none⟩ = some (.int .i64 x253001_92) := (blk_cell BK252.out 1).trans rfl
             have hfz162_0 := blk_frozen BK252.out 0
             have hfz162_1 := blk_frozen BK252.out 1
             have hnb163 := NB209_210.out
             have hnc163 := NB210_209.out
             have hnb164 := NB209_242.out
             have hnc164 := NB242_209.out
             have hnb165 := NB209_243.out
             have hnc165 := NB243_209.out
             have hnb166 := NB209_253.out
             have hnc166 := NB253_209.out
             have hcz167_0 : wc.cell? ⟨gb209, 0, none⟩ = some (.string a0_0) := (blk_cell BK209.out 0).trans rfl
             have hcz167_1 : wc.cell? ⟨gb209, 1, none⟩ = some (.string a0_1) := (blk_cell BK209.out 1).trans rfl
             have hcz167_2 : wc.cell? ⟨gb209, 2, none⟩ = some (.int .i64 a0_2) := (blk_cell BK209.out 2).trans rfl
             have hcz167_3 : wc.cell? ⟨gb209, 3, none⟩ = some (.int .i64 a0_3) := (blk_cell BK209.out 3).trans rfl
             have hcz167_4 : wc.cell? ⟨gb209, 4, none⟩ = some (.int .i64 a0_4) := (blk_cell BK209.out 4).trans rfl
             have hcz167_5 : wc.cell? ⟨gb209, 5, none⟩ = some (.int .i64 a0_5) := (blk_cell BK209.out 5).trans rfl
             have hcz167_6 : wc.cell? ⟨gb209, 6, none⟩ = some (.int .i64 a0_6) := (blk_cell BK209.out 6).trans rfl
             have hfz167_0 := blk_frozen BK209.out 0
             have hfz167_1 := blk_frozen BK209.out 1
             have hfz167_2 := blk_frozen BK209.out 2
             have hfz167_3 := blk_frozen BK209.out 3
             have hfz167_4 := blk_frozen BK209.out 4
             have hfz167_5 := blk_frozen BK209.out 5
             have hfz167_6 := blk_frozen BK209.out 6
             go_wp2
             go_meet
             case rel => exact ⟨_, (decide (x253000_92 < a0_3)), (by first | rfl | (simp; done) | (simp [*]; done)), H', ⟨by have := HJ4.out; have := HJ19.out; have := HK3.out; have := HJ66.out; have := HJ92.out; have := HJ116.out; first | omega | exact Nat.le_refl _⟩, ⟨zk BK209.out⟩, ⟨zk BK210.out⟩, ⟨zk BK242.out⟩, ⟨zk BK243.out⟩, ⟨zk BK252.out⟩, ⟨zk BK253.out⟩, ⟨by repeat (first | (with_reducible first | exact HB.out | apply below_alloc | apply pw_below_drewN | apply below_drew1 | refine below_set ?_ GE209.out | refine below_set ?_ GE210.out | refine below_set ?_ GE242.out | refine below_set ?_ GE243.out | refine below_set ?_ GE252.out | refine below_set ?_ GE253.out) | exact HB.out)⟩⟩
           ·rw [if_neg c144] at H
            have c144b0 : decide (a0_3 ≤ x253000_92) = false := decide_eq_false c144
            clear c144
            (first | rw [c144b0] | (simp only [i64_w, i32_w]; rw [c144b0]) | skip)
            have H' := Aside0.mk H
            clear H
            have hnb168 := NB252_209.out
            have hnc168 := NB209_252.out
            have hnb169 := NB252_210.out
            have hnc169 := NB210_252.out
            have hnb170 := NB252_242.out
            have hnc170 := NB242_252.out
            have hnb171 := NB252_243.out
            have hnc171 := NB243_252.out
            have hnb172 := NB252_253.out
            have hnc172 := NB253_252.out
            have hcz173_0 : wc.cell? ⟨gb252, 0, none⟩ = some (.int .i64 x253000_92) := (blk_cell BK252.out 0).trans rfl
            have hcz173_1 : wc.cell? ⟨gb252, 1, none⟩ = some (.int .i64 x253001_92) := (blk_cell BK252.out 1).trans rfl
            have hfz173_0 := blk_frozen BK252.out 0
            have hfz173_1 := blk_frozen BK252.out 1
            have hnb174 := NB209_210.out
            have hnc174 := NB210_209.out
            have hnb175 := NB209_242.out
            have hnc175 := NB242_209.out
            have hnb176 := NB209_243.out
            have hnc176 := NB243_209.out
            have hnb177 := NB209_253.out
            have hnc177 := NB253_209.out
            have hcz178_0 : wc.cell? ⟨gb209, 0, none⟩ = some (.string a0_0) := (blk_cell BK209.out 0).trans rfl
            have hcz178_1 : wc.cell? ⟨gb209, 1, none⟩ = some (.string a0_1) := (blk_cell BK209.out 1).trans rfl
            have hcz178_2 : wc.cell? ⟨gb209, 2, none⟩ = some (.int .i64 a0_2) := (blk_cell BK209.out 2).trans rfl
            have hcz178_3 : wc.cell? ⟨gb209, 3, none⟩ = some (.int .i64 a0_3) := (blk_cell BK209.out 3).trans rfl
            have hcz178_4 : wc.cell? ⟨gb209, 4, none⟩ = some (.int .i64 a0_4) := (blk_cell BK209.out 4).trans rfl
            have hcz178_5 : wc.cell? ⟨gb209, 5, none⟩ = some (.int .i64 a0_5) := (blk_cell BK209.out 5).trans rfl
            have hcz178_6 : wc.cell? ⟨gb209, 6, none⟩ = some (.int .i64 a0_6) := (blk_cell BK209.out 6).trans rfl
            have hfz178_0 := blk_frozen BK209.out 0
            have hfz178_1 := blk_frozen BK209.out 1
            have hfz178_2 := blk_frozen BK209.out 2
            have hfz178_3 := blk_frozen BK209.out 3
            have hfz178_4 := blk_frozen BK209.out 4
            have hfz178_5 := blk_frozen BK209.out 5
            have hfz178_6 := blk_frozen BK209.out 6
            go_wp2
            go_meet
            case rel => exact ⟨_, (false), (by first | rfl | (simp; done) | (simp [*]; done)), H', ⟨by have := HJ4.out; have := HJ19.out; have := HK3.out; have := HJ66.out; have := HJ92.out; have := HJ116.out; first | omega | exact Nat.le_refl _⟩, ⟨zk BK209.out⟩, ⟨zk BK210.out⟩, ⟨zk BK242.out⟩, ⟨zk BK243.out⟩, ⟨zk BK252.out⟩, ⟨zk BK253.out⟩, ⟨by repeat (first | (with_reducible first | exact HB.out | apply below_alloc | apply pw_below_drewN | apply below_drew1 | refine below_set ?_ GE209.out | refine below_set ?_ GE210.out | refine below_set ?_ GE242.out | refine below_set ?_ GE243.out | refine below_set ?_ GE252.out | refine below_set ?_ GE253.out) | exact HB.out)⟩⟩
          ·replace c143 := Bool.eq_false_iff.mpr c143
           subst c143
           have H1 : (if t258 = true then (fastilaw29_BearingWeather.j6 kj116 true) else (fastilaw29_BearingWeather.j6 kj116 (decide (x253000_92 < a0_3)))) = some r := by rw [if_neg (show ¬ (false = true) by decide)] at H; exact H
           clear H
           have H := H1
           clear H1
           by_cases c179 : t258 = true
           ·subst c179
            have H1 : (fastilaw29_BearingWeather.j6 kj116 true) = some r := by rw [if_pos rfl] at H; exact H
            clear H
            have H := H1
            clear H1
            have H' := Aside0.mk H
            clear H
            go_wp2
            go_meet
            case rel => exact ⟨_, (true), (by first | rfl | (simp; done) | (simp [*]; done)), H', ⟨by have := HJ4.out; have := HJ19.out; have := HK3.out; have := HJ66.out; have := HJ92.out; have := HJ116.out; first | omega | exact Nat.le_refl _⟩, ⟨zk BK209.out⟩, ⟨zk BK210.out⟩, ⟨zk BK242.out⟩, ⟨zk BK243.out⟩, ⟨zk BK252.out⟩, ⟨zk BK253.out⟩, ⟨by repeat (first | (with_reducible first | exact HB.out | apply below_alloc | apply pw_below_drewN | apply below_drew1 | refine below_set ?_ GE209.out | refine below_set ?_ GE210.out | refine below_set ?_ GE242.out | refine below_set ?_ GE243.out | refine below_set ?_ GE252.out | refine below_set ?_ GE253.out) | exact HB.out)⟩⟩
           ·replace c179 := Bool.eq_false_iff.mpr c179
            subst c179
            have H1 : (fastilaw29_BearingWeather.j6 kj116 (decide (x253000_92 < a0_3))) = some r := by rw [if_neg (show ¬ (false = true) by decide)] at H; exact H
            clear H
            have H := H1
            clear H1
            have H' := Aside0.mk H
            clear H
            have hnb180 := NB252_209.out
            have hnc180 := NB209_252.out
            have hnb181 := NB252_210.out
            have hnc181 := NB210_252.out
            have hnb182 := NB252_242.out
            have hnc182 := NB242_252.out
            have hnb183 := NB252_243.out
            have hnc183 := NB243_252.out
            have hnb184 := NB252_253.out
            have hnc184 := NB253_252.out
            have hcz185_0 : wc.cell? ⟨gb252, 0, none⟩ = some (.int .i64 x253000_92) := (blk_cell BK252.out 0).trans rfl
            have hcz185_1 : wc.cell? ⟨gb252, 1, none⟩ = some (.int .i64 x253001_92) := (blk_cell BK252.out 1).trans rfl
            have hfz185_0 := blk_frozen BK252.out 0
            have hfz185_1 := blk_frozen BK252.out 1
            have hnb186 := NB209_210.out
            have hnc186 := NB210_209.out
            have hnb187 := NB209_242.out
            have hnc187 := NB242_209.out
            have hnb188 := NB209_243.out
            have hnc188 := NB243_209.out
            have hnb189 := NB209_253.out
            have hnc189 := NB253_209.out
            have hcz190_0 : wc.cell? ⟨gb209, 0, none⟩ = some (.string a0_0) := (blk_cell BK209.out 0).trans rfl
            have hcz190_1 : wc.cell? ⟨gb209, 1, none⟩ = some (.string a0_1) := (blk_cell BK209.out 1).trans rfl
            have hcz190_2 : wc.cell? ⟨gb209, 2, none⟩ = some (.int .i64 a0_2) := (blk_cell BK209.out 2).trans rfl
            have hcz190_3 : wc.cell? ⟨gb209, 3, none⟩ = some (.int .i64 a0_3) := (blk_cell BK209.out 3).trans rfl
            have hcz190_4 : wc.cell? ⟨gb209, 4, none⟩ = some (.int .i64 a0_4) := (blk_cell BK209.out 4).trans rfl
            have hcz190_5 : wc.cell? ⟨gb209, 5, none⟩ = some (.int .i64 a0_5) := (blk_cell BK209.out 5).trans rfl
            have hcz190_6 : wc.cell? ⟨gb209, 6, none⟩ = some (.int .i64 a0_6) := (blk_cell BK209.out 6).trans rfl
            have hfz190_0 := blk_frozen BK209.out 0
            have hfz190_1 := blk_frozen BK209.out 1
            have hfz190_2 := blk_frozen BK209.out 2
            have hfz190_3 := blk_frozen BK209.out 3
            have hfz190_4 := blk_frozen BK209.out 4
            have hfz190_5 := blk_frozen BK209.out 5
            have hfz190_6 := blk_frozen BK209.out 6
            go_wp2
            go_meet
            case rel => exact ⟨_, (decide (x253000_92 < a0_3)), (by first | rfl | (simp; done) | (simp [*]; done)), H', ⟨by have := HJ4.out; have := HJ19.out; have := HK3.out; have := HJ66.out; have := HJ92.out; have := HJ116.out; first | omega | exact Nat.le_refl _⟩, ⟨zk BK209.out⟩, ⟨zk BK210.out⟩, ⟨zk BK242.out⟩, ⟨zk BK243.out⟩, ⟨zk BK252.out⟩, ⟨zk BK253.out⟩, ⟨by repeat (first | (with_reducible first | exact HB.out | apply below_alloc | apply pw_below_drewN | apply below_drew1 | refine below_set ?_ GE209.out | refine below_set ?_ GE210.out | refine below_set ?_ GE242.out | refine below_set ?_ GE243.out | refine below_set ?_ GE252.out | refine below_set ?_ GE253.out) | exact HB.out)⟩⟩
         case rest =>
          clear HC142
          try clear c1
          try clear c2
          try clear p2
          try clear q2
          try clear hx2
          try clear p6
          try clear c10
          try clear c11
          try clear c12
          try clear c13
          try clear c14
          try clear c15
          try clear c16
          try clear c17
          try clear c18
          try clear c20
          try clear p25
          try clear q25
          try clear hx25
          try clear p64
          try clear c102
          try clear c102b0
          try clear c102b1
          try clear c104
          try clear c104b0
          try clear c105
          try clear c105b0
          try clear c106
          try clear c106b0
          try clear c118
          try clear c119
          try clear c120
          try clear c121
          try clear c122
          try clear c124
          try clear c125
          try clear c126
          try clear c127
          try clear c133
          try clear c133b0
          try clear c133b1
          try clear c134
          try clear c134b0
          try clear c134b1
          try clear c135
          try clear c136
          try clear c137
          try clear c138
          try clear c139
          try clear c141
          try clear c143
          try clear c144
          try clear c144b0
          try clear c145
          try clear c146
          try clear c147
          try clear c148
          try clear c149
          try clear c150
          try clear c152
          try clear c153
          try clear c154
          try clear c155
          try clear c157
          try clear c158
          try clear c159
          try clear c160
          try clear c161
          try clear c163
          try clear c164
          try clear c165
          try clear c166
          try clear c168
          try clear c169
          try clear c170
          try clear c171
          try clear c172
          try clear c174
          try clear c175
          try clear c176
          try clear c177
          try clear c179
          try clear c180
          try clear c181
          try clear c182
          try clear c183
          try clear c184
          try clear c186
          try clear c187
          try clear c188
          try clear c189
          try clear hcz123_0
          try clear hcz123_1
          try clear hcz123_2
          try clear hcz123_3
          try clear hcz123_4
          try clear hcz123_5
          try clear hcz123_6
          try clear hcz128_0
          try clear hcz128_1
          try clear hcz130_0
          try clear hcz130_1
          try clear hcz130_2
          try clear hcz130_3
          try clear hcz130_4
          try clear hcz130_5
          try clear hcz130_6
          try clear hcz131_0
          try clear hcz131_1
          try clear hcz140_0
          try clear hcz140_1
          try clear hcz151_0
          try clear hcz151_1
          try clear hcz156_0
          try clear hcz156_1
          try clear hcz156_2
          try clear hcz156_3
          try clear hcz156_4
          try clear hcz156_5
          try clear hcz156_6
          try clear hcz162_0
          try clear hcz162_1
          try clear hcz167_0
          try clear hcz167_1
          try clear hcz167_2
          try clear hcz167_3
          try clear hcz167_4
          try clear hcz167_5
          try clear hcz167_6
          try clear hcz173_0
          try clear hcz173_1
          try clear hcz178_0
          try clear hcz178_1
          try clear hcz178_2
          try clear hcz178_3
          try clear hcz178_4
          try clear hcz178_5
          try clear hcz178_6
          try clear hcz185_0
          try clear hcz185_1
          try clear hcz190_0
          try clear hcz190_1
          try clear hcz190_2
          try clear hcz190_3
          try clear hcz190_4
          try clear hcz190_5
          try clear hcz190_6
          try clear hfz123_0
          try clear hfz123_1
          try clear hfz123_2
          try clear hfz123_3
          try clear hfz123_4
          try clear hfz123_5
          try clear hfz123_6
          try clear hfz128_0
          try clear hfz128_1
          try clear hfz130_0
          try clear hfz130_1
          try clear hfz130_2
          try clear hfz130_3
          try clear hfz130_4
          try clear hfz130_5
          try clear hfz130_6
          try clear hfz131_0
          try clear hfz131_1
          try clear hfz140_0
          try clear hfz140_1
          try clear hfz151_0
          try clear hfz151_1
          try clear hfz156_0
          try clear hfz156_1
          try clear hfz156_2
          try clear hfz156_3
          try clear hfz156_4
          try clear hfz156_5
          try clear hfz156_6
          try clear hfz162_0
          try clear hfz162_1
          try clear hfz167_0
          try clear hfz167_1
          try clear hfz167_2
          try clear hfz167_3
          try clear hfz167_4
          try clear hfz167_5
          try clear hfz167_6
          try clear hfz173_0
          try clear hfz173_1
          try clear hfz178_0
          try clear hfz178_1
          try clear hfz178_2
          try clear hfz178_3
          try clear hfz178_4
          try clear hfz178_5
          try clear hfz178_6
          try clear hfz185_0
          try clear hfz185_1
          try clear hfz190_0
          try clear hfz190_1
          try clear hfz190_2
          try clear hfz190_3
          try clear hfz190_4
          try clear hfz190_5
          try clear hfz190_6
          try clear hx254_0
          try clear hx254_1
          try clear hx255_0
          try clear hx255_1
          try clear p2
          try clear p25
          try clear p254
          try clear p255
          try clear p6
          try clear p64
          try clear q2
          try clear q25
          try clear q254
          try clear q255
          obtain ⟨kq, x4_141, rfl, HA, HJ141, BK209, BK210, BK242, BK243, BK252, BK253, HB⟩ := hcut
          cases kq with
          | zero => exact absurd HA.out (by simp [fastilaw29_BearingWeather.j6])
          | succ kj141 =>
           have H := HA.out
           clear HA
           simp only [fastilaw29_BearingWeather.j6] at H
           obtain rfl := Option.some.inj H
           go_wp2
           go_ret
           exact ⟨by first | rfl | (simp [errW_none, errW_some] <;> rfl) | (simp only [← hji63, ← hji64]; first | rfl | (simp [errW_none, errW_some] <;> rfl)) | (simp [*, errW_none, errW_some] <;> rfl), by repeat (first | (with_reducible first | exact HB.out | apply below_alloc | apply pw_below_drewN | apply below_drew1 | refine below_set ?_ GE209.out | refine below_set ?_ GE210.out | refine below_set ?_ GE242.out | refine below_set ?_ GE243.out | refine below_set ?_ GE252.out | refine below_set ?_ GE253.out) | exact HB.out)⟩
end Go.Proofs.Ytenjkflckkmahaa.Q
