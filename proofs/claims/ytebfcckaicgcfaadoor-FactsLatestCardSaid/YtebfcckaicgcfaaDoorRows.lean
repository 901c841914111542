/-
  NARROWER THAN 'FOR EVERY INPUT', by the rows' own cells (each row's printed sentence says how): FactsSpec: laid · FactsStandingSpec: laid · FactsLatest: laid · FactsOrder: laid · FactsEarly: laid · FactsDue: laid · FactsWithdrawn: laid.
  DERIVED. THE GIVEN ROWS OF THIS SEAT. 7 by the template 'for every input the law returns true; each argument reads behind the call as it read before'; 0 by the template 'total and deterministic' (their statements: YtebfcckaicgcfaaDoorTotals.lean).
  GIVEN WITH THE SEED: the statements are not yours to turn. If you find one false, say at which input.
  Laid BY PROGRAM, IN A SANDBOX (cutbox-rows.mjs): the forced cells as the released guide's own fill.sh prints them over the translation 828776f936782924… (all of the seat's roots in one cut). By AI agents, Wed Nov 11 2026. No macro, syntax, notation, axiom, sorry.
-/
import Derived.Test.YtebfcckaicgcfaaDoorChecked
import GoSem.Claim
import GoSem.ClaimJoined
import GoSem.ClaimMapViews
import Derived.JoinedTies
import Derived.KernelRfl
namespace Go.Proofs.YtebfcckaicgcfaaDoor
/- THE CELL 'sum', in the pinned program and in every row, IS THE sha256 OF THE DUMP (.gsa) THAT YtebfcckaicgcfaaDoorProg.lean LOADS. Nothing in Lean hashes anything: it is a label: what it is worth is what the hold of that sum in a sandbox is worth. -/
noncomputable def Tryd.pinned : Pinned := { name := "ytebfcckaicgcfaadoor", sum := "828776f936782924042365b346eea7862645c4d87c88b1427a74b9b54d1f2c4c", checked := Tryd.checked }
namespace Rows
def none {H : Type} : Left H := { results := [], args := [] }

/- WHAT THE LISTED PACKAGE-LEVEL VARIABLES READ AS WHEN THE CALL BEGINS. Each datum BY PROGRAM (the guide's laid-datum.mjs) off the statement by which the dump's own 'gosem.cut.vars' lays the variable. In a bare row this is a premise. The card (YtebfcckaicgcfaaDoorCards.lean) ties it to the program's text. -/
def laid_fasti_facts_rows {H : Type} : DataW H := .agg [.agg [.lit (.int .i64 0), .lit (.int .i64 0), .lit (.int .i64 0), .lit (.int .i64 0), .agg [.lit (.int .i64 0), .lit (.int .i64 0)], .agg [.lit (.int .i64 0), .lit (.int .i64 0)]], .agg [.lit (.int .i64 0), .lit (.int .i64 1023), .lit (.int .i64 0), .lit (.int .i64 0), .agg [.lit (.int .i64 0), .lit (.int .i64 99)], .agg [.lit (.int .i64 0), .lit (.int .i64 99)]], .agg [.lit (.int .i64 0), .lit (.int .i64 0), .lit (.int .i64 63), .lit (.int .i64 73048), .agg [.lit (.int .i64 1), .lit (.int .i64 512)], .agg [.lit (.int .i64 0), .lit (.int .i64 0)]], .agg [.lit (.int .i64 63), .lit (.int .i64 0), .lit (.int .i64 0), .lit (.int .i64 73048), .agg [.lit (.int .i64 1), .lit (.int .i64 512)], .agg [.lit (.int .i64 0), .lit (.int .i64 0)]], .agg [.lit (.int .i64 0), .lit (.int .i64 0), .lit (.int .i64 0), .lit (.int .i64 73048), .agg [.lit (.int .i64 1), .lit (.int .i64 512)], .agg [.lit (.int .i64 0), .lit (.int .i64 1440)]], .agg [.lit (.int .i64 63), .lit (.int .i64 0), .lit (.int .i64 0), .lit (.int .i64 73048), .agg [.lit (.int .i64 0), .lit (.int .i64 0)], .agg [.lit (.int .i64 0), .lit (.int .i64 0)]], .agg [.lit (.int .i64 0), .lit (.int .i64 1023), .lit (.int .i64 0), .lit (.int .i64 0), .agg [.lit (.int .i64 0), .lit (.int .i64 73048)], .agg [.lit (.int .i64 0), .lit (.int .i64 15)]]]

/-- 'fastilaw46.FactsSpec': WHATEVER THE INPUT: true; the input reads as it did. -/
def factsSpecSpec : ChangeSpec := { name := "factsSpec", fn := fun _ => fun
  | [d1, d2] => { results := [.lit (.bool true)], args := [d1, d2] }
  | _ => none }
def factsSpecRow : OpenClaim := { program := "ytebfcckaicgcfaadoor", sum := "828776f936782924042365b346eea7862645c4d87c88b1427a74b9b54d1f2c4c", func := "fasti/fastilaw46.FactsSpec", spec := "factsSpec", inPlace := ["slices.overlaps[fasti/api.Fact]"], unfollowed := true, recurses := true, named := ["fasti/facts.rows"], plainKeys := false, apart := false, laid := [("fasti/facts.rows", laid_fasti_facts_rows)] }
def FactsSpecSaid : Prop := factsSpecRow.holds Tryd.pinned (OpenSpec.ofChange factsSpecSpec)

/-- ITS FALSE NEIGHBOUR: 'it returns false'. Refute it at one input. -/
def factsSpecWrong : ChangeSpec := { name := "factsSpec", fn := fun _ => fun
  | [d1, d2] => { results := [.lit (.bool false)], args := [d1, d2] }
  | _ => none }
def FactsSpecWrongFalsely : Prop := factsSpecRow.holds Tryd.pinned (OpenSpec.ofChange factsSpecWrong)

/-- 'fastilaw46.FactsStandingSpec': WHATEVER THE INPUT: true; the input reads as it did. -/
def factsStandingSpecSpec : ChangeSpec := { name := "factsStandingSpec", fn := fun _ => fun
  | [d1, d2, d3, d4] => { results := [.lit (.bool true)], args := [d1, d2, d3, d4] }
  | _ => none }
def factsStandingSpecRow : OpenClaim := { program := "ytebfcckaicgcfaadoor", sum := "828776f936782924042365b346eea7862645c4d87c88b1427a74b9b54d1f2c4c", func := "fasti/fastilaw46.FactsStandingSpec", spec := "factsStandingSpec", inPlace := ["slices.overlaps[fasti/api.Fact]"], unfollowed := true, recurses := true, named := ["fasti/facts.rows"], plainKeys := false, apart := false, laid := [("fasti/facts.rows", laid_fasti_facts_rows)] }
def FactsStandingSpecSaid : Prop := factsStandingSpecRow.holds Tryd.pinned (OpenSpec.ofChange factsStandingSpecSpec)

/-- ITS FALSE NEIGHBOUR: 'it returns false'. Refute it at one input. -/
def factsStandingSpecWrong : ChangeSpec := { name := "factsStandingSpec", fn := fun _ => fun
  | [d1, d2, d3, d4] => { results := [.lit (.bool false)], args := [d1, d2, d3, d4] }
  | _ => none }
def FactsStandingSpecWrongFalsely : Prop := factsStandingSpecRow.holds Tryd.pinned (OpenSpec.ofChange factsStandingSpecWrong)

/-- 'fastilaw46.FactsLatest': WHATEVER THE INPUT: true; the input reads as it did. -/
def factsLatestSpec : ChangeSpec := { name := "factsLatest", fn := fun _ => fun
  | [d1, d2] => { results := [.lit (.bool true)], args := [d1, d2] }
  | _ => none }
def factsLatestRow : OpenClaim := { program := "ytebfcckaicgcfaadoor", sum := "828776f936782924042365b346eea7862645c4d87c88b1427a74b9b54d1f2c4c", func := "fasti/fastilaw46.FactsLatest", spec := "factsLatest", inPlace := ["slices.overlaps[fasti/api.Fact]"], unfollowed := true, recurses := true, named := ["fasti/facts.rows"], plainKeys := false, apart := false, laid := [("fasti/facts.rows", laid_fasti_facts_rows)] }
def FactsLatestSaid : Prop := factsLatestRow.holds Tryd.pinned (OpenSpec.ofChange factsLatestSpec)

/-- ITS FALSE NEIGHBOUR: 'it returns false'. Refute it at one input. -/
def factsLatestWrong : ChangeSpec := { name := "factsLatest", fn := fun _ => fun
  | [d1, d2] => { results := [.lit (.bool false)], args := [d1, d2] }
  | _ => none }
def FactsLatestWrongFalsely : Prop := factsLatestRow.holds Tryd.pinned (OpenSpec.ofChange factsLatestWrong)

/-- 'fastilaw46.FactsOrder': WHATEVER THE INPUT: true; the input reads as it did. -/
def factsOrderSpec : ChangeSpec := { name := "factsOrder", fn := fun _ => fun
  | [d1, d2] => { results := [.lit (.bool true)], args := [d1, d2] }
  | _ => none }
def factsOrderRow : OpenClaim := { program := "ytebfcckaicgcfaadoor", sum := "828776f936782924042365b346eea7862645c4d87c88b1427a74b9b54d1f2c4c", func := "fasti/fastilaw46.FactsOrder", spec := "factsOrder", inPlace := ["slices.overlaps[fasti/api.Fact]"], unfollowed := true, recurses := true, named := ["fasti/facts.rows"], plainKeys := false, apart := false, laid := [("fasti/facts.rows", laid_fasti_facts_rows)] }
def FactsOrderSaid : Prop := factsOrderRow.holds Tryd.pinned (OpenSpec.ofChange factsOrderSpec)

/-- ITS FALSE NEIGHBOUR: 'it returns false'. Refute it at one input. -/
def factsOrderWrong : ChangeSpec := { name := "factsOrder", fn := fun _ => fun
  | [d1, d2] => { results := [.lit (.bool false)], args := [d1, d2] }
  | _ => none }
def FactsOrderWrongFalsely : Prop := factsOrderRow.holds Tryd.pinned (OpenSpec.ofChange factsOrderWrong)

/-- 'fastilaw46.FactsEarly': WHATEVER THE INPUT: true; the input reads as it did. -/
def factsEarlySpec : ChangeSpec := { name := "factsEarly", fn := fun _ => fun
  | [d1, d2] => { results := [.lit (.bool true)], args := [d1, d2] }
  | _ => none }
def factsEarlyRow : OpenClaim := { program := "ytebfcckaicgcfaadoor", sum := "828776f936782924042365b346eea7862645c4d87c88b1427a74b9b54d1f2c4c", func := "fasti/fastilaw46.FactsEarly", spec := "factsEarly", inPlace := ["slices.overlaps[fasti/api.Fact]"], unfollowed := true, recurses := true, named := ["fasti/facts.rows"], plainKeys := false, apart := false, laid := [("fasti/facts.rows", laid_fasti_facts_rows)] }
def FactsEarlySaid : Prop := factsEarlyRow.holds Tryd.pinned (OpenSpec.ofChange factsEarlySpec)

/-- ITS FALSE NEIGHBOUR: 'it returns false'. Refute it at one input. -/
def factsEarlyWrong : ChangeSpec := { name := "factsEarly", fn := fun _ => fun
  | [d1, d2] => { results := [.lit (.bool false)], args := [d1, d2] }
  | _ => none }
def FactsEarlyWrongFalsely : Prop := factsEarlyRow.holds Tryd.pinned (OpenSpec.ofChange factsEarlyWrong)

/-- 'fastilaw46.FactsDue': WHATEVER THE INPUT: true; the input reads as it did. -/
def factsDueSpec : ChangeSpec := { name := "factsDue", fn := fun _ => fun
  | [d1, d2, d3, d4] => { results := [.lit (.bool true)], args := [d1, d2, d3, d4] }
  | _ => none }
def factsDueRow : OpenClaim := { program := "ytebfcckaicgcfaadoor", sum := "828776f936782924042365b346eea7862645c4d87c88b1427a74b9b54d1f2c4c", func := "fasti/fastilaw46.FactsDue", spec := "factsDue", inPlace := ["slices.overlaps[fasti/api.Fact]"], unfollowed := true, recurses := true, named := ["fasti/facts.rows"], plainKeys := false, apart := false, laid := [("fasti/facts.rows", laid_fasti_facts_rows)] }
def FactsDueSaid : Prop := factsDueRow.holds Tryd.pinned (OpenSpec.ofChange factsDueSpec)

/-- ITS FALSE NEIGHBOUR: 'it returns false'. Refute it at one input. -/
def factsDueWrong : ChangeSpec := { name := "factsDue", fn := fun _ => fun
  | [d1, d2, d3, d4] => { results := [.lit (.bool false)], args := [d1, d2, d3, d4] }
  | _ => none }
def FactsDueWrongFalsely : Prop := factsDueRow.holds Tryd.pinned (OpenSpec.ofChange factsDueWrong)

/-- 'fastilaw46.FactsWithdrawn': WHATEVER THE INPUT: true; the input reads as it did. -/
def factsWithdrawnSpec : ChangeSpec := { name := "factsWithdrawn", fn := fun _ => fun
  | [d1, d2, d3] => { results := [.lit (.bool true)], args := [d1, d2, d3] }
  | _ => none }
def factsWithdrawnRow : OpenClaim := { program := "ytebfcckaicgcfaadoor", sum := "828776f936782924042365b346eea7862645c4d87c88b1427a74b9b54d1f2c4c", func := "fasti/fastilaw46.FactsWithdrawn", spec := "factsWithdrawn", inPlace := ["slices.overlaps[fasti/api.Fact]"], unfollowed := true, recurses := true, named := ["fasti/facts.rows"], plainKeys := false, apart := false, laid := [("fasti/facts.rows", laid_fasti_facts_rows)] }
def FactsWithdrawnSaid : Prop := factsWithdrawnRow.holds Tryd.pinned (OpenSpec.ofChange factsWithdrawnSpec)

/-- ITS FALSE NEIGHBOUR: 'it returns false'. Refute it at one input. -/
def factsWithdrawnWrong : ChangeSpec := { name := "factsWithdrawn", fn := fun _ => fun
  | [d1, d2, d3] => { results := [.lit (.bool false)], args := [d1, d2, d3] }
  | _ => none }
def FactsWithdrawnWrongFalsely : Prop := factsWithdrawnRow.holds Tryd.pinned (OpenSpec.ofChange factsWithdrawnWrong)

/- THE SECOND FORM. 'bulk': how many values and letters a reading holds, each counted each time it is reached (what is shared counts as often as it is met; a slice's spare places count too). A statement '..UptoSaid' is the law's where the arguments, and the package variables that the reading takes, are together of bulk at most 1048576: NARROWER than '..Said'. Prove '..Said' where nothing that the law and all that it calls make is longer than what came in: it says more and counts as full. Else prove '..UptoSaid'. A law counts once. -/
mutual
def uptoBulk {H : Type} : DataW H → Nat
  | .lit (.string bytes) => bytes.length + 1
  | .lit _ => 1
  | .nil => 1
  | .ptr d => uptoBulk d + 1
  | .slice elems spare => uptoBulkAll elems + uptoBulkAll spare + 1
  | .agg parts => uptoBulkAll parts + 1
  | .iface _ d => uptoBulk d + 1
  | .map entries => uptoBulkEntries entries + 1
  | .held _ => 1
def uptoBulkAll {H : Type} : List (DataW H) → Nat
  | [] => 0
  | d :: r => uptoBulk d + uptoBulkAll r
def uptoBulkEntries {H : Type} : List (Lit × DataW H) → Nat
  | [] => 0
  | x :: r => uptoBulkEntry x + uptoBulkEntries r
def uptoBulkEntry {H : Type} : Lit × DataW H → Nat
  | (.string bytes, d) => bytes.length + uptoBulk d + 1
  | (_, d) => uptoBulk d + 1
 end
def uptoSmall : (H : Type) → List (DataW H) → Bool := fun _ ds => decide (uptoBulkAll ds ≤ 1048576)
def OpenSpec.upto (s : _root_.Go.ChangeSpec) : _root_.Go.OpenSpec := { _root_.Go.OpenSpec.ofChange s with cond := some uptoSmall }

/-- 'fastilaw46.FactsSpec', WHERE WHAT IT READS IS OF BULK AT MOST 1048576: true; the input reads as it did. -/
def factsSpecUptoRow : OpenClaim := { program := "ytebfcckaicgcfaadoor", sum := "828776f936782924042365b346eea7862645c4d87c88b1427a74b9b54d1f2c4c", func := "fasti/fastilaw46.FactsSpec", spec := "factsSpec", inPlace := ["slices.overlaps[fasti/api.Fact]"], unfollowed := true, recurses := true, named := ["fasti/facts.rows"], plainKeys := false, apart := false, laid := [("fasti/facts.rows", laid_fasti_facts_rows)], narrowed := true }
def FactsSpecUptoSaid : Prop := factsSpecUptoRow.holds Tryd.pinned (OpenSpec.upto factsSpecSpec)

/-- 'fastilaw46.FactsStandingSpec', WHERE WHAT IT READS IS OF BULK AT MOST 1048576: true; the input reads as it did. -/
def factsStandingSpecUptoRow : OpenClaim := { program := "ytebfcckaicgcfaadoor", sum := "828776f936782924042365b346eea7862645c4d87c88b1427a74b9b54d1f2c4c", func := "fasti/fastilaw46.FactsStandingSpec", spec := "factsStandingSpec", inPlace := ["slices.overlaps[fasti/api.Fact]"], unfollowed := true, recurses := true, named := ["fasti/facts.rows"], plainKeys := false, apart := false, laid := [("fasti/facts.rows", laid_fasti_facts_rows)], narrowed := true }
def FactsStandingSpecUptoSaid : Prop := factsStandingSpecUptoRow.holds Tryd.pinned (OpenSpec.upto factsStandingSpecSpec)

/-- 'fastilaw46.FactsLatest', WHERE WHAT IT READS IS OF BULK AT MOST 1048576: true; the input reads as it did. -/
def factsLatestUptoRow : OpenClaim := { program := "ytebfcckaicgcfaadoor", sum := "828776f936782924042365b346eea7862645c4d87c88b1427a74b9b54d1f2c4c", func := "fasti/fastilaw46.FactsLatest", spec := "factsLatest", inPlace := ["slices.overlaps[fasti/api.Fact]"], unfollowed := true, recurses := true, named := ["fasti/facts.rows"], plainKeys := false, apart := false, laid := [("fasti/facts.rows", laid_fasti_facts_rows)], narrowed := true }
def FactsLatestUptoSaid : Prop := factsLatestUptoRow.holds Tryd.pinned (OpenSpec.upto factsLatestSpec)

/-- 'fastilaw46.FactsOrder', WHERE WHAT IT READS IS OF BULK AT MOST 1048576: true; the input reads as it did. -/
def factsOrderUptoRow : OpenClaim := { program := "ytebfcckaicgcfaadoor", sum := "828776f936782924042365b346eea7862645c4d87c88b1427a74b9b54d1f2c4c", func := "fasti/fastilaw46.FactsOrder", spec := "factsOrder", inPlace := ["slices.overlaps[fasti/api.Fact]"], unfollowed := true, recurses := true, named := ["fasti/facts.rows"], plainKeys := false, apart := false, laid := [("fasti/facts.rows", laid_fasti_facts_rows)], narrowed := true }
def FactsOrderUptoSaid : Prop := factsOrderUptoRow.holds Tryd.pinned (OpenSpec.upto factsOrderSpec)

/-- 'fastilaw46.FactsEarly', WHERE WHAT IT READS IS OF BULK AT MOST 1048576: true; the input reads as it did. -/
def factsEarlyUptoRow : OpenClaim := { program := "ytebfcckaicgcfaadoor", sum := "828776f936782924042365b346eea7862645c4d87c88b1427a74b9b54d1f2c4c", func := "fasti/fastilaw46.FactsEarly", spec := "factsEarly", inPlace := ["slices.overlaps[fasti/api.Fact]"], unfollowed := true, recurses := true, named := ["fasti/facts.rows"], plainKeys := false, apart := false, laid := [("fasti/facts.rows", laid_fasti_facts_rows)], narrowed := true }
def FactsEarlyUptoSaid : Prop := factsEarlyUptoRow.holds Tryd.pinned (OpenSpec.upto factsEarlySpec)

/-- 'fastilaw46.FactsDue', WHERE WHAT IT READS IS OF BULK AT MOST 1048576: true; the input reads as it did. -/
def factsDueUptoRow : OpenClaim := { program := "ytebfcckaicgcfaadoor", sum := "828776f936782924042365b346eea7862645c4d87c88b1427a74b9b54d1f2c4c", func := "fasti/fastilaw46.FactsDue", spec := "factsDue", inPlace := ["slices.overlaps[fasti/api.Fact]"], unfollowed := true, recurses := true, named := ["fasti/facts.rows"], plainKeys := false, apart := false, laid := [("fasti/facts.rows", laid_fasti_facts_rows)], narrowed := true }
def FactsDueUptoSaid : Prop := factsDueUptoRow.holds Tryd.pinned (OpenSpec.upto factsDueSpec)

/-- 'fastilaw46.FactsWithdrawn', WHERE WHAT IT READS IS OF BULK AT MOST 1048576: true; the input reads as it did. -/
def factsWithdrawnUptoRow : OpenClaim := { program := "ytebfcckaicgcfaadoor", sum := "828776f936782924042365b346eea7862645c4d87c88b1427a74b9b54d1f2c4c", func := "fasti/fastilaw46.FactsWithdrawn", spec := "factsWithdrawn", inPlace := ["slices.overlaps[fasti/api.Fact]"], unfollowed := true, recurses := true, named := ["fasti/facts.rows"], plainKeys := false, apart := false, laid := [("fasti/facts.rows", laid_fasti_facts_rows)], narrowed := true }
def FactsWithdrawnUptoSaid : Prop := factsWithdrawnUptoRow.holds Tryd.pinned (OpenSpec.upto factsWithdrawnSpec)

end Rows
end Go.Proofs.YtebfcckaicgcfaaDoor
