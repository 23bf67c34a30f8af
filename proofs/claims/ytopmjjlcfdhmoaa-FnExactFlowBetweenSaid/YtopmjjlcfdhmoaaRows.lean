/-
  No cell of these rows narrows 'for every input' (looked for: loops, veiled, ifaces, maps, wideKeys, modest, calm, conditions, laid).
  DERIVED. THE GIVEN ROWS OF THIS SEAT. 12 by the template 'for every input the law returns true; each argument reads behind the call as it read before'; 0 by the template 'total and deterministic' (their statements: YtopmjjlcfdhmoaaTotals.lean).
  GIVEN WITH THE SEED: the statements are not yours to turn. If you find one false, say at which input.
  Laid BY PROGRAM, IN A SANDBOX (cutbox-rows.mjs): the forced cells as the released guide's own fill.sh prints them over the translation 93302ea3b1e611a0… (all of the seat's roots in one cut). By AI agents, Wed Nov 11 2026. No macro, syntax, notation, axiom, sorry.
-/
import Derived.Test.YtopmjjlcfdhmoaaChecked
import GoSem.Claim
import GoSem.ClaimJoined
import GoSem.ClaimMapViews
import Derived.JoinedTies
import Derived.KernelRfl
namespace Go.Proofs.Ytopmjjlcfdhmoaa
/- THE CELL 'sum', in the pinned program and in every row, IS THE sha256 OF THE DUMP (.gsa) THAT YtopmjjlcfdhmoaaProg.lean LOADS. Nothing in Lean hashes anything: it is a label: what it is worth is what the hold of that sum in a sandbox is worth. -/
noncomputable def Try.pinned : Pinned := { name := "ytopmjjlcfdhmoaa", sum := "93302ea3b1e611a066edc88848fcd08c1515445d6f3f5be60e71cc347eacf454", checked := Try.checked }
namespace Rows
def none {H : Type} : Left H := { results := [], args := [] }

/-- 'laws.FnExactValidRoad': WHATEVER THE INPUT: true; the input reads as it did. -/
def fnExactValidRoadSpec : ChangeSpec := { name := "fnExactValidRoad", fn := fun _ => fun
  | [d] => { results := [.lit (.bool true)], args := [d] }
  | _ => none }
def fnExactValidRoadRow : OpenClaim := { program := "ytopmjjlcfdhmoaa", sum := "93302ea3b1e611a066edc88848fcd08c1515445d6f3f5be60e71cc347eacf454", func := "loop.example/g01227/laws.FnExactValidRoad", spec := "fnExactValidRoad", inPlace := ["math.Float32bits", "math.Float64bits"], apart := false }
def FnExactValidRoadSaid : Prop := fnExactValidRoadRow.holds Try.pinned (OpenSpec.ofChange fnExactValidRoadSpec)

/-- ITS FALSE NEIGHBOUR: 'it returns false'. Refute it at one input. -/
def fnExactValidRoadWrong : ChangeSpec := { name := "fnExactValidRoad", fn := fun _ => fun
  | [d] => { results := [.lit (.bool false)], args := [d] }
  | _ => none }
def FnExactValidRoadWrongFalsely : Prop := fnExactValidRoadRow.holds Try.pinned (OpenSpec.ofChange fnExactValidRoadWrong)

/-- 'laws.FnExactSameRoad': WHATEVER THE INPUT: true; the input reads as it did. -/
def fnExactSameRoadSpec : ChangeSpec := { name := "fnExactSameRoad", fn := fun _ => fun
  | [d1, d2] => { results := [.lit (.bool true)], args := [d1, d2] }
  | _ => none }
def fnExactSameRoadRow : OpenClaim := { program := "ytopmjjlcfdhmoaa", sum := "93302ea3b1e611a066edc88848fcd08c1515445d6f3f5be60e71cc347eacf454", func := "loop.example/g01227/laws.FnExactSameRoad", spec := "fnExactSameRoad", inPlace := ["math.Float32bits"], unfollowed := true, recurses := true, apart := false }
def FnExactSameRoadSaid : Prop := fnExactSameRoadRow.holds Try.pinned (OpenSpec.ofChange fnExactSameRoadSpec)

/-- ITS FALSE NEIGHBOUR: 'it returns false'. Refute it at one input. -/
def fnExactSameRoadWrong : ChangeSpec := { name := "fnExactSameRoad", fn := fun _ => fun
  | [d1, d2] => { results := [.lit (.bool false)], args := [d1, d2] }
  | _ => none }
def FnExactSameRoadWrongFalsely : Prop := fnExactSameRoadRow.holds Try.pinned (OpenSpec.ofChange fnExactSameRoadWrong)

/-- 'laws.FnExactMakeRoad': WHATEVER THE INPUT: true; the input reads as it did. -/
def fnExactMakeRoadSpec : ChangeSpec := { name := "fnExactMakeRoad", fn := fun _ => fun
  | [d1, d2, d3] => { results := [.lit (.bool true)], args := [d1, d2, d3] }
  | _ => none }
def fnExactMakeRoadRow : OpenClaim := { program := "ytopmjjlcfdhmoaa", sum := "93302ea3b1e611a066edc88848fcd08c1515445d6f3f5be60e71cc347eacf454", func := "loop.example/g01227/laws.FnExactMakeRoad", spec := "fnExactMakeRoad", inPlace := ["math.Float32bits", "math.Float64bits"], apart := false }
def FnExactMakeRoadSaid : Prop := fnExactMakeRoadRow.holds Try.pinned (OpenSpec.ofChange fnExactMakeRoadSpec)

/-- ITS FALSE NEIGHBOUR: 'it returns false'. Refute it at one input. -/
def fnExactMakeRoadWrong : ChangeSpec := { name := "fnExactMakeRoad", fn := fun _ => fun
  | [d1, d2, d3] => { results := [.lit (.bool false)], args := [d1, d2, d3] }
  | _ => none }
def FnExactMakeRoadWrongFalsely : Prop := fnExactMakeRoadRow.holds Try.pinned (OpenSpec.ofChange fnExactMakeRoadWrong)

/-- 'laws.FnExactFillRoad': WHATEVER THE INPUT: true; the input reads as it did. -/
def fnExactFillRoadSpec : ChangeSpec := { name := "fnExactFillRoad", fn := fun _ => fun
  | [d1, d2] => { results := [.lit (.bool true)], args := [d1, d2] }
  | _ => none }
def fnExactFillRoadRow : OpenClaim := { program := "ytopmjjlcfdhmoaa", sum := "93302ea3b1e611a066edc88848fcd08c1515445d6f3f5be60e71cc347eacf454", func := "loop.example/g01227/laws.FnExactFillRoad", spec := "fnExactFillRoad", inPlace := ["math.Float32bits", "math.Float64bits"], apart := false }
def FnExactFillRoadSaid : Prop := fnExactFillRoadRow.holds Try.pinned (OpenSpec.ofChange fnExactFillRoadSpec)

/-- ITS FALSE NEIGHBOUR: 'it returns false'. Refute it at one input. -/
def fnExactFillRoadWrong : ChangeSpec := { name := "fnExactFillRoad", fn := fun _ => fun
  | [d1, d2] => { results := [.lit (.bool false)], args := [d1, d2] }
  | _ => none }
def FnExactFillRoadWrongFalsely : Prop := fnExactFillRoadRow.holds Try.pinned (OpenSpec.ofChange fnExactFillRoadWrong)

/-- 'laws.FnExactSetCell': WHATEVER THE INPUT: true; the input reads as it did. -/
def fnExactSetCellSpec : ChangeSpec := { name := "fnExactSetCell", fn := fun _ => fun
  | [d1, d2, d3] => { results := [.lit (.bool true)], args := [d1, d2, d3] }
  | _ => none }
def fnExactSetCellRow : OpenClaim := { program := "ytopmjjlcfdhmoaa", sum := "93302ea3b1e611a066edc88848fcd08c1515445d6f3f5be60e71cc347eacf454", func := "loop.example/g01227/laws.FnExactSetCell", spec := "fnExactSetCell", inPlace := ["math.Float32bits", "math.Float64bits"], apart := false }
def FnExactSetCellSaid : Prop := fnExactSetCellRow.holds Try.pinned (OpenSpec.ofChange fnExactSetCellSpec)

/-- ITS FALSE NEIGHBOUR: 'it returns false'. Refute it at one input. -/
def fnExactSetCellWrong : ChangeSpec := { name := "fnExactSetCell", fn := fun _ => fun
  | [d1, d2, d3] => { results := [.lit (.bool false)], args := [d1, d2, d3] }
  | _ => none }
def FnExactSetCellWrongFalsely : Prop := fnExactSetCellRow.holds Try.pinned (OpenSpec.ofChange fnExactSetCellWrong)

/-- 'laws.FnExactBestShare': WHATEVER THE INPUT: true; the input reads as it did. -/
def fnExactBestShareSpec : ChangeSpec := { name := "fnExactBestShare", fn := fun _ => fun
  | [d] => { results := [.lit (.bool true)], args := [d] }
  | _ => none }
def fnExactBestShareRow : OpenClaim := { program := "ytopmjjlcfdhmoaa", sum := "93302ea3b1e611a066edc88848fcd08c1515445d6f3f5be60e71cc347eacf454", func := "loop.example/g01227/laws.FnExactBestShare", spec := "fnExactBestShare", inPlace := ["math.Float32bits", "math.Float64bits"], apart := false }
def FnExactBestShareSaid : Prop := fnExactBestShareRow.holds Try.pinned (OpenSpec.ofChange fnExactBestShareSpec)

/-- ITS FALSE NEIGHBOUR: 'it returns false'. Refute it at one input. -/
def fnExactBestShareWrong : ChangeSpec := { name := "fnExactBestShare", fn := fun _ => fun
  | [d] => { results := [.lit (.bool false)], args := [d] }
  | _ => none }
def FnExactBestShareWrongFalsely : Prop := fnExactBestShareRow.holds Try.pinned (OpenSpec.ofChange fnExactBestShareWrong)

/-- 'laws.FnExactMostFlow': WHATEVER THE INPUT: true; the input reads as it did. -/
def fnExactMostFlowSpec : ChangeSpec := { name := "fnExactMostFlow", fn := fun _ => fun
  | [d] => { results := [.lit (.bool true)], args := [d] }
  | _ => none }
def fnExactMostFlowRow : OpenClaim := { program := "ytopmjjlcfdhmoaa", sum := "93302ea3b1e611a066edc88848fcd08c1515445d6f3f5be60e71cc347eacf454", func := "loop.example/g01227/laws.FnExactMostFlow", spec := "fnExactMostFlow", inPlace := ["math.Float32bits", "math.Float64bits"], apart := false }
def FnExactMostFlowSaid : Prop := fnExactMostFlowRow.holds Try.pinned (OpenSpec.ofChange fnExactMostFlowSpec)

/-- ITS FALSE NEIGHBOUR: 'it returns false'. Refute it at one input. -/
def fnExactMostFlowWrong : ChangeSpec := { name := "fnExactMostFlow", fn := fun _ => fun
  | [d] => { results := [.lit (.bool false)], args := [d] }
  | _ => none }
def FnExactMostFlowWrongFalsely : Prop := fnExactMostFlowRow.holds Try.pinned (OpenSpec.ofChange fnExactMostFlowWrong)

/-- 'laws.FnExactSendsAt': WHATEVER THE INPUT: true; the input reads as it did. -/
def fnExactSendsAtSpec : ChangeSpec := { name := "fnExactSendsAt", fn := fun _ => fun
  | [d1, d2] => { results := [.lit (.bool true)], args := [d1, d2] }
  | _ => none }
def fnExactSendsAtRow : OpenClaim := { program := "ytopmjjlcfdhmoaa", sum := "93302ea3b1e611a066edc88848fcd08c1515445d6f3f5be60e71cc347eacf454", func := "loop.example/g01227/laws.FnExactSendsAt", spec := "fnExactSendsAt", inPlace := ["math.Float32bits", "math.Float64bits"], apart := false }
def FnExactSendsAtSaid : Prop := fnExactSendsAtRow.holds Try.pinned (OpenSpec.ofChange fnExactSendsAtSpec)

/-- ITS FALSE NEIGHBOUR: 'it returns false'. Refute it at one input. -/
def fnExactSendsAtWrong : ChangeSpec := { name := "fnExactSendsAt", fn := fun _ => fun
  | [d1, d2] => { results := [.lit (.bool false)], args := [d1, d2] }
  | _ => none }
def FnExactSendsAtWrongFalsely : Prop := fnExactSendsAtRow.holds Try.pinned (OpenSpec.ofChange fnExactSendsAtWrong)

/-- 'laws.FnExactTakesAt': WHATEVER THE INPUT: true; the input reads as it did. -/
def fnExactTakesAtSpec : ChangeSpec := { name := "fnExactTakesAt", fn := fun _ => fun
  | [d1, d2] => { results := [.lit (.bool true)], args := [d1, d2] }
  | _ => none }
def fnExactTakesAtRow : OpenClaim := { program := "ytopmjjlcfdhmoaa", sum := "93302ea3b1e611a066edc88848fcd08c1515445d6f3f5be60e71cc347eacf454", func := "loop.example/g01227/laws.FnExactTakesAt", spec := "fnExactTakesAt", inPlace := ["math.Float32bits", "math.Float64bits"], apart := false }
def FnExactTakesAtSaid : Prop := fnExactTakesAtRow.holds Try.pinned (OpenSpec.ofChange fnExactTakesAtSpec)

/-- ITS FALSE NEIGHBOUR: 'it returns false'. Refute it at one input. -/
def fnExactTakesAtWrong : ChangeSpec := { name := "fnExactTakesAt", fn := fun _ => fun
  | [d1, d2] => { results := [.lit (.bool false)], args := [d1, d2] }
  | _ => none }
def FnExactTakesAtWrongFalsely : Prop := fnExactTakesAtRow.holds Try.pinned (OpenSpec.ofChange fnExactTakesAtWrong)

/-- 'laws.FnExactFlowBetween': WHATEVER THE INPUT: true; the input reads as it did. -/
def fnExactFlowBetweenSpec : ChangeSpec := { name := "fnExactFlowBetween", fn := fun _ => fun
  | [d1, d2] => { results := [.lit (.bool true)], args := [d1, d2] }
  | _ => none }
def fnExactFlowBetweenRow : OpenClaim := { program := "ytopmjjlcfdhmoaa", sum := "93302ea3b1e611a066edc88848fcd08c1515445d6f3f5be60e71cc347eacf454", func := "loop.example/g01227/laws.FnExactFlowBetween", spec := "fnExactFlowBetween", inPlace := ["math.Float32bits", "math.Float64bits"], apart := false }
def FnExactFlowBetweenSaid : Prop := fnExactFlowBetweenRow.holds Try.pinned (OpenSpec.ofChange fnExactFlowBetweenSpec)

/-- ITS FALSE NEIGHBOUR: 'it returns false'. Refute it at one input. -/
def fnExactFlowBetweenWrong : ChangeSpec := { name := "fnExactFlowBetween", fn := fun _ => fun
  | [d1, d2] => { results := [.lit (.bool false)], args := [d1, d2] }
  | _ => none }
def FnExactFlowBetweenWrongFalsely : Prop := fnExactFlowBetweenRow.holds Try.pinned (OpenSpec.ofChange fnExactFlowBetweenWrong)

/-- 'laws.FnExactSpeedAt': WHATEVER THE INPUT: true; the input reads as it did. -/
def fnExactSpeedAtSpec : ChangeSpec := { name := "fnExactSpeedAt", fn := fun _ => fun
  | [d1, d2] => { results := [.lit (.bool true)], args := [d1, d2] }
  | _ => none }
def fnExactSpeedAtRow : OpenClaim := { program := "ytopmjjlcfdhmoaa", sum := "93302ea3b1e611a066edc88848fcd08c1515445d6f3f5be60e71cc347eacf454", func := "loop.example/g01227/laws.FnExactSpeedAt", spec := "fnExactSpeedAt", inPlace := ["math.Float32bits", "math.Float64bits"], apart := false }
def FnExactSpeedAtSaid : Prop := fnExactSpeedAtRow.holds Try.pinned (OpenSpec.ofChange fnExactSpeedAtSpec)

/-- ITS FALSE NEIGHBOUR: 'it returns false'. Refute it at one input. -/
def fnExactSpeedAtWrong : ChangeSpec := { name := "fnExactSpeedAt", fn := fun _ => fun
  | [d1, d2] => { results := [.lit (.bool false)], args := [d1, d2] }
  | _ => none }
def FnExactSpeedAtWrongFalsely : Prop := fnExactSpeedAtRow.holds Try.pinned (OpenSpec.ofChange fnExactSpeedAtWrong)

/-- 'laws.FnExactCarsOn': WHATEVER THE INPUT: true; the input reads as it did. -/
def fnExactCarsOnSpec : ChangeSpec := { name := "fnExactCarsOn", fn := fun _ => fun
  | [d] => { results := [.lit (.bool true)], args := [d] }
  | _ => none }
def fnExactCarsOnRow : OpenClaim := { program := "ytopmjjlcfdhmoaa", sum := "93302ea3b1e611a066edc88848fcd08c1515445d6f3f5be60e71cc347eacf454", func := "loop.example/g01227/laws.FnExactCarsOn", spec := "fnExactCarsOn", inPlace := ["math.Float32bits", "math.Float64bits"], apart := false }
def FnExactCarsOnSaid : Prop := fnExactCarsOnRow.holds Try.pinned (OpenSpec.ofChange fnExactCarsOnSpec)

/-- ITS FALSE NEIGHBOUR: 'it returns false'. Refute it at one input. -/
def fnExactCarsOnWrong : ChangeSpec := { name := "fnExactCarsOn", fn := fun _ => fun
  | [d] => { results := [.lit (.bool false)], args := [d] }
  | _ => none }
def FnExactCarsOnWrongFalsely : Prop := fnExactCarsOnRow.holds Try.pinned (OpenSpec.ofChange fnExactCarsOnWrong)

/- THE SECOND FORM. 'bulk': how many values and letters a reading holds, each counted each time it is reached (what is shared counts as often as it is met; a slice's spare places count too). A statement '..UptoSaid' is the law's where the arguments, and the package variables that the reading takes, are together of bulk at most 1048576: NARROWER than '..Said'. Prove '..Said' where nothing that the law and all that it calls make is longer than what came in: it says more and counts as full. Else prove '..UptoSaid'. A law counts once. -/
mutual
def uptoBulk {H : Type} : DataW H → Nat
  | .lit (.string bytes) => bytes.length + 1
  | .lit _ => 1
  | .nil => 1
  | .ptr d => uptoBulk d + 1
  | .slice elems spare => uptoBulkAll elems + uptoBulkAll spare + 1
  | .agg parts => uptoBulkAll parts + 1
  | .iface _ d => uptoBulk d + 1
  | .map entries => uptoBulkEntries entries + 1
  | .held _ => 1
def uptoBulkAll {H : Type} : List (DataW H) → Nat
  | [] => 0
  | d :: r => uptoBulk d + uptoBulkAll r
def uptoBulkEntries {H : Type} : List (Lit × DataW H) → Nat
  | [] => 0
  | x :: r => uptoBulkEntry x + uptoBulkEntries r
def uptoBulkEntry {H : Type} : Lit × DataW H → Nat
  | (.string bytes, d) => bytes.length + uptoBulk d + 1
  | (_, d) => uptoBulk d + 1
 end
def uptoSmall : (H : Type) → List (DataW H) → Bool := fun _ ds => decide (uptoBulkAll ds ≤ 1048576)
def OpenSpec.upto (s : _root_.Go.ChangeSpec) : _root_.Go.OpenSpec := { _root_.Go.OpenSpec.ofChange s with cond := some uptoSmall }

/-- 'laws.FnExactValidRoad', WHERE WHAT IT READS IS OF BULK AT MOST 1048576: true; the input reads as it did. -/
def fnExactValidRoadUptoRow : OpenClaim := { program := "ytopmjjlcfdhmoaa", sum := "93302ea3b1e611a066edc88848fcd08c1515445d6f3f5be60e71cc347eacf454", func := "loop.example/g01227/laws.FnExactValidRoad", spec := "fnExactValidRoad", inPlace := ["math.Float32bits", "math.Float64bits"], apart := false, narrowed := true }
def FnExactValidRoadUptoSaid : Prop := fnExactValidRoadUptoRow.holds Try.pinned (OpenSpec.upto fnExactValidRoadSpec)

/-- 'laws.FnExactSameRoad', WHERE WHAT IT READS IS OF BULK AT MOST 1048576: true; the input reads as it did. -/
def fnExactSameRoadUptoRow : OpenClaim := { program := "ytopmjjlcfdhmoaa", sum := "93302ea3b1e611a066edc88848fcd08c1515445d6f3f5be60e71cc347eacf454", func := "loop.example/g01227/laws.FnExactSameRoad", spec := "fnExactSameRoad", inPlace := ["math.Float32bits"], unfollowed := true, recurses := true, apart := false, narrowed := true }
def FnExactSameRoadUptoSaid : Prop := fnExactSameRoadUptoRow.holds Try.pinned (OpenSpec.upto fnExactSameRoadSpec)

/-- 'laws.FnExactMakeRoad', WHERE WHAT IT READS IS OF BULK AT MOST 1048576: true; the input reads as it did. -/
def fnExactMakeRoadUptoRow : OpenClaim := { program := "ytopmjjlcfdhmoaa", sum := "93302ea3b1e611a066edc88848fcd08c1515445d6f3f5be60e71cc347eacf454", func := "loop.example/g01227/laws.FnExactMakeRoad", spec := "fnExactMakeRoad", inPlace := ["math.Float32bits", "math.Float64bits"], apart := false, narrowed := true }
def FnExactMakeRoadUptoSaid : Prop := fnExactMakeRoadUptoRow.holds Try.pinned (OpenSpec.upto fnExactMakeRoadSpec)

/-- 'laws.FnExactFillRoad', WHERE WHAT IT READS IS OF BULK AT MOST 1048576: true; the input reads as it did. -/
def fnExactFillRoadUptoRow : OpenClaim := { program := "ytopmjjlcfdhmoaa", sum := "93302ea3b1e611a066edc88848fcd08c1515445d6f3f5be60e71cc347eacf454", func := "loop.example/g01227/laws.FnExactFillRoad", spec := "fnExactFillRoad", inPlace := ["math.Float32bits", "math.Float64bits"], apart := false, narrowed := true }
def FnExactFillRoadUptoSaid : Prop := fnExactFillRoadUptoRow.holds Try.pinned (OpenSpec.upto fnExactFillRoadSpec)

/-- 'laws.FnExactSetCell', WHERE WHAT IT READS IS OF BULK AT MOST 1048576: true; the input reads as it did. -/
def fnExactSetCellUptoRow : OpenClaim := { program := "ytopmjjlcfdhmoaa", sum := "93302ea3b1e611a066edc88848fcd08c1515445d6f3f5be60e71cc347eacf454", func := "loop.example/g01227/laws.FnExactSetCell", spec := "fnExactSetCell", inPlace := ["math.Float32bits", "math.Float64bits"], apart := false, narrowed := true }
def FnExactSetCellUptoSaid : Prop := fnExactSetCellUptoRow.holds Try.pinned (OpenSpec.upto fnExactSetCellSpec)

/-- 'laws.FnExactBestShare', WHERE WHAT IT READS IS OF BULK AT MOST 1048576: true; the input reads as it did. -/
def fnExactBestShareUptoRow : OpenClaim := { program := "ytopmjjlcfdhmoaa", sum := "93302ea3b1e611a066edc88848fcd08c1515445d6f3f5be60e71cc347eacf454", func := "loop.example/g01227/laws.FnExactBestShare", spec := "fnExactBestShare", inPlace := ["math.Float32bits", "math.Float64bits"], apart := false, narrowed := true }
def FnExactBestShareUptoSaid : Prop := fnExactBestShareUptoRow.holds Try.pinned (OpenSpec.upto fnExactBestShareSpec)

/-- 'laws.FnExactMostFlow', WHERE WHAT IT READS IS OF BULK AT MOST 1048576: true; the input reads as it did. -/
def fnExactMostFlowUptoRow : OpenClaim := { program := "ytopmjjlcfdhmoaa", sum := "93302ea3b1e611a066edc88848fcd08c1515445d6f3f5be60e71cc347eacf454", func := "loop.example/g01227/laws.FnExactMostFlow", spec := "fnExactMostFlow", inPlace := ["math.Float32bits", "math.Float64bits"], apart := false, narrowed := true }
def FnExactMostFlowUptoSaid : Prop := fnExactMostFlowUptoRow.holds Try.pinned (OpenSpec.upto fnExactMostFlowSpec)

/-- 'laws.FnExactSendsAt', WHERE WHAT IT READS IS OF BULK AT MOST 1048576: true; the input reads as it did. -/
def fnExactSendsAtUptoRow : OpenClaim := { program := "ytopmjjlcfdhmoaa", sum := "93302ea3b1e611a066edc88848fcd08c1515445d6f3f5be60e71cc347eacf454", func := "loop.example/g01227/laws.FnExactSendsAt", spec := "fnExactSendsAt", inPlace := ["math.Float32bits", "math.Float64bits"], apart := false, narrowed := true }
def FnExactSendsAtUptoSaid : Prop := fnExactSendsAtUptoRow.holds Try.pinned (OpenSpec.upto fnExactSendsAtSpec)

/-- 'laws.FnExactTakesAt', WHERE WHAT IT READS IS OF BULK AT MOST 1048576: true; the input reads as it did. -/
def fnExactTakesAtUptoRow : OpenClaim := { program := "ytopmjjlcfdhmoaa", sum := "93302ea3b1e611a066edc88848fcd08c1515445d6f3f5be60e71cc347eacf454", func := "loop.example/g01227/laws.FnExactTakesAt", spec := "fnExactTakesAt", inPlace := ["math.Float32bits", "math.Float64bits"], apart := false, narrowed := true }
def FnExactTakesAtUptoSaid : Prop := fnExactTakesAtUptoRow.holds Try.pinned (OpenSpec.upto fnExactTakesAtSpec)

/-- 'laws.FnExactFlowBetween', WHERE WHAT IT READS IS OF BULK AT MOST 1048576: true; the input reads as it did. -/
def fnExactFlowBetweenUptoRow : OpenClaim := { program := "ytopmjjlcfdhmoaa", sum := "93302ea3b1e611a066edc88848fcd08c1515445d6f3f5be60e71cc347eacf454", func := "loop.example/g01227/laws.FnExactFlowBetween", spec := "fnExactFlowBetween", inPlace := ["math.Float32bits", "math.Float64bits"], apart := false, narrowed := true }
def FnExactFlowBetweenUptoSaid : Prop := fnExactFlowBetweenUptoRow.holds Try.pinned (OpenSpec.upto fnExactFlowBetweenSpec)

/-- 'laws.FnExactSpeedAt', WHERE WHAT IT READS IS OF BULK AT MOST 1048576: true; the input reads as it did. -/
def fnExactSpeedAtUptoRow : OpenClaim := { program := "ytopmjjlcfdhmoaa", sum := "93302ea3b1e611a066edc88848fcd08c1515445d6f3f5be60e71cc347eacf454", func := "loop.example/g01227/laws.FnExactSpeedAt", spec := "fnExactSpeedAt", inPlace := ["math.Float32bits", "math.Float64bits"], apart := false, narrowed := true }
def FnExactSpeedAtUptoSaid : Prop := fnExactSpeedAtUptoRow.holds Try.pinned (OpenSpec.upto fnExactSpeedAtSpec)

/-- 'laws.FnExactCarsOn', WHERE WHAT IT READS IS OF BULK AT MOST 1048576: true; the input reads as it did. -/
def fnExactCarsOnUptoRow : OpenClaim := { program := "ytopmjjlcfdhmoaa", sum := "93302ea3b1e611a066edc88848fcd08c1515445d6f3f5be60e71cc347eacf454", func := "loop.example/g01227/laws.FnExactCarsOn", spec := "fnExactCarsOn", inPlace := ["math.Float32bits", "math.Float64bits"], apart := false, narrowed := true }
def FnExactCarsOnUptoSaid : Prop := fnExactCarsOnUptoRow.holds Try.pinned (OpenSpec.upto fnExactCarsOnSpec)

end Rows
end Go.Proofs.Ytopmjjlcfdhmoaa
