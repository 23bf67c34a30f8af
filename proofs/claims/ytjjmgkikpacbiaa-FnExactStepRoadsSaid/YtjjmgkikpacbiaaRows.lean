/-
  No cell of these rows narrows 'for every input' (looked for: loops, veiled, ifaces, maps, wideKeys, modest, calm, conditions, laid).
  DERIVED. THE GIVEN ROWS OF THIS SEAT. 5 by the template 'for every input the law returns true; each argument reads behind the call as it read before'; 0 by the template 'total and deterministic' (their statements: YtjjmgkikpacbiaaTotals.lean).
  GIVEN WITH THE SEED: the statements are not yours to turn. If you find one false, say at which input.
  Laid BY PROGRAM, IN A SANDBOX (cutbox-rows.mjs): the forced cells as the released guide's own fill.sh prints them over the translation 49a00c45ba7b4f00… (all of the seat's roots in one cut). By AI agents, Wed Nov 11 2026. No macro, syntax, notation, axiom, sorry.
-/
import Derived.Test.YtjjmgkikpacbiaaChecked
import GoSem.Claim
import GoSem.ClaimJoined
import GoSem.ClaimMapViews
import Derived.JoinedTies
import Derived.KernelRfl
namespace Go.Proofs.Ytjjmgkikpacbiaa
/- THE CELL 'sum', in the pinned program and in every row, IS THE sha256 OF THE DUMP (.gsa) THAT YtjjmgkikpacbiaaProg.lean LOADS. Nothing in Lean hashes anything: it is a label: what it is worth is what the hold of that sum in a sandbox is worth. -/
noncomputable def Try.pinned : Pinned := { name := "ytjjmgkikpacbiaa", sum := "49a00c45ba7b4f00643300c0e57d649b324cac915dcfae1878e3ff0067d96dbe", checked := Try.checked }
namespace Rows
def none {H : Type} : Left H := { results := [], args := [] }

/-- 'laws.FnExactStepRoads': WHATEVER THE INPUT: true; the input reads as it did. -/
def fnExactStepRoadsSpec : ChangeSpec := { name := "fnExactStepRoads", fn := fun _ => fun
  | [d1, d2, d3, d4] => { results := [.lit (.bool true)], args := [d1, d2, d3, d4] }
  | _ => none }
def fnExactStepRoadsRow : OpenClaim := { program := "ytjjmgkikpacbiaa", sum := "49a00c45ba7b4f00643300c0e57d649b324cac915dcfae1878e3ff0067d96dbe", func := "loop.example/g01227/laws.FnExactStepRoads", spec := "fnExactStepRoads", inPlace := ["math.Float32bits", "math.Float64bits"], unfollowed := true, recurses := true, apart := false }
def FnExactStepRoadsSaid : Prop := fnExactStepRoadsRow.holds Try.pinned (OpenSpec.ofChange fnExactStepRoadsSpec)

/-- ITS FALSE NEIGHBOUR: 'it returns false'. Refute it at one input. -/
def fnExactStepRoadsWrong : ChangeSpec := { name := "fnExactStepRoads", fn := fun _ => fun
  | [d1, d2, d3, d4] => { results := [.lit (.bool false)], args := [d1, d2, d3, d4] }
  | _ => none }
def FnExactStepRoadsWrongFalsely : Prop := fnExactStepRoadsRow.holds Try.pinned (OpenSpec.ofChange fnExactStepRoadsWrong)

/-- 'laws.FnExactStepList': WHATEVER THE INPUT: true; the input reads as it did. -/
def fnExactStepListSpec : ChangeSpec := { name := "fnExactStepList", fn := fun _ => fun
  | [d1, d2, d3] => { results := [.lit (.bool true)], args := [d1, d2, d3] }
  | _ => none }
def fnExactStepListRow : OpenClaim := { program := "ytjjmgkikpacbiaa", sum := "49a00c45ba7b4f00643300c0e57d649b324cac915dcfae1878e3ff0067d96dbe", func := "loop.example/g01227/laws.FnExactStepList", spec := "fnExactStepList", inPlace := ["math.Float32bits", "math.Float64bits"], unfollowed := true, recurses := true, apart := false }
def FnExactStepListSaid : Prop := fnExactStepListRow.holds Try.pinned (OpenSpec.ofChange fnExactStepListSpec)

/-- ITS FALSE NEIGHBOUR: 'it returns false'. Refute it at one input. -/
def fnExactStepListWrong : ChangeSpec := { name := "fnExactStepList", fn := fun _ => fun
  | [d1, d2, d3] => { results := [.lit (.bool false)], args := [d1, d2, d3] }
  | _ => none }
def FnExactStepListWrongFalsely : Prop := fnExactStepListRow.holds Try.pinned (OpenSpec.ofChange fnExactStepListWrong)

/-- 'laws.FnExactStepsToEmpty': WHATEVER THE INPUT: true; the input reads as it did. -/
def fnExactStepsToEmptySpec : ChangeSpec := { name := "fnExactStepsToEmpty", fn := fun _ => fun
  | [d1, d2] => { results := [.lit (.bool true)], args := [d1, d2] }
  | _ => none }
def fnExactStepsToEmptyRow : OpenClaim := { program := "ytjjmgkikpacbiaa", sum := "49a00c45ba7b4f00643300c0e57d649b324cac915dcfae1878e3ff0067d96dbe", func := "loop.example/g01227/laws.FnExactStepsToEmpty", spec := "fnExactStepsToEmpty", inPlace := ["math.Float32bits", "math.Float64bits"], unfollowed := true, recurses := true, apart := false }
def FnExactStepsToEmptySaid : Prop := fnExactStepsToEmptyRow.holds Try.pinned (OpenSpec.ofChange fnExactStepsToEmptySpec)

/-- ITS FALSE NEIGHBOUR: 'it returns false'. Refute it at one input. -/
def fnExactStepsToEmptyWrong : ChangeSpec := { name := "fnExactStepsToEmpty", fn := fun _ => fun
  | [d1, d2] => { results := [.lit (.bool false)], args := [d1, d2] }
  | _ => none }
def FnExactStepsToEmptyWrongFalsely : Prop := fnExactStepsToEmptyRow.holds Try.pinned (OpenSpec.ofChange fnExactStepsToEmptyWrong)

/-- 'laws.FnExactStepsToFull': WHATEVER THE INPUT: true; the input reads as it did. -/
def fnExactStepsToFullSpec : ChangeSpec := { name := "fnExactStepsToFull", fn := fun _ => fun
  | [d1, d2, d3] => { results := [.lit (.bool true)], args := [d1, d2, d3] }
  | _ => none }
def fnExactStepsToFullRow : OpenClaim := { program := "ytjjmgkikpacbiaa", sum := "49a00c45ba7b4f00643300c0e57d649b324cac915dcfae1878e3ff0067d96dbe", func := "loop.example/g01227/laws.FnExactStepsToFull", spec := "fnExactStepsToFull", inPlace := ["math.Float32bits", "math.Float64bits"], unfollowed := true, recurses := true, apart := false }
def FnExactStepsToFullSaid : Prop := fnExactStepsToFullRow.holds Try.pinned (OpenSpec.ofChange fnExactStepsToFullSpec)

/-- ITS FALSE NEIGHBOUR: 'it returns false'. Refute it at one input. -/
def fnExactStepsToFullWrong : ChangeSpec := { name := "fnExactStepsToFull", fn := fun _ => fun
  | [d1, d2, d3] => { results := [.lit (.bool false)], args := [d1, d2, d3] }
  | _ => none }
def FnExactStepsToFullWrongFalsely : Prop := fnExactStepsToFullRow.holds Try.pinned (OpenSpec.ofChange fnExactStepsToFullWrong)

/-- 'laws.FnExactDelayOf': WHATEVER THE INPUT: true; the input reads as it did. -/
def fnExactDelayOfSpec : ChangeSpec := { name := "fnExactDelayOf", fn := fun _ => fun
  | [d1, d2, d3, d4] => { results := [.lit (.bool true)], args := [d1, d2, d3, d4] }
  | _ => none }
def fnExactDelayOfRow : OpenClaim := { program := "ytjjmgkikpacbiaa", sum := "49a00c45ba7b4f00643300c0e57d649b324cac915dcfae1878e3ff0067d96dbe", func := "loop.example/g01227/laws.FnExactDelayOf", spec := "fnExactDelayOf", inPlace := ["math.Float32bits", "math.Float64bits"], unfollowed := true, recurses := true, apart := false }
def FnExactDelayOfSaid : Prop := fnExactDelayOfRow.holds Try.pinned (OpenSpec.ofChange fnExactDelayOfSpec)

/-- ITS FALSE NEIGHBOUR: 'it returns false'. Refute it at one input. -/
def fnExactDelayOfWrong : ChangeSpec := { name := "fnExactDelayOf", fn := fun _ => fun
  | [d1, d2, d3, d4] => { results := [.lit (.bool false)], args := [d1, d2, d3, d4] }
  | _ => none }
def FnExactDelayOfWrongFalsely : Prop := fnExactDelayOfRow.holds Try.pinned (OpenSpec.ofChange fnExactDelayOfWrong)

/- THE SECOND FORM. 'bulk': how many values and letters a reading holds, each counted each time it is reached (what is shared counts as often as it is met; a slice's spare places count too). A statement '..UptoSaid' is the law's where the arguments, and the package variables that the reading takes, are together of bulk at most 1048576: NARROWER than '..Said'. Prove '..Said' where nothing that the law and all that it calls make is longer than what came in: it says more and counts as full. Else prove '..UptoSaid'. A law counts once. -/
mutual
def uptoBulk {H : Type} : DataW H → Nat
  | .lit (.string bytes) => bytes.length + 1
  | .lit _ => 1
  | .nil => 1
  | .ptr d => uptoBulk d + 1
  | .slice elems spare => uptoBulkAll elems + uptoBulkAll spare + 1
  | .agg parts => uptoBulkAll parts + 1
  | .iface _ d => uptoBulk d + 1
  | .map entries => uptoBulkEntries entries + 1
  | .held _ => 1
def uptoBulkAll {H : Type} : List (DataW H) → Nat
  | [] => 0
  | d :: r => uptoBulk d + uptoBulkAll r
def uptoBulkEntries {H : Type} : List (Lit × DataW H) → Nat
  | [] => 0
  | x :: r => uptoBulkEntry x + uptoBulkEntries r
def uptoBulkEntry {H : Type} : Lit × DataW H → Nat
  | (.string bytes, d) => bytes.length + uptoBulk d + 1
  | (_, d) => uptoBulk d + 1
 end
def uptoSmall : (H : Type) → List (DataW H) → Bool := fun _ ds => decide (uptoBulkAll ds ≤ 1048576)
def OpenSpec.upto (s : _root_.Go.ChangeSpec) : _root_.Go.OpenSpec := { _root_.Go.OpenSpec.ofChange s with cond := some uptoSmall }

/-- 'laws.FnExactStepRoads', WHERE WHAT IT READS IS OF BULK AT MOST 1048576: true; the input reads as it did. -/
def fnExactStepRoadsUptoRow : OpenClaim := { program := "ytjjmgkikpacbiaa", sum := "49a00c45ba7b4f00643300c0e57d649b324cac915dcfae1878e3ff0067d96dbe", func := "loop.example/g01227/laws.FnExactStepRoads", spec := "fnExactStepRoads", inPlace := ["math.Float32bits", "math.Float64bits"], unfollowed := true, recurses := true, apart := false, narrowed := true }
def FnExactStepRoadsUptoSaid : Prop := fnExactStepRoadsUptoRow.holds Try.pinned (OpenSpec.upto fnExactStepRoadsSpec)

/-- 'laws.FnExactStepList', WHERE WHAT IT READS IS OF BULK AT MOST 1048576: true; the input reads as it did. -/
def fnExactStepListUptoRow : OpenClaim := { program := "ytjjmgkikpacbiaa", sum := "49a00c45ba7b4f00643300c0e57d649b324cac915dcfae1878e3ff0067d96dbe", func := "loop.example/g01227/laws.FnExactStepList", spec := "fnExactStepList", inPlace := ["math.Float32bits", "math.Float64bits"], unfollowed := true, recurses := true, apart := false, narrowed := true }
def FnExactStepListUptoSaid : Prop := fnExactStepListUptoRow.holds Try.pinned (OpenSpec.upto fnExactStepListSpec)

/-- 'laws.FnExactStepsToEmpty', WHERE WHAT IT READS IS OF BULK AT MOST 1048576: true; the input reads as it did. -/
def fnExactStepsToEmptyUptoRow : OpenClaim := { program := "ytjjmgkikpacbiaa", sum := "49a00c45ba7b4f00643300c0e57d649b324cac915dcfae1878e3ff0067d96dbe", func := "loop.example/g01227/laws.FnExactStepsToEmpty", spec := "fnExactStepsToEmpty", inPlace := ["math.Float32bits", "math.Float64bits"], unfollowed := true, recurses := true, apart := false, narrowed := true }
def FnExactStepsToEmptyUptoSaid : Prop := fnExactStepsToEmptyUptoRow.holds Try.pinned (OpenSpec.upto fnExactStepsToEmptySpec)

/-- 'laws.FnExactStepsToFull', WHERE WHAT IT READS IS OF BULK AT MOST 1048576: true; the input reads as it did. -/
def fnExactStepsToFullUptoRow : OpenClaim := { program := "ytjjmgkikpacbiaa", sum := "49a00c45ba7b4f00643300c0e57d649b324cac915dcfae1878e3ff0067d96dbe", func := "loop.example/g01227/laws.FnExactStepsToFull", spec := "fnExactStepsToFull", inPlace := ["math.Float32bits", "math.Float64bits"], unfollowed := true, recurses := true, apart := false, narrowed := true }
def FnExactStepsToFullUptoSaid : Prop := fnExactStepsToFullUptoRow.holds Try.pinned (OpenSpec.upto fnExactStepsToFullSpec)

/-- 'laws.FnExactDelayOf', WHERE WHAT IT READS IS OF BULK AT MOST 1048576: true; the input reads as it did. -/
def fnExactDelayOfUptoRow : OpenClaim := { program := "ytjjmgkikpacbiaa", sum := "49a00c45ba7b4f00643300c0e57d649b324cac915dcfae1878e3ff0067d96dbe", func := "loop.example/g01227/laws.FnExactDelayOf", spec := "fnExactDelayOf", inPlace := ["math.Float32bits", "math.Float64bits"], unfollowed := true, recurses := true, apart := false, narrowed := true }
def FnExactDelayOfUptoSaid : Prop := fnExactDelayOfUptoRow.holds Try.pinned (OpenSpec.upto fnExactDelayOfSpec)

end Rows
end Go.Proofs.Ytjjmgkikpacbiaa
