/-
  No cell of these rows narrows 'for every input' (looked for: loops, veiled, ifaces, maps, wideKeys, modest, calm, conditions, laid).
  DERIVED. THE GIVEN ROWS OF THIS SEAT. 12 by the template 'for every input the law returns true; each argument reads behind the call as it read before'; 0 by the template 'total and deterministic' (their statements: YtckhdlfpakfnaaaTotals.lean).
  GIVEN WITH THE SEED: the statements are not yours to turn. If you find one false, say at which input.
  Laid BY PROGRAM, IN A SANDBOX (cutbox-rows.mjs): the forced cells as the released guide's own fill.sh prints them over the translation b4c8d402321b6d65… (all of the seat's roots in one cut). By AI agents, Wed Nov 11 2026. No macro, syntax, notation, axiom, sorry.
-/
import Derived.Test.YtckhdlfpakfnaaaChecked
import GoSem.Claim
import GoSem.ClaimJoined
import GoSem.ClaimMapViews
import Derived.JoinedTies
import Derived.KernelRfl
namespace Go.Proofs.Ytckhdlfpakfnaaa
/- THE CELL 'sum', in the pinned program and in every row, IS THE sha256 OF THE DUMP (.gsa) THAT YtckhdlfpakfnaaaProg.lean LOADS. Nothing in Lean hashes anything: it is a label: what it is worth is what the hold of that sum in a sandbox is worth. -/
noncomputable def Try.pinned : Pinned := { name := "ytckhdlfpakfnaaa", sum := "b4c8d402321b6d652ef2b396fe9a9d3038c2d6a3fdd4923538b11f5772f6b2fe", checked := Try.checked }
namespace Rows
def none {H : Type} : Left H := { results := [], args := [] }

/-- 'laws.FnExactDensestCell': WHATEVER THE INPUT: true; the input reads as it did. -/
def fnExactDensestCellSpec : ChangeSpec := { name := "fnExactDensestCell", fn := fun _ => fun
  | [d] => { results := [.lit (.bool true)], args := [d] }
  | _ => none }
def fnExactDensestCellRow : OpenClaim := { program := "ytckhdlfpakfnaaa", sum := "b4c8d402321b6d652ef2b396fe9a9d3038c2d6a3fdd4923538b11f5772f6b2fe", func := "loop.example/g01227/laws.FnExactDensestCell", spec := "fnExactDensestCell", inPlace := ["math.Float32bits", "math.Float64bits"], apart := false }
def FnExactDensestCellSaid : Prop := fnExactDensestCellRow.holds Try.pinned (OpenSpec.ofChange fnExactDensestCellSpec)

/-- ITS FALSE NEIGHBOUR: 'it returns false'. Refute it at one input. -/
def fnExactDensestCellWrong : ChangeSpec := { name := "fnExactDensestCell", fn := fun _ => fun
  | [d] => { results := [.lit (.bool false)], args := [d] }
  | _ => none }
def FnExactDensestCellWrongFalsely : Prop := fnExactDensestCellRow.holds Try.pinned (OpenSpec.ofChange fnExactDensestCellWrong)

/-- 'laws.FnExactQueueOf': WHATEVER THE INPUT: true; the input reads as it did. -/
def fnExactQueueOfSpec : ChangeSpec := { name := "fnExactQueueOf", fn := fun _ => fun
  | [d] => { results := [.lit (.bool true)], args := [d] }
  | _ => none }
def fnExactQueueOfRow : OpenClaim := { program := "ytckhdlfpakfnaaa", sum := "b4c8d402321b6d652ef2b396fe9a9d3038c2d6a3fdd4923538b11f5772f6b2fe", func := "loop.example/g01227/laws.FnExactQueueOf", spec := "fnExactQueueOf", inPlace := ["math.Float32bits", "math.Float64bits"], apart := false }
def FnExactQueueOfSaid : Prop := fnExactQueueOfRow.holds Try.pinned (OpenSpec.ofChange fnExactQueueOfSpec)

/-- ITS FALSE NEIGHBOUR: 'it returns false'. Refute it at one input. -/
def fnExactQueueOfWrong : ChangeSpec := { name := "fnExactQueueOf", fn := fun _ => fun
  | [d] => { results := [.lit (.bool false)], args := [d] }
  | _ => none }
def FnExactQueueOfWrongFalsely : Prop := fnExactQueueOfRow.holds Try.pinned (OpenSpec.ofChange fnExactQueueOfWrong)

/-- 'laws.FnExactIsFree': WHATEVER THE INPUT: true; the input reads as it did. -/
def fnExactIsFreeSpec : ChangeSpec := { name := "fnExactIsFree", fn := fun _ => fun
  | [d] => { results := [.lit (.bool true)], args := [d] }
  | _ => none }
def fnExactIsFreeRow : OpenClaim := { program := "ytckhdlfpakfnaaa", sum := "b4c8d402321b6d652ef2b396fe9a9d3038c2d6a3fdd4923538b11f5772f6b2fe", func := "loop.example/g01227/laws.FnExactIsFree", spec := "fnExactIsFree", inPlace := ["math.Float32bits", "math.Float64bits"], unfollowed := true, recurses := true, apart := false }
def FnExactIsFreeSaid : Prop := fnExactIsFreeRow.holds Try.pinned (OpenSpec.ofChange fnExactIsFreeSpec)

/-- ITS FALSE NEIGHBOUR: 'it returns false'. Refute it at one input. -/
def fnExactIsFreeWrong : ChangeSpec := { name := "fnExactIsFree", fn := fun _ => fun
  | [d] => { results := [.lit (.bool false)], args := [d] }
  | _ => none }
def FnExactIsFreeWrongFalsely : Prop := fnExactIsFreeRow.holds Try.pinned (OpenSpec.ofChange fnExactIsFreeWrong)

/-- 'laws.FnExactMixRoads': WHATEVER THE INPUT: true; the input reads as it did. -/
def fnExactMixRoadsSpec : ChangeSpec := { name := "fnExactMixRoads", fn := fun _ => fun
  | [d1, d2, d3] => { results := [.lit (.bool true)], args := [d1, d2, d3] }
  | _ => none }
def fnExactMixRoadsRow : OpenClaim := { program := "ytckhdlfpakfnaaa", sum := "b4c8d402321b6d652ef2b396fe9a9d3038c2d6a3fdd4923538b11f5772f6b2fe", func := "loop.example/g01227/laws.FnExactMixRoads", spec := "fnExactMixRoads", inPlace := ["math.Float32bits", "math.Float64bits"], apart := false }
def FnExactMixRoadsSaid : Prop := fnExactMixRoadsRow.holds Try.pinned (OpenSpec.ofChange fnExactMixRoadsSpec)

/-- ITS FALSE NEIGHBOUR: 'it returns false'. Refute it at one input. -/
def fnExactMixRoadsWrong : ChangeSpec := { name := "fnExactMixRoads", fn := fun _ => fun
  | [d1, d2, d3] => { results := [.lit (.bool false)], args := [d1, d2, d3] }
  | _ => none }
def FnExactMixRoadsWrongFalsely : Prop := fnExactMixRoadsRow.holds Try.pinned (OpenSpec.ofChange fnExactMixRoadsWrong)

/-- 'laws.FnExactSmoothRoad': WHATEVER THE INPUT: true; the input reads as it did. -/
def fnExactSmoothRoadSpec : ChangeSpec := { name := "fnExactSmoothRoad", fn := fun _ => fun
  | [d] => { results := [.lit (.bool true)], args := [d] }
  | _ => none }
def fnExactSmoothRoadRow : OpenClaim := { program := "ytckhdlfpakfnaaa", sum := "b4c8d402321b6d652ef2b396fe9a9d3038c2d6a3fdd4923538b11f5772f6b2fe", func := "loop.example/g01227/laws.FnExactSmoothRoad", spec := "fnExactSmoothRoad", inPlace := ["math.Float32bits", "math.Float64bits"], apart := false }
def FnExactSmoothRoadSaid : Prop := fnExactSmoothRoadRow.holds Try.pinned (OpenSpec.ofChange fnExactSmoothRoadSpec)

/-- ITS FALSE NEIGHBOUR: 'it returns false'. Refute it at one input. -/
def fnExactSmoothRoadWrong : ChangeSpec := { name := "fnExactSmoothRoad", fn := fun _ => fun
  | [d] => { results := [.lit (.bool false)], args := [d] }
  | _ => none }
def FnExactSmoothRoadWrongFalsely : Prop := fnExactSmoothRoadRow.holds Try.pinned (OpenSpec.ofChange fnExactSmoothRoadWrong)

/-- 'laws.FnExactStillShare': WHATEVER THE INPUT: true; the input reads as it did. -/
def fnExactStillShareSpec : ChangeSpec := { name := "fnExactStillShare", fn := fun _ => fun
  | [d1, d2] => { results := [.lit (.bool true)], args := [d1, d2] }
  | _ => none }
def fnExactStillShareRow : OpenClaim := { program := "ytckhdlfpakfnaaa", sum := "b4c8d402321b6d652ef2b396fe9a9d3038c2d6a3fdd4923538b11f5772f6b2fe", func := "loop.example/g01227/laws.FnExactStillShare", spec := "fnExactStillShare", inPlace := ["math.Float32bits", "math.Float64bits"], apart := false }
def FnExactStillShareSaid : Prop := fnExactStillShareRow.holds Try.pinned (OpenSpec.ofChange fnExactStillShareSpec)

/-- ITS FALSE NEIGHBOUR: 'it returns false'. Refute it at one input. -/
def fnExactStillShareWrong : ChangeSpec := { name := "fnExactStillShare", fn := fun _ => fun
  | [d1, d2] => { results := [.lit (.bool false)], args := [d1, d2] }
  | _ => none }
def FnExactStillShareWrongFalsely : Prop := fnExactStillShareRow.holds Try.pinned (OpenSpec.ofChange fnExactStillShareWrong)

/-- 'laws.FnExactJamShare': WHATEVER THE INPUT: true; the input reads as it did. -/
def fnExactJamShareSpec : ChangeSpec := { name := "fnExactJamShare", fn := fun _ => fun
  | [d1, d2] => { results := [.lit (.bool true)], args := [d1, d2] }
  | _ => none }
def fnExactJamShareRow : OpenClaim := { program := "ytckhdlfpakfnaaa", sum := "b4c8d402321b6d652ef2b396fe9a9d3038c2d6a3fdd4923538b11f5772f6b2fe", func := "loop.example/g01227/laws.FnExactJamShare", spec := "fnExactJamShare", inPlace := ["math.Float32bits", "math.Float64bits"], apart := false }
def FnExactJamShareSaid : Prop := fnExactJamShareRow.holds Try.pinned (OpenSpec.ofChange fnExactJamShareSpec)

/-- ITS FALSE NEIGHBOUR: 'it returns false'. Refute it at one input. -/
def fnExactJamShareWrong : ChangeSpec := { name := "fnExactJamShare", fn := fun _ => fun
  | [d1, d2] => { results := [.lit (.bool false)], args := [d1, d2] }
  | _ => none }
def FnExactJamShareWrongFalsely : Prop := fnExactJamShareRow.holds Try.pinned (OpenSpec.ofChange fnExactJamShareWrong)

/-- 'laws.FnExactWaveSpeed': WHATEVER THE INPUT: true; the input reads as it did. -/
def fnExactWaveSpeedSpec : ChangeSpec := { name := "fnExactWaveSpeed", fn := fun _ => fun
  | [d1, d2, d3] => { results := [.lit (.bool true)], args := [d1, d2, d3] }
  | _ => none }
def fnExactWaveSpeedRow : OpenClaim := { program := "ytckhdlfpakfnaaa", sum := "b4c8d402321b6d652ef2b396fe9a9d3038c2d6a3fdd4923538b11f5772f6b2fe", func := "loop.example/g01227/laws.FnExactWaveSpeed", spec := "fnExactWaveSpeed", inPlace := ["math.Float32bits", "math.Float64bits"], apart := false }
def FnExactWaveSpeedSaid : Prop := fnExactWaveSpeedRow.holds Try.pinned (OpenSpec.ofChange fnExactWaveSpeedSpec)

/-- ITS FALSE NEIGHBOUR: 'it returns false'. Refute it at one input. -/
def fnExactWaveSpeedWrong : ChangeSpec := { name := "fnExactWaveSpeed", fn := fun _ => fun
  | [d1, d2, d3] => { results := [.lit (.bool false)], args := [d1, d2, d3] }
  | _ => none }
def FnExactWaveSpeedWrongFalsely : Prop := fnExactWaveSpeedRow.holds Try.pinned (OpenSpec.ofChange fnExactWaveSpeedWrong)

/-- 'laws.FnExactJamsOf': WHATEVER THE INPUT: true; the input reads as it did. -/
def fnExactJamsOfSpec : ChangeSpec := { name := "fnExactJamsOf", fn := fun _ => fun
  | [d] => { results := [.lit (.bool true)], args := [d] }
  | _ => none }
def fnExactJamsOfRow : OpenClaim := { program := "ytckhdlfpakfnaaa", sum := "b4c8d402321b6d652ef2b396fe9a9d3038c2d6a3fdd4923538b11f5772f6b2fe", func := "loop.example/g01227/laws.FnExactJamsOf", spec := "fnExactJamsOf", inPlace := ["math.Float32bits", "math.Float64bits"], apart := false }
def FnExactJamsOfSaid : Prop := fnExactJamsOfRow.holds Try.pinned (OpenSpec.ofChange fnExactJamsOfSpec)

/-- ITS FALSE NEIGHBOUR: 'it returns false'. Refute it at one input. -/
def fnExactJamsOfWrong : ChangeSpec := { name := "fnExactJamsOf", fn := fun _ => fun
  | [d] => { results := [.lit (.bool false)], args := [d] }
  | _ => none }
def FnExactJamsOfWrongFalsely : Prop := fnExactJamsOfRow.holds Try.pinned (OpenSpec.ofChange fnExactJamsOfWrong)

/-- 'laws.FnExactFluxesOf': WHATEVER THE INPUT: true; the input reads as it did. -/
def fnExactFluxesOfSpec : ChangeSpec := { name := "fnExactFluxesOf", fn := fun _ => fun
  | [d1, d2, d3] => { results := [.lit (.bool true)], args := [d1, d2, d3] }
  | _ => none }
def fnExactFluxesOfRow : OpenClaim := { program := "ytckhdlfpakfnaaa", sum := "b4c8d402321b6d652ef2b396fe9a9d3038c2d6a3fdd4923538b11f5772f6b2fe", func := "loop.example/g01227/laws.FnExactFluxesOf", spec := "fnExactFluxesOf", inPlace := ["math.Float32bits", "math.Float64bits"], unfollowed := true, recurses := true, apart := false }
def FnExactFluxesOfSaid : Prop := fnExactFluxesOfRow.holds Try.pinned (OpenSpec.ofChange fnExactFluxesOfSpec)

/-- ITS FALSE NEIGHBOUR: 'it returns false'. Refute it at one input. -/
def fnExactFluxesOfWrong : ChangeSpec := { name := "fnExactFluxesOf", fn := fun _ => fun
  | [d1, d2, d3] => { results := [.lit (.bool false)], args := [d1, d2, d3] }
  | _ => none }
def FnExactFluxesOfWrongFalsely : Prop := fnExactFluxesOfRow.holds Try.pinned (OpenSpec.ofChange fnExactFluxesOfWrong)

/-- 'laws.FnExactStepRoad': WHATEVER THE INPUT: true; the input reads as it did. -/
def fnExactStepRoadSpec : ChangeSpec := { name := "fnExactStepRoad", fn := fun _ => fun
  | [d1, d2, d3] => { results := [.lit (.bool true)], args := [d1, d2, d3] }
  | _ => none }
def fnExactStepRoadRow : OpenClaim := { program := "ytckhdlfpakfnaaa", sum := "b4c8d402321b6d652ef2b396fe9a9d3038c2d6a3fdd4923538b11f5772f6b2fe", func := "loop.example/g01227/laws.FnExactStepRoad", spec := "fnExactStepRoad", inPlace := ["math.Float32bits", "math.Float64bits"], unfollowed := true, recurses := true, apart := false }
def FnExactStepRoadSaid : Prop := fnExactStepRoadRow.holds Try.pinned (OpenSpec.ofChange fnExactStepRoadSpec)

/-- ITS FALSE NEIGHBOUR: 'it returns false'. Refute it at one input. -/
def fnExactStepRoadWrong : ChangeSpec := { name := "fnExactStepRoad", fn := fun _ => fun
  | [d1, d2, d3] => { results := [.lit (.bool false)], args := [d1, d2, d3] }
  | _ => none }
def FnExactStepRoadWrongFalsely : Prop := fnExactStepRoadRow.holds Try.pinned (OpenSpec.ofChange fnExactStepRoadWrong)

/-- 'laws.FnExactRampStep': WHATEVER THE INPUT: true; the input reads as it did. -/
def fnExactRampStepSpec : ChangeSpec := { name := "fnExactRampStep", fn := fun _ => fun
  | [d1, d2, d3, d4, d5] => { results := [.lit (.bool true)], args := [d1, d2, d3, d4, d5] }
  | _ => none }
def fnExactRampStepRow : OpenClaim := { program := "ytckhdlfpakfnaaa", sum := "b4c8d402321b6d652ef2b396fe9a9d3038c2d6a3fdd4923538b11f5772f6b2fe", func := "loop.example/g01227/laws.FnExactRampStep", spec := "fnExactRampStep", inPlace := ["math.Float32bits", "math.Float64bits"], unfollowed := true, recurses := true, apart := false }
def FnExactRampStepSaid : Prop := fnExactRampStepRow.holds Try.pinned (OpenSpec.ofChange fnExactRampStepSpec)

/-- ITS FALSE NEIGHBOUR: 'it returns false'. Refute it at one input. -/
def fnExactRampStepWrong : ChangeSpec := { name := "fnExactRampStep", fn := fun _ => fun
  | [d1, d2, d3, d4, d5] => { results := [.lit (.bool false)], args := [d1, d2, d3, d4, d5] }
  | _ => none }
def FnExactRampStepWrongFalsely : Prop := fnExactRampStepRow.holds Try.pinned (OpenSpec.ofChange fnExactRampStepWrong)

/- THE SECOND FORM. 'bulk': how many values and letters a reading holds, each counted each time it is reached (what is shared counts as often as it is met; a slice's spare places count too). A statement '..UptoSaid' is the law's where the arguments, and the package variables that the reading takes, are together of bulk at most 1048576: NARROWER than '..Said'. Prove '..Said' where nothing that the law and all that it calls make is longer than what came in: it says more and counts as full. Else prove '..UptoSaid'. A law counts once. -/
mutual
def uptoBulk {H : Type} : DataW H → Nat
  | .lit (.string bytes) => bytes.length + 1
  | .lit _ => 1
  | .nil => 1
  | .ptr d => uptoBulk d + 1
  | .slice elems spare => uptoBulkAll elems + uptoBulkAll spare + 1
  | .agg parts => uptoBulkAll parts + 1
  | .iface _ d => uptoBulk d + 1
  | .map entries => uptoBulkEntries entries + 1
  | .held _ => 1
def uptoBulkAll {H : Type} : List (DataW H) → Nat
  | [] => 0
  | d :: r => uptoBulk d + uptoBulkAll r
def uptoBulkEntries {H : Type} : List (Lit × DataW H) → Nat
  | [] => 0
  | x :: r => uptoBulkEntry x + uptoBulkEntries r
def uptoBulkEntry {H : Type} : Lit × DataW H → Nat
  | (.string bytes, d) => bytes.length + uptoBulk d + 1
  | (_, d) => uptoBulk d + 1
 end
def uptoSmall : (H : Type) → List (DataW H) → Bool := fun _ ds => decide (uptoBulkAll ds ≤ 1048576)
def OpenSpec.upto (s : _root_.Go.ChangeSpec) : _root_.Go.OpenSpec := { _root_.Go.OpenSpec.ofChange s with cond := some uptoSmall }

/-- 'laws.FnExactDensestCell', WHERE WHAT IT READS IS OF BULK AT MOST 1048576: true; the input reads as it did. -/
def fnExactDensestCellUptoRow : OpenClaim := { program := "ytckhdlfpakfnaaa", sum := "b4c8d402321b6d652ef2b396fe9a9d3038c2d6a3fdd4923538b11f5772f6b2fe", func := "loop.example/g01227/laws.FnExactDensestCell", spec := "fnExactDensestCell", inPlace := ["math.Float32bits", "math.Float64bits"], apart := false, narrowed := true }
def FnExactDensestCellUptoSaid : Prop := fnExactDensestCellUptoRow.holds Try.pinned (OpenSpec.upto fnExactDensestCellSpec)

/-- 'laws.FnExactQueueOf', WHERE WHAT IT READS IS OF BULK AT MOST 1048576: true; the input reads as it did. -/
def fnExactQueueOfUptoRow : OpenClaim := { program := "ytckhdlfpakfnaaa", sum := "b4c8d402321b6d652ef2b396fe9a9d3038c2d6a3fdd4923538b11f5772f6b2fe", func := "loop.example/g01227/laws.FnExactQueueOf", spec := "fnExactQueueOf", inPlace := ["math.Float32bits", "math.Float64bits"], apart := false, narrowed := true }
def FnExactQueueOfUptoSaid : Prop := fnExactQueueOfUptoRow.holds Try.pinned (OpenSpec.upto fnExactQueueOfSpec)

/-- 'laws.FnExactIsFree', WHERE WHAT IT READS IS OF BULK AT MOST 1048576: true; the input reads as it did. -/
def fnExactIsFreeUptoRow : OpenClaim := { program := "ytckhdlfpakfnaaa", sum := "b4c8d402321b6d652ef2b396fe9a9d3038c2d6a3fdd4923538b11f5772f6b2fe", func := "loop.example/g01227/laws.FnExactIsFree", spec := "fnExactIsFree", inPlace := ["math.Float32bits", "math.Float64bits"], unfollowed := true, recurses := true, apart := false, narrowed := true }
def FnExactIsFreeUptoSaid : Prop := fnExactIsFreeUptoRow.holds Try.pinned (OpenSpec.upto fnExactIsFreeSpec)

/-- 'laws.FnExactMixRoads', WHERE WHAT IT READS IS OF BULK AT MOST 1048576: true; the input reads as it did. -/
def fnExactMixRoadsUptoRow : OpenClaim := { program := "ytckhdlfpakfnaaa", sum := "b4c8d402321b6d652ef2b396fe9a9d3038c2d6a3fdd4923538b11f5772f6b2fe", func := "loop.example/g01227/laws.FnExactMixRoads", spec := "fnExactMixRoads", inPlace := ["math.Float32bits", "math.Float64bits"], apart := false, narrowed := true }
def FnExactMixRoadsUptoSaid : Prop := fnExactMixRoadsUptoRow.holds Try.pinned (OpenSpec.upto fnExactMixRoadsSpec)

/-- 'laws.FnExactSmoothRoad', WHERE WHAT IT READS IS OF BULK AT MOST 1048576: true; the input reads as it did. -/
def fnExactSmoothRoadUptoRow : OpenClaim := { program := "ytckhdlfpakfnaaa", sum := "b4c8d402321b6d652ef2b396fe9a9d3038c2d6a3fdd4923538b11f5772f6b2fe", func := "loop.example/g01227/laws.FnExactSmoothRoad", spec := "fnExactSmoothRoad", inPlace := ["math.Float32bits", "math.Float64bits"], apart := false, narrowed := true }
def FnExactSmoothRoadUptoSaid : Prop := fnExactSmoothRoadUptoRow.holds Try.pinned (OpenSpec.upto fnExactSmoothRoadSpec)

/-- 'laws.FnExactStillShare', WHERE WHAT IT READS IS OF BULK AT MOST 1048576: true; the input reads as it did. -/
def fnExactStillShareUptoRow : OpenClaim := { program := "ytckhdlfpakfnaaa", sum := "b4c8d402321b6d652ef2b396fe9a9d3038c2d6a3fdd4923538b11f5772f6b2fe", func := "loop.example/g01227/laws.FnExactStillShare", spec := "fnExactStillShare", inPlace := ["math.Float32bits", "math.Float64bits"], apart := false, narrowed := true }
def FnExactStillShareUptoSaid : Prop := fnExactStillShareUptoRow.holds Try.pinned (OpenSpec.upto fnExactStillShareSpec)

/-- 'laws.FnExactJamShare', WHERE WHAT IT READS IS OF BULK AT MOST 1048576: true; the input reads as it did. -/
def fnExactJamShareUptoRow : OpenClaim := { program := "ytckhdlfpakfnaaa", sum := "b4c8d402321b6d652ef2b396fe9a9d3038c2d6a3fdd4923538b11f5772f6b2fe", func := "loop.example/g01227/laws.FnExactJamShare", spec := "fnExactJamShare", inPlace := ["math.Float32bits", "math.Float64bits"], apart := false, narrowed := true }
def FnExactJamShareUptoSaid : Prop := fnExactJamShareUptoRow.holds Try.pinned (OpenSpec.upto fnExactJamShareSpec)

/-- 'laws.FnExactWaveSpeed', WHERE WHAT IT READS IS OF BULK AT MOST 1048576: true; the input reads as it did. -/
def fnExactWaveSpeedUptoRow : OpenClaim := { program := "ytckhdlfpakfnaaa", sum := "b4c8d402321b6d652ef2b396fe9a9d3038c2d6a3fdd4923538b11f5772f6b2fe", func := "loop.example/g01227/laws.FnExactWaveSpeed", spec := "fnExactWaveSpeed", inPlace := ["math.Float32bits", "math.Float64bits"], apart := false, narrowed := true }
def FnExactWaveSpeedUptoSaid : Prop := fnExactWaveSpeedUptoRow.holds Try.pinned (OpenSpec.upto fnExactWaveSpeedSpec)

/-- 'laws.FnExactJamsOf', WHERE WHAT IT READS IS OF BULK AT MOST 1048576: true; the input reads as it did. -/
def fnExactJamsOfUptoRow : OpenClaim := { program := "ytckhdlfpakfnaaa", sum := "b4c8d402321b6d652ef2b396fe9a9d3038c2d6a3fdd4923538b11f5772f6b2fe", func := "loop.example/g01227/laws.FnExactJamsOf", spec := "fnExactJamsOf", inPlace := ["math.Float32bits", "math.Float64bits"], apart := false, narrowed := true }
def FnExactJamsOfUptoSaid : Prop := fnExactJamsOfUptoRow.holds Try.pinned (OpenSpec.upto fnExactJamsOfSpec)

/-- 'laws.FnExactFluxesOf', WHERE WHAT IT READS IS OF BULK AT MOST 1048576: true; the input reads as it did. -/
def fnExactFluxesOfUptoRow : OpenClaim := { program := "ytckhdlfpakfnaaa", sum := "b4c8d402321b6d652ef2b396fe9a9d3038c2d6a3fdd4923538b11f5772f6b2fe", func := "loop.example/g01227/laws.FnExactFluxesOf", spec := "fnExactFluxesOf", inPlace := ["math.Float32bits", "math.Float64bits"], unfollowed := true, recurses := true, apart := false, narrowed := true }
def FnExactFluxesOfUptoSaid : Prop := fnExactFluxesOfUptoRow.holds Try.pinned (OpenSpec.upto fnExactFluxesOfSpec)

/-- 'laws.FnExactStepRoad', WHERE WHAT IT READS IS OF BULK AT MOST 1048576: true; the input reads as it did. -/
def fnExactStepRoadUptoRow : OpenClaim := { program := "ytckhdlfpakfnaaa", sum := "b4c8d402321b6d652ef2b396fe9a9d3038c2d6a3fdd4923538b11f5772f6b2fe", func := "loop.example/g01227/laws.FnExactStepRoad", spec := "fnExactStepRoad", inPlace := ["math.Float32bits", "math.Float64bits"], unfollowed := true, recurses := true, apart := false, narrowed := true }
def FnExactStepRoadUptoSaid : Prop := fnExactStepRoadUptoRow.holds Try.pinned (OpenSpec.upto fnExactStepRoadSpec)

/-- 'laws.FnExactRampStep', WHERE WHAT IT READS IS OF BULK AT MOST 1048576: true; the input reads as it did. -/
def fnExactRampStepUptoRow : OpenClaim := { program := "ytckhdlfpakfnaaa", sum := "b4c8d402321b6d652ef2b396fe9a9d3038c2d6a3fdd4923538b11f5772f6b2fe", func := "loop.example/g01227/laws.FnExactRampStep", spec := "fnExactRampStep", inPlace := ["math.Float32bits", "math.Float64bits"], unfollowed := true, recurses := true, apart := false, narrowed := true }
def FnExactRampStepUptoSaid : Prop := fnExactRampStepUptoRow.holds Try.pinned (OpenSpec.upto fnExactRampStepSpec)

end Rows
end Go.Proofs.Ytckhdlfpakfnaaa
