/-
  No cell of these rows narrows 'for every input' (looked for: loops, veiled, ifaces, maps, wideKeys, modest, calm, conditions, laid).
  DERIVED. THE GIVEN ROWS OF THIS SEAT. 11 by the template 'for every input the law returns true; each argument reads behind the call as it read before'; 0 by the template 'total and deterministic' (their statements: YtdeglehhabdkdaaTotals.lean).
  GIVEN WITH THE SEED: the statements are not yours to turn. If you find one false, say at which input.
  Laid BY PROGRAM, IN A SANDBOX (cutbox-rows.mjs): the forced cells as the released guide's own fill.sh prints them over the translation b09962bede81e325… (all of the seat's roots in one cut). By AI agents, Wed Nov 11 2026. No macro, syntax, notation, axiom, sorry.
-/
import Derived.Test.YtdeglehhabdkdaaChecked
import GoSem.Claim
import GoSem.ClaimJoined
import GoSem.ClaimMapViews
import Derived.JoinedTies
import Derived.KernelRfl
namespace Go.Proofs.Ytdeglehhabdkdaa
/- THE CELL 'sum', in the pinned program and in every row, IS THE sha256 OF THE DUMP (.gsa) THAT YtdeglehhabdkdaaProg.lean LOADS. Nothing in Lean hashes anything: it is a label: what it is worth is what the hold of that sum in a sandbox is worth. -/
noncomputable def Try.pinned : Pinned := { name := "ytdeglehhabdkdaa", sum := "b09962bede81e325fc769ddefed0eb0aa66aa9fb56064c00579395e5156ad532", checked := Try.checked }
namespace Rows
def none {H : Type} : Left H := { results := [], args := [] }

/-- 'laws.FnExactInFlows': WHATEVER THE INPUT: true; the input reads as it did. -/
def fnExactInFlowsSpec : ChangeSpec := { name := "fnExactInFlows", fn := fun _ => fun
  | [d] => { results := [.lit (.bool true)], args := [d] }
  | _ => none }
def fnExactInFlowsRow : OpenClaim := { program := "ytdeglehhabdkdaa", sum := "b09962bede81e325fc769ddefed0eb0aa66aa9fb56064c00579395e5156ad532", func := "loop.example/g01227/laws.FnExactInFlows", spec := "fnExactInFlows", apart := false }
def FnExactInFlowsSaid : Prop := fnExactInFlowsRow.holds Try.pinned (OpenSpec.ofChange fnExactInFlowsSpec)

/-- ITS FALSE NEIGHBOUR: 'it returns false'. Refute it at one input. -/
def fnExactInFlowsWrong : ChangeSpec := { name := "fnExactInFlows", fn := fun _ => fun
  | [d] => { results := [.lit (.bool false)], args := [d] }
  | _ => none }
def FnExactInFlowsWrongFalsely : Prop := fnExactInFlowsRow.holds Try.pinned (OpenSpec.ofChange fnExactInFlowsWrong)

/-- 'laws.FnExactOutFlows': WHATEVER THE INPUT: true; the input reads as it did. -/
def fnExactOutFlowsSpec : ChangeSpec := { name := "fnExactOutFlows", fn := fun _ => fun
  | [d] => { results := [.lit (.bool true)], args := [d] }
  | _ => none }
def fnExactOutFlowsRow : OpenClaim := { program := "ytdeglehhabdkdaa", sum := "b09962bede81e325fc769ddefed0eb0aa66aa9fb56064c00579395e5156ad532", func := "loop.example/g01227/laws.FnExactOutFlows", spec := "fnExactOutFlows", apart := false }
def FnExactOutFlowsSaid : Prop := fnExactOutFlowsRow.holds Try.pinned (OpenSpec.ofChange fnExactOutFlowsSpec)

/-- ITS FALSE NEIGHBOUR: 'it returns false'. Refute it at one input. -/
def fnExactOutFlowsWrong : ChangeSpec := { name := "fnExactOutFlows", fn := fun _ => fun
  | [d] => { results := [.lit (.bool false)], args := [d] }
  | _ => none }
def FnExactOutFlowsWrongFalsely : Prop := fnExactOutFlowsRow.holds Try.pinned (OpenSpec.ofChange fnExactOutFlowsWrong)

/-- 'laws.FnExactSameJunction': WHATEVER THE INPUT: true; the input reads as it did. -/
def fnExactSameJunctionSpec : ChangeSpec := { name := "fnExactSameJunction", fn := fun _ => fun
  | [d1, d2] => { results := [.lit (.bool true)], args := [d1, d2] }
  | _ => none }
def fnExactSameJunctionRow : OpenClaim := { program := "ytdeglehhabdkdaa", sum := "b09962bede81e325fc769ddefed0eb0aa66aa9fb56064c00579395e5156ad532", func := "loop.example/g01227/laws.FnExactSameJunction", spec := "fnExactSameJunction", inPlace := ["math.Float32bits"], unfollowed := true, recurses := true, apart := false }
def FnExactSameJunctionSaid : Prop := fnExactSameJunctionRow.holds Try.pinned (OpenSpec.ofChange fnExactSameJunctionSpec)

/-- ITS FALSE NEIGHBOUR: 'it returns false'. Refute it at one input. -/
def fnExactSameJunctionWrong : ChangeSpec := { name := "fnExactSameJunction", fn := fun _ => fun
  | [d1, d2] => { results := [.lit (.bool false)], args := [d1, d2] }
  | _ => none }
def FnExactSameJunctionWrongFalsely : Prop := fnExactSameJunctionRow.holds Try.pinned (OpenSpec.ofChange fnExactSameJunctionWrong)

/-- 'laws.FnExactEvenJunction': WHATEVER THE INPUT: true; the input reads as it did. -/
def fnExactEvenJunctionSpec : ChangeSpec := { name := "fnExactEvenJunction", fn := fun _ => fun
  | [d1, d2] => { results := [.lit (.bool true)], args := [d1, d2] }
  | _ => none }
def fnExactEvenJunctionRow : OpenClaim := { program := "ytdeglehhabdkdaa", sum := "b09962bede81e325fc769ddefed0eb0aa66aa9fb56064c00579395e5156ad532", func := "loop.example/g01227/laws.FnExactEvenJunction", spec := "fnExactEvenJunction", apart := false }
def FnExactEvenJunctionSaid : Prop := fnExactEvenJunctionRow.holds Try.pinned (OpenSpec.ofChange fnExactEvenJunctionSpec)

/-- ITS FALSE NEIGHBOUR: 'it returns false'. Refute it at one input. -/
def fnExactEvenJunctionWrong : ChangeSpec := { name := "fnExactEvenJunction", fn := fun _ => fun
  | [d1, d2] => { results := [.lit (.bool false)], args := [d1, d2] }
  | _ => none }
def FnExactEvenJunctionWrongFalsely : Prop := fnExactEvenJunctionRow.holds Try.pinned (OpenSpec.ofChange fnExactEvenJunctionWrong)

/-- 'laws.FnExactValidJunction': WHATEVER THE INPUT: true; the input reads as it did. -/
def fnExactValidJunctionSpec : ChangeSpec := { name := "fnExactValidJunction", fn := fun _ => fun
  | [d] => { results := [.lit (.bool true)], args := [d] }
  | _ => none }
def fnExactValidJunctionRow : OpenClaim := { program := "ytdeglehhabdkdaa", sum := "b09962bede81e325fc769ddefed0eb0aa66aa9fb56064c00579395e5156ad532", func := "loop.example/g01227/laws.FnExactValidJunction", spec := "fnExactValidJunction", inPlace := ["math.Float32bits", "math.Float64bits"], apart := false }
def FnExactValidJunctionSaid : Prop := fnExactValidJunctionRow.holds Try.pinned (OpenSpec.ofChange fnExactValidJunctionSpec)

/-- ITS FALSE NEIGHBOUR: 'it returns false'. Refute it at one input. -/
def fnExactValidJunctionWrong : ChangeSpec := { name := "fnExactValidJunction", fn := fun _ => fun
  | [d] => { results := [.lit (.bool false)], args := [d] }
  | _ => none }
def FnExactValidJunctionWrongFalsely : Prop := fnExactValidJunctionRow.holds Try.pinned (OpenSpec.ofChange fnExactValidJunctionWrong)

/-- 'laws.FnExactSplitOne': WHATEVER THE INPUT: true; the input reads as it did. -/
def fnExactSplitOneSpec : ChangeSpec := { name := "fnExactSplitOne", fn := fun _ => fun
  | [d1, d2, d3] => { results := [.lit (.bool true)], args := [d1, d2, d3] }
  | _ => none }
def fnExactSplitOneRow : OpenClaim := { program := "ytdeglehhabdkdaa", sum := "b09962bede81e325fc769ddefed0eb0aa66aa9fb56064c00579395e5156ad532", func := "loop.example/g01227/laws.FnExactSplitOne", spec := "fnExactSplitOne", inPlace := ["math.Float32bits", "math.Float64bits"], unfollowed := true, recurses := true, apart := false }
def FnExactSplitOneSaid : Prop := fnExactSplitOneRow.holds Try.pinned (OpenSpec.ofChange fnExactSplitOneSpec)

/-- ITS FALSE NEIGHBOUR: 'it returns false'. Refute it at one input. -/
def fnExactSplitOneWrong : ChangeSpec := { name := "fnExactSplitOne", fn := fun _ => fun
  | [d1, d2, d3] => { results := [.lit (.bool false)], args := [d1, d2, d3] }
  | _ => none }
def FnExactSplitOneWrongFalsely : Prop := fnExactSplitOneRow.holds Try.pinned (OpenSpec.ofChange fnExactSplitOneWrong)

/-- 'laws.FnExactMergeTwo': WHATEVER THE INPUT: true; the input reads as it did. -/
def fnExactMergeTwoSpec : ChangeSpec := { name := "fnExactMergeTwo", fn := fun _ => fun
  | [d1, d2, d3, d4] => { results := [.lit (.bool true)], args := [d1, d2, d3, d4] }
  | _ => none }
def fnExactMergeTwoRow : OpenClaim := { program := "ytdeglehhabdkdaa", sum := "b09962bede81e325fc769ddefed0eb0aa66aa9fb56064c00579395e5156ad532", func := "loop.example/g01227/laws.FnExactMergeTwo", spec := "fnExactMergeTwo", inPlace := ["math.Float32bits", "math.Float64bits"], unfollowed := true, recurses := true, apart := false }
def FnExactMergeTwoSaid : Prop := fnExactMergeTwoRow.holds Try.pinned (OpenSpec.ofChange fnExactMergeTwoSpec)

/-- ITS FALSE NEIGHBOUR: 'it returns false'. Refute it at one input. -/
def fnExactMergeTwoWrong : ChangeSpec := { name := "fnExactMergeTwo", fn := fun _ => fun
  | [d1, d2, d3, d4] => { results := [.lit (.bool false)], args := [d1, d2, d3, d4] }
  | _ => none }
def FnExactMergeTwoWrongFalsely : Prop := fnExactMergeTwoRow.holds Try.pinned (OpenSpec.ofChange fnExactMergeTwoWrong)

/-- 'laws.FnExactWantsOf': WHATEVER THE INPUT: true; the input reads as it did. -/
def fnExactWantsOfSpec : ChangeSpec := { name := "fnExactWantsOf", fn := fun _ => fun
  | [d1, d2] => { results := [.lit (.bool true)], args := [d1, d2] }
  | _ => none }
def fnExactWantsOfRow : OpenClaim := { program := "ytdeglehhabdkdaa", sum := "b09962bede81e325fc769ddefed0eb0aa66aa9fb56064c00579395e5156ad532", func := "loop.example/g01227/laws.FnExactWantsOf", spec := "fnExactWantsOf", inPlace := ["math.Float32bits", "math.Float64bits"], unfollowed := true, recurses := true, apart := false }
def FnExactWantsOfSaid : Prop := fnExactWantsOfRow.holds Try.pinned (OpenSpec.ofChange fnExactWantsOfSpec)

/-- ITS FALSE NEIGHBOUR: 'it returns false'. Refute it at one input. -/
def fnExactWantsOfWrong : ChangeSpec := { name := "fnExactWantsOf", fn := fun _ => fun
  | [d1, d2] => { results := [.lit (.bool false)], args := [d1, d2] }
  | _ => none }
def FnExactWantsOfWrongFalsely : Prop := fnExactWantsOfRow.holds Try.pinned (OpenSpec.ofChange fnExactWantsOfWrong)

/-- 'laws.FnExactDemandsOf': WHATEVER THE INPUT: true; the input reads as it did. -/
def fnExactDemandsOfSpec : ChangeSpec := { name := "fnExactDemandsOf", fn := fun _ => fun
  | [d1, d2] => { results := [.lit (.bool true)], args := [d1, d2] }
  | _ => none }
def fnExactDemandsOfRow : OpenClaim := { program := "ytdeglehhabdkdaa", sum := "b09962bede81e325fc769ddefed0eb0aa66aa9fb56064c00579395e5156ad532", func := "loop.example/g01227/laws.FnExactDemandsOf", spec := "fnExactDemandsOf", inPlace := ["math.Float32bits", "math.Float64bits"], unfollowed := true, recurses := true, apart := false }
def FnExactDemandsOfSaid : Prop := fnExactDemandsOfRow.holds Try.pinned (OpenSpec.ofChange fnExactDemandsOfSpec)

/-- ITS FALSE NEIGHBOUR: 'it returns false'. Refute it at one input. -/
def fnExactDemandsOfWrong : ChangeSpec := { name := "fnExactDemandsOf", fn := fun _ => fun
  | [d1, d2] => { results := [.lit (.bool false)], args := [d1, d2] }
  | _ => none }
def FnExactDemandsOfWrongFalsely : Prop := fnExactDemandsOfRow.holds Try.pinned (OpenSpec.ofChange fnExactDemandsOfWrong)

/-- 'laws.FnExactSetPrior': WHATEVER THE INPUT: true; the input reads as it did. -/
def fnExactSetPriorSpec : ChangeSpec := { name := "fnExactSetPrior", fn := fun _ => fun
  | [d1, d2, d3] => { results := [.lit (.bool true)], args := [d1, d2, d3] }
  | _ => none }
def fnExactSetPriorRow : OpenClaim := { program := "ytdeglehhabdkdaa", sum := "b09962bede81e325fc769ddefed0eb0aa66aa9fb56064c00579395e5156ad532", func := "loop.example/g01227/laws.FnExactSetPrior", spec := "fnExactSetPrior", inPlace := ["math.Float32bits", "math.Float64bits"], apart := false }
def FnExactSetPriorSaid : Prop := fnExactSetPriorRow.holds Try.pinned (OpenSpec.ofChange fnExactSetPriorSpec)

/-- ITS FALSE NEIGHBOUR: 'it returns false'. Refute it at one input. -/
def fnExactSetPriorWrong : ChangeSpec := { name := "fnExactSetPrior", fn := fun _ => fun
  | [d1, d2, d3] => { results := [.lit (.bool false)], args := [d1, d2, d3] }
  | _ => none }
def FnExactSetPriorWrongFalsely : Prop := fnExactSetPriorRow.holds Try.pinned (OpenSpec.ofChange fnExactSetPriorWrong)

/-- 'laws.FnExactSetTurn': WHATEVER THE INPUT: true; the input reads as it did. -/
def fnExactSetTurnSpec : ChangeSpec := { name := "fnExactSetTurn", fn := fun _ => fun
  | [d1, d2, d3, d4] => { results := [.lit (.bool true)], args := [d1, d2, d3, d4] }
  | _ => none }
def fnExactSetTurnRow : OpenClaim := { program := "ytdeglehhabdkdaa", sum := "b09962bede81e325fc769ddefed0eb0aa66aa9fb56064c00579395e5156ad532", func := "loop.example/g01227/laws.FnExactSetTurn", spec := "fnExactSetTurn", inPlace := ["math.Float32bits", "math.Float64bits"], apart := false }
def FnExactSetTurnSaid : Prop := fnExactSetTurnRow.holds Try.pinned (OpenSpec.ofChange fnExactSetTurnSpec)

/-- ITS FALSE NEIGHBOUR: 'it returns false'. Refute it at one input. -/
def fnExactSetTurnWrong : ChangeSpec := { name := "fnExactSetTurn", fn := fun _ => fun
  | [d1, d2, d3, d4] => { results := [.lit (.bool false)], args := [d1, d2, d3, d4] }
  | _ => none }
def FnExactSetTurnWrongFalsely : Prop := fnExactSetTurnRow.holds Try.pinned (OpenSpec.ofChange fnExactSetTurnWrong)

/- THE SECOND FORM. 'bulk': how many values and letters a reading holds, each counted each time it is reached (what is shared counts as often as it is met; a slice's spare places count too). A statement '..UptoSaid' is the law's where the arguments, and the package variables that the reading takes, are together of bulk at most 1048576: NARROWER than '..Said'. Prove '..Said' where nothing that the law and all that it calls make is longer than what came in: it says more and counts as full. Else prove '..UptoSaid'. A law counts once. -/
mutual
def uptoBulk {H : Type} : DataW H → Nat
  | .lit (.string bytes) => bytes.length + 1
  | .lit _ => 1
  | .nil => 1
  | .ptr d => uptoBulk d + 1
  | .slice elems spare => uptoBulkAll elems + uptoBulkAll spare + 1
  | .agg parts => uptoBulkAll parts + 1
  | .iface _ d => uptoBulk d + 1
  | .map entries => uptoBulkEntries entries + 1
  | .held _ => 1
def uptoBulkAll {H : Type} : List (DataW H) → Nat
  | [] => 0
  | d :: r => uptoBulk d + uptoBulkAll r
def uptoBulkEntries {H : Type} : List (Lit × DataW H) → Nat
  | [] => 0
  | x :: r => uptoBulkEntry x + uptoBulkEntries r
def uptoBulkEntry {H : Type} : Lit × DataW H → Nat
  | (.string bytes, d) => bytes.length + uptoBulk d + 1
  | (_, d) => uptoBulk d + 1
 end
def uptoSmall : (H : Type) → List (DataW H) → Bool := fun _ ds => decide (uptoBulkAll ds ≤ 1048576)
def OpenSpec.upto (s : _root_.Go.ChangeSpec) : _root_.Go.OpenSpec := { _root_.Go.OpenSpec.ofChange s with cond := some uptoSmall }

/-- 'laws.FnExactInFlows', WHERE WHAT IT READS IS OF BULK AT MOST 1048576: true; the input reads as it did. -/
def fnExactInFlowsUptoRow : OpenClaim := { program := "ytdeglehhabdkdaa", sum := "b09962bede81e325fc769ddefed0eb0aa66aa9fb56064c00579395e5156ad532", func := "loop.example/g01227/laws.FnExactInFlows", spec := "fnExactInFlows", apart := false, narrowed := true }
def FnExactInFlowsUptoSaid : Prop := fnExactInFlowsUptoRow.holds Try.pinned (OpenSpec.upto fnExactInFlowsSpec)

/-- 'laws.FnExactOutFlows', WHERE WHAT IT READS IS OF BULK AT MOST 1048576: true; the input reads as it did. -/
def fnExactOutFlowsUptoRow : OpenClaim := { program := "ytdeglehhabdkdaa", sum := "b09962bede81e325fc769ddefed0eb0aa66aa9fb56064c00579395e5156ad532", func := "loop.example/g01227/laws.FnExactOutFlows", spec := "fnExactOutFlows", apart := false, narrowed := true }
def FnExactOutFlowsUptoSaid : Prop := fnExactOutFlowsUptoRow.holds Try.pinned (OpenSpec.upto fnExactOutFlowsSpec)

/-- 'laws.FnExactSameJunction', WHERE WHAT IT READS IS OF BULK AT MOST 1048576: true; the input reads as it did. -/
def fnExactSameJunctionUptoRow : OpenClaim := { program := "ytdeglehhabdkdaa", sum := "b09962bede81e325fc769ddefed0eb0aa66aa9fb56064c00579395e5156ad532", func := "loop.example/g01227/laws.FnExactSameJunction", spec := "fnExactSameJunction", inPlace := ["math.Float32bits"], unfollowed := true, recurses := true, apart := false, narrowed := true }
def FnExactSameJunctionUptoSaid : Prop := fnExactSameJunctionUptoRow.holds Try.pinned (OpenSpec.upto fnExactSameJunctionSpec)

/-- 'laws.FnExactEvenJunction', WHERE WHAT IT READS IS OF BULK AT MOST 1048576: true; the input reads as it did. -/
def fnExactEvenJunctionUptoRow : OpenClaim := { program := "ytdeglehhabdkdaa", sum := "b09962bede81e325fc769ddefed0eb0aa66aa9fb56064c00579395e5156ad532", func := "loop.example/g01227/laws.FnExactEvenJunction", spec := "fnExactEvenJunction", apart := false, narrowed := true }
def FnExactEvenJunctionUptoSaid : Prop := fnExactEvenJunctionUptoRow.holds Try.pinned (OpenSpec.upto fnExactEvenJunctionSpec)

/-- 'laws.FnExactValidJunction', WHERE WHAT IT READS IS OF BULK AT MOST 1048576: true; the input reads as it did. -/
def fnExactValidJunctionUptoRow : OpenClaim := { program := "ytdeglehhabdkdaa", sum := "b09962bede81e325fc769ddefed0eb0aa66aa9fb56064c00579395e5156ad532", func := "loop.example/g01227/laws.FnExactValidJunction", spec := "fnExactValidJunction", inPlace := ["math.Float32bits", "math.Float64bits"], apart := false, narrowed := true }
def FnExactValidJunctionUptoSaid : Prop := fnExactValidJunctionUptoRow.holds Try.pinned (OpenSpec.upto fnExactValidJunctionSpec)

/-- 'laws.FnExactSplitOne', WHERE WHAT IT READS IS OF BULK AT MOST 1048576: true; the input reads as it did. -/
def fnExactSplitOneUptoRow : OpenClaim := { program := "ytdeglehhabdkdaa", sum := "b09962bede81e325fc769ddefed0eb0aa66aa9fb56064c00579395e5156ad532", func := "loop.example/g01227/laws.FnExactSplitOne", spec := "fnExactSplitOne", inPlace := ["math.Float32bits", "math.Float64bits"], unfollowed := true, recurses := true, apart := false, narrowed := true }
def FnExactSplitOneUptoSaid : Prop := fnExactSplitOneUptoRow.holds Try.pinned (OpenSpec.upto fnExactSplitOneSpec)

/-- 'laws.FnExactMergeTwo', WHERE WHAT IT READS IS OF BULK AT MOST 1048576: true; the input reads as it did. -/
def fnExactMergeTwoUptoRow : OpenClaim := { program := "ytdeglehhabdkdaa", sum := "b09962bede81e325fc769ddefed0eb0aa66aa9fb56064c00579395e5156ad532", func := "loop.example/g01227/laws.FnExactMergeTwo", spec := "fnExactMergeTwo", inPlace := ["math.Float32bits", "math.Float64bits"], unfollowed := true, recurses := true, apart := false, narrowed := true }
def FnExactMergeTwoUptoSaid : Prop := fnExactMergeTwoUptoRow.holds Try.pinned (OpenSpec.upto fnExactMergeTwoSpec)

/-- 'laws.FnExactWantsOf', WHERE WHAT IT READS IS OF BULK AT MOST 1048576: true; the input reads as it did. -/
def fnExactWantsOfUptoRow : OpenClaim := { program := "ytdeglehhabdkdaa", sum := "b09962bede81e325fc769ddefed0eb0aa66aa9fb56064c00579395e5156ad532", func := "loop.example/g01227/laws.FnExactWantsOf", spec := "fnExactWantsOf", inPlace := ["math.Float32bits", "math.Float64bits"], unfollowed := true, recurses := true, apart := false, narrowed := true }
def FnExactWantsOfUptoSaid : Prop := fnExactWantsOfUptoRow.holds Try.pinned (OpenSpec.upto fnExactWantsOfSpec)

/-- 'laws.FnExactDemandsOf', WHERE WHAT IT READS IS OF BULK AT MOST 1048576: true; the input reads as it did. -/
def fnExactDemandsOfUptoRow : OpenClaim := { program := "ytdeglehhabdkdaa", sum := "b09962bede81e325fc769ddefed0eb0aa66aa9fb56064c00579395e5156ad532", func := "loop.example/g01227/laws.FnExactDemandsOf", spec := "fnExactDemandsOf", inPlace := ["math.Float32bits", "math.Float64bits"], unfollowed := true, recurses := true, apart := false, narrowed := true }
def FnExactDemandsOfUptoSaid : Prop := fnExactDemandsOfUptoRow.holds Try.pinned (OpenSpec.upto fnExactDemandsOfSpec)

/-- 'laws.FnExactSetPrior', WHERE WHAT IT READS IS OF BULK AT MOST 1048576: true; the input reads as it did. -/
def fnExactSetPriorUptoRow : OpenClaim := { program := "ytdeglehhabdkdaa", sum := "b09962bede81e325fc769ddefed0eb0aa66aa9fb56064c00579395e5156ad532", func := "loop.example/g01227/laws.FnExactSetPrior", spec := "fnExactSetPrior", inPlace := ["math.Float32bits", "math.Float64bits"], apart := false, narrowed := true }
def FnExactSetPriorUptoSaid : Prop := fnExactSetPriorUptoRow.holds Try.pinned (OpenSpec.upto fnExactSetPriorSpec)

/-- 'laws.FnExactSetTurn', WHERE WHAT IT READS IS OF BULK AT MOST 1048576: true; the input reads as it did. -/
def fnExactSetTurnUptoRow : OpenClaim := { program := "ytdeglehhabdkdaa", sum := "b09962bede81e325fc769ddefed0eb0aa66aa9fb56064c00579395e5156ad532", func := "loop.example/g01227/laws.FnExactSetTurn", spec := "fnExactSetTurn", inPlace := ["math.Float32bits", "math.Float64bits"], apart := false, narrowed := true }
def FnExactSetTurnUptoSaid : Prop := fnExactSetTurnUptoRow.holds Try.pinned (OpenSpec.upto fnExactSetTurnSpec)

end Rows
end Go.Proofs.Ytdeglehhabdkdaa
