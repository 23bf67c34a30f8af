/-
  No cell of these rows narrows 'for every input' (looked for: loops, veiled, ifaces, maps, wideKeys, modest, calm, conditions, laid).
  DERIVED. THE GIVEN ROWS OF THIS SEAT. 5 by the template 'for every input the law returns true; each argument reads behind the call as it read before'; 0 by the template 'total and deterministic' (their statements: YtocllgippcpgcaaTotals.lean).
  GIVEN WITH THE SEED: the statements are not yours to turn. If you find one false, say at which input.
  Laid BY PROGRAM, IN A SANDBOX (cutbox-rows.mjs): the forced cells as the released guide's own fill.sh prints them over the translation c7f73d3fbdf63338… (all of the seat's roots in one cut). By AI agents, Wed Nov 11 2026. No macro, syntax, notation, axiom, sorry.
-/
import Derived.Test.YtocllgippcpgcaaChecked
import GoSem.Claim
import GoSem.ClaimJoined
import GoSem.ClaimMapViews
import Derived.JoinedTies
import Derived.KernelRfl
namespace Go.Proofs.Ytocllgippcpgcaa
/- THE CELL 'sum', in the pinned program and in every row, IS THE sha256 OF THE DUMP (.gsa) THAT YtocllgippcpgcaaProg.lean LOADS. Nothing in Lean hashes anything: it is a label: what it is worth is what the hold of that sum in a sandbox is worth. -/
noncomputable def Try.pinned : Pinned := { name := "ytocllgippcpgcaa", sum := "c7f73d3fbdf63338539a5bdfa9294c97dd472b8ff961438f699784e3cd72d9b8", checked := Try.checked }
namespace Rows
def none {H : Type} : Left H := { results := [], args := [] }

/-- 'laws.FnExactConstants': WHATEVER THE INPUT: true; the input reads as it did. -/
def fnExactConstantsSpec : ChangeSpec := { name := "fnExactConstants", fn := fun _ => fun
  | [] => { results := [.lit (.bool true)], args := [] }
  | _ => none }
def fnExactConstantsRow : OpenClaim := { program := "ytocllgippcpgcaa", sum := "c7f73d3fbdf63338539a5bdfa9294c97dd472b8ff961438f699784e3cd72d9b8", func := "loop.example/g01227/laws.FnExactConstants", spec := "fnExactConstants", apart := false }
def FnExactConstantsSaid : Prop := fnExactConstantsRow.holds Try.pinned (OpenSpec.ofChange fnExactConstantsSpec)

/-- ITS FALSE NEIGHBOUR: 'it returns false'. Refute it at one input. -/
def fnExactConstantsWrong : ChangeSpec := { name := "fnExactConstants", fn := fun _ => fun
  | [] => { results := [.lit (.bool false)], args := [] }
  | _ => none }
def FnExactConstantsWrongFalsely : Prop := fnExactConstantsRow.holds Try.pinned (OpenSpec.ofChange fnExactConstantsWrong)

/-- 'laws.FnExactIsAmount': WHATEVER THE INPUT: true; the input reads as it did. -/
def fnExactIsAmountSpec : ChangeSpec := { name := "fnExactIsAmount", fn := fun _ => fun
  | [d] => { results := [.lit (.bool true)], args := [d] }
  | _ => none }
def fnExactIsAmountRow : OpenClaim := { program := "ytocllgippcpgcaa", sum := "c7f73d3fbdf63338539a5bdfa9294c97dd472b8ff961438f699784e3cd72d9b8", func := "loop.example/g01227/laws.FnExactIsAmount", spec := "fnExactIsAmount", inPlace := ["math.Float32bits", "math.Float64bits"], apart := false }
def FnExactIsAmountSaid : Prop := fnExactIsAmountRow.holds Try.pinned (OpenSpec.ofChange fnExactIsAmountSpec)

/-- ITS FALSE NEIGHBOUR: 'it returns false'. Refute it at one input. -/
def fnExactIsAmountWrong : ChangeSpec := { name := "fnExactIsAmount", fn := fun _ => fun
  | [d] => { results := [.lit (.bool false)], args := [d] }
  | _ => none }
def FnExactIsAmountWrongFalsely : Prop := fnExactIsAmountRow.holds Try.pinned (OpenSpec.ofChange fnExactIsAmountWrong)

/-- 'laws.FnExactIsShare': WHATEVER THE INPUT: true; the input reads as it did. -/
def fnExactIsShareSpec : ChangeSpec := { name := "fnExactIsShare", fn := fun _ => fun
  | [d] => { results := [.lit (.bool true)], args := [d] }
  | _ => none }
def fnExactIsShareRow : OpenClaim := { program := "ytocllgippcpgcaa", sum := "c7f73d3fbdf63338539a5bdfa9294c97dd472b8ff961438f699784e3cd72d9b8", func := "loop.example/g01227/laws.FnExactIsShare", spec := "fnExactIsShare", inPlace := ["math.Float32bits", "math.Float64bits"], apart := false }
def FnExactIsShareSaid : Prop := fnExactIsShareRow.holds Try.pinned (OpenSpec.ofChange fnExactIsShareSpec)

/-- ITS FALSE NEIGHBOUR: 'it returns false'. Refute it at one input. -/
def fnExactIsShareWrong : ChangeSpec := { name := "fnExactIsShare", fn := fun _ => fun
  | [d] => { results := [.lit (.bool false)], args := [d] }
  | _ => none }
def FnExactIsShareWrongFalsely : Prop := fnExactIsShareRow.holds Try.pinned (OpenSpec.ofChange fnExactIsShareWrong)

/-- 'laws.FnExactSameNumber': WHATEVER THE INPUT: true; the input reads as it did. -/
def fnExactSameNumberSpec : ChangeSpec := { name := "fnExactSameNumber", fn := fun _ => fun
  | [d1, d2] => { results := [.lit (.bool true)], args := [d1, d2] }
  | _ => none }
def fnExactSameNumberRow : OpenClaim := { program := "ytocllgippcpgcaa", sum := "c7f73d3fbdf63338539a5bdfa9294c97dd472b8ff961438f699784e3cd72d9b8", func := "loop.example/g01227/laws.FnExactSameNumber", spec := "fnExactSameNumber", inPlace := ["math.Float32bits"], apart := false }
def FnExactSameNumberSaid : Prop := fnExactSameNumberRow.holds Try.pinned (OpenSpec.ofChange fnExactSameNumberSpec)

/-- ITS FALSE NEIGHBOUR: 'it returns false'. Refute it at one input. -/
def fnExactSameNumberWrong : ChangeSpec := { name := "fnExactSameNumber", fn := fun _ => fun
  | [d1, d2] => { results := [.lit (.bool false)], args := [d1, d2] }
  | _ => none }
def FnExactSameNumberWrongFalsely : Prop := fnExactSameNumberRow.holds Try.pinned (OpenSpec.ofChange fnExactSameNumberWrong)

/-- 'laws.FnExactSumOfFour': WHATEVER THE INPUT: true; the input reads as it did. -/
def fnExactSumOfFourSpec : ChangeSpec := { name := "fnExactSumOfFour", fn := fun _ => fun
  | [d] => { results := [.lit (.bool true)], args := [d] }
  | _ => none }
def fnExactSumOfFourRow : OpenClaim := { program := "ytocllgippcpgcaa", sum := "c7f73d3fbdf63338539a5bdfa9294c97dd472b8ff961438f699784e3cd72d9b8", func := "loop.example/g01227/laws.FnExactSumOfFour", spec := "fnExactSumOfFour", apart := false }
def FnExactSumOfFourSaid : Prop := fnExactSumOfFourRow.holds Try.pinned (OpenSpec.ofChange fnExactSumOfFourSpec)

/-- ITS FALSE NEIGHBOUR: 'it returns false'. Refute it at one input. -/
def fnExactSumOfFourWrong : ChangeSpec := { name := "fnExactSumOfFour", fn := fun _ => fun
  | [d] => { results := [.lit (.bool false)], args := [d] }
  | _ => none }
def FnExactSumOfFourWrongFalsely : Prop := fnExactSumOfFourRow.holds Try.pinned (OpenSpec.ofChange fnExactSumOfFourWrong)

/- THE SECOND FORM. 'bulk': how many values and letters a reading holds, each counted each time it is reached (what is shared counts as often as it is met; a slice's spare places count too). A statement '..UptoSaid' is the law's where the arguments, and the package variables that the reading takes, are together of bulk at most 1048576: NARROWER than '..Said'. Prove '..Said' where nothing that the law and all that it calls make is longer than what came in: it says more and counts as full. Else prove '..UptoSaid'. A law counts once. -/
mutual
def uptoBulk {H : Type} : DataW H → Nat
  | .lit (.string bytes) => bytes.length + 1
  | .lit _ => 1
  | .nil => 1
  | .ptr d => uptoBulk d + 1
  | .slice elems spare => uptoBulkAll elems + uptoBulkAll spare + 1
  | .agg parts => uptoBulkAll parts + 1
  | .iface _ d => uptoBulk d + 1
  | .map entries => uptoBulkEntries entries + 1
  | .held _ => 1
def uptoBulkAll {H : Type} : List (DataW H) → Nat
  | [] => 0
  | d :: r => uptoBulk d + uptoBulkAll r
def uptoBulkEntries {H : Type} : List (Lit × DataW H) → Nat
  | [] => 0
  | x :: r => uptoBulkEntry x + uptoBulkEntries r
def uptoBulkEntry {H : Type} : Lit × DataW H → Nat
  | (.string bytes, d) => bytes.length + uptoBulk d + 1
  | (_, d) => uptoBulk d + 1
 end
def uptoSmall : (H : Type) → List (DataW H) → Bool := fun _ ds => decide (uptoBulkAll ds ≤ 1048576)
def OpenSpec.upto (s : _root_.Go.ChangeSpec) : _root_.Go.OpenSpec := { _root_.Go.OpenSpec.ofChange s with cond := some uptoSmall }

/-- 'laws.FnExactConstants', WHERE WHAT IT READS IS OF BULK AT MOST 1048576: true; the input reads as it did. -/
def fnExactConstantsUptoRow : OpenClaim := { program := "ytocllgippcpgcaa", sum := "c7f73d3fbdf63338539a5bdfa9294c97dd472b8ff961438f699784e3cd72d9b8", func := "loop.example/g01227/laws.FnExactConstants", spec := "fnExactConstants", apart := false, narrowed := true }
def FnExactConstantsUptoSaid : Prop := fnExactConstantsUptoRow.holds Try.pinned (OpenSpec.upto fnExactConstantsSpec)

/-- 'laws.FnExactIsAmount', WHERE WHAT IT READS IS OF BULK AT MOST 1048576: true; the input reads as it did. -/
def fnExactIsAmountUptoRow : OpenClaim := { program := "ytocllgippcpgcaa", sum := "c7f73d3fbdf63338539a5bdfa9294c97dd472b8ff961438f699784e3cd72d9b8", func := "loop.example/g01227/laws.FnExactIsAmount", spec := "fnExactIsAmount", inPlace := ["math.Float32bits", "math.Float64bits"], apart := false, narrowed := true }
def FnExactIsAmountUptoSaid : Prop := fnExactIsAmountUptoRow.holds Try.pinned (OpenSpec.upto fnExactIsAmountSpec)

/-- 'laws.FnExactIsShare', WHERE WHAT IT READS IS OF BULK AT MOST 1048576: true; the input reads as it did. -/
def fnExactIsShareUptoRow : OpenClaim := { program := "ytocllgippcpgcaa", sum := "c7f73d3fbdf63338539a5bdfa9294c97dd472b8ff961438f699784e3cd72d9b8", func := "loop.example/g01227/laws.FnExactIsShare", spec := "fnExactIsShare", inPlace := ["math.Float32bits", "math.Float64bits"], apart := false, narrowed := true }
def FnExactIsShareUptoSaid : Prop := fnExactIsShareUptoRow.holds Try.pinned (OpenSpec.upto fnExactIsShareSpec)

/-- 'laws.FnExactSameNumber', WHERE WHAT IT READS IS OF BULK AT MOST 1048576: true; the input reads as it did. -/
def fnExactSameNumberUptoRow : OpenClaim := { program := "ytocllgippcpgcaa", sum := "c7f73d3fbdf63338539a5bdfa9294c97dd472b8ff961438f699784e3cd72d9b8", func := "loop.example/g01227/laws.FnExactSameNumber", spec := "fnExactSameNumber", inPlace := ["math.Float32bits"], apart := false, narrowed := true }
def FnExactSameNumberUptoSaid : Prop := fnExactSameNumberUptoRow.holds Try.pinned (OpenSpec.upto fnExactSameNumberSpec)

/-- 'laws.FnExactSumOfFour', WHERE WHAT IT READS IS OF BULK AT MOST 1048576: true; the input reads as it did. -/
def fnExactSumOfFourUptoRow : OpenClaim := { program := "ytocllgippcpgcaa", sum := "c7f73d3fbdf63338539a5bdfa9294c97dd472b8ff961438f699784e3cd72d9b8", func := "loop.example/g01227/laws.FnExactSumOfFour", spec := "fnExactSumOfFour", apart := false, narrowed := true }
def FnExactSumOfFourUptoSaid : Prop := fnExactSumOfFourUptoRow.holds Try.pinned (OpenSpec.upto fnExactSumOfFourSpec)

end Rows
end Go.Proofs.Ytocllgippcpgcaa
