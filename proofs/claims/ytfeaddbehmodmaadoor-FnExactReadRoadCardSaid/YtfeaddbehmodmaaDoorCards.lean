/-
  DERIVED. GIVEN WITH THE SEED: THE CARDS: each row of YtfeaddbehmodmaaDoorRows.lean that lists a variable, with what it lists TIED to the program's text (the seventh form; the later family's looks); each row that meets fmt, with fmt's text TOLD by the authors' own Lean function (tested against real Go, not proved from fmt's source: count such statements apart). THE CARD IS WHAT COUNTS. Prove the row's statement (the work); the ties are given (YtfeaddbehmodmaaDoorTie.lean); close each card by the builder's one call (the guide's Derived/Test/ToyasCard.lean, 'card_holds'). Laid BY PROGRAM, IN A SANDBOX (cutbox-door.mjs). By AI agents, Wed Nov 11 2026. No macro, syntax, notation, axiom, sorry.
-/
import Derived.Test.YtfeaddbehmodmaaDoorRows
import GoSem.ClaimSeven
namespace Go.Proofs.YtfeaddbehmodmaaDoor
namespace Rows

/-- THE TIED CARD OF 'laws.FnExactNumberText'. -/
def fnExactNumberTextCard : Claim7 := { stood := { row := fnExactNumberTextRow, standIns := [], harness := (true, "327f46c04fcc31b641ea4d061d888428d3439fc4e5491ca762ba5b0abd3fc638"), looks := true }, kinds := [], alts := [], laidByText := true, laidKinds := [.data, .data, .data], laidTests := true, laidLooks := .later }
def FnExactNumberTextCardSaid : Prop := Claim7.holds Tryd.pinned (.plain (OpenSpec.ofChange fnExactNumberTextSpec)) fnExactNumberTextCard

/-- THE TIED CARD OF 'laws.FnExactReadNumber'. -/
def fnExactReadNumberCard : Claim7 := { stood := { row := fnExactReadNumberRow, standIns := [], harness := (true, "327f46c04fcc31b641ea4d061d888428d3439fc4e5491ca762ba5b0abd3fc638"), looks := true }, kinds := [], alts := [], laidByText := true, laidKinds := [.data, .data, .data, .sentinel, .sentinel], laidTests := true, laidLooks := .later }
def FnExactReadNumberCardSaid : Prop := Claim7.holds Tryd.pinned (.plain (OpenSpec.ofChange fnExactReadNumberSpec)) fnExactReadNumberCard

/-- THE TIED CARD OF 'laws.FnExactRoadText'. -/
def fnExactRoadTextCard : Claim7 := { stood := { row := fnExactRoadTextRow, standIns := [], harness := (true, "327f46c04fcc31b641ea4d061d888428d3439fc4e5491ca762ba5b0abd3fc638"), looks := true }, kinds := [], alts := [], laidByText := true, laidKinds := [.data, .data, .data], laidTests := true, laidLooks := .later }
def FnExactRoadTextCardSaid : Prop := Claim7.holds Tryd.pinned (.plain (OpenSpec.ofChange fnExactRoadTextSpec)) fnExactRoadTextCard

/-- THE TIED CARD OF 'laws.FnExactReadRoad'. -/
def fnExactReadRoadCard : Claim7 := { stood := { row := fnExactReadRoadRow, standIns := [], harness := (true, "327f46c04fcc31b641ea4d061d888428d3439fc4e5491ca762ba5b0abd3fc638"), looks := true }, kinds := [], alts := [], laidByText := true, laidKinds := [.data, .data, .data, .data, .sentinel, .sentinel, .pinned], laidTests := true, laidLooks := .later }
def FnExactReadRoadCardSaid : Prop := Claim7.holds Tryd.pinned (.plain (OpenSpec.ofChange fnExactReadRoadSpec)) fnExactReadRoadCard

/-- THE SECOND FORM's CARD OF 'laws.FnExactNumberText'. -/
def fnExactNumberTextUptoCard : Claim7 := { stood := { row := fnExactNumberTextUptoRow, standIns := [], harness := (true, "327f46c04fcc31b641ea4d061d888428d3439fc4e5491ca762ba5b0abd3fc638"), looks := true }, kinds := [], alts := [], laidByText := true, laidKinds := [.data, .data, .data], laidTests := true, laidLooks := .later }
def FnExactNumberTextUptoCardSaid : Prop := Claim7.holds Tryd.pinned (.plain (OpenSpec.upto fnExactNumberTextSpec)) fnExactNumberTextUptoCard

/-- THE SECOND FORM's CARD OF 'laws.FnExactReadNumber'. -/
def fnExactReadNumberUptoCard : Claim7 := { stood := { row := fnExactReadNumberUptoRow, standIns := [], harness := (true, "327f46c04fcc31b641ea4d061d888428d3439fc4e5491ca762ba5b0abd3fc638"), looks := true }, kinds := [], alts := [], laidByText := true, laidKinds := [.data, .data, .data, .sentinel, .sentinel], laidTests := true, laidLooks := .later }
def FnExactReadNumberUptoCardSaid : Prop := Claim7.holds Tryd.pinned (.plain (OpenSpec.upto fnExactReadNumberSpec)) fnExactReadNumberUptoCard

/-- THE SECOND FORM's CARD OF 'laws.FnExactRoadText'. -/
def fnExactRoadTextUptoCard : Claim7 := { stood := { row := fnExactRoadTextUptoRow, standIns := [], harness := (true, "327f46c04fcc31b641ea4d061d888428d3439fc4e5491ca762ba5b0abd3fc638"), looks := true }, kinds := [], alts := [], laidByText := true, laidKinds := [.data, .data, .data], laidTests := true, laidLooks := .later }
def FnExactRoadTextUptoCardSaid : Prop := Claim7.holds Tryd.pinned (.plain (OpenSpec.upto fnExactRoadTextSpec)) fnExactRoadTextUptoCard

/-- THE SECOND FORM's CARD OF 'laws.FnExactReadRoad'. -/
def fnExactReadRoadUptoCard : Claim7 := { stood := { row := fnExactReadRoadUptoRow, standIns := [], harness := (true, "327f46c04fcc31b641ea4d061d888428d3439fc4e5491ca762ba5b0abd3fc638"), looks := true }, kinds := [], alts := [], laidByText := true, laidKinds := [.data, .data, .data, .data, .sentinel, .sentinel, .pinned], laidTests := true, laidLooks := .later }
def FnExactReadRoadUptoCardSaid : Prop := Claim7.holds Tryd.pinned (.plain (OpenSpec.upto fnExactReadRoadSpec)) fnExactReadRoadUptoCard
end Rows
end Go.Proofs.YtfeaddbehmodmaaDoor
