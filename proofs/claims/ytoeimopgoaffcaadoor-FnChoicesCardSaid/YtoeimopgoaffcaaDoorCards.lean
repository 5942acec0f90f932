/-
  DERIVED. GIVEN WITH THE SEED: THE CARDS: each row of YtoeimopgoaffcaaDoorRows.lean that lists a variable, with what it lists TIED to the program's text (the seventh form; the later family's looks); each row that meets fmt, with fmt's text TOLD by the authors' own Lean function (tested against real Go, not proved from fmt's source: count such statements apart). THE CARD IS WHAT COUNTS. Prove the row's statement (the work); the ties are given (YtoeimopgoaffcaaDoorTie.lean); close each card by the builder's one call (the guide's Derived/Test/ToyasCard.lean, 'card_holds'). Laid BY PROGRAM, IN A SANDBOX (cutbox-door.mjs). By AI agents, Wed Nov 11 2026. No macro, syntax, notation, axiom, sorry.
-/
import Derived.Test.YtoeimopgoaffcaaDoorRows
import GoSem.ClaimSeven
namespace Go.Proofs.YtoeimopgoaffcaaDoor
namespace Rows

/-- THE TIED CARD OF 'laws.FnLabels'. -/
def fnLabelsCard : Claim7 := { stood := { row := fnLabelsRow, standIns := [], harness := (true, "2e6ea2b47be116a1832af2ed8eaf93df50abc9dd75d21126c26aacdc52b24e79"), looks := true }, kinds := [], alts := [], laidByText := true, laidKinds := [.data, .data, .data, .sentinel, .sentinel], laidTests := true, laidLooks := .later }
def FnLabelsCardSaid : Prop := Claim7.holds Tryd.pinned (.plain (OpenSpec.ofChange fnLabelsSpec)) fnLabelsCard

/-- THE TIED CARD OF 'laws.FnChoices'. -/
def fnChoicesCard : Claim7 := { stood := { row := fnChoicesRow, standIns := [], harness := (true, "2e6ea2b47be116a1832af2ed8eaf93df50abc9dd75d21126c26aacdc52b24e79"), looks := true }, kinds := [], alts := [], laidByText := true, laidKinds := [.data, .data, .data], laidTests := true, laidLooks := .later }
def FnChoicesCardSaid : Prop := Claim7.holds Tryd.pinned (.plain (OpenSpec.ofChange fnChoicesSpec)) fnChoicesCard

/-- THE SECOND FORM's CARD OF 'laws.FnLabels'. -/
def fnLabelsUptoCard : Claim7 := { stood := { row := fnLabelsUptoRow, standIns := [], harness := (true, "2e6ea2b47be116a1832af2ed8eaf93df50abc9dd75d21126c26aacdc52b24e79"), looks := true }, kinds := [], alts := [], laidByText := true, laidKinds := [.data, .data, .data, .sentinel, .sentinel], laidTests := true, laidLooks := .later }
def FnLabelsUptoCardSaid : Prop := Claim7.holds Tryd.pinned (.plain (OpenSpec.upto fnLabelsSpec)) fnLabelsUptoCard

/-- THE SECOND FORM's CARD OF 'laws.FnChoices'. -/
def fnChoicesUptoCard : Claim7 := { stood := { row := fnChoicesUptoRow, standIns := [], harness := (true, "2e6ea2b47be116a1832af2ed8eaf93df50abc9dd75d21126c26aacdc52b24e79"), looks := true }, kinds := [], alts := [], laidByText := true, laidKinds := [.data, .data, .data], laidTests := true, laidLooks := .later }
def FnChoicesUptoCardSaid : Prop := Claim7.holds Tryd.pinned (.plain (OpenSpec.upto fnChoicesSpec)) fnChoicesUptoCard
end Rows
end Go.Proofs.YtoeimopgoaffcaaDoor
