/-
  DERIVED. GIVEN WITH THE SEED: THE CARDS: each row of YthphnhmabieflaaDoorRows.lean that lists a variable, with what it lists TIED to the program's text (the seventh form; the later family's looks); each row that meets fmt, with fmt's text TOLD by the authors' own Lean function (tested against real Go, not proved from fmt's source: count such statements apart). THE CARD IS WHAT COUNTS. Prove the row's statement (the work); the ties are given (YthphnhmabieflaaDoorTie.lean); close each card by the builder's one call (the guide's Derived/Test/ToyasCard.lean, 'card_holds'). Laid BY PROGRAM, IN A SANDBOX (cutbox-door.mjs). By AI agents, Wed Nov 11 2026. No macro, syntax, notation, axiom, sorry.
-/
import Derived.Test.YthphnhmabieflaaDoorRows
import GoSem.ClaimSeven
namespace Go.Proofs.YthphnhmabieflaaDoor
namespace Rows

/-- THE TIED CARD OF 'laws.FnExactFormatLabel'. -/
def fnExactFormatLabelCard : Claim7 := { stood := { row := fnExactFormatLabelRow, standIns := [], harness := (true, "34d2ac5ddefa6472849b680bebf7567fbcf67b6b77c33102f8af9c765b91ac33"), looks := true }, kinds := [], alts := [], laidByText := true, laidKinds := [.data, .data, .data], laidTests := true, laidLooks := .later }
def FnExactFormatLabelCardSaid : Prop := Claim7.holds Tryd.pinned (.plain (OpenSpec.ofChange fnExactFormatLabelSpec)) fnExactFormatLabelCard

/-- THE TIED CARD OF 'laws.FnExactFormatTie'. -/
def fnExactFormatTieCard : Claim7 := { stood := { row := fnExactFormatTieRow, standIns := [], harness := (true, "34d2ac5ddefa6472849b680bebf7567fbcf67b6b77c33102f8af9c765b91ac33"), looks := true }, kinds := [], alts := [], laidByText := true, laidKinds := [.data, .data, .data], laidTests := true, laidLooks := .later }
def FnExactFormatTieCardSaid : Prop := Claim7.holds Tryd.pinned (.plain (OpenSpec.ofChange fnExactFormatTieSpec)) fnExactFormatTieCard

/-- THE TIED CARD OF 'laws.FnExactFormatTimes'. -/
def fnExactFormatTimesCard : Claim7 := { stood := { row := fnExactFormatTimesRow, standIns := [], harness := (true, "34d2ac5ddefa6472849b680bebf7567fbcf67b6b77c33102f8af9c765b91ac33"), looks := true }, kinds := [], alts := [], laidByText := true, laidKinds := [.data, .data, .data], laidTests := true, laidLooks := .later }
def FnExactFormatTimesCardSaid : Prop := Claim7.holds Tryd.pinned (.plain (OpenSpec.ofChange fnExactFormatTimesSpec)) fnExactFormatTimesCard

/-- THE TIED CARD OF 'laws.FnExactFormatShow'. -/
def fnExactFormatShowCard : Claim7 := { stood := { row := fnExactFormatShowRow, standIns := [], harness := (true, "34d2ac5ddefa6472849b680bebf7567fbcf67b6b77c33102f8af9c765b91ac33"), looks := true }, kinds := [], alts := [], laidByText := true, laidKinds := [.data, .data, .data], laidTests := true, laidLooks := .later }
def FnExactFormatShowCardSaid : Prop := Claim7.holds Tryd.pinned (.plain (OpenSpec.ofChange fnExactFormatShowSpec)) fnExactFormatShowCard

/-- THE TIED CARD OF 'laws.FnExactParseLabel'. -/
def fnExactParseLabelCard : Claim7 := { stood := { row := fnExactParseLabelRow, standIns := [], harness := (true, "34d2ac5ddefa6472849b680bebf7567fbcf67b6b77c33102f8af9c765b91ac33"), looks := true }, kinds := [], alts := [], laidByText := true, laidKinds := [.data, .data, .data, .sentinel, .sentinel], laidTests := true, laidLooks := .later }
def FnExactParseLabelCardSaid : Prop := Claim7.holds Tryd.pinned (.plain (OpenSpec.ofChange fnExactParseLabelSpec)) fnExactParseLabelCard

/-- THE TIED CARD OF 'laws.FnLabels'. -/
def fnLabelsCard : Claim7 := { stood := { row := fnLabelsRow, standIns := [], harness := (true, "34d2ac5ddefa6472849b680bebf7567fbcf67b6b77c33102f8af9c765b91ac33"), looks := true }, kinds := [], alts := [], laidByText := true, laidKinds := [.data, .data, .data, .sentinel, .sentinel], laidTests := true, laidLooks := .later }
def FnLabelsCardSaid : Prop := Claim7.holds Tryd.pinned (.plain (OpenSpec.ofChange fnLabelsSpec)) fnLabelsCard

/-- THE SECOND FORM's CARD OF 'laws.FnExactFormatLabel'. -/
def fnExactFormatLabelUptoCard : Claim7 := { stood := { row := fnExactFormatLabelUptoRow, standIns := [], harness := (true, "34d2ac5ddefa6472849b680bebf7567fbcf67b6b77c33102f8af9c765b91ac33"), looks := true }, kinds := [], alts := [], laidByText := true, laidKinds := [.data, .data, .data], laidTests := true, laidLooks := .later }
def FnExactFormatLabelUptoCardSaid : Prop := Claim7.holds Tryd.pinned (.plain (OpenSpec.upto fnExactFormatLabelSpec)) fnExactFormatLabelUptoCard

/-- THE SECOND FORM's CARD OF 'laws.FnExactFormatTie'. -/
def fnExactFormatTieUptoCard : Claim7 := { stood := { row := fnExactFormatTieUptoRow, standIns := [], harness := (true, "34d2ac5ddefa6472849b680bebf7567fbcf67b6b77c33102f8af9c765b91ac33"), looks := true }, kinds := [], alts := [], laidByText := true, laidKinds := [.data, .data, .data], laidTests := true, laidLooks := .later }
def FnExactFormatTieUptoCardSaid : Prop := Claim7.holds Tryd.pinned (.plain (OpenSpec.upto fnExactFormatTieSpec)) fnExactFormatTieUptoCard

/-- THE SECOND FORM's CARD OF 'laws.FnExactFormatTimes'. -/
def fnExactFormatTimesUptoCard : Claim7 := { stood := { row := fnExactFormatTimesUptoRow, standIns := [], harness := (true, "34d2ac5ddefa6472849b680bebf7567fbcf67b6b77c33102f8af9c765b91ac33"), looks := true }, kinds := [], alts := [], laidByText := true, laidKinds := [.data, .data, .data], laidTests := true, laidLooks := .later }
def FnExactFormatTimesUptoCardSaid : Prop := Claim7.holds Tryd.pinned (.plain (OpenSpec.upto fnExactFormatTimesSpec)) fnExactFormatTimesUptoCard

/-- THE SECOND FORM's CARD OF 'laws.FnExactFormatShow'. -/
def fnExactFormatShowUptoCard : Claim7 := { stood := { row := fnExactFormatShowUptoRow, standIns := [], harness := (true, "34d2ac5ddefa6472849b680bebf7567fbcf67b6b77c33102f8af9c765b91ac33"), looks := true }, kinds := [], alts := [], laidByText := true, laidKinds := [.data, .data, .data], laidTests := true, laidLooks := .later }
def FnExactFormatShowUptoCardSaid : Prop := Claim7.holds Tryd.pinned (.plain (OpenSpec.upto fnExactFormatShowSpec)) fnExactFormatShowUptoCard

/-- THE SECOND FORM's CARD OF 'laws.FnExactParseLabel'. -/
def fnExactParseLabelUptoCard : Claim7 := { stood := { row := fnExactParseLabelUptoRow, standIns := [], harness := (true, "34d2ac5ddefa6472849b680bebf7567fbcf67b6b77c33102f8af9c765b91ac33"), looks := true }, kinds := [], alts := [], laidByText := true, laidKinds := [.data, .data, .data, .sentinel, .sentinel], laidTests := true, laidLooks := .later }
def FnExactParseLabelUptoCardSaid : Prop := Claim7.holds Tryd.pinned (.plain (OpenSpec.upto fnExactParseLabelSpec)) fnExactParseLabelUptoCard

/-- THE SECOND FORM's CARD OF 'laws.FnLabels'. -/
def fnLabelsUptoCard : Claim7 := { stood := { row := fnLabelsUptoRow, standIns := [], harness := (true, "34d2ac5ddefa6472849b680bebf7567fbcf67b6b77c33102f8af9c765b91ac33"), looks := true }, kinds := [], alts := [], laidByText := true, laidKinds := [.data, .data, .data, .sentinel, .sentinel], laidTests := true, laidLooks := .later }
def FnLabelsUptoCardSaid : Prop := Claim7.holds Tryd.pinned (.plain (OpenSpec.upto fnLabelsSpec)) fnLabelsUptoCard
end Rows
end Go.Proofs.YthphnhmabieflaaDoor
