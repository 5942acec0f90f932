/-
  DERIVED. GIVEN WITH THE SEED: THE CARDS: each row of YtoeimopgoaffcaaGreatDoorRows.lean that lists a variable, with what it lists TIED to the program's text (the seventh form; the later family's looks); each row that meets fmt, with fmt's text TOLD by the authors' own Lean function (tested against real Go, not proved from fmt's source: count such statements apart). THE CARD IS WHAT COUNTS. Prove the row's statement (the work); the ties are given (YtoeimopgoaffcaaGreatDoorTie.lean); close each card by the builder's one call (the guide's Derived/Test/ToyasCard.lean, 'card_holds'). Laid BY PROGRAM, IN A SANDBOX (cutbox-door.mjs). By AI agents, Wed Nov 11 2026. No macro, syntax, notation, axiom, sorry.
-/
import Derived.Test.YtoeimopgoaffcaaGreatDoorRows
import GoSem.ClaimSeven
namespace Go.Proofs.YtoeimopgoaffcaaGreatDoor
namespace Rows

/-- THE TIED CARD OF 'laws.FnExactParseShow'. -/
def fnExactParseShowCard : Claim7 := { stood := { row := fnExactParseShowRow, standIns := [], harness := (true, "be3da0e0a0d16a05f648db968d7e1c7d693f4651ba9dda35c14088b64a68fcb0"), looks := true }, kinds := [], alts := [], laidByText := true, laidKinds := [.data, .data, .data, .data, .sentinel, .sentinel, .pinned], laidTests := true, laidLooks := .later }
def FnExactParseShowCardSaid : Prop := Claim7.holds Tryz.pinned (.plain (OpenSpec.ofChange fnExactParseShowSpec)) fnExactParseShowCard

/-- THE TIED CARD OF 'laws.FnShowTexts'. -/
def fnShowTextsCard : Claim7 := { stood := { row := fnShowTextsRow, standIns := [], harness := (true, "be3da0e0a0d16a05f648db968d7e1c7d693f4651ba9dda35c14088b64a68fcb0"), looks := true }, kinds := [], alts := [], laidByText := true, laidKinds := [.data, .data, .data, .data, .sentinel, .sentinel, .pinned], laidTests := true, laidLooks := .later }
def FnShowTextsCardSaid : Prop := Claim7.holds Tryz.pinned (.plain (OpenSpec.ofChange fnShowTextsSpec)) fnShowTextsCard

/-- THE TIED CARD OF 'laws.FnExactProjectShow'. -/
def fnExactProjectShowCard : Claim7 := { stood := { row := fnExactProjectShowRow, standIns := [], harness := (true, "be3da0e0a0d16a05f648db968d7e1c7d693f4651ba9dda35c14088b64a68fcb0"), looks := true }, kinds := [], alts := [], laidByText := true, laidKinds := [.data, .data, .data], laidTests := true, laidLooks := .later }
def FnExactProjectShowCardSaid : Prop := Claim7.holds Tryz.pinned (.plain (OpenSpec.ofChange fnExactProjectShowSpec)) fnExactProjectShowCard

/-- THE TIED CARD OF 'laws.FnExactCanMaster'. -/
def fnExactCanMasterCard : Claim7 := { stood := { row := fnExactCanMasterRow, standIns := [], harness := (true, "be3da0e0a0d16a05f648db968d7e1c7d693f4651ba9dda35c14088b64a68fcb0"), looks := true }, kinds := [], alts := [], laidByText := true, laidKinds := [.data, .data, .data], laidTests := true, laidLooks := .later }
def FnExactCanMasterCardSaid : Prop := Claim7.holds Tryz.pinned (.plain (OpenSpec.ofChange fnExactCanMasterSpec)) fnExactCanMasterCard

/-- THE TIED CARD OF 'laws.FnExactWeakFailure'. -/
def fnExactWeakFailureCard : Claim7 := { stood := { row := fnExactWeakFailureRow, standIns := [], harness := (true, "be3da0e0a0d16a05f648db968d7e1c7d693f4651ba9dda35c14088b64a68fcb0"), looks := true }, kinds := [], alts := [], laidByText := true, laidKinds := [.data, .data, .data], laidTests := true, laidLooks := .later }
def FnExactWeakFailureCardSaid : Prop := Claim7.holds Tryz.pinned (.plain (OpenSpec.ofChange fnExactWeakFailureSpec)) fnExactWeakFailureCard

/-- THE TIED CARD OF 'laws.FnExactIsWeak'. -/
def fnExactIsWeakCard : Claim7 := { stood := { row := fnExactIsWeakRow, standIns := [], harness := (true, "be3da0e0a0d16a05f648db968d7e1c7d693f4651ba9dda35c14088b64a68fcb0"), looks := true }, kinds := [], alts := [], laidByText := true, laidKinds := [.data, .data, .data], laidTests := true, laidLooks := .later }
def FnExactIsWeakCardSaid : Prop := Claim7.holds Tryz.pinned (.plain (OpenSpec.ofChange fnExactIsWeakSpec)) fnExactIsWeakCard

/-- THE TIED CARD OF 'laws.FnExactExplainChoice'. -/
def fnExactExplainChoiceCard : Claim7 := { stood := { row := fnExactExplainChoiceRow, standIns := [], harness := (true, "be3da0e0a0d16a05f648db968d7e1c7d693f4651ba9dda35c14088b64a68fcb0"), looks := true }, kinds := [], alts := [], laidByText := true, laidKinds := [.data, .data, .data], laidTests := true, laidLooks := .later }
def FnExactExplainChoiceCardSaid : Prop := Claim7.holds Tryz.pinned (.plain (OpenSpec.ofChange fnExactExplainChoiceSpec)) fnExactExplainChoiceCard

/-- THE TIED CARD OF 'laws.FnWeak'. -/
def fnWeakCard : Claim7 := { stood := { row := fnWeakRow, standIns := [], harness := (true, "be3da0e0a0d16a05f648db968d7e1c7d693f4651ba9dda35c14088b64a68fcb0"), looks := true }, kinds := [], alts := [], laidByText := true, laidKinds := [.data, .data, .data], laidTests := true, laidLooks := .later }
def FnWeakCardSaid : Prop := Claim7.holds Tryz.pinned (.plain (OpenSpec.ofChange fnWeakSpec)) fnWeakCard

/-- THE SECOND FORM's CARD OF 'laws.FnExactParseShow'. -/
def fnExactParseShowUptoCard : Claim7 := { stood := { row := fnExactParseShowUptoRow, standIns := [], harness := (true, "be3da0e0a0d16a05f648db968d7e1c7d693f4651ba9dda35c14088b64a68fcb0"), looks := true }, kinds := [], alts := [], laidByText := true, laidKinds := [.data, .data, .data, .data, .sentinel, .sentinel, .pinned], laidTests := true, laidLooks := .later }
def FnExactParseShowUptoCardSaid : Prop := Claim7.holds Tryz.pinned (.plain (OpenSpec.upto fnExactParseShowSpec)) fnExactParseShowUptoCard

/-- THE SECOND FORM's CARD OF 'laws.FnShowTexts'. -/
def fnShowTextsUptoCard : Claim7 := { stood := { row := fnShowTextsUptoRow, standIns := [], harness := (true, "be3da0e0a0d16a05f648db968d7e1c7d693f4651ba9dda35c14088b64a68fcb0"), looks := true }, kinds := [], alts := [], laidByText := true, laidKinds := [.data, .data, .data, .data, .sentinel, .sentinel, .pinned], laidTests := true, laidLooks := .later }
def FnShowTextsUptoCardSaid : Prop := Claim7.holds Tryz.pinned (.plain (OpenSpec.upto fnShowTextsSpec)) fnShowTextsUptoCard

/-- THE SECOND FORM's CARD OF 'laws.FnExactProjectShow'. -/
def fnExactProjectShowUptoCard : Claim7 := { stood := { row := fnExactProjectShowUptoRow, standIns := [], harness := (true, "be3da0e0a0d16a05f648db968d7e1c7d693f4651ba9dda35c14088b64a68fcb0"), looks := true }, kinds := [], alts := [], laidByText := true, laidKinds := [.data, .data, .data], laidTests := true, laidLooks := .later }
def FnExactProjectShowUptoCardSaid : Prop := Claim7.holds Tryz.pinned (.plain (OpenSpec.upto fnExactProjectShowSpec)) fnExactProjectShowUptoCard

/-- THE SECOND FORM's CARD OF 'laws.FnExactCanMaster'. -/
def fnExactCanMasterUptoCard : Claim7 := { stood := { row := fnExactCanMasterUptoRow, standIns := [], harness := (true, "be3da0e0a0d16a05f648db968d7e1c7d693f4651ba9dda35c14088b64a68fcb0"), looks := true }, kinds := [], alts := [], laidByText := true, laidKinds := [.data, .data, .data], laidTests := true, laidLooks := .later }
def FnExactCanMasterUptoCardSaid : Prop := Claim7.holds Tryz.pinned (.plain (OpenSpec.upto fnExactCanMasterSpec)) fnExactCanMasterUptoCard

/-- THE SECOND FORM's CARD OF 'laws.FnExactWeakFailure'. -/
def fnExactWeakFailureUptoCard : Claim7 := { stood := { row := fnExactWeakFailureUptoRow, standIns := [], harness := (true, "be3da0e0a0d16a05f648db968d7e1c7d693f4651ba9dda35c14088b64a68fcb0"), looks := true }, kinds := [], alts := [], laidByText := true, laidKinds := [.data, .data, .data], laidTests := true, laidLooks := .later }
def FnExactWeakFailureUptoCardSaid : Prop := Claim7.holds Tryz.pinned (.plain (OpenSpec.upto fnExactWeakFailureSpec)) fnExactWeakFailureUptoCard

/-- THE SECOND FORM's CARD OF 'laws.FnExactIsWeak'. -/
def fnExactIsWeakUptoCard : Claim7 := { stood := { row := fnExactIsWeakUptoRow, standIns := [], harness := (true, "be3da0e0a0d16a05f648db968d7e1c7d693f4651ba9dda35c14088b64a68fcb0"), looks := true }, kinds := [], alts := [], laidByText := true, laidKinds := [.data, .data, .data], laidTests := true, laidLooks := .later }
def FnExactIsWeakUptoCardSaid : Prop := Claim7.holds Tryz.pinned (.plain (OpenSpec.upto fnExactIsWeakSpec)) fnExactIsWeakUptoCard

/-- THE SECOND FORM's CARD OF 'laws.FnExactExplainChoice'. -/
def fnExactExplainChoiceUptoCard : Claim7 := { stood := { row := fnExactExplainChoiceUptoRow, standIns := [], harness := (true, "be3da0e0a0d16a05f648db968d7e1c7d693f4651ba9dda35c14088b64a68fcb0"), looks := true }, kinds := [], alts := [], laidByText := true, laidKinds := [.data, .data, .data], laidTests := true, laidLooks := .later }
def FnExactExplainChoiceUptoCardSaid : Prop := Claim7.holds Tryz.pinned (.plain (OpenSpec.upto fnExactExplainChoiceSpec)) fnExactExplainChoiceUptoCard

/-- THE SECOND FORM's CARD OF 'laws.FnWeak'. -/
def fnWeakUptoCard : Claim7 := { stood := { row := fnWeakUptoRow, standIns := [], harness := (true, "be3da0e0a0d16a05f648db968d7e1c7d693f4651ba9dda35c14088b64a68fcb0"), looks := true }, kinds := [], alts := [], laidByText := true, laidKinds := [.data, .data, .data], laidTests := true, laidLooks := .later }
def FnWeakUptoCardSaid : Prop := Claim7.holds Tryz.pinned (.plain (OpenSpec.upto fnWeakSpec)) fnWeakUptoCard
end Rows
end Go.Proofs.YtoeimopgoaffcaaGreatDoor
