/-
  DERIVED. GIVEN WITH THE SEED: THE CARDS: each row of YthbobcapimmnhaaGreatDoorRows.lean that lists a variable, with what it lists TIED to the program's text (the seventh form; the later family's looks); each row that meets fmt, with fmt's text TOLD by the authors' own Lean function (tested against real Go, not proved from fmt's source: count such statements apart). THE CARD IS WHAT COUNTS. Prove the row's statement (the work); the ties are given (YthbobcapimmnhaaGreatDoorTie.lean); close each card by the builder's one call (the guide's Derived/Test/ToyasCard.lean, 'card_holds'). Laid BY PROGRAM, IN A SANDBOX (cutbox-door.mjs). By AI agents, Wed Nov 11 2026. No macro, syntax, notation, axiom, sorry.
-/
import Derived.Test.YthbobcapimmnhaaGreatDoorRows
import GoSem.ClaimSeven
namespace Go.Proofs.YthbobcapimmnhaaGreatDoor
namespace Rows

/-- THE TIED CARD OF 'laws.FnExactParseError'. -/
def fnExactParseErrorCard : Claim7 := { stood := { row := fnExactParseErrorRow, standIns := [], harness := (true, "54c7336f9c073d1eba0d83482932655de2e642ebc280c26d99de298f39bda524"), looks := true }, kinds := [], alts := [], laidByText := true, laidKinds := [.data, .data, .data, .sentinel, .sentinel], laidTests := true, laidLooks := .later }
def FnExactParseErrorCardSaid : Prop := Claim7.holds Tryz.pinned (.plain (OpenSpec.ofChange fnExactParseErrorSpec)) fnExactParseErrorCard

/-- THE TIED CARD OF 'laws.FnExactParseExpr'. -/
def fnExactParseExprCard : Claim7 := { stood := { row := fnExactParseExprRow, standIns := [], harness := (true, "54c7336f9c073d1eba0d83482932655de2e642ebc280c26d99de298f39bda524"), looks := true }, kinds := [], alts := [], laidByText := true, laidKinds := [.data, .data, .data, .sentinel, .sentinel], laidTests := true, laidLooks := .later }
def FnExactParseExprCardSaid : Prop := Claim7.holds Tryz.pinned (.plain (OpenSpec.ofChange fnExactParseExprSpec)) fnExactParseExprCard

/-- THE TIED CARD OF 'laws.FnExactNormalizeCode'. -/
def fnExactNormalizeCodeCard : Claim7 := { stood := { row := fnExactNormalizeCodeRow, standIns := [], harness := (true, "54c7336f9c073d1eba0d83482932655de2e642ebc280c26d99de298f39bda524"), looks := true }, kinds := [], alts := [], laidByText := true, laidKinds := [.data, .data, .data, .sentinel, .sentinel], laidTests := true, laidLooks := .later }
def FnExactNormalizeCodeCardSaid : Prop := Claim7.holds Tryz.pinned (.plain (OpenSpec.ofChange fnExactNormalizeCodeSpec)) fnExactNormalizeCodeCard

/-- THE TIED CARD OF 'laws.FnParsed'. -/
def fnParsedCard : Claim7 := { stood := { row := fnParsedRow, standIns := [], harness := (true, "54c7336f9c073d1eba0d83482932655de2e642ebc280c26d99de298f39bda524"), looks := true }, kinds := [], alts := [], laidByText := true, laidKinds := [.data, .data, .data, .sentinel, .sentinel], laidTests := true, laidLooks := .later }
def FnParsedCardSaid : Prop := Claim7.holds Tryz.pinned (.plain (OpenSpec.ofChange fnParsedSpec)) fnParsedCard

/-- THE TIED CARD OF 'laws.FnParseErrors'. -/
def fnParseErrorsCard : Claim7 := { stood := { row := fnParseErrorsRow, standIns := [], harness := (true, "54c7336f9c073d1eba0d83482932655de2e642ebc280c26d99de298f39bda524"), looks := true }, kinds := [], alts := [], laidByText := true, laidKinds := [.data, .data, .data, .sentinel, .sentinel], laidTests := true, laidLooks := .later }
def FnParseErrorsCardSaid : Prop := Claim7.holds Tryz.pinned (.plain (OpenSpec.ofChange fnParseErrorsSpec)) fnParseErrorsCard

/-- THE TIED CARD OF 'laws.FnNormal'. -/
def fnNormalCard : Claim7 := { stood := { row := fnNormalRow, standIns := [], harness := (true, "54c7336f9c073d1eba0d83482932655de2e642ebc280c26d99de298f39bda524"), looks := true }, kinds := [], alts := [], laidByText := true, laidKinds := [.data, .data, .data, .sentinel, .sentinel], laidTests := true, laidLooks := .later }
def FnNormalCardSaid : Prop := Claim7.holds Tryz.pinned (.plain (OpenSpec.ofChange fnNormalSpec)) fnNormalCard

/-- THE SECOND FORM's CARD OF 'laws.FnExactParseError'. -/
def fnExactParseErrorUptoCard : Claim7 := { stood := { row := fnExactParseErrorUptoRow, standIns := [], harness := (true, "54c7336f9c073d1eba0d83482932655de2e642ebc280c26d99de298f39bda524"), looks := true }, kinds := [], alts := [], laidByText := true, laidKinds := [.data, .data, .data, .sentinel, .sentinel], laidTests := true, laidLooks := .later }
def FnExactParseErrorUptoCardSaid : Prop := Claim7.holds Tryz.pinned (.plain (OpenSpec.upto fnExactParseErrorSpec)) fnExactParseErrorUptoCard

/-- THE SECOND FORM's CARD OF 'laws.FnExactParseExpr'. -/
def fnExactParseExprUptoCard : Claim7 := { stood := { row := fnExactParseExprUptoRow, standIns := [], harness := (true, "54c7336f9c073d1eba0d83482932655de2e642ebc280c26d99de298f39bda524"), looks := true }, kinds := [], alts := [], laidByText := true, laidKinds := [.data, .data, .data, .sentinel, .sentinel], laidTests := true, laidLooks := .later }
def FnExactParseExprUptoCardSaid : Prop := Claim7.holds Tryz.pinned (.plain (OpenSpec.upto fnExactParseExprSpec)) fnExactParseExprUptoCard

/-- THE SECOND FORM's CARD OF 'laws.FnExactNormalizeCode'. -/
def fnExactNormalizeCodeUptoCard : Claim7 := { stood := { row := fnExactNormalizeCodeUptoRow, standIns := [], harness := (true, "54c7336f9c073d1eba0d83482932655de2e642ebc280c26d99de298f39bda524"), looks := true }, kinds := [], alts := [], laidByText := true, laidKinds := [.data, .data, .data, .sentinel, .sentinel], laidTests := true, laidLooks := .later }
def FnExactNormalizeCodeUptoCardSaid : Prop := Claim7.holds Tryz.pinned (.plain (OpenSpec.upto fnExactNormalizeCodeSpec)) fnExactNormalizeCodeUptoCard

/-- THE SECOND FORM's CARD OF 'laws.FnParsed'. -/
def fnParsedUptoCard : Claim7 := { stood := { row := fnParsedUptoRow, standIns := [], harness := (true, "54c7336f9c073d1eba0d83482932655de2e642ebc280c26d99de298f39bda524"), looks := true }, kinds := [], alts := [], laidByText := true, laidKinds := [.data, .data, .data, .sentinel, .sentinel], laidTests := true, laidLooks := .later }
def FnParsedUptoCardSaid : Prop := Claim7.holds Tryz.pinned (.plain (OpenSpec.upto fnParsedSpec)) fnParsedUptoCard

/-- THE SECOND FORM's CARD OF 'laws.FnParseErrors'. -/
def fnParseErrorsUptoCard : Claim7 := { stood := { row := fnParseErrorsUptoRow, standIns := [], harness := (true, "54c7336f9c073d1eba0d83482932655de2e642ebc280c26d99de298f39bda524"), looks := true }, kinds := [], alts := [], laidByText := true, laidKinds := [.data, .data, .data, .sentinel, .sentinel], laidTests := true, laidLooks := .later }
def FnParseErrorsUptoCardSaid : Prop := Claim7.holds Tryz.pinned (.plain (OpenSpec.upto fnParseErrorsSpec)) fnParseErrorsUptoCard

/-- THE SECOND FORM's CARD OF 'laws.FnNormal'. -/
def fnNormalUptoCard : Claim7 := { stood := { row := fnNormalUptoRow, standIns := [], harness := (true, "54c7336f9c073d1eba0d83482932655de2e642ebc280c26d99de298f39bda524"), looks := true }, kinds := [], alts := [], laidByText := true, laidKinds := [.data, .data, .data, .sentinel, .sentinel], laidTests := true, laidLooks := .later }
def FnNormalUptoCardSaid : Prop := Claim7.holds Tryz.pinned (.plain (OpenSpec.upto fnNormalSpec)) fnNormalUptoCard
end Rows
end Go.Proofs.YthbobcapimmnhaaGreatDoor
