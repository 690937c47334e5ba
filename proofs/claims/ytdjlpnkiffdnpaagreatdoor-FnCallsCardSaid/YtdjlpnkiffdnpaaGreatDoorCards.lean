/-
  DERIVED. GIVEN WITH THE SEED: THE CARDS: each row of YtdjlpnkiffdnpaaGreatDoorRows.lean that lists a variable, with what it lists TIED to the program's text (the seventh form; the later family's looks); each row that meets fmt, with fmt's text TOLD by the authors' own Lean function (tested against real Go, not proved from fmt's source: count such statements apart). THE CARD IS WHAT COUNTS. Prove the row's statement (the work); the ties are given (YtdjlpnkiffdnpaaGreatDoorTie.lean); close each card by the builder's one call (the guide's Derived/Test/ToyasCard.lean, 'card_holds'). Laid BY PROGRAM, IN A SANDBOX (cutbox-door.mjs). By AI agents, Wed Nov 11 2026. No macro, syntax, notation, axiom, sorry.
-/
import Derived.Test.YtdjlpnkiffdnpaaGreatDoorRows
import GoSem.ClaimSeven
namespace Go.Proofs.YtdjlpnkiffdnpaaGreatDoor
namespace Rows

/-- THE TIED CARD OF 'laws.FnCalls'. -/
def fnCallsCard : Claim7 := { stood := { row := fnCallsRow, standIns := [], harness := (true, "131e0eec2a42f6a033fbf34dfe0f3970f05b8a6cd45af69777ee075626a6fc95"), looks := false }, kinds := [], alts := [], laidByText := true, laidKinds := [.data, .pinned], laidTests := true, laidLooks := .later }
def FnCallsCardSaid : Prop := Claim7.holds Tryz.pinned (.plain (OpenSpec.ofChange fnCallsSpec)) fnCallsCard

/-- THE TIED CARD OF 'laws.FnExactCallFunction'. -/
def fnExactCallFunctionCard : Claim7 := { stood := { row := fnExactCallFunctionRow, standIns := [], harness := (true, "131e0eec2a42f6a033fbf34dfe0f3970f05b8a6cd45af69777ee075626a6fc95"), looks := false }, kinds := [], alts := [], laidByText := true, laidKinds := [.data, .pinned], laidTests := true, laidLooks := .later }
def FnExactCallFunctionCardSaid : Prop := Claim7.holds Tryz.pinned (.plain (OpenSpec.ofChange fnExactCallFunctionSpec)) fnExactCallFunctionCard

/-- THE SECOND FORM's CARD OF 'laws.FnCalls'. -/
def fnCallsUptoCard : Claim7 := { stood := { row := fnCallsUptoRow, standIns := [], harness := (true, "131e0eec2a42f6a033fbf34dfe0f3970f05b8a6cd45af69777ee075626a6fc95"), looks := false }, kinds := [], alts := [], laidByText := true, laidKinds := [.data, .pinned], laidTests := true, laidLooks := .later }
def FnCallsUptoCardSaid : Prop := Claim7.holds Tryz.pinned (.plain (OpenSpec.upto fnCallsSpec)) fnCallsUptoCard

/-- THE SECOND FORM's CARD OF 'laws.FnExactCallFunction'. -/
def fnExactCallFunctionUptoCard : Claim7 := { stood := { row := fnExactCallFunctionUptoRow, standIns := [], harness := (true, "131e0eec2a42f6a033fbf34dfe0f3970f05b8a6cd45af69777ee075626a6fc95"), looks := false }, kinds := [], alts := [], laidByText := true, laidKinds := [.data, .pinned], laidTests := true, laidLooks := .later }
def FnExactCallFunctionUptoCardSaid : Prop := Claim7.holds Tryz.pinned (.plain (OpenSpec.upto fnExactCallFunctionSpec)) fnExactCallFunctionUptoCard
end Rows
end Go.Proofs.YtdjlpnkiffdnpaaGreatDoor
