/-
  DERIVED. GIVEN WITH THE SEED: THE CARDS: each row of YtchkdijelkdpaaaGreatDoorRows.lean that lists a variable, with what it lists TIED to the program's text (the seventh form; the later family's looks); each row that meets fmt, with fmt's text TOLD by the authors' own Lean function (tested against real Go, not proved from fmt's source: count such statements apart). THE CARD IS WHAT COUNTS. Prove the row's statement (the work); the ties are given (YtchkdijelkdpaaaGreatDoorTie.lean); close each card by the builder's one call (the guide's Derived/Test/ToyasCard.lean, 'card_holds'). Laid BY PROGRAM, IN A SANDBOX (cutbox-door.mjs). By AI agents, Wed Nov 11 2026. No macro, syntax, notation, axiom, sorry.
-/
import Derived.Test.YtchkdijelkdpaaaGreatDoorRows
import GoSem.ClaimSeven
namespace Go.Proofs.YtchkdijelkdpaaaGreatDoor
namespace Rows

/-- THE TIED CARD OF 'laws.FnOrigins'. -/
def fnOriginsCard : Claim7 := { stood := { row := fnOriginsRow, standIns := [], harness := (true, "92233dd4f9a1ab3c6b4de4576aafc97e74e4a73b0fe0a04b99156585672d0288"), looks := false }, kinds := [], alts := [], laidByText := true, laidKinds := [.data, .pinned], laidTests := true, laidLooks := .later }
def FnOriginsCardSaid : Prop := Claim7.holds Tryz.pinned (.plain (OpenSpec.ofChange fnOriginsSpec)) fnOriginsCard

/-- THE SECOND FORM's CARD OF 'laws.FnOrigins'. -/
def fnOriginsUptoCard : Claim7 := { stood := { row := fnOriginsUptoRow, standIns := [], harness := (true, "92233dd4f9a1ab3c6b4de4576aafc97e74e4a73b0fe0a04b99156585672d0288"), looks := false }, kinds := [], alts := [], laidByText := true, laidKinds := [.data, .pinned], laidTests := true, laidLooks := .later }
def FnOriginsUptoCardSaid : Prop := Claim7.holds Tryz.pinned (.plain (OpenSpec.upto fnOriginsSpec)) fnOriginsUptoCard
end Rows
end Go.Proofs.YtchkdijelkdpaaaGreatDoor
