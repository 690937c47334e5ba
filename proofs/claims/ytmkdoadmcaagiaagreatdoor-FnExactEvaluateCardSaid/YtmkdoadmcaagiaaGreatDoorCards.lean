/-
  DERIVED. GIVEN WITH THE SEED: THE CARDS: each row of YtmkdoadmcaagiaaGreatDoorRows.lean that lists a variable, with what it lists TIED to the program's text (the seventh form; the later family's looks); each row that meets fmt, with fmt's text TOLD by the authors' own Lean function (tested against real Go, not proved from fmt's source: count such statements apart). THE CARD IS WHAT COUNTS. Prove the row's statement (the work); the ties are given (YtmkdoadmcaagiaaGreatDoorTie.lean); close each card by the builder's one call (the guide's Derived/Test/ToyasCard.lean, 'card_holds'). Laid BY PROGRAM, IN A SANDBOX (cutbox-door.mjs). By AI agents, Wed Nov 11 2026. No macro, syntax, notation, axiom, sorry.
-/
import Derived.Test.YtmkdoadmcaagiaaGreatDoorRows
import GoSem.ClaimSeven
namespace Go.Proofs.YtmkdoadmcaagiaaGreatDoor
namespace Rows

/-- THE TIED CARD OF 'laws.FnNoEffects'. -/
def fnNoEffectsCard : Claim7 := { stood := { row := fnNoEffectsRow, standIns := [], harness := (true, "29473457a5ade588f205fe3506db5d423aa1b2bb77c9b49b57253c9f1857ef22"), looks := false }, kinds := [], alts := [], laidByText := true, laidKinds := [.data, .pinned], laidTests := true, laidLooks := .later }
def FnNoEffectsCardSaid : Prop := Claim7.holds Tryz.pinned (.plain (OpenSpec.ofChange fnNoEffectsSpec)) fnNoEffectsCard

/-- THE TIED CARD OF 'laws.FnExactEvaluate'. -/
def fnExactEvaluateCard : Claim7 := { stood := { row := fnExactEvaluateRow, standIns := [], harness := (true, "29473457a5ade588f205fe3506db5d423aa1b2bb77c9b49b57253c9f1857ef22"), looks := false }, kinds := [], alts := [], laidByText := true, laidKinds := [.data, .pinned], laidTests := true, laidLooks := .later }
def FnExactEvaluateCardSaid : Prop := Claim7.holds Tryz.pinned (.plain (OpenSpec.ofChange fnExactEvaluateSpec)) fnExactEvaluateCard

/-- THE SECOND FORM's CARD OF 'laws.FnNoEffects'. -/
def fnNoEffectsUptoCard : Claim7 := { stood := { row := fnNoEffectsUptoRow, standIns := [], harness := (true, "29473457a5ade588f205fe3506db5d423aa1b2bb77c9b49b57253c9f1857ef22"), looks := false }, kinds := [], alts := [], laidByText := true, laidKinds := [.data, .pinned], laidTests := true, laidLooks := .later }
def FnNoEffectsUptoCardSaid : Prop := Claim7.holds Tryz.pinned (.plain (OpenSpec.upto fnNoEffectsSpec)) fnNoEffectsUptoCard

/-- THE SECOND FORM's CARD OF 'laws.FnExactEvaluate'. -/
def fnExactEvaluateUptoCard : Claim7 := { stood := { row := fnExactEvaluateUptoRow, standIns := [], harness := (true, "29473457a5ade588f205fe3506db5d423aa1b2bb77c9b49b57253c9f1857ef22"), looks := false }, kinds := [], alts := [], laidByText := true, laidKinds := [.data, .pinned], laidTests := true, laidLooks := .later }
def FnExactEvaluateUptoCardSaid : Prop := Claim7.holds Tryz.pinned (.plain (OpenSpec.upto fnExactEvaluateSpec)) fnExactEvaluateUptoCard
end Rows
end Go.Proofs.YtmkdoadmcaagiaaGreatDoor
