/-
  DERIVED. GIVEN WITH THE SEED: THE CARDS: each row of YthbobcapimmnhaaDoorRows.lean that lists a variable, with what it lists TIED to the program's text (the seventh form; the later family's looks); each row that meets fmt, with fmt's text TOLD by the authors' own Lean function (tested against real Go, not proved from fmt's source: count such statements apart). THE CARD IS WHAT COUNTS. Prove the row's statement (the work); the ties are given (YthbobcapimmnhaaDoorTie.lean); close each card by the builder's one call (the guide's Derived/Test/ToyasCard.lean, 'card_holds'). Laid BY PROGRAM, IN A SANDBOX (cutbox-door.mjs). By AI agents, Wed Nov 11 2026. No macro, syntax, notation, axiom, sorry.
-/
import Derived.Test.YthbobcapimmnhaaDoorRows
import GoSem.ClaimSeven
namespace Go.Proofs.YthbobcapimmnhaaDoor
namespace Rows

/-- THE TIED CARD OF 'laws.FnKeepAdd'. -/
def fnKeepAddCard : Claim7 := { stood := { row := fnKeepAddRow, standIns := [], harness := (true, "666162a02065ecc8dbfd9f3fae5b1282a3d50fee34cad74125b6f2c2906a49c7"), looks := false }, kinds := [], alts := [], laidByText := true, laidKinds := [.data, .pinned], laidTests := true, laidLooks := .later }
def FnKeepAddCardSaid : Prop := Claim7.holds Tryd.pinned (.plain (OpenSpec.ofChange fnKeepAddSpec)) fnKeepAddCard

/-- THE SECOND FORM's CARD OF 'laws.FnKeepAdd'. -/
def fnKeepAddUptoCard : Claim7 := { stood := { row := fnKeepAddUptoRow, standIns := [], harness := (true, "666162a02065ecc8dbfd9f3fae5b1282a3d50fee34cad74125b6f2c2906a49c7"), looks := false }, kinds := [], alts := [], laidByText := true, laidKinds := [.data, .pinned], laidTests := true, laidLooks := .later }
def FnKeepAddUptoCardSaid : Prop := Claim7.holds Tryd.pinned (.plain (OpenSpec.upto fnKeepAddSpec)) fnKeepAddUptoCard
end Rows
end Go.Proofs.YthbobcapimmnhaaDoor
