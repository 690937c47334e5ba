/-
  NARROWER THAN 'FOR EVERY INPUT', by the rows' own cells (each row's printed sentence says how): FnExactLevelOf: loops · FnExactIsCaptured: loops.
  DERIVED. THE GIVEN ROWS OF THIS SEAT. 12 by the template 'for every input the law returns true; each argument reads behind the call as it read before'; 0 by the template 'total and deterministic' (their statements: YtimjapjfceenkaaTotals.lean).
  GIVEN WITH THE SEED: the statements are not yours to turn. If you find one false, say at which input.
  Laid BY PROGRAM, IN A SANDBOX (cutbox-rows.mjs): the forced cells as the released guide's own fill.sh prints them over the translation 2df4e0b2bf56f8d1… (all of the seat's roots in one cut). By AI agents, Wed Nov 11 2026. No macro, syntax, notation, axiom, sorry.
-/
import Derived.Test.YtimjapjfceenkaaChecked
import GoSem.Claim
import GoSem.ClaimJoined
import GoSem.ClaimMapViews
import Derived.JoinedTies
import Derived.KernelRfl
namespace Go.Proofs.Ytimjapjfceenkaa
/- THE CELL 'sum', in the pinned program and in every row, IS THE sha256 OF THE DUMP (.gsa) THAT YtimjapjfceenkaaProg.lean LOADS. Nothing in Lean hashes anything: it is a label: what it is worth is what the hold of that sum in a sandbox is worth. -/
noncomputable def Try.pinned : Pinned := { name := "ytimjapjfceenkaa", sum := "2df4e0b2bf56f8d187f7fd4a3537d7874a29f4dea38374ca7f8f7df5ebf980eb", checked := Try.checked }
namespace Rows
def none {H : Type} : Left H := { results := [], args := [] }

/-- 'laws.FnExactIsPrintable': WHATEVER THE INPUT: true; the input reads as it did. -/
def fnExactIsPrintableSpec : ChangeSpec := { name := "fnExactIsPrintable", fn := fun _ => fun
  | [d] => { results := [.lit (.bool true)], args := [d] }
  | _ => none }
def fnExactIsPrintableRow : OpenClaim := { program := "ytimjapjfceenkaa", sum := "2df4e0b2bf56f8d187f7fd4a3537d7874a29f4dea38374ca7f8f7df5ebf980eb", func := "loop.example/g00510/laws.FnExactIsPrintable", spec := "fnExactIsPrintable", apart := false }
def FnExactIsPrintableSaid : Prop := fnExactIsPrintableRow.holds Try.pinned (OpenSpec.ofChange fnExactIsPrintableSpec)

/-- ITS FALSE NEIGHBOUR: 'it returns false'. Refute it at one input. -/
def fnExactIsPrintableWrong : ChangeSpec := { name := "fnExactIsPrintable", fn := fun _ => fun
  | [d] => { results := [.lit (.bool false)], args := [d] }
  | _ => none }
def FnExactIsPrintableWrongFalsely : Prop := fnExactIsPrintableRow.holds Try.pinned (OpenSpec.ofChange fnExactIsPrintableWrong)

/-- 'laws.FnExactMix': WHATEVER THE INPUT: true; the input reads as it did. -/
def fnExactMixSpec : ChangeSpec := { name := "fnExactMix", fn := fun _ => fun
  | [d1, d2, d3, d4] => { results := [.lit (.bool true)], args := [d1, d2, d3, d4] }
  | _ => none }
def fnExactMixRow : OpenClaim := { program := "ytimjapjfceenkaa", sum := "2df4e0b2bf56f8d187f7fd4a3537d7874a29f4dea38374ca7f8f7df5ebf980eb", func := "loop.example/g00510/laws.FnExactMix", spec := "fnExactMix", apart := false }
def FnExactMixSaid : Prop := fnExactMixRow.holds Try.pinned (OpenSpec.ofChange fnExactMixSpec)

/-- ITS FALSE NEIGHBOUR: 'it returns false'. Refute it at one input. -/
def fnExactMixWrong : ChangeSpec := { name := "fnExactMix", fn := fun _ => fun
  | [d1, d2, d3, d4] => { results := [.lit (.bool false)], args := [d1, d2, d3, d4] }
  | _ => none }
def FnExactMixWrongFalsely : Prop := fnExactMixRow.holds Try.pinned (OpenSpec.ofChange fnExactMixWrong)

/-- 'laws.FnExactFileContent': WHATEVER THE INPUT: true; the input reads as it did. -/
def fnExactFileContentSpec : ChangeSpec := { name := "fnExactFileContent", fn := fun _ => fun
  | [d1, d2] => { results := [.lit (.bool true)], args := [d1, d2] }
  | _ => none }
def fnExactFileContentRow : OpenClaim := { program := "ytimjapjfceenkaa", sum := "2df4e0b2bf56f8d187f7fd4a3537d7874a29f4dea38374ca7f8f7df5ebf980eb", func := "loop.example/g00510/laws.FnExactFileContent", spec := "fnExactFileContent", apart := false }
def FnExactFileContentSaid : Prop := fnExactFileContentRow.holds Try.pinned (OpenSpec.ofChange fnExactFileContentSpec)

/-- ITS FALSE NEIGHBOUR: 'it returns false'. Refute it at one input. -/
def fnExactFileContentWrong : ChangeSpec := { name := "fnExactFileContent", fn := fun _ => fun
  | [d1, d2] => { results := [.lit (.bool false)], args := [d1, d2] }
  | _ => none }
def FnExactFileContentWrongFalsely : Prop := fnExactFileContentRow.holds Try.pinned (OpenSpec.ofChange fnExactFileContentWrong)

/-- 'laws.FnExactLevelOf': WHATEVER THE INPUT: true; the input reads as it did. -/
def fnExactLevelOfSpec : ChangeSpec := { name := "fnExactLevelOf", fn := fun _ => fun
  | [d] => { results := [.lit (.bool true)], args := [d] }
  | _ => none }
def fnExactLevelOfRow : OpenClaim := { program := "ytimjapjfceenkaa", sum := "2df4e0b2bf56f8d187f7fd4a3537d7874a29f4dea38374ca7f8f7df5ebf980eb", func := "loop.example/g00510/laws.FnExactLevelOf", spec := "fnExactLevelOf", recurses := true, loops := true, apart := false }
def FnExactLevelOfSaid : Prop := fnExactLevelOfRow.holds Try.pinned (OpenSpec.ofChange fnExactLevelOfSpec)

/-- ITS FALSE NEIGHBOUR: 'it returns false'. Refute it at one input. -/
def fnExactLevelOfWrong : ChangeSpec := { name := "fnExactLevelOf", fn := fun _ => fun
  | [d] => { results := [.lit (.bool false)], args := [d] }
  | _ => none }
def FnExactLevelOfWrongFalsely : Prop := fnExactLevelOfRow.holds Try.pinned (OpenSpec.ofChange fnExactLevelOfWrong)

/-- 'laws.FnExactCellIndex': WHATEVER THE INPUT: true; the input reads as it did. -/
def fnExactCellIndexSpec : ChangeSpec := { name := "fnExactCellIndex", fn := fun _ => fun
  | [d1, d2] => { results := [.lit (.bool true)], args := [d1, d2] }
  | _ => none }
def fnExactCellIndexRow : OpenClaim := { program := "ytimjapjfceenkaa", sum := "2df4e0b2bf56f8d187f7fd4a3537d7874a29f4dea38374ca7f8f7df5ebf980eb", func := "loop.example/g00510/laws.FnExactCellIndex", spec := "fnExactCellIndex", apart := false }
def FnExactCellIndexSaid : Prop := fnExactCellIndexRow.holds Try.pinned (OpenSpec.ofChange fnExactCellIndexSpec)

/-- ITS FALSE NEIGHBOUR: 'it returns false'. Refute it at one input. -/
def fnExactCellIndexWrong : ChangeSpec := { name := "fnExactCellIndex", fn := fun _ => fun
  | [d1, d2] => { results := [.lit (.bool false)], args := [d1, d2] }
  | _ => none }
def FnExactCellIndexWrongFalsely : Prop := fnExactCellIndexRow.holds Try.pinned (OpenSpec.ofChange fnExactCellIndexWrong)

/-- 'laws.FnExactEqualNotebook': WHATEVER THE INPUT: true; the input reads as it did. -/
def fnExactEqualNotebookSpec : ChangeSpec := { name := "fnExactEqualNotebook", fn := fun _ => fun
  | [d1, d2] => { results := [.lit (.bool true)], args := [d1, d2] }
  | _ => none }
def fnExactEqualNotebookRow : OpenClaim := { program := "ytimjapjfceenkaa", sum := "2df4e0b2bf56f8d187f7fd4a3537d7874a29f4dea38374ca7f8f7df5ebf980eb", func := "loop.example/g00510/laws.FnExactEqualNotebook", spec := "fnExactEqualNotebook", apart := false }
def FnExactEqualNotebookSaid : Prop := fnExactEqualNotebookRow.holds Try.pinned (OpenSpec.ofChange fnExactEqualNotebookSpec)

/-- ITS FALSE NEIGHBOUR: 'it returns false'. Refute it at one input. -/
def fnExactEqualNotebookWrong : ChangeSpec := { name := "fnExactEqualNotebook", fn := fun _ => fun
  | [d1, d2] => { results := [.lit (.bool false)], args := [d1, d2] }
  | _ => none }
def FnExactEqualNotebookWrongFalsely : Prop := fnExactEqualNotebookRow.holds Try.pinned (OpenSpec.ofChange fnExactEqualNotebookWrong)

/-- 'laws.FnExactIsValidCell': WHATEVER THE INPUT: true; the input reads as it did. -/
def fnExactIsValidCellSpec : ChangeSpec := { name := "fnExactIsValidCell", fn := fun _ => fun
  | [d] => { results := [.lit (.bool true)], args := [d] }
  | _ => none }
def fnExactIsValidCellRow : OpenClaim := { program := "ytimjapjfceenkaa", sum := "2df4e0b2bf56f8d187f7fd4a3537d7874a29f4dea38374ca7f8f7df5ebf980eb", func := "loop.example/g00510/laws.FnExactIsValidCell", spec := "fnExactIsValidCell", apart := false }
def FnExactIsValidCellSaid : Prop := fnExactIsValidCellRow.holds Try.pinned (OpenSpec.ofChange fnExactIsValidCellSpec)

/-- ITS FALSE NEIGHBOUR: 'it returns false'. Refute it at one input. -/
def fnExactIsValidCellWrong : ChangeSpec := { name := "fnExactIsValidCell", fn := fun _ => fun
  | [d] => { results := [.lit (.bool false)], args := [d] }
  | _ => none }
def FnExactIsValidCellWrongFalsely : Prop := fnExactIsValidCellRow.holds Try.pinned (OpenSpec.ofChange fnExactIsValidCellWrong)

/-- 'laws.FnExactIsCaptured': WHATEVER THE INPUT: true; the input reads as it did. -/
def fnExactIsCapturedSpec : ChangeSpec := { name := "fnExactIsCaptured", fn := fun _ => fun
  | [d1, d2, d3] => { results := [.lit (.bool true)], args := [d1, d2, d3] }
  | _ => none }
def fnExactIsCapturedRow : OpenClaim := { program := "ytimjapjfceenkaa", sum := "2df4e0b2bf56f8d187f7fd4a3537d7874a29f4dea38374ca7f8f7df5ebf980eb", func := "loop.example/g00510/laws.FnExactIsCaptured", spec := "fnExactIsCaptured", unfollowed := true, recurses := true, loops := true, apart := false }
def FnExactIsCapturedSaid : Prop := fnExactIsCapturedRow.holds Try.pinned (OpenSpec.ofChange fnExactIsCapturedSpec)

/-- ITS FALSE NEIGHBOUR: 'it returns false'. Refute it at one input. -/
def fnExactIsCapturedWrong : ChangeSpec := { name := "fnExactIsCaptured", fn := fun _ => fun
  | [d1, d2, d3] => { results := [.lit (.bool false)], args := [d1, d2, d3] }
  | _ => none }
def FnExactIsCapturedWrongFalsely : Prop := fnExactIsCapturedRow.holds Try.pinned (OpenSpec.ofChange fnExactIsCapturedWrong)

/-- 'laws.FnExactTickClock': WHATEVER THE INPUT: true; the input reads as it did. -/
def fnExactTickClockSpec : ChangeSpec := { name := "fnExactTickClock", fn := fun _ => fun
  | [d] => { results := [.lit (.bool true)], args := [d] }
  | _ => none }
def fnExactTickClockRow : OpenClaim := { program := "ytimjapjfceenkaa", sum := "2df4e0b2bf56f8d187f7fd4a3537d7874a29f4dea38374ca7f8f7df5ebf980eb", func := "loop.example/g00510/laws.FnExactTickClock", spec := "fnExactTickClock", apart := false }
def FnExactTickClockSaid : Prop := fnExactTickClockRow.holds Try.pinned (OpenSpec.ofChange fnExactTickClockSpec)

/-- ITS FALSE NEIGHBOUR: 'it returns false'. Refute it at one input. -/
def fnExactTickClockWrong : ChangeSpec := { name := "fnExactTickClock", fn := fun _ => fun
  | [d] => { results := [.lit (.bool false)], args := [d] }
  | _ => none }
def FnExactTickClockWrongFalsely : Prop := fnExactTickClockRow.holds Try.pinned (OpenSpec.ofChange fnExactTickClockWrong)

/-- 'laws.FnExactIsValidWorld': WHATEVER THE INPUT: true; the input reads as it did. -/
def fnExactIsValidWorldSpec : ChangeSpec := { name := "fnExactIsValidWorld", fn := fun _ => fun
  | [d] => { results := [.lit (.bool true)], args := [d] }
  | _ => none }
def fnExactIsValidWorldRow : OpenClaim := { program := "ytimjapjfceenkaa", sum := "2df4e0b2bf56f8d187f7fd4a3537d7874a29f4dea38374ca7f8f7df5ebf980eb", func := "loop.example/g00510/laws.FnExactIsValidWorld", spec := "fnExactIsValidWorld", apart := false }
def FnExactIsValidWorldSaid : Prop := fnExactIsValidWorldRow.holds Try.pinned (OpenSpec.ofChange fnExactIsValidWorldSpec)

/-- ITS FALSE NEIGHBOUR: 'it returns false'. Refute it at one input. -/
def fnExactIsValidWorldWrong : ChangeSpec := { name := "fnExactIsValidWorld", fn := fun _ => fun
  | [d] => { results := [.lit (.bool false)], args := [d] }
  | _ => none }
def FnExactIsValidWorldWrongFalsely : Prop := fnExactIsValidWorldRow.holds Try.pinned (OpenSpec.ofChange fnExactIsValidWorldWrong)

/-- 'laws.FnWorld': WHATEVER THE INPUT: true; the input reads as it did. -/
def fnWorldSpec : ChangeSpec := { name := "fnWorld", fn := fun _ => fun
  | [d] => { results := [.lit (.bool true)], args := [d] }
  | _ => none }
def fnWorldRow : OpenClaim := { program := "ytimjapjfceenkaa", sum := "2df4e0b2bf56f8d187f7fd4a3537d7874a29f4dea38374ca7f8f7df5ebf980eb", func := "loop.example/g00510/laws.FnWorld", spec := "fnWorld", apart := false }
def FnWorldSaid : Prop := fnWorldRow.holds Try.pinned (OpenSpec.ofChange fnWorldSpec)

/-- ITS FALSE NEIGHBOUR: 'it returns false'. Refute it at one input. -/
def fnWorldWrong : ChangeSpec := { name := "fnWorld", fn := fun _ => fun
  | [d] => { results := [.lit (.bool false)], args := [d] }
  | _ => none }
def FnWorldWrongFalsely : Prop := fnWorldRow.holds Try.pinned (OpenSpec.ofChange fnWorldWrong)

/-- 'laws.FnExactSetFile': WHATEVER THE INPUT: true; the input reads as it did. -/
def fnExactSetFileSpec : ChangeSpec := { name := "fnExactSetFile", fn := fun _ => fun
  | [d1, d2, d3] => { results := [.lit (.bool true)], args := [d1, d2, d3] }
  | _ => none }
def fnExactSetFileRow : OpenClaim := { program := "ytimjapjfceenkaa", sum := "2df4e0b2bf56f8d187f7fd4a3537d7874a29f4dea38374ca7f8f7df5ebf980eb", func := "loop.example/g00510/laws.FnExactSetFile", spec := "fnExactSetFile", apart := false }
def FnExactSetFileSaid : Prop := fnExactSetFileRow.holds Try.pinned (OpenSpec.ofChange fnExactSetFileSpec)

/-- ITS FALSE NEIGHBOUR: 'it returns false'. Refute it at one input. -/
def fnExactSetFileWrong : ChangeSpec := { name := "fnExactSetFile", fn := fun _ => fun
  | [d1, d2, d3] => { results := [.lit (.bool false)], args := [d1, d2, d3] }
  | _ => none }
def FnExactSetFileWrongFalsely : Prop := fnExactSetFileRow.holds Try.pinned (OpenSpec.ofChange fnExactSetFileWrong)

/- THE SECOND FORM. 'bulk': how many values and letters a reading holds, each counted each time it is reached (what is shared counts as often as it is met; a slice's spare places count too). A statement '..UptoSaid' is the law's where the arguments, and the package variables that the reading takes, are together of bulk at most 1048576: NARROWER than '..Said'. Prove '..Said' where nothing that the law and all that it calls make is longer than what came in: it says more and counts as full. Else prove '..UptoSaid'. A law counts once. -/
mutual
def uptoBulk {H : Type} : DataW H → Nat
  | .lit (.string bytes) => bytes.length + 1
  | .lit _ => 1
  | .nil => 1
  | .ptr d => uptoBulk d + 1
  | .slice elems spare => uptoBulkAll elems + uptoBulkAll spare + 1
  | .agg parts => uptoBulkAll parts + 1
  | .iface _ d => uptoBulk d + 1
  | .map entries => uptoBulkEntries entries + 1
  | .held _ => 1
def uptoBulkAll {H : Type} : List (DataW H) → Nat
  | [] => 0
  | d :: r => uptoBulk d + uptoBulkAll r
def uptoBulkEntries {H : Type} : List (Lit × DataW H) → Nat
  | [] => 0
  | x :: r => uptoBulkEntry x + uptoBulkEntries r
def uptoBulkEntry {H : Type} : Lit × DataW H → Nat
  | (.string bytes, d) => bytes.length + uptoBulk d + 1
  | (_, d) => uptoBulk d + 1
 end
def uptoSmall : (H : Type) → List (DataW H) → Bool := fun _ ds => decide (uptoBulkAll ds ≤ 1048576)
def OpenSpec.upto (s : _root_.Go.ChangeSpec) : _root_.Go.OpenSpec := { _root_.Go.OpenSpec.ofChange s with cond := some uptoSmall }

/-- 'laws.FnExactIsPrintable', WHERE WHAT IT READS IS OF BULK AT MOST 1048576: true; the input reads as it did. -/
def fnExactIsPrintableUptoRow : OpenClaim := { program := "ytimjapjfceenkaa", sum := "2df4e0b2bf56f8d187f7fd4a3537d7874a29f4dea38374ca7f8f7df5ebf980eb", func := "loop.example/g00510/laws.FnExactIsPrintable", spec := "fnExactIsPrintable", apart := false, narrowed := true }
def FnExactIsPrintableUptoSaid : Prop := fnExactIsPrintableUptoRow.holds Try.pinned (OpenSpec.upto fnExactIsPrintableSpec)

/-- 'laws.FnExactMix', WHERE WHAT IT READS IS OF BULK AT MOST 1048576: true; the input reads as it did. -/
def fnExactMixUptoRow : OpenClaim := { program := "ytimjapjfceenkaa", sum := "2df4e0b2bf56f8d187f7fd4a3537d7874a29f4dea38374ca7f8f7df5ebf980eb", func := "loop.example/g00510/laws.FnExactMix", spec := "fnExactMix", apart := false, narrowed := true }
def FnExactMixUptoSaid : Prop := fnExactMixUptoRow.holds Try.pinned (OpenSpec.upto fnExactMixSpec)

/-- 'laws.FnExactFileContent', WHERE WHAT IT READS IS OF BULK AT MOST 1048576: true; the input reads as it did. -/
def fnExactFileContentUptoRow : OpenClaim := { program := "ytimjapjfceenkaa", sum := "2df4e0b2bf56f8d187f7fd4a3537d7874a29f4dea38374ca7f8f7df5ebf980eb", func := "loop.example/g00510/laws.FnExactFileContent", spec := "fnExactFileContent", apart := false, narrowed := true }
def FnExactFileContentUptoSaid : Prop := fnExactFileContentUptoRow.holds Try.pinned (OpenSpec.upto fnExactFileContentSpec)

/-- 'laws.FnExactLevelOf', WHERE WHAT IT READS IS OF BULK AT MOST 1048576: true; the input reads as it did. -/
def fnExactLevelOfUptoRow : OpenClaim := { program := "ytimjapjfceenkaa", sum := "2df4e0b2bf56f8d187f7fd4a3537d7874a29f4dea38374ca7f8f7df5ebf980eb", func := "loop.example/g00510/laws.FnExactLevelOf", spec := "fnExactLevelOf", recurses := true, loops := true, apart := false, narrowed := true }
def FnExactLevelOfUptoSaid : Prop := fnExactLevelOfUptoRow.holds Try.pinned (OpenSpec.upto fnExactLevelOfSpec)

/-- 'laws.FnExactCellIndex', WHERE WHAT IT READS IS OF BULK AT MOST 1048576: true; the input reads as it did. -/
def fnExactCellIndexUptoRow : OpenClaim := { program := "ytimjapjfceenkaa", sum := "2df4e0b2bf56f8d187f7fd4a3537d7874a29f4dea38374ca7f8f7df5ebf980eb", func := "loop.example/g00510/laws.FnExactCellIndex", spec := "fnExactCellIndex", apart := false, narrowed := true }
def FnExactCellIndexUptoSaid : Prop := fnExactCellIndexUptoRow.holds Try.pinned (OpenSpec.upto fnExactCellIndexSpec)

/-- 'laws.FnExactEqualNotebook', WHERE WHAT IT READS IS OF BULK AT MOST 1048576: true; the input reads as it did. -/
def fnExactEqualNotebookUptoRow : OpenClaim := { program := "ytimjapjfceenkaa", sum := "2df4e0b2bf56f8d187f7fd4a3537d7874a29f4dea38374ca7f8f7df5ebf980eb", func := "loop.example/g00510/laws.FnExactEqualNotebook", spec := "fnExactEqualNotebook", apart := false, narrowed := true }
def FnExactEqualNotebookUptoSaid : Prop := fnExactEqualNotebookUptoRow.holds Try.pinned (OpenSpec.upto fnExactEqualNotebookSpec)

/-- 'laws.FnExactIsValidCell', WHERE WHAT IT READS IS OF BULK AT MOST 1048576: true; the input reads as it did. -/
def fnExactIsValidCellUptoRow : OpenClaim := { program := "ytimjapjfceenkaa", sum := "2df4e0b2bf56f8d187f7fd4a3537d7874a29f4dea38374ca7f8f7df5ebf980eb", func := "loop.example/g00510/laws.FnExactIsValidCell", spec := "fnExactIsValidCell", apart := false, narrowed := true }
def FnExactIsValidCellUptoSaid : Prop := fnExactIsValidCellUptoRow.holds Try.pinned (OpenSpec.upto fnExactIsValidCellSpec)

/-- 'laws.FnExactIsCaptured', WHERE WHAT IT READS IS OF BULK AT MOST 1048576: true; the input reads as it did. -/
def fnExactIsCapturedUptoRow : OpenClaim := { program := "ytimjapjfceenkaa", sum := "2df4e0b2bf56f8d187f7fd4a3537d7874a29f4dea38374ca7f8f7df5ebf980eb", func := "loop.example/g00510/laws.FnExactIsCaptured", spec := "fnExactIsCaptured", unfollowed := true, recurses := true, loops := true, apart := false, narrowed := true }
def FnExactIsCapturedUptoSaid : Prop := fnExactIsCapturedUptoRow.holds Try.pinned (OpenSpec.upto fnExactIsCapturedSpec)

/-- 'laws.FnExactTickClock', WHERE WHAT IT READS IS OF BULK AT MOST 1048576: true; the input reads as it did. -/
def fnExactTickClockUptoRow : OpenClaim := { program := "ytimjapjfceenkaa", sum := "2df4e0b2bf56f8d187f7fd4a3537d7874a29f4dea38374ca7f8f7df5ebf980eb", func := "loop.example/g00510/laws.FnExactTickClock", spec := "fnExactTickClock", apart := false, narrowed := true }
def FnExactTickClockUptoSaid : Prop := fnExactTickClockUptoRow.holds Try.pinned (OpenSpec.upto fnExactTickClockSpec)

/-- 'laws.FnExactIsValidWorld', WHERE WHAT IT READS IS OF BULK AT MOST 1048576: true; the input reads as it did. -/
def fnExactIsValidWorldUptoRow : OpenClaim := { program := "ytimjapjfceenkaa", sum := "2df4e0b2bf56f8d187f7fd4a3537d7874a29f4dea38374ca7f8f7df5ebf980eb", func := "loop.example/g00510/laws.FnExactIsValidWorld", spec := "fnExactIsValidWorld", apart := false, narrowed := true }
def FnExactIsValidWorldUptoSaid : Prop := fnExactIsValidWorldUptoRow.holds Try.pinned (OpenSpec.upto fnExactIsValidWorldSpec)

/-- 'laws.FnWorld', WHERE WHAT IT READS IS OF BULK AT MOST 1048576: true; the input reads as it did. -/
def fnWorldUptoRow : OpenClaim := { program := "ytimjapjfceenkaa", sum := "2df4e0b2bf56f8d187f7fd4a3537d7874a29f4dea38374ca7f8f7df5ebf980eb", func := "loop.example/g00510/laws.FnWorld", spec := "fnWorld", apart := false, narrowed := true }
def FnWorldUptoSaid : Prop := fnWorldUptoRow.holds Try.pinned (OpenSpec.upto fnWorldSpec)

/-- 'laws.FnExactSetFile', WHERE WHAT IT READS IS OF BULK AT MOST 1048576: true; the input reads as it did. -/
def fnExactSetFileUptoRow : OpenClaim := { program := "ytimjapjfceenkaa", sum := "2df4e0b2bf56f8d187f7fd4a3537d7874a29f4dea38374ca7f8f7df5ebf980eb", func := "loop.example/g00510/laws.FnExactSetFile", spec := "fnExactSetFile", apart := false, narrowed := true }
def FnExactSetFileUptoSaid : Prop := fnExactSetFileUptoRow.holds Try.pinned (OpenSpec.upto fnExactSetFileSpec)

end Rows
end Go.Proofs.Ytimjapjfceenkaa
