/-
  NARROWER THAN 'FOR EVERY INPUT', by the rows' own cells (each row's printed sentence says how): FnExactApplyOperator: loops · FnExactAddColumn: loops · FnExactFindRead: loops.
  DERIVED. THE GIVEN ROWS OF THIS SEAT. 7 by the template 'for every input the law returns true; each argument reads behind the call as it read before'; 0 by the template 'total and deterministic' (their statements: YtbcfnggjagchiaaTotals.lean).
  GIVEN WITH THE SEED: the statements are not yours to turn. If you find one false, say at which input.
  Laid BY PROGRAM, IN A SANDBOX (cutbox-rows.mjs): the forced cells as the released guide's own fill.sh prints them over the translation 1c5ebd198e9def7c… (all of the seat's roots in one cut). By AI agents, Wed Nov 11 2026. No macro, syntax, notation, axiom, sorry.
-/
import Derived.Test.YtbcfnggjagchiaaChecked
import GoSem.Claim
import GoSem.ClaimJoined
import GoSem.ClaimMapViews
import Derived.JoinedTies
import Derived.KernelRfl
namespace Go.Proofs.Ytbcfnggjagchiaa
/- THE CELL 'sum', in the pinned program and in every row, IS THE sha256 OF THE DUMP (.gsa) THAT YtbcfnggjagchiaaProg.lean LOADS. Nothing in Lean hashes anything: it is a label: what it is worth is what the hold of that sum in a sandbox is worth. -/
noncomputable def Try.pinned : Pinned := { name := "ytbcfnggjagchiaa", sum := "1c5ebd198e9def7c733892f8cf8ebc68d78eb59785294e97990f37d553f8a2dd", checked := Try.checked }
namespace Rows
def none {H : Type} : Left H := { results := [], args := [] }

/-- 'laws.FnExactApplyOperator': WHATEVER THE INPUT: true; the input reads as it did. -/
def fnExactApplyOperatorSpec : ChangeSpec := { name := "fnExactApplyOperator", fn := fun _ => fun
  | [d1, d2, d3] => { results := [.lit (.bool true)], args := [d1, d2, d3] }
  | _ => none }
def fnExactApplyOperatorRow : OpenClaim := { program := "ytbcfnggjagchiaa", sum := "1c5ebd198e9def7c733892f8cf8ebc68d78eb59785294e97990f37d553f8a2dd", func := "loop.example/g00510/laws.FnExactApplyOperator", spec := "fnExactApplyOperator", recurses := true, loops := true, apart := false }
def FnExactApplyOperatorSaid : Prop := fnExactApplyOperatorRow.holds Try.pinned (OpenSpec.ofChange fnExactApplyOperatorSpec)

/-- ITS FALSE NEIGHBOUR: 'it returns false'. Refute it at one input. -/
def fnExactApplyOperatorWrong : ChangeSpec := { name := "fnExactApplyOperator", fn := fun _ => fun
  | [d1, d2, d3] => { results := [.lit (.bool false)], args := [d1, d2, d3] }
  | _ => none }
def FnExactApplyOperatorWrongFalsely : Prop := fnExactApplyOperatorRow.holds Try.pinned (OpenSpec.ofChange fnExactApplyOperatorWrong)

/-- 'laws.FnExactAddColumn': WHATEVER THE INPUT: true; the input reads as it did. -/
def fnExactAddColumnSpec : ChangeSpec := { name := "fnExactAddColumn", fn := fun _ => fun
  | [d1, d2, d3, d4] => { results := [.lit (.bool true)], args := [d1, d2, d3, d4] }
  | _ => none }
def fnExactAddColumnRow : OpenClaim := { program := "ytbcfnggjagchiaa", sum := "1c5ebd198e9def7c733892f8cf8ebc68d78eb59785294e97990f37d553f8a2dd", func := "loop.example/g00510/laws.FnExactAddColumn", spec := "fnExactAddColumn", recurses := true, loops := true, apart := false }
def FnExactAddColumnSaid : Prop := fnExactAddColumnRow.holds Try.pinned (OpenSpec.ofChange fnExactAddColumnSpec)

/-- ITS FALSE NEIGHBOUR: 'it returns false'. Refute it at one input. -/
def fnExactAddColumnWrong : ChangeSpec := { name := "fnExactAddColumn", fn := fun _ => fun
  | [d1, d2, d3, d4] => { results := [.lit (.bool false)], args := [d1, d2, d3, d4] }
  | _ => none }
def FnExactAddColumnWrongFalsely : Prop := fnExactAddColumnRow.holds Try.pinned (OpenSpec.ofChange fnExactAddColumnWrong)

/-- 'laws.FnExactFindRead': WHATEVER THE INPUT: true; the input reads as it did. -/
def fnExactFindReadSpec : ChangeSpec := { name := "fnExactFindRead", fn := fun _ => fun
  | [d1, d2] => { results := [.lit (.bool true)], args := [d1, d2] }
  | _ => none }
def fnExactFindReadRow : OpenClaim := { program := "ytbcfnggjagchiaa", sum := "1c5ebd198e9def7c733892f8cf8ebc68d78eb59785294e97990f37d553f8a2dd", func := "loop.example/g00510/laws.FnExactFindRead", spec := "fnExactFindRead", recurses := true, loops := true, apart := false }
def FnExactFindReadSaid : Prop := fnExactFindReadRow.holds Try.pinned (OpenSpec.ofChange fnExactFindReadSpec)

/-- ITS FALSE NEIGHBOUR: 'it returns false'. Refute it at one input. -/
def fnExactFindReadWrong : ChangeSpec := { name := "fnExactFindRead", fn := fun _ => fun
  | [d1, d2] => { results := [.lit (.bool false)], args := [d1, d2] }
  | _ => none }
def FnExactFindReadWrongFalsely : Prop := fnExactFindReadRow.holds Try.pinned (OpenSpec.ofChange fnExactFindReadWrong)

/-- 'laws.FnWorld': WHATEVER THE INPUT: true; the input reads as it did. -/
def fnWorldSpec : ChangeSpec := { name := "fnWorld", fn := fun _ => fun
  | [d] => { results := [.lit (.bool true)], args := [d] }
  | _ => none }
def fnWorldRow : OpenClaim := { program := "ytbcfnggjagchiaa", sum := "1c5ebd198e9def7c733892f8cf8ebc68d78eb59785294e97990f37d553f8a2dd", func := "loop.example/g00510/laws.FnWorld", spec := "fnWorld", apart := false }
def FnWorldSaid : Prop := fnWorldRow.holds Try.pinned (OpenSpec.ofChange fnWorldSpec)

/-- ITS FALSE NEIGHBOUR: 'it returns false'. Refute it at one input. -/
def fnWorldWrong : ChangeSpec := { name := "fnWorld", fn := fun _ => fun
  | [d] => { results := [.lit (.bool false)], args := [d] }
  | _ => none }
def FnWorldWrongFalsely : Prop := fnWorldRow.holds Try.pinned (OpenSpec.ofChange fnWorldWrong)

/-- 'laws.FnEffects': WHATEVER THE INPUT: true; the input reads as it did. -/
def fnEffectsSpec : ChangeSpec := { name := "fnEffects", fn := fun _ => fun
  | [d] => { results := [.lit (.bool true)], args := [d] }
  | _ => none }
def fnEffectsRow : OpenClaim := { program := "ytbcfnggjagchiaa", sum := "1c5ebd198e9def7c733892f8cf8ebc68d78eb59785294e97990f37d553f8a2dd", func := "loop.example/g00510/laws.FnEffects", spec := "fnEffects", recurses := true, apart := false }
def FnEffectsSaid : Prop := fnEffectsRow.holds Try.pinned (OpenSpec.ofChange fnEffectsSpec)

/-- ITS FALSE NEIGHBOUR: 'it returns false'. Refute it at one input. -/
def fnEffectsWrong : ChangeSpec := { name := "fnEffects", fn := fun _ => fun
  | [d] => { results := [.lit (.bool false)], args := [d] }
  | _ => none }
def FnEffectsWrongFalsely : Prop := fnEffectsRow.holds Try.pinned (OpenSpec.ofChange fnEffectsWrong)

/-- 'laws.FnScope': WHATEVER THE INPUT: true; the input reads as it did. -/
def fnScopeSpec : ChangeSpec := { name := "fnScope", fn := fun _ => fun
  | [d] => { results := [.lit (.bool true)], args := [d] }
  | _ => none }
def fnScopeRow : OpenClaim := { program := "ytbcfnggjagchiaa", sum := "1c5ebd198e9def7c733892f8cf8ebc68d78eb59785294e97990f37d553f8a2dd", func := "loop.example/g00510/laws.FnScope", spec := "fnScope", recurses := true, apart := false }
def FnScopeSaid : Prop := fnScopeRow.holds Try.pinned (OpenSpec.ofChange fnScopeSpec)

/-- ITS FALSE NEIGHBOUR: 'it returns false'. Refute it at one input. -/
def fnScopeWrong : ChangeSpec := { name := "fnScope", fn := fun _ => fun
  | [d] => { results := [.lit (.bool false)], args := [d] }
  | _ => none }
def FnScopeWrongFalsely : Prop := fnScopeRow.holds Try.pinned (OpenSpec.ofChange fnScopeWrong)

/-- 'laws.FnTakeSkip': WHATEVER THE INPUT: true; the input reads as it did. -/
def fnTakeSkipSpec : ChangeSpec := { name := "fnTakeSkip", fn := fun _ => fun
  | [d] => { results := [.lit (.bool true)], args := [d] }
  | _ => none }
def fnTakeSkipRow : OpenClaim := { program := "ytbcfnggjagchiaa", sum := "1c5ebd198e9def7c733892f8cf8ebc68d78eb59785294e97990f37d553f8a2dd", func := "loop.example/g00510/laws.FnTakeSkip", spec := "fnTakeSkip", recurses := true, apart := false }
def FnTakeSkipSaid : Prop := fnTakeSkipRow.holds Try.pinned (OpenSpec.ofChange fnTakeSkipSpec)

/-- ITS FALSE NEIGHBOUR: 'it returns false'. Refute it at one input. -/
def fnTakeSkipWrong : ChangeSpec := { name := "fnTakeSkip", fn := fun _ => fun
  | [d] => { results := [.lit (.bool false)], args := [d] }
  | _ => none }
def FnTakeSkipWrongFalsely : Prop := fnTakeSkipRow.holds Try.pinned (OpenSpec.ofChange fnTakeSkipWrong)

/- THE SECOND FORM. 'bulk': how many values and letters a reading holds, each counted each time it is reached (what is shared counts as often as it is met; a slice's spare places count too). A statement '..UptoSaid' is the law's where the arguments, and the package variables that the reading takes, are together of bulk at most 1048576: NARROWER than '..Said'. Prove '..Said' where nothing that the law and all that it calls make is longer than what came in: it says more and counts as full. Else prove '..UptoSaid'. A law counts once. -/
mutual
def uptoBulk {H : Type} : DataW H → Nat
  | .lit (.string bytes) => bytes.length + 1
  | .lit _ => 1
  | .nil => 1
  | .ptr d => uptoBulk d + 1
  | .slice elems spare => uptoBulkAll elems + uptoBulkAll spare + 1
  | .agg parts => uptoBulkAll parts + 1
  | .iface _ d => uptoBulk d + 1
  | .map entries => uptoBulkEntries entries + 1
  | .held _ => 1
def uptoBulkAll {H : Type} : List (DataW H) → Nat
  | [] => 0
  | d :: r => uptoBulk d + uptoBulkAll r
def uptoBulkEntries {H : Type} : List (Lit × DataW H) → Nat
  | [] => 0
  | x :: r => uptoBulkEntry x + uptoBulkEntries r
def uptoBulkEntry {H : Type} : Lit × DataW H → Nat
  | (.string bytes, d) => bytes.length + uptoBulk d + 1
  | (_, d) => uptoBulk d + 1
 end
def uptoSmall : (H : Type) → List (DataW H) → Bool := fun _ ds => decide (uptoBulkAll ds ≤ 1048576)
def OpenSpec.upto (s : _root_.Go.ChangeSpec) : _root_.Go.OpenSpec := { _root_.Go.OpenSpec.ofChange s with cond := some uptoSmall }

/-- 'laws.FnExactApplyOperator', WHERE WHAT IT READS IS OF BULK AT MOST 1048576: true; the input reads as it did. -/
def fnExactApplyOperatorUptoRow : OpenClaim := { program := "ytbcfnggjagchiaa", sum := "1c5ebd198e9def7c733892f8cf8ebc68d78eb59785294e97990f37d553f8a2dd", func := "loop.example/g00510/laws.FnExactApplyOperator", spec := "fnExactApplyOperator", recurses := true, loops := true, apart := false, narrowed := true }
def FnExactApplyOperatorUptoSaid : Prop := fnExactApplyOperatorUptoRow.holds Try.pinned (OpenSpec.upto fnExactApplyOperatorSpec)

/-- 'laws.FnExactAddColumn', WHERE WHAT IT READS IS OF BULK AT MOST 1048576: true; the input reads as it did. -/
def fnExactAddColumnUptoRow : OpenClaim := { program := "ytbcfnggjagchiaa", sum := "1c5ebd198e9def7c733892f8cf8ebc68d78eb59785294e97990f37d553f8a2dd", func := "loop.example/g00510/laws.FnExactAddColumn", spec := "fnExactAddColumn", recurses := true, loops := true, apart := false, narrowed := true }
def FnExactAddColumnUptoSaid : Prop := fnExactAddColumnUptoRow.holds Try.pinned (OpenSpec.upto fnExactAddColumnSpec)

/-- 'laws.FnExactFindRead', WHERE WHAT IT READS IS OF BULK AT MOST 1048576: true; the input reads as it did. -/
def fnExactFindReadUptoRow : OpenClaim := { program := "ytbcfnggjagchiaa", sum := "1c5ebd198e9def7c733892f8cf8ebc68d78eb59785294e97990f37d553f8a2dd", func := "loop.example/g00510/laws.FnExactFindRead", spec := "fnExactFindRead", recurses := true, loops := true, apart := false, narrowed := true }
def FnExactFindReadUptoSaid : Prop := fnExactFindReadUptoRow.holds Try.pinned (OpenSpec.upto fnExactFindReadSpec)

/-- 'laws.FnWorld', WHERE WHAT IT READS IS OF BULK AT MOST 1048576: true; the input reads as it did. -/
def fnWorldUptoRow : OpenClaim := { program := "ytbcfnggjagchiaa", sum := "1c5ebd198e9def7c733892f8cf8ebc68d78eb59785294e97990f37d553f8a2dd", func := "loop.example/g00510/laws.FnWorld", spec := "fnWorld", apart := false, narrowed := true }
def FnWorldUptoSaid : Prop := fnWorldUptoRow.holds Try.pinned (OpenSpec.upto fnWorldSpec)

/-- 'laws.FnEffects', WHERE WHAT IT READS IS OF BULK AT MOST 1048576: true; the input reads as it did. -/
def fnEffectsUptoRow : OpenClaim := { program := "ytbcfnggjagchiaa", sum := "1c5ebd198e9def7c733892f8cf8ebc68d78eb59785294e97990f37d553f8a2dd", func := "loop.example/g00510/laws.FnEffects", spec := "fnEffects", recurses := true, apart := false, narrowed := true }
def FnEffectsUptoSaid : Prop := fnEffectsUptoRow.holds Try.pinned (OpenSpec.upto fnEffectsSpec)

/-- 'laws.FnScope', WHERE WHAT IT READS IS OF BULK AT MOST 1048576: true; the input reads as it did. -/
def fnScopeUptoRow : OpenClaim := { program := "ytbcfnggjagchiaa", sum := "1c5ebd198e9def7c733892f8cf8ebc68d78eb59785294e97990f37d553f8a2dd", func := "loop.example/g00510/laws.FnScope", spec := "fnScope", recurses := true, apart := false, narrowed := true }
def FnScopeUptoSaid : Prop := fnScopeUptoRow.holds Try.pinned (OpenSpec.upto fnScopeSpec)

/-- 'laws.FnTakeSkip', WHERE WHAT IT READS IS OF BULK AT MOST 1048576: true; the input reads as it did. -/
def fnTakeSkipUptoRow : OpenClaim := { program := "ytbcfnggjagchiaa", sum := "1c5ebd198e9def7c733892f8cf8ebc68d78eb59785294e97990f37d553f8a2dd", func := "loop.example/g00510/laws.FnTakeSkip", spec := "fnTakeSkip", recurses := true, apart := false, narrowed := true }
def FnTakeSkipUptoSaid : Prop := fnTakeSkipUptoRow.holds Try.pinned (OpenSpec.upto fnTakeSkipSpec)

end Rows
end Go.Proofs.Ytbcfnggjagchiaa
