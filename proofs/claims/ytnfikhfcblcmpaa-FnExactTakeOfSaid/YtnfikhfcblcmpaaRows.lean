/-
  NARROWER THAN 'FOR EVERY INPUT', by the rows' own cells (each row's printed sentence says how): FnExactNthOf: loops · FnExactAddColumn: loops · FnExactTakeOf: loops · FnExactSkipOf: loops · FnExactApplyOperator: loops.
  DERIVED. THE GIVEN ROWS OF THIS SEAT. 5 by the template 'for every input the law returns true; each argument reads behind the call as it read before'; 0 by the template 'total and deterministic' (their statements: YtnfikhfcblcmpaaTotals.lean).
  GIVEN WITH THE SEED: the statements are not yours to turn. If you find one false, say at which input.
  Laid BY PROGRAM, IN A SANDBOX (cutbox-rows.mjs): the forced cells as the released guide's own fill.sh prints them over the translation 4dd7c3b924ef3cfc… (all of the seat's roots in one cut). By AI agents, Wed Nov 11 2026. No macro, syntax, notation, axiom, sorry.
-/
import Derived.Test.YtnfikhfcblcmpaaChecked
import GoSem.Claim
import GoSem.ClaimJoined
import GoSem.ClaimMapViews
import Derived.JoinedTies
import Derived.KernelRfl
namespace Go.Proofs.Ytnfikhfcblcmpaa
/- THE CELL 'sum', in the pinned program and in every row, IS THE sha256 OF THE DUMP (.gsa) THAT YtnfikhfcblcmpaaProg.lean LOADS. Nothing in Lean hashes anything: it is a label: what it is worth is what the hold of that sum in a sandbox is worth. -/
noncomputable def Try.pinned : Pinned := { name := "ytnfikhfcblcmpaa", sum := "4dd7c3b924ef3cfc9e51272ed963c9f9d92bca4cbff2bfbd81d0430448363b26", checked := Try.checked }
namespace Rows
def none {H : Type} : Left H := { results := [], args := [] }

/-- 'laws.FnExactNthOf': WHATEVER THE INPUT: true; the input reads as it did. -/
def fnExactNthOfSpec : ChangeSpec := { name := "fnExactNthOf", fn := fun _ => fun
  | [d1, d2] => { results := [.lit (.bool true)], args := [d1, d2] }
  | _ => none }
def fnExactNthOfRow : OpenClaim := { program := "ytnfikhfcblcmpaa", sum := "4dd7c3b924ef3cfc9e51272ed963c9f9d92bca4cbff2bfbd81d0430448363b26", func := "loop.example/g00510/laws.FnExactNthOf", spec := "fnExactNthOf", recurses := true, loops := true, apart := false }
def FnExactNthOfSaid : Prop := fnExactNthOfRow.holds Try.pinned (OpenSpec.ofChange fnExactNthOfSpec)

/-- ITS FALSE NEIGHBOUR: 'it returns false'. Refute it at one input. -/
def fnExactNthOfWrong : ChangeSpec := { name := "fnExactNthOf", fn := fun _ => fun
  | [d1, d2] => { results := [.lit (.bool false)], args := [d1, d2] }
  | _ => none }
def FnExactNthOfWrongFalsely : Prop := fnExactNthOfRow.holds Try.pinned (OpenSpec.ofChange fnExactNthOfWrong)

/-- 'laws.FnExactAddColumn': WHATEVER THE INPUT: true; the input reads as it did. -/
def fnExactAddColumnSpec : ChangeSpec := { name := "fnExactAddColumn", fn := fun _ => fun
  | [d1, d2, d3, d4] => { results := [.lit (.bool true)], args := [d1, d2, d3, d4] }
  | _ => none }
def fnExactAddColumnRow : OpenClaim := { program := "ytnfikhfcblcmpaa", sum := "4dd7c3b924ef3cfc9e51272ed963c9f9d92bca4cbff2bfbd81d0430448363b26", func := "loop.example/g00510/laws.FnExactAddColumn", spec := "fnExactAddColumn", recurses := true, loops := true, apart := false }
def FnExactAddColumnSaid : Prop := fnExactAddColumnRow.holds Try.pinned (OpenSpec.ofChange fnExactAddColumnSpec)

/-- ITS FALSE NEIGHBOUR: 'it returns false'. Refute it at one input. -/
def fnExactAddColumnWrong : ChangeSpec := { name := "fnExactAddColumn", fn := fun _ => fun
  | [d1, d2, d3, d4] => { results := [.lit (.bool false)], args := [d1, d2, d3, d4] }
  | _ => none }
def FnExactAddColumnWrongFalsely : Prop := fnExactAddColumnRow.holds Try.pinned (OpenSpec.ofChange fnExactAddColumnWrong)

/-- 'laws.FnExactTakeOf': WHATEVER THE INPUT: true; the input reads as it did. -/
def fnExactTakeOfSpec : ChangeSpec := { name := "fnExactTakeOf", fn := fun _ => fun
  | [d1, d2] => { results := [.lit (.bool true)], args := [d1, d2] }
  | _ => none }
def fnExactTakeOfRow : OpenClaim := { program := "ytnfikhfcblcmpaa", sum := "4dd7c3b924ef3cfc9e51272ed963c9f9d92bca4cbff2bfbd81d0430448363b26", func := "loop.example/g00510/laws.FnExactTakeOf", spec := "fnExactTakeOf", recurses := true, loops := true, apart := false }
def FnExactTakeOfSaid : Prop := fnExactTakeOfRow.holds Try.pinned (OpenSpec.ofChange fnExactTakeOfSpec)

/-- ITS FALSE NEIGHBOUR: 'it returns false'. Refute it at one input. -/
def fnExactTakeOfWrong : ChangeSpec := { name := "fnExactTakeOf", fn := fun _ => fun
  | [d1, d2] => { results := [.lit (.bool false)], args := [d1, d2] }
  | _ => none }
def FnExactTakeOfWrongFalsely : Prop := fnExactTakeOfRow.holds Try.pinned (OpenSpec.ofChange fnExactTakeOfWrong)

/-- 'laws.FnExactSkipOf': WHATEVER THE INPUT: true; the input reads as it did. -/
def fnExactSkipOfSpec : ChangeSpec := { name := "fnExactSkipOf", fn := fun _ => fun
  | [d1, d2] => { results := [.lit (.bool true)], args := [d1, d2] }
  | _ => none }
def fnExactSkipOfRow : OpenClaim := { program := "ytnfikhfcblcmpaa", sum := "4dd7c3b924ef3cfc9e51272ed963c9f9d92bca4cbff2bfbd81d0430448363b26", func := "loop.example/g00510/laws.FnExactSkipOf", spec := "fnExactSkipOf", recurses := true, loops := true, apart := false }
def FnExactSkipOfSaid : Prop := fnExactSkipOfRow.holds Try.pinned (OpenSpec.ofChange fnExactSkipOfSpec)

/-- ITS FALSE NEIGHBOUR: 'it returns false'. Refute it at one input. -/
def fnExactSkipOfWrong : ChangeSpec := { name := "fnExactSkipOf", fn := fun _ => fun
  | [d1, d2] => { results := [.lit (.bool false)], args := [d1, d2] }
  | _ => none }
def FnExactSkipOfWrongFalsely : Prop := fnExactSkipOfRow.holds Try.pinned (OpenSpec.ofChange fnExactSkipOfWrong)

/-- 'laws.FnExactApplyOperator': WHATEVER THE INPUT: true; the input reads as it did. -/
def fnExactApplyOperatorSpec : ChangeSpec := { name := "fnExactApplyOperator", fn := fun _ => fun
  | [d1, d2, d3] => { results := [.lit (.bool true)], args := [d1, d2, d3] }
  | _ => none }
def fnExactApplyOperatorRow : OpenClaim := { program := "ytnfikhfcblcmpaa", sum := "4dd7c3b924ef3cfc9e51272ed963c9f9d92bca4cbff2bfbd81d0430448363b26", func := "loop.example/g00510/laws.FnExactApplyOperator", spec := "fnExactApplyOperator", recurses := true, loops := true, apart := false }
def FnExactApplyOperatorSaid : Prop := fnExactApplyOperatorRow.holds Try.pinned (OpenSpec.ofChange fnExactApplyOperatorSpec)

/-- ITS FALSE NEIGHBOUR: 'it returns false'. Refute it at one input. -/
def fnExactApplyOperatorWrong : ChangeSpec := { name := "fnExactApplyOperator", fn := fun _ => fun
  | [d1, d2, d3] => { results := [.lit (.bool false)], args := [d1, d2, d3] }
  | _ => none }
def FnExactApplyOperatorWrongFalsely : Prop := fnExactApplyOperatorRow.holds Try.pinned (OpenSpec.ofChange fnExactApplyOperatorWrong)

/- THE SECOND FORM. 'bulk': how many values and letters a reading holds, each counted each time it is reached (what is shared counts as often as it is met; a slice's spare places count too). A statement '..UptoSaid' is the law's where the arguments, and the package variables that the reading takes, are together of bulk at most 1048576: NARROWER than '..Said'. Prove '..Said' where nothing that the law and all that it calls make is longer than what came in: it says more and counts as full. Else prove '..UptoSaid'. A law counts once. -/
mutual
def uptoBulk {H : Type} : DataW H → Nat
  | .lit (.string bytes) => bytes.length + 1
  | .lit _ => 1
  | .nil => 1
  | .ptr d => uptoBulk d + 1
  | .slice elems spare => uptoBulkAll elems + uptoBulkAll spare + 1
  | .agg parts => uptoBulkAll parts + 1
  | .iface _ d => uptoBulk d + 1
  | .map entries => uptoBulkEntries entries + 1
  | .held _ => 1
def uptoBulkAll {H : Type} : List (DataW H) → Nat
  | [] => 0
  | d :: r => uptoBulk d + uptoBulkAll r
def uptoBulkEntries {H : Type} : List (Lit × DataW H) → Nat
  | [] => 0
  | x :: r => uptoBulkEntry x + uptoBulkEntries r
def uptoBulkEntry {H : Type} : Lit × DataW H → Nat
  | (.string bytes, d) => bytes.length + uptoBulk d + 1
  | (_, d) => uptoBulk d + 1
 end
def uptoSmall : (H : Type) → List (DataW H) → Bool := fun _ ds => decide (uptoBulkAll ds ≤ 1048576)
def OpenSpec.upto (s : _root_.Go.ChangeSpec) : _root_.Go.OpenSpec := { _root_.Go.OpenSpec.ofChange s with cond := some uptoSmall }

/-- 'laws.FnExactNthOf', WHERE WHAT IT READS IS OF BULK AT MOST 1048576: true; the input reads as it did. -/
def fnExactNthOfUptoRow : OpenClaim := { program := "ytnfikhfcblcmpaa", sum := "4dd7c3b924ef3cfc9e51272ed963c9f9d92bca4cbff2bfbd81d0430448363b26", func := "loop.example/g00510/laws.FnExactNthOf", spec := "fnExactNthOf", recurses := true, loops := true, apart := false, narrowed := true }
def FnExactNthOfUptoSaid : Prop := fnExactNthOfUptoRow.holds Try.pinned (OpenSpec.upto fnExactNthOfSpec)

/-- 'laws.FnExactAddColumn', WHERE WHAT IT READS IS OF BULK AT MOST 1048576: true; the input reads as it did. -/
def fnExactAddColumnUptoRow : OpenClaim := { program := "ytnfikhfcblcmpaa", sum := "4dd7c3b924ef3cfc9e51272ed963c9f9d92bca4cbff2bfbd81d0430448363b26", func := "loop.example/g00510/laws.FnExactAddColumn", spec := "fnExactAddColumn", recurses := true, loops := true, apart := false, narrowed := true }
def FnExactAddColumnUptoSaid : Prop := fnExactAddColumnUptoRow.holds Try.pinned (OpenSpec.upto fnExactAddColumnSpec)

/-- 'laws.FnExactTakeOf', WHERE WHAT IT READS IS OF BULK AT MOST 1048576: true; the input reads as it did. -/
def fnExactTakeOfUptoRow : OpenClaim := { program := "ytnfikhfcblcmpaa", sum := "4dd7c3b924ef3cfc9e51272ed963c9f9d92bca4cbff2bfbd81d0430448363b26", func := "loop.example/g00510/laws.FnExactTakeOf", spec := "fnExactTakeOf", recurses := true, loops := true, apart := false, narrowed := true }
def FnExactTakeOfUptoSaid : Prop := fnExactTakeOfUptoRow.holds Try.pinned (OpenSpec.upto fnExactTakeOfSpec)

/-- 'laws.FnExactSkipOf', WHERE WHAT IT READS IS OF BULK AT MOST 1048576: true; the input reads as it did. -/
def fnExactSkipOfUptoRow : OpenClaim := { program := "ytnfikhfcblcmpaa", sum := "4dd7c3b924ef3cfc9e51272ed963c9f9d92bca4cbff2bfbd81d0430448363b26", func := "loop.example/g00510/laws.FnExactSkipOf", spec := "fnExactSkipOf", recurses := true, loops := true, apart := false, narrowed := true }
def FnExactSkipOfUptoSaid : Prop := fnExactSkipOfUptoRow.holds Try.pinned (OpenSpec.upto fnExactSkipOfSpec)

/-- 'laws.FnExactApplyOperator', WHERE WHAT IT READS IS OF BULK AT MOST 1048576: true; the input reads as it did. -/
def fnExactApplyOperatorUptoRow : OpenClaim := { program := "ytnfikhfcblcmpaa", sum := "4dd7c3b924ef3cfc9e51272ed963c9f9d92bca4cbff2bfbd81d0430448363b26", func := "loop.example/g00510/laws.FnExactApplyOperator", spec := "fnExactApplyOperator", recurses := true, loops := true, apart := false, narrowed := true }
def FnExactApplyOperatorUptoSaid : Prop := fnExactApplyOperatorUptoRow.holds Try.pinned (OpenSpec.upto fnExactApplyOperatorSpec)

end Rows
end Go.Proofs.Ytnfikhfcblcmpaa
