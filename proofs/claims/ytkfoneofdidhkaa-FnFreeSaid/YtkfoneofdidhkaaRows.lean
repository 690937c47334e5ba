/-
  NARROWER THAN 'FOR EVERY INPUT', by the rows' own cells (each row's printed sentence says how): FnExactIsCaptured: loops · FnExactRenameFree: loops · FnExactBoundNames: loops · FnExactFreeNames: loops.
  DERIVED. THE GIVEN ROWS OF THIS SEAT. 5 by the template 'for every input the law returns true; each argument reads behind the call as it read before'; 0 by the template 'total and deterministic' (their statements: YtkfoneofdidhkaaTotals.lean).
  GIVEN WITH THE SEED: the statements are not yours to turn. If you find one false, say at which input.
  Laid BY PROGRAM, IN A SANDBOX (cutbox-rows.mjs): the forced cells as the released guide's own fill.sh prints them over the translation 79fe33457a1f34b3… (all of the seat's roots in one cut). By AI agents, Wed Nov 11 2026. No macro, syntax, notation, axiom, sorry.
-/
import Derived.Test.YtkfoneofdidhkaaChecked
import GoSem.Claim
import GoSem.ClaimJoined
import GoSem.ClaimMapViews
import Derived.JoinedTies
import Derived.KernelRfl
namespace Go.Proofs.Ytkfoneofdidhkaa
/- THE CELL 'sum', in the pinned program and in every row, IS THE sha256 OF THE DUMP (.gsa) THAT YtkfoneofdidhkaaProg.lean LOADS. Nothing in Lean hashes anything: it is a label: what it is worth is what the hold of that sum in a sandbox is worth. -/
noncomputable def Try.pinned : Pinned := { name := "ytkfoneofdidhkaa", sum := "79fe33457a1f34b3591b4fddd33f184e462c17a0ee1f8672dd5d54da6c80e956", checked := Try.checked }
namespace Rows
def none {H : Type} : Left H := { results := [], args := [] }

/-- 'laws.FnExactIsCaptured': WHATEVER THE INPUT: true; the input reads as it did. -/
def fnExactIsCapturedSpec : ChangeSpec := { name := "fnExactIsCaptured", fn := fun _ => fun
  | [d1, d2, d3] => { results := [.lit (.bool true)], args := [d1, d2, d3] }
  | _ => none }
def fnExactIsCapturedRow : OpenClaim := { program := "ytkfoneofdidhkaa", sum := "79fe33457a1f34b3591b4fddd33f184e462c17a0ee1f8672dd5d54da6c80e956", func := "loop.example/g00510/laws.FnExactIsCaptured", spec := "fnExactIsCaptured", unfollowed := true, recurses := true, loops := true, apart := false }
def FnExactIsCapturedSaid : Prop := fnExactIsCapturedRow.holds Try.pinned (OpenSpec.ofChange fnExactIsCapturedSpec)

/-- ITS FALSE NEIGHBOUR: 'it returns false'. Refute it at one input. -/
def fnExactIsCapturedWrong : ChangeSpec := { name := "fnExactIsCaptured", fn := fun _ => fun
  | [d1, d2, d3] => { results := [.lit (.bool false)], args := [d1, d2, d3] }
  | _ => none }
def FnExactIsCapturedWrongFalsely : Prop := fnExactIsCapturedRow.holds Try.pinned (OpenSpec.ofChange fnExactIsCapturedWrong)

/-- 'laws.FnExactRenameFree': WHATEVER THE INPUT: true; the input reads as it did. -/
def fnExactRenameFreeSpec : ChangeSpec := { name := "fnExactRenameFree", fn := fun _ => fun
  | [d1, d2, d3] => { results := [.lit (.bool true)], args := [d1, d2, d3] }
  | _ => none }
def fnExactRenameFreeRow : OpenClaim := { program := "ytkfoneofdidhkaa", sum := "79fe33457a1f34b3591b4fddd33f184e462c17a0ee1f8672dd5d54da6c80e956", func := "loop.example/g00510/laws.FnExactRenameFree", spec := "fnExactRenameFree", unfollowed := true, recurses := true, loops := true, apart := false }
def FnExactRenameFreeSaid : Prop := fnExactRenameFreeRow.holds Try.pinned (OpenSpec.ofChange fnExactRenameFreeSpec)

/-- ITS FALSE NEIGHBOUR: 'it returns false'. Refute it at one input. -/
def fnExactRenameFreeWrong : ChangeSpec := { name := "fnExactRenameFree", fn := fun _ => fun
  | [d1, d2, d3] => { results := [.lit (.bool false)], args := [d1, d2, d3] }
  | _ => none }
def FnExactRenameFreeWrongFalsely : Prop := fnExactRenameFreeRow.holds Try.pinned (OpenSpec.ofChange fnExactRenameFreeWrong)

/-- 'laws.FnExactBoundNames': WHATEVER THE INPUT: true; the input reads as it did. -/
def fnExactBoundNamesSpec : ChangeSpec := { name := "fnExactBoundNames", fn := fun _ => fun
  | [d] => { results := [.lit (.bool true)], args := [d] }
  | _ => none }
def fnExactBoundNamesRow : OpenClaim := { program := "ytkfoneofdidhkaa", sum := "79fe33457a1f34b3591b4fddd33f184e462c17a0ee1f8672dd5d54da6c80e956", func := "loop.example/g00510/laws.FnExactBoundNames", spec := "fnExactBoundNames", unfollowed := true, recurses := true, loops := true, apart := false }
def FnExactBoundNamesSaid : Prop := fnExactBoundNamesRow.holds Try.pinned (OpenSpec.ofChange fnExactBoundNamesSpec)

/-- ITS FALSE NEIGHBOUR: 'it returns false'. Refute it at one input. -/
def fnExactBoundNamesWrong : ChangeSpec := { name := "fnExactBoundNames", fn := fun _ => fun
  | [d] => { results := [.lit (.bool false)], args := [d] }
  | _ => none }
def FnExactBoundNamesWrongFalsely : Prop := fnExactBoundNamesRow.holds Try.pinned (OpenSpec.ofChange fnExactBoundNamesWrong)

/-- 'laws.FnExactFreeNames': WHATEVER THE INPUT: true; the input reads as it did. -/
def fnExactFreeNamesSpec : ChangeSpec := { name := "fnExactFreeNames", fn := fun _ => fun
  | [d] => { results := [.lit (.bool true)], args := [d] }
  | _ => none }
def fnExactFreeNamesRow : OpenClaim := { program := "ytkfoneofdidhkaa", sum := "79fe33457a1f34b3591b4fddd33f184e462c17a0ee1f8672dd5d54da6c80e956", func := "loop.example/g00510/laws.FnExactFreeNames", spec := "fnExactFreeNames", unfollowed := true, recurses := true, loops := true, apart := false }
def FnExactFreeNamesSaid : Prop := fnExactFreeNamesRow.holds Try.pinned (OpenSpec.ofChange fnExactFreeNamesSpec)

/-- ITS FALSE NEIGHBOUR: 'it returns false'. Refute it at one input. -/
def fnExactFreeNamesWrong : ChangeSpec := { name := "fnExactFreeNames", fn := fun _ => fun
  | [d] => { results := [.lit (.bool false)], args := [d] }
  | _ => none }
def FnExactFreeNamesWrongFalsely : Prop := fnExactFreeNamesRow.holds Try.pinned (OpenSpec.ofChange fnExactFreeNamesWrong)

/-- 'laws.FnFree': WHATEVER THE INPUT: true; the input reads as it did. -/
def fnFreeSpec : ChangeSpec := { name := "fnFree", fn := fun _ => fun
  | [d] => { results := [.lit (.bool true)], args := [d] }
  | _ => none }
def fnFreeRow : OpenClaim := { program := "ytkfoneofdidhkaa", sum := "79fe33457a1f34b3591b4fddd33f184e462c17a0ee1f8672dd5d54da6c80e956", func := "loop.example/g00510/laws.FnFree", spec := "fnFree", unfollowed := true, recurses := true, apart := false }
def FnFreeSaid : Prop := fnFreeRow.holds Try.pinned (OpenSpec.ofChange fnFreeSpec)

/-- ITS FALSE NEIGHBOUR: 'it returns false'. Refute it at one input. -/
def fnFreeWrong : ChangeSpec := { name := "fnFree", fn := fun _ => fun
  | [d] => { results := [.lit (.bool false)], args := [d] }
  | _ => none }
def FnFreeWrongFalsely : Prop := fnFreeRow.holds Try.pinned (OpenSpec.ofChange fnFreeWrong)

/- THE SECOND FORM. 'bulk': how many values and letters a reading holds, each counted each time it is reached (what is shared counts as often as it is met; a slice's spare places count too). A statement '..UptoSaid' is the law's where the arguments, and the package variables that the reading takes, are together of bulk at most 1048576: NARROWER than '..Said'. Prove '..Said' where nothing that the law and all that it calls make is longer than what came in: it says more and counts as full. Else prove '..UptoSaid'. A law counts once. -/
mutual
def uptoBulk {H : Type} : DataW H → Nat
  | .lit (.string bytes) => bytes.length + 1
  | .lit _ => 1
  | .nil => 1
  | .ptr d => uptoBulk d + 1
  | .slice elems spare => uptoBulkAll elems + uptoBulkAll spare + 1
  | .agg parts => uptoBulkAll parts + 1
  | .iface _ d => uptoBulk d + 1
  | .map entries => uptoBulkEntries entries + 1
  | .held _ => 1
def uptoBulkAll {H : Type} : List (DataW H) → Nat
  | [] => 0
  | d :: r => uptoBulk d + uptoBulkAll r
def uptoBulkEntries {H : Type} : List (Lit × DataW H) → Nat
  | [] => 0
  | x :: r => uptoBulkEntry x + uptoBulkEntries r
def uptoBulkEntry {H : Type} : Lit × DataW H → Nat
  | (.string bytes, d) => bytes.length + uptoBulk d + 1
  | (_, d) => uptoBulk d + 1
 end
def uptoSmall : (H : Type) → List (DataW H) → Bool := fun _ ds => decide (uptoBulkAll ds ≤ 1048576)
def OpenSpec.upto (s : _root_.Go.ChangeSpec) : _root_.Go.OpenSpec := { _root_.Go.OpenSpec.ofChange s with cond := some uptoSmall }

/-- 'laws.FnExactIsCaptured', WHERE WHAT IT READS IS OF BULK AT MOST 1048576: true; the input reads as it did. -/
def fnExactIsCapturedUptoRow : OpenClaim := { program := "ytkfoneofdidhkaa", sum := "79fe33457a1f34b3591b4fddd33f184e462c17a0ee1f8672dd5d54da6c80e956", func := "loop.example/g00510/laws.FnExactIsCaptured", spec := "fnExactIsCaptured", unfollowed := true, recurses := true, loops := true, apart := false, narrowed := true }
def FnExactIsCapturedUptoSaid : Prop := fnExactIsCapturedUptoRow.holds Try.pinned (OpenSpec.upto fnExactIsCapturedSpec)

/-- 'laws.FnExactRenameFree', WHERE WHAT IT READS IS OF BULK AT MOST 1048576: true; the input reads as it did. -/
def fnExactRenameFreeUptoRow : OpenClaim := { program := "ytkfoneofdidhkaa", sum := "79fe33457a1f34b3591b4fddd33f184e462c17a0ee1f8672dd5d54da6c80e956", func := "loop.example/g00510/laws.FnExactRenameFree", spec := "fnExactRenameFree", unfollowed := true, recurses := true, loops := true, apart := false, narrowed := true }
def FnExactRenameFreeUptoSaid : Prop := fnExactRenameFreeUptoRow.holds Try.pinned (OpenSpec.upto fnExactRenameFreeSpec)

/-- 'laws.FnExactBoundNames', WHERE WHAT IT READS IS OF BULK AT MOST 1048576: true; the input reads as it did. -/
def fnExactBoundNamesUptoRow : OpenClaim := { program := "ytkfoneofdidhkaa", sum := "79fe33457a1f34b3591b4fddd33f184e462c17a0ee1f8672dd5d54da6c80e956", func := "loop.example/g00510/laws.FnExactBoundNames", spec := "fnExactBoundNames", unfollowed := true, recurses := true, loops := true, apart := false, narrowed := true }
def FnExactBoundNamesUptoSaid : Prop := fnExactBoundNamesUptoRow.holds Try.pinned (OpenSpec.upto fnExactBoundNamesSpec)

/-- 'laws.FnExactFreeNames', WHERE WHAT IT READS IS OF BULK AT MOST 1048576: true; the input reads as it did. -/
def fnExactFreeNamesUptoRow : OpenClaim := { program := "ytkfoneofdidhkaa", sum := "79fe33457a1f34b3591b4fddd33f184e462c17a0ee1f8672dd5d54da6c80e956", func := "loop.example/g00510/laws.FnExactFreeNames", spec := "fnExactFreeNames", unfollowed := true, recurses := true, loops := true, apart := false, narrowed := true }
def FnExactFreeNamesUptoSaid : Prop := fnExactFreeNamesUptoRow.holds Try.pinned (OpenSpec.upto fnExactFreeNamesSpec)

/-- 'laws.FnFree', WHERE WHAT IT READS IS OF BULK AT MOST 1048576: true; the input reads as it did. -/
def fnFreeUptoRow : OpenClaim := { program := "ytkfoneofdidhkaa", sum := "79fe33457a1f34b3591b4fddd33f184e462c17a0ee1f8672dd5d54da6c80e956", func := "loop.example/g00510/laws.FnFree", spec := "fnFree", unfollowed := true, recurses := true, apart := false, narrowed := true }
def FnFreeUptoSaid : Prop := fnFreeUptoRow.holds Try.pinned (OpenSpec.upto fnFreeSpec)

end Rows
end Go.Proofs.Ytkfoneofdidhkaa
