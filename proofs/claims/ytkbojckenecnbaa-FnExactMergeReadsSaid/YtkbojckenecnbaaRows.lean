/-
  NARROWER THAN 'FOR EVERY INPUT', by the rows' own cells (each row's printed sentence says how): FnExactLookUp: loops · FnExactBind: loops · FnExactFindRead: loops · FnExactMergeReads: loops · FnExactEffectResult: loops · FnExactSourceTable: loops · FnExactCountRows: loops · FnExactSumOf: loops · FnExactRestrictTable: loops · FnExactColumnOf: loops · FnExactBuildList: loops · FnExactWhereEqual: loops.
  DERIVED. THE GIVEN ROWS OF THIS SEAT. 12 by the template 'for every input the law returns true; each argument reads behind the call as it read before'; 0 by the template 'total and deterministic' (their statements: YtkbojckenecnbaaTotals.lean).
  GIVEN WITH THE SEED: the statements are not yours to turn. If you find one false, say at which input.
  Laid BY PROGRAM, IN A SANDBOX (cutbox-rows.mjs): the forced cells as the released guide's own fill.sh prints them over the translation 4815284fc92e9202… (all of the seat's roots in one cut). By AI agents, Wed Nov 11 2026. No macro, syntax, notation, axiom, sorry.
-/
import Derived.Test.YtkbojckenecnbaaChecked
import GoSem.Claim
import GoSem.ClaimJoined
import GoSem.ClaimMapViews
import Derived.JoinedTies
import Derived.KernelRfl
namespace Go.Proofs.Ytkbojckenecnbaa
/- THE CELL 'sum', in the pinned program and in every row, IS THE sha256 OF THE DUMP (.gsa) THAT YtkbojckenecnbaaProg.lean LOADS. Nothing in Lean hashes anything: it is a label: what it is worth is what the hold of that sum in a sandbox is worth. -/
noncomputable def Try.pinned : Pinned := { name := "ytkbojckenecnbaa", sum := "4815284fc92e9202c307682dddd50caa9e4a04e9d91c46cd5bbbe9af2ee65324", checked := Try.checked }
namespace Rows
def none {H : Type} : Left H := { results := [], args := [] }

/-- 'laws.FnExactLookUp': WHATEVER THE INPUT: true; the input reads as it did. -/
def fnExactLookUpSpec : ChangeSpec := { name := "fnExactLookUp", fn := fun _ => fun
  | [d1, d2] => { results := [.lit (.bool true)], args := [d1, d2] }
  | _ => none }
def fnExactLookUpRow : OpenClaim := { program := "ytkbojckenecnbaa", sum := "4815284fc92e9202c307682dddd50caa9e4a04e9d91c46cd5bbbe9af2ee65324", func := "loop.example/g00510/laws.FnExactLookUp", spec := "fnExactLookUp", recurses := true, loops := true, apart := false }
def FnExactLookUpSaid : Prop := fnExactLookUpRow.holds Try.pinned (OpenSpec.ofChange fnExactLookUpSpec)

/-- ITS FALSE NEIGHBOUR: 'it returns false'. Refute it at one input. -/
def fnExactLookUpWrong : ChangeSpec := { name := "fnExactLookUp", fn := fun _ => fun
  | [d1, d2] => { results := [.lit (.bool false)], args := [d1, d2] }
  | _ => none }
def FnExactLookUpWrongFalsely : Prop := fnExactLookUpRow.holds Try.pinned (OpenSpec.ofChange fnExactLookUpWrong)

/-- 'laws.FnExactBind': WHATEVER THE INPUT: true; the input reads as it did. -/
def fnExactBindSpec : ChangeSpec := { name := "fnExactBind", fn := fun _ => fun
  | [d1, d2, d3] => { results := [.lit (.bool true)], args := [d1, d2, d3] }
  | _ => none }
def fnExactBindRow : OpenClaim := { program := "ytkbojckenecnbaa", sum := "4815284fc92e9202c307682dddd50caa9e4a04e9d91c46cd5bbbe9af2ee65324", func := "loop.example/g00510/laws.FnExactBind", spec := "fnExactBind", recurses := true, loops := true, apart := false }
def FnExactBindSaid : Prop := fnExactBindRow.holds Try.pinned (OpenSpec.ofChange fnExactBindSpec)

/-- ITS FALSE NEIGHBOUR: 'it returns false'. Refute it at one input. -/
def fnExactBindWrong : ChangeSpec := { name := "fnExactBind", fn := fun _ => fun
  | [d1, d2, d3] => { results := [.lit (.bool false)], args := [d1, d2, d3] }
  | _ => none }
def FnExactBindWrongFalsely : Prop := fnExactBindRow.holds Try.pinned (OpenSpec.ofChange fnExactBindWrong)

/-- 'laws.FnExactFindRead': WHATEVER THE INPUT: true; the input reads as it did. -/
def fnExactFindReadSpec : ChangeSpec := { name := "fnExactFindRead", fn := fun _ => fun
  | [d1, d2] => { results := [.lit (.bool true)], args := [d1, d2] }
  | _ => none }
def fnExactFindReadRow : OpenClaim := { program := "ytkbojckenecnbaa", sum := "4815284fc92e9202c307682dddd50caa9e4a04e9d91c46cd5bbbe9af2ee65324", func := "loop.example/g00510/laws.FnExactFindRead", spec := "fnExactFindRead", recurses := true, loops := true, apart := false }
def FnExactFindReadSaid : Prop := fnExactFindReadRow.holds Try.pinned (OpenSpec.ofChange fnExactFindReadSpec)

/-- ITS FALSE NEIGHBOUR: 'it returns false'. Refute it at one input. -/
def fnExactFindReadWrong : ChangeSpec := { name := "fnExactFindRead", fn := fun _ => fun
  | [d1, d2] => { results := [.lit (.bool false)], args := [d1, d2] }
  | _ => none }
def FnExactFindReadWrongFalsely : Prop := fnExactFindReadRow.holds Try.pinned (OpenSpec.ofChange fnExactFindReadWrong)

/-- 'laws.FnExactMergeReads': WHATEVER THE INPUT: true; the input reads as it did. -/
def fnExactMergeReadsSpec : ChangeSpec := { name := "fnExactMergeReads", fn := fun _ => fun
  | [d1, d2] => { results := [.lit (.bool true)], args := [d1, d2] }
  | _ => none }
def fnExactMergeReadsRow : OpenClaim := { program := "ytkbojckenecnbaa", sum := "4815284fc92e9202c307682dddd50caa9e4a04e9d91c46cd5bbbe9af2ee65324", func := "loop.example/g00510/laws.FnExactMergeReads", spec := "fnExactMergeReads", recurses := true, loops := true, apart := false }
def FnExactMergeReadsSaid : Prop := fnExactMergeReadsRow.holds Try.pinned (OpenSpec.ofChange fnExactMergeReadsSpec)

/-- ITS FALSE NEIGHBOUR: 'it returns false'. Refute it at one input. -/
def fnExactMergeReadsWrong : ChangeSpec := { name := "fnExactMergeReads", fn := fun _ => fun
  | [d1, d2] => { results := [.lit (.bool false)], args := [d1, d2] }
  | _ => none }
def FnExactMergeReadsWrongFalsely : Prop := fnExactMergeReadsRow.holds Try.pinned (OpenSpec.ofChange fnExactMergeReadsWrong)

/-- 'laws.FnExactEffectResult': WHATEVER THE INPUT: true; the input reads as it did. -/
def fnExactEffectResultSpec : ChangeSpec := { name := "fnExactEffectResult", fn := fun _ => fun
  | [d1, d2, d3, d4] => { results := [.lit (.bool true)], args := [d1, d2, d3, d4] }
  | _ => none }
def fnExactEffectResultRow : OpenClaim := { program := "ytkbojckenecnbaa", sum := "4815284fc92e9202c307682dddd50caa9e4a04e9d91c46cd5bbbe9af2ee65324", func := "loop.example/g00510/laws.FnExactEffectResult", spec := "fnExactEffectResult", recurses := true, loops := true, apart := false }
def FnExactEffectResultSaid : Prop := fnExactEffectResultRow.holds Try.pinned (OpenSpec.ofChange fnExactEffectResultSpec)

/-- ITS FALSE NEIGHBOUR: 'it returns false'. Refute it at one input. -/
def fnExactEffectResultWrong : ChangeSpec := { name := "fnExactEffectResult", fn := fun _ => fun
  | [d1, d2, d3, d4] => { results := [.lit (.bool false)], args := [d1, d2, d3, d4] }
  | _ => none }
def FnExactEffectResultWrongFalsely : Prop := fnExactEffectResultRow.holds Try.pinned (OpenSpec.ofChange fnExactEffectResultWrong)

/-- 'laws.FnExactSourceTable': WHATEVER THE INPUT: true; the input reads as it did. -/
def fnExactSourceTableSpec : ChangeSpec := { name := "fnExactSourceTable", fn := fun _ => fun
  | [d1, d2] => { results := [.lit (.bool true)], args := [d1, d2] }
  | _ => none }
def fnExactSourceTableRow : OpenClaim := { program := "ytkbojckenecnbaa", sum := "4815284fc92e9202c307682dddd50caa9e4a04e9d91c46cd5bbbe9af2ee65324", func := "loop.example/g00510/laws.FnExactSourceTable", spec := "fnExactSourceTable", recurses := true, loops := true, apart := false }
def FnExactSourceTableSaid : Prop := fnExactSourceTableRow.holds Try.pinned (OpenSpec.ofChange fnExactSourceTableSpec)

/-- ITS FALSE NEIGHBOUR: 'it returns false'. Refute it at one input. -/
def fnExactSourceTableWrong : ChangeSpec := { name := "fnExactSourceTable", fn := fun _ => fun
  | [d1, d2] => { results := [.lit (.bool false)], args := [d1, d2] }
  | _ => none }
def FnExactSourceTableWrongFalsely : Prop := fnExactSourceTableRow.holds Try.pinned (OpenSpec.ofChange fnExactSourceTableWrong)

/-- 'laws.FnExactCountRows': WHATEVER THE INPUT: true; the input reads as it did. -/
def fnExactCountRowsSpec : ChangeSpec := { name := "fnExactCountRows", fn := fun _ => fun
  | [d] => { results := [.lit (.bool true)], args := [d] }
  | _ => none }
def fnExactCountRowsRow : OpenClaim := { program := "ytkbojckenecnbaa", sum := "4815284fc92e9202c307682dddd50caa9e4a04e9d91c46cd5bbbe9af2ee65324", func := "loop.example/g00510/laws.FnExactCountRows", spec := "fnExactCountRows", recurses := true, loops := true, apart := false }
def FnExactCountRowsSaid : Prop := fnExactCountRowsRow.holds Try.pinned (OpenSpec.ofChange fnExactCountRowsSpec)

/-- ITS FALSE NEIGHBOUR: 'it returns false'. Refute it at one input. -/
def fnExactCountRowsWrong : ChangeSpec := { name := "fnExactCountRows", fn := fun _ => fun
  | [d] => { results := [.lit (.bool false)], args := [d] }
  | _ => none }
def FnExactCountRowsWrongFalsely : Prop := fnExactCountRowsRow.holds Try.pinned (OpenSpec.ofChange fnExactCountRowsWrong)

/-- 'laws.FnExactSumOf': WHATEVER THE INPUT: true; the input reads as it did. -/
def fnExactSumOfSpec : ChangeSpec := { name := "fnExactSumOf", fn := fun _ => fun
  | [d] => { results := [.lit (.bool true)], args := [d] }
  | _ => none }
def fnExactSumOfRow : OpenClaim := { program := "ytkbojckenecnbaa", sum := "4815284fc92e9202c307682dddd50caa9e4a04e9d91c46cd5bbbe9af2ee65324", func := "loop.example/g00510/laws.FnExactSumOf", spec := "fnExactSumOf", recurses := true, loops := true, apart := false }
def FnExactSumOfSaid : Prop := fnExactSumOfRow.holds Try.pinned (OpenSpec.ofChange fnExactSumOfSpec)

/-- ITS FALSE NEIGHBOUR: 'it returns false'. Refute it at one input. -/
def fnExactSumOfWrong : ChangeSpec := { name := "fnExactSumOf", fn := fun _ => fun
  | [d] => { results := [.lit (.bool false)], args := [d] }
  | _ => none }
def FnExactSumOfWrongFalsely : Prop := fnExactSumOfRow.holds Try.pinned (OpenSpec.ofChange fnExactSumOfWrong)

/-- 'laws.FnExactRestrictTable': WHATEVER THE INPUT: true; the input reads as it did. -/
def fnExactRestrictTableSpec : ChangeSpec := { name := "fnExactRestrictTable", fn := fun _ => fun
  | [d1, d2] => { results := [.lit (.bool true)], args := [d1, d2] }
  | _ => none }
def fnExactRestrictTableRow : OpenClaim := { program := "ytkbojckenecnbaa", sum := "4815284fc92e9202c307682dddd50caa9e4a04e9d91c46cd5bbbe9af2ee65324", func := "loop.example/g00510/laws.FnExactRestrictTable", spec := "fnExactRestrictTable", recurses := true, loops := true, apart := false }
def FnExactRestrictTableSaid : Prop := fnExactRestrictTableRow.holds Try.pinned (OpenSpec.ofChange fnExactRestrictTableSpec)

/-- ITS FALSE NEIGHBOUR: 'it returns false'. Refute it at one input. -/
def fnExactRestrictTableWrong : ChangeSpec := { name := "fnExactRestrictTable", fn := fun _ => fun
  | [d1, d2] => { results := [.lit (.bool false)], args := [d1, d2] }
  | _ => none }
def FnExactRestrictTableWrongFalsely : Prop := fnExactRestrictTableRow.holds Try.pinned (OpenSpec.ofChange fnExactRestrictTableWrong)

/-- 'laws.FnExactColumnOf': WHATEVER THE INPUT: true; the input reads as it did. -/
def fnExactColumnOfSpec : ChangeSpec := { name := "fnExactColumnOf", fn := fun _ => fun
  | [d1, d2] => { results := [.lit (.bool true)], args := [d1, d2] }
  | _ => none }
def fnExactColumnOfRow : OpenClaim := { program := "ytkbojckenecnbaa", sum := "4815284fc92e9202c307682dddd50caa9e4a04e9d91c46cd5bbbe9af2ee65324", func := "loop.example/g00510/laws.FnExactColumnOf", spec := "fnExactColumnOf", recurses := true, loops := true, apart := false }
def FnExactColumnOfSaid : Prop := fnExactColumnOfRow.holds Try.pinned (OpenSpec.ofChange fnExactColumnOfSpec)

/-- ITS FALSE NEIGHBOUR: 'it returns false'. Refute it at one input. -/
def fnExactColumnOfWrong : ChangeSpec := { name := "fnExactColumnOf", fn := fun _ => fun
  | [d1, d2] => { results := [.lit (.bool false)], args := [d1, d2] }
  | _ => none }
def FnExactColumnOfWrongFalsely : Prop := fnExactColumnOfRow.holds Try.pinned (OpenSpec.ofChange fnExactColumnOfWrong)

/-- 'laws.FnExactBuildList': WHATEVER THE INPUT: true; the input reads as it did. -/
def fnExactBuildListSpec : ChangeSpec := { name := "fnExactBuildList", fn := fun _ => fun
  | [d] => { results := [.lit (.bool true)], args := [d] }
  | _ => none }
def fnExactBuildListRow : OpenClaim := { program := "ytkbojckenecnbaa", sum := "4815284fc92e9202c307682dddd50caa9e4a04e9d91c46cd5bbbe9af2ee65324", func := "loop.example/g00510/laws.FnExactBuildList", spec := "fnExactBuildList", recurses := true, loops := true, apart := false }
def FnExactBuildListSaid : Prop := fnExactBuildListRow.holds Try.pinned (OpenSpec.ofChange fnExactBuildListSpec)

/-- ITS FALSE NEIGHBOUR: 'it returns false'. Refute it at one input. -/
def fnExactBuildListWrong : ChangeSpec := { name := "fnExactBuildList", fn := fun _ => fun
  | [d] => { results := [.lit (.bool false)], args := [d] }
  | _ => none }
def FnExactBuildListWrongFalsely : Prop := fnExactBuildListRow.holds Try.pinned (OpenSpec.ofChange fnExactBuildListWrong)

/-- 'laws.FnExactWhereEqual': WHATEVER THE INPUT: true; the input reads as it did. -/
def fnExactWhereEqualSpec : ChangeSpec := { name := "fnExactWhereEqual", fn := fun _ => fun
  | [d1, d2, d3] => { results := [.lit (.bool true)], args := [d1, d2, d3] }
  | _ => none }
def fnExactWhereEqualRow : OpenClaim := { program := "ytkbojckenecnbaa", sum := "4815284fc92e9202c307682dddd50caa9e4a04e9d91c46cd5bbbe9af2ee65324", func := "loop.example/g00510/laws.FnExactWhereEqual", spec := "fnExactWhereEqual", recurses := true, loops := true, apart := false }
def FnExactWhereEqualSaid : Prop := fnExactWhereEqualRow.holds Try.pinned (OpenSpec.ofChange fnExactWhereEqualSpec)

/-- ITS FALSE NEIGHBOUR: 'it returns false'. Refute it at one input. -/
def fnExactWhereEqualWrong : ChangeSpec := { name := "fnExactWhereEqual", fn := fun _ => fun
  | [d1, d2, d3] => { results := [.lit (.bool false)], args := [d1, d2, d3] }
  | _ => none }
def FnExactWhereEqualWrongFalsely : Prop := fnExactWhereEqualRow.holds Try.pinned (OpenSpec.ofChange fnExactWhereEqualWrong)

/- THE SECOND FORM. 'bulk': how many values and letters a reading holds, each counted each time it is reached (what is shared counts as often as it is met; a slice's spare places count too). A statement '..UptoSaid' is the law's where the arguments, and the package variables that the reading takes, are together of bulk at most 1048576: NARROWER than '..Said'. Prove '..Said' where nothing that the law and all that it calls make is longer than what came in: it says more and counts as full. Else prove '..UptoSaid'. A law counts once. -/
mutual
def uptoBulk {H : Type} : DataW H → Nat
  | .lit (.string bytes) => bytes.length + 1
  | .lit _ => 1
  | .nil => 1
  | .ptr d => uptoBulk d + 1
  | .slice elems spare => uptoBulkAll elems + uptoBulkAll spare + 1
  | .agg parts => uptoBulkAll parts + 1
  | .iface _ d => uptoBulk d + 1
  | .map entries => uptoBulkEntries entries + 1
  | .held _ => 1
def uptoBulkAll {H : Type} : List (DataW H) → Nat
  | [] => 0
  | d :: r => uptoBulk d + uptoBulkAll r
def uptoBulkEntries {H : Type} : List (Lit × DataW H) → Nat
  | [] => 0
  | x :: r => uptoBulkEntry x + uptoBulkEntries r
def uptoBulkEntry {H : Type} : Lit × DataW H → Nat
  | (.string bytes, d) => bytes.length + uptoBulk d + 1
  | (_, d) => uptoBulk d + 1
 end
def uptoSmall : (H : Type) → List (DataW H) → Bool := fun _ ds => decide (uptoBulkAll ds ≤ 1048576)
def OpenSpec.upto (s : _root_.Go.ChangeSpec) : _root_.Go.OpenSpec := { _root_.Go.OpenSpec.ofChange s with cond := some uptoSmall }

/-- 'laws.FnExactLookUp', WHERE WHAT IT READS IS OF BULK AT MOST 1048576: true; the input reads as it did. -/
def fnExactLookUpUptoRow : OpenClaim := { program := "ytkbojckenecnbaa", sum := "4815284fc92e9202c307682dddd50caa9e4a04e9d91c46cd5bbbe9af2ee65324", func := "loop.example/g00510/laws.FnExactLookUp", spec := "fnExactLookUp", recurses := true, loops := true, apart := false, narrowed := true }
def FnExactLookUpUptoSaid : Prop := fnExactLookUpUptoRow.holds Try.pinned (OpenSpec.upto fnExactLookUpSpec)

/-- 'laws.FnExactBind', WHERE WHAT IT READS IS OF BULK AT MOST 1048576: true; the input reads as it did. -/
def fnExactBindUptoRow : OpenClaim := { program := "ytkbojckenecnbaa", sum := "4815284fc92e9202c307682dddd50caa9e4a04e9d91c46cd5bbbe9af2ee65324", func := "loop.example/g00510/laws.FnExactBind", spec := "fnExactBind", recurses := true, loops := true, apart := false, narrowed := true }
def FnExactBindUptoSaid : Prop := fnExactBindUptoRow.holds Try.pinned (OpenSpec.upto fnExactBindSpec)

/-- 'laws.FnExactFindRead', WHERE WHAT IT READS IS OF BULK AT MOST 1048576: true; the input reads as it did. -/
def fnExactFindReadUptoRow : OpenClaim := { program := "ytkbojckenecnbaa", sum := "4815284fc92e9202c307682dddd50caa9e4a04e9d91c46cd5bbbe9af2ee65324", func := "loop.example/g00510/laws.FnExactFindRead", spec := "fnExactFindRead", recurses := true, loops := true, apart := false, narrowed := true }
def FnExactFindReadUptoSaid : Prop := fnExactFindReadUptoRow.holds Try.pinned (OpenSpec.upto fnExactFindReadSpec)

/-- 'laws.FnExactMergeReads', WHERE WHAT IT READS IS OF BULK AT MOST 1048576: true; the input reads as it did. -/
def fnExactMergeReadsUptoRow : OpenClaim := { program := "ytkbojckenecnbaa", sum := "4815284fc92e9202c307682dddd50caa9e4a04e9d91c46cd5bbbe9af2ee65324", func := "loop.example/g00510/laws.FnExactMergeReads", spec := "fnExactMergeReads", recurses := true, loops := true, apart := false, narrowed := true }
def FnExactMergeReadsUptoSaid : Prop := fnExactMergeReadsUptoRow.holds Try.pinned (OpenSpec.upto fnExactMergeReadsSpec)

/-- 'laws.FnExactEffectResult', WHERE WHAT IT READS IS OF BULK AT MOST 1048576: true; the input reads as it did. -/
def fnExactEffectResultUptoRow : OpenClaim := { program := "ytkbojckenecnbaa", sum := "4815284fc92e9202c307682dddd50caa9e4a04e9d91c46cd5bbbe9af2ee65324", func := "loop.example/g00510/laws.FnExactEffectResult", spec := "fnExactEffectResult", recurses := true, loops := true, apart := false, narrowed := true }
def FnExactEffectResultUptoSaid : Prop := fnExactEffectResultUptoRow.holds Try.pinned (OpenSpec.upto fnExactEffectResultSpec)

/-- 'laws.FnExactSourceTable', WHERE WHAT IT READS IS OF BULK AT MOST 1048576: true; the input reads as it did. -/
def fnExactSourceTableUptoRow : OpenClaim := { program := "ytkbojckenecnbaa", sum := "4815284fc92e9202c307682dddd50caa9e4a04e9d91c46cd5bbbe9af2ee65324", func := "loop.example/g00510/laws.FnExactSourceTable", spec := "fnExactSourceTable", recurses := true, loops := true, apart := false, narrowed := true }
def FnExactSourceTableUptoSaid : Prop := fnExactSourceTableUptoRow.holds Try.pinned (OpenSpec.upto fnExactSourceTableSpec)

/-- 'laws.FnExactCountRows', WHERE WHAT IT READS IS OF BULK AT MOST 1048576: true; the input reads as it did. -/
def fnExactCountRowsUptoRow : OpenClaim := { program := "ytkbojckenecnbaa", sum := "4815284fc92e9202c307682dddd50caa9e4a04e9d91c46cd5bbbe9af2ee65324", func := "loop.example/g00510/laws.FnExactCountRows", spec := "fnExactCountRows", recurses := true, loops := true, apart := false, narrowed := true }
def FnExactCountRowsUptoSaid : Prop := fnExactCountRowsUptoRow.holds Try.pinned (OpenSpec.upto fnExactCountRowsSpec)

/-- 'laws.FnExactSumOf', WHERE WHAT IT READS IS OF BULK AT MOST 1048576: true; the input reads as it did. -/
def fnExactSumOfUptoRow : OpenClaim := { program := "ytkbojckenecnbaa", sum := "4815284fc92e9202c307682dddd50caa9e4a04e9d91c46cd5bbbe9af2ee65324", func := "loop.example/g00510/laws.FnExactSumOf", spec := "fnExactSumOf", recurses := true, loops := true, apart := false, narrowed := true }
def FnExactSumOfUptoSaid : Prop := fnExactSumOfUptoRow.holds Try.pinned (OpenSpec.upto fnExactSumOfSpec)

/-- 'laws.FnExactRestrictTable', WHERE WHAT IT READS IS OF BULK AT MOST 1048576: true; the input reads as it did. -/
def fnExactRestrictTableUptoRow : OpenClaim := { program := "ytkbojckenecnbaa", sum := "4815284fc92e9202c307682dddd50caa9e4a04e9d91c46cd5bbbe9af2ee65324", func := "loop.example/g00510/laws.FnExactRestrictTable", spec := "fnExactRestrictTable", recurses := true, loops := true, apart := false, narrowed := true }
def FnExactRestrictTableUptoSaid : Prop := fnExactRestrictTableUptoRow.holds Try.pinned (OpenSpec.upto fnExactRestrictTableSpec)

/-- 'laws.FnExactColumnOf', WHERE WHAT IT READS IS OF BULK AT MOST 1048576: true; the input reads as it did. -/
def fnExactColumnOfUptoRow : OpenClaim := { program := "ytkbojckenecnbaa", sum := "4815284fc92e9202c307682dddd50caa9e4a04e9d91c46cd5bbbe9af2ee65324", func := "loop.example/g00510/laws.FnExactColumnOf", spec := "fnExactColumnOf", recurses := true, loops := true, apart := false, narrowed := true }
def FnExactColumnOfUptoSaid : Prop := fnExactColumnOfUptoRow.holds Try.pinned (OpenSpec.upto fnExactColumnOfSpec)

/-- 'laws.FnExactBuildList', WHERE WHAT IT READS IS OF BULK AT MOST 1048576: true; the input reads as it did. -/
def fnExactBuildListUptoRow : OpenClaim := { program := "ytkbojckenecnbaa", sum := "4815284fc92e9202c307682dddd50caa9e4a04e9d91c46cd5bbbe9af2ee65324", func := "loop.example/g00510/laws.FnExactBuildList", spec := "fnExactBuildList", recurses := true, loops := true, apart := false, narrowed := true }
def FnExactBuildListUptoSaid : Prop := fnExactBuildListUptoRow.holds Try.pinned (OpenSpec.upto fnExactBuildListSpec)

/-- 'laws.FnExactWhereEqual', WHERE WHAT IT READS IS OF BULK AT MOST 1048576: true; the input reads as it did. -/
def fnExactWhereEqualUptoRow : OpenClaim := { program := "ytkbojckenecnbaa", sum := "4815284fc92e9202c307682dddd50caa9e4a04e9d91c46cd5bbbe9af2ee65324", func := "loop.example/g00510/laws.FnExactWhereEqual", spec := "fnExactWhereEqual", recurses := true, loops := true, apart := false, narrowed := true }
def FnExactWhereEqualUptoSaid : Prop := fnExactWhereEqualUptoRow.holds Try.pinned (OpenSpec.upto fnExactWhereEqualSpec)

end Rows
end Go.Proofs.Ytkbojckenecnbaa
