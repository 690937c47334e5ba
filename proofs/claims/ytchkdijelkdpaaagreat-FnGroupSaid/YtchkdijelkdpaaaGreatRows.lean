/-
  NARROWER THAN 'FOR EVERY INPUT', by the rows' own cells (each row's printed sentence says how): FnExactJoinOn: loops · FnExactGroupSum: loops.
  DERIVED. THE GIVEN ROWS OF THIS SEAT. 5 by the template 'for every input the law returns true; each argument reads behind the call as it read before'; 0 by the template 'total and deterministic' (their statements: YtchkdijelkdpaaaGreatTotals.lean).
  GIVEN WITH THE SEED: the statements are not yours to turn. If you find one false, say at which input.
  Laid BY PROGRAM, IN A SANDBOX (cutbox-rows.mjs): the forced cells as the released guide's own fill.sh prints them over the translation 501e9af6d18035b5… (all of the seat's roots in one cut). By AI agents, Wed Nov 11 2026. No macro, syntax, notation, axiom, sorry.
-/
import Derived.Test.YtchkdijelkdpaaaGreatChecked
import GoSem.Claim
import GoSem.ClaimJoined
import GoSem.ClaimMapViews
import Derived.JoinedTies
import Derived.KernelRfl
namespace Go.Proofs.YtchkdijelkdpaaaGreat
/- THE CELL 'sum', in the pinned program and in every row, IS THE sha256 OF THE DUMP (.gsa) THAT YtchkdijelkdpaaaGreatProg.lean LOADS. Nothing in Lean hashes anything: it is a label: what it is worth is what the hold of that sum in a sandbox is worth. -/
noncomputable def Tryz.pinned : Pinned := { name := "ytchkdijelkdpaaagreat", sum := "501e9af6d18035b576a2b7037ec49202ac3f88f9fb8492855f93462c8ded322e", checked := Tryz.checked }
namespace Rows
def none {H : Type} : Left H := { results := [], args := [] }

/-- 'laws.FnExactJoinOn': WHATEVER THE INPUT: true; the input reads as it did. -/
def fnExactJoinOnSpec : ChangeSpec := { name := "fnExactJoinOn", fn := fun _ => fun
  | [d1, d2, d3] => { results := [.lit (.bool true)], args := [d1, d2, d3] }
  | _ => none }
def fnExactJoinOnRow : OpenClaim := { program := "ytchkdijelkdpaaagreat", sum := "501e9af6d18035b576a2b7037ec49202ac3f88f9fb8492855f93462c8ded322e", func := "loop.example/g00510/laws.FnExactJoinOn", spec := "fnExactJoinOn", inPlace := ["internal/reflectlite.ValueOf", "internal/reflectlite.Swapper", "(internal/reflectlite.Value).Len"], unfollowed := true, recurses := true, loops := true, plainKeys := false, apart := false }
def FnExactJoinOnSaid : Prop := fnExactJoinOnRow.holds Tryz.pinned (OpenSpec.ofChange fnExactJoinOnSpec)

/-- ITS FALSE NEIGHBOUR: 'it returns false'. Refute it at one input. -/
def fnExactJoinOnWrong : ChangeSpec := { name := "fnExactJoinOn", fn := fun _ => fun
  | [d1, d2, d3] => { results := [.lit (.bool false)], args := [d1, d2, d3] }
  | _ => none }
def FnExactJoinOnWrongFalsely : Prop := fnExactJoinOnRow.holds Tryz.pinned (OpenSpec.ofChange fnExactJoinOnWrong)

/-- 'laws.FnJoin': WHATEVER THE INPUT: true; the input reads as it did. -/
def fnJoinSpec : ChangeSpec := { name := "fnJoin", fn := fun _ => fun
  | [d] => { results := [.lit (.bool true)], args := [d] }
  | _ => none }
def fnJoinRow : OpenClaim := { program := "ytchkdijelkdpaaagreat", sum := "501e9af6d18035b576a2b7037ec49202ac3f88f9fb8492855f93462c8ded322e", func := "loop.example/g00510/laws.FnJoin", spec := "fnJoin", inPlace := ["internal/reflectlite.ValueOf", "internal/reflectlite.Swapper", "(internal/reflectlite.Value).Len"], unfollowed := true, recurses := true, plainKeys := false, apart := false }
def FnJoinSaid : Prop := fnJoinRow.holds Tryz.pinned (OpenSpec.ofChange fnJoinSpec)

/-- ITS FALSE NEIGHBOUR: 'it returns false'. Refute it at one input. -/
def fnJoinWrong : ChangeSpec := { name := "fnJoin", fn := fun _ => fun
  | [d] => { results := [.lit (.bool false)], args := [d] }
  | _ => none }
def FnJoinWrongFalsely : Prop := fnJoinRow.holds Tryz.pinned (OpenSpec.ofChange fnJoinWrong)

/-- 'laws.FnMonotone': WHATEVER THE INPUT: true; the input reads as it did. -/
def fnMonotoneSpec : ChangeSpec := { name := "fnMonotone", fn := fun _ => fun
  | [d] => { results := [.lit (.bool true)], args := [d] }
  | _ => none }
def fnMonotoneRow : OpenClaim := { program := "ytchkdijelkdpaaagreat", sum := "501e9af6d18035b576a2b7037ec49202ac3f88f9fb8492855f93462c8ded322e", func := "loop.example/g00510/laws.FnMonotone", spec := "fnMonotone", inPlace := ["internal/reflectlite.ValueOf", "internal/reflectlite.Swapper", "(internal/reflectlite.Value).Len"], unfollowed := true, recurses := true, plainKeys := false, apart := false }
def FnMonotoneSaid : Prop := fnMonotoneRow.holds Tryz.pinned (OpenSpec.ofChange fnMonotoneSpec)

/-- ITS FALSE NEIGHBOUR: 'it returns false'. Refute it at one input. -/
def fnMonotoneWrong : ChangeSpec := { name := "fnMonotone", fn := fun _ => fun
  | [d] => { results := [.lit (.bool false)], args := [d] }
  | _ => none }
def FnMonotoneWrongFalsely : Prop := fnMonotoneRow.holds Tryz.pinned (OpenSpec.ofChange fnMonotoneWrong)

/-- 'laws.FnExactGroupSum': WHATEVER THE INPUT: true; the input reads as it did. -/
def fnExactGroupSumSpec : ChangeSpec := { name := "fnExactGroupSum", fn := fun _ => fun
  | [d1, d2, d3] => { results := [.lit (.bool true)], args := [d1, d2, d3] }
  | _ => none }
def fnExactGroupSumRow : OpenClaim := { program := "ytchkdijelkdpaaagreat", sum := "501e9af6d18035b576a2b7037ec49202ac3f88f9fb8492855f93462c8ded322e", func := "loop.example/g00510/laws.FnExactGroupSum", spec := "fnExactGroupSum", inPlace := ["internal/reflectlite.ValueOf", "internal/reflectlite.Swapper", "(internal/reflectlite.Value).Len"], unfollowed := true, recurses := true, loops := true, plainKeys := false, apart := false }
def FnExactGroupSumSaid : Prop := fnExactGroupSumRow.holds Tryz.pinned (OpenSpec.ofChange fnExactGroupSumSpec)

/-- ITS FALSE NEIGHBOUR: 'it returns false'. Refute it at one input. -/
def fnExactGroupSumWrong : ChangeSpec := { name := "fnExactGroupSum", fn := fun _ => fun
  | [d1, d2, d3] => { results := [.lit (.bool false)], args := [d1, d2, d3] }
  | _ => none }
def FnExactGroupSumWrongFalsely : Prop := fnExactGroupSumRow.holds Tryz.pinned (OpenSpec.ofChange fnExactGroupSumWrong)

/-- 'laws.FnGroup': WHATEVER THE INPUT: true; the input reads as it did. -/
def fnGroupSpec : ChangeSpec := { name := "fnGroup", fn := fun _ => fun
  | [d] => { results := [.lit (.bool true)], args := [d] }
  | _ => none }
def fnGroupRow : OpenClaim := { program := "ytchkdijelkdpaaagreat", sum := "501e9af6d18035b576a2b7037ec49202ac3f88f9fb8492855f93462c8ded322e", func := "loop.example/g00510/laws.FnGroup", spec := "fnGroup", inPlace := ["internal/reflectlite.ValueOf", "internal/reflectlite.Swapper", "(internal/reflectlite.Value).Len"], unfollowed := true, recurses := true, plainKeys := false, apart := false }
def FnGroupSaid : Prop := fnGroupRow.holds Tryz.pinned (OpenSpec.ofChange fnGroupSpec)

/-- ITS FALSE NEIGHBOUR: 'it returns false'. Refute it at one input. -/
def fnGroupWrong : ChangeSpec := { name := "fnGroup", fn := fun _ => fun
  | [d] => { results := [.lit (.bool false)], args := [d] }
  | _ => none }
def FnGroupWrongFalsely : Prop := fnGroupRow.holds Tryz.pinned (OpenSpec.ofChange fnGroupWrong)

/- THE SECOND FORM. 'bulk': how many values and letters a reading holds, each counted each time it is reached (what is shared counts as often as it is met; a slice's spare places count too). A statement '..UptoSaid' is the law's where the arguments, and the package variables that the reading takes, are together of bulk at most 1048576: NARROWER than '..Said'. Prove '..Said' where nothing that the law and all that it calls make is longer than what came in: it says more and counts as full. Else prove '..UptoSaid'. A law counts once. -/
mutual
def uptoBulk {H : Type} : DataW H → Nat
  | .lit (.string bytes) => bytes.length + 1
  | .lit _ => 1
  | .nil => 1
  | .ptr d => uptoBulk d + 1
  | .slice elems spare => uptoBulkAll elems + uptoBulkAll spare + 1
  | .agg parts => uptoBulkAll parts + 1
  | .iface _ d => uptoBulk d + 1
  | .map entries => uptoBulkEntries entries + 1
  | .held _ => 1
def uptoBulkAll {H : Type} : List (DataW H) → Nat
  | [] => 0
  | d :: r => uptoBulk d + uptoBulkAll r
def uptoBulkEntries {H : Type} : List (Lit × DataW H) → Nat
  | [] => 0
  | x :: r => uptoBulkEntry x + uptoBulkEntries r
def uptoBulkEntry {H : Type} : Lit × DataW H → Nat
  | (.string bytes, d) => bytes.length + uptoBulk d + 1
  | (_, d) => uptoBulk d + 1
 end
def uptoSmall : (H : Type) → List (DataW H) → Bool := fun _ ds => decide (uptoBulkAll ds ≤ 1048576)
def OpenSpec.upto (s : _root_.Go.ChangeSpec) : _root_.Go.OpenSpec := { _root_.Go.OpenSpec.ofChange s with cond := some uptoSmall }

/-- 'laws.FnExactJoinOn', WHERE WHAT IT READS IS OF BULK AT MOST 1048576: true; the input reads as it did. -/
def fnExactJoinOnUptoRow : OpenClaim := { program := "ytchkdijelkdpaaagreat", sum := "501e9af6d18035b576a2b7037ec49202ac3f88f9fb8492855f93462c8ded322e", func := "loop.example/g00510/laws.FnExactJoinOn", spec := "fnExactJoinOn", inPlace := ["internal/reflectlite.ValueOf", "internal/reflectlite.Swapper", "(internal/reflectlite.Value).Len"], unfollowed := true, recurses := true, loops := true, plainKeys := false, apart := false, narrowed := true }
def FnExactJoinOnUptoSaid : Prop := fnExactJoinOnUptoRow.holds Tryz.pinned (OpenSpec.upto fnExactJoinOnSpec)

/-- 'laws.FnJoin', WHERE WHAT IT READS IS OF BULK AT MOST 1048576: true; the input reads as it did. -/
def fnJoinUptoRow : OpenClaim := { program := "ytchkdijelkdpaaagreat", sum := "501e9af6d18035b576a2b7037ec49202ac3f88f9fb8492855f93462c8ded322e", func := "loop.example/g00510/laws.FnJoin", spec := "fnJoin", inPlace := ["internal/reflectlite.ValueOf", "internal/reflectlite.Swapper", "(internal/reflectlite.Value).Len"], unfollowed := true, recurses := true, plainKeys := false, apart := false, narrowed := true }
def FnJoinUptoSaid : Prop := fnJoinUptoRow.holds Tryz.pinned (OpenSpec.upto fnJoinSpec)

/-- 'laws.FnMonotone', WHERE WHAT IT READS IS OF BULK AT MOST 1048576: true; the input reads as it did. -/
def fnMonotoneUptoRow : OpenClaim := { program := "ytchkdijelkdpaaagreat", sum := "501e9af6d18035b576a2b7037ec49202ac3f88f9fb8492855f93462c8ded322e", func := "loop.example/g00510/laws.FnMonotone", spec := "fnMonotone", inPlace := ["internal/reflectlite.ValueOf", "internal/reflectlite.Swapper", "(internal/reflectlite.Value).Len"], unfollowed := true, recurses := true, plainKeys := false, apart := false, narrowed := true }
def FnMonotoneUptoSaid : Prop := fnMonotoneUptoRow.holds Tryz.pinned (OpenSpec.upto fnMonotoneSpec)

/-- 'laws.FnExactGroupSum', WHERE WHAT IT READS IS OF BULK AT MOST 1048576: true; the input reads as it did. -/
def fnExactGroupSumUptoRow : OpenClaim := { program := "ytchkdijelkdpaaagreat", sum := "501e9af6d18035b576a2b7037ec49202ac3f88f9fb8492855f93462c8ded322e", func := "loop.example/g00510/laws.FnExactGroupSum", spec := "fnExactGroupSum", inPlace := ["internal/reflectlite.ValueOf", "internal/reflectlite.Swapper", "(internal/reflectlite.Value).Len"], unfollowed := true, recurses := true, loops := true, plainKeys := false, apart := false, narrowed := true }
def FnExactGroupSumUptoSaid : Prop := fnExactGroupSumUptoRow.holds Tryz.pinned (OpenSpec.upto fnExactGroupSumSpec)

/-- 'laws.FnGroup', WHERE WHAT IT READS IS OF BULK AT MOST 1048576: true; the input reads as it did. -/
def fnGroupUptoRow : OpenClaim := { program := "ytchkdijelkdpaaagreat", sum := "501e9af6d18035b576a2b7037ec49202ac3f88f9fb8492855f93462c8ded322e", func := "loop.example/g00510/laws.FnGroup", spec := "fnGroup", inPlace := ["internal/reflectlite.ValueOf", "internal/reflectlite.Swapper", "(internal/reflectlite.Value).Len"], unfollowed := true, recurses := true, plainKeys := false, apart := false, narrowed := true }
def FnGroupUptoSaid : Prop := fnGroupUptoRow.holds Tryz.pinned (OpenSpec.upto fnGroupSpec)

end Rows
end Go.Proofs.YtchkdijelkdpaaaGreat
