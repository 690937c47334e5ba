/- The statement FnExactEqualNotebook holds: plain functions, certificates, laws. Conditions: none. -/
import Derived.Test.YtimjapjfceenkaaChecked
import Derived.Test.YtimjapjfceenkaaProg
import Derived.Test.YtimjapjfceenkaaRows
import Derived.Test.YtimjapjfceenkaaL2
set_option linter.all false
section
namespace Go.Ab
set_option linter.unusedVariables false
def laws_szCell_as (a0 : Cel) (a1 : Int) : List Arg := [.val (.v true [.int .i64 (Cel.id a0), .int .i64 (Cel.version a0), .int .i64 (Cel.kind a0), .str (Cel.name a0), .str (Cel.code a0), .int .i64 (Cel.n a0)]), .val (.v false [.int .i64 a1])]
def laws_szCell_ro (r : Int) : CallO := ⟨.v false [.int .i64 r], [], []⟩
def laws_szCell (N : Nat) (a0 : Cel) (a1 : Int) : Option (Int) :=
  bif (decide (((IntKind.i64.wrap (a1 - (List.length (Cel.name a0) : Int))) : Int) < 0)) then (
    some (-1)
  ) else (
    bif (decide (((IntKind.i64.wrap ((IntKind.i64.wrap (a1 - (List.length (Cel.name a0) : Int))) - (List.length (Cel.code a0) : Int))) : Int) < 0)) then (
      some (-1)
    ) else (
      some (IntKind.i64.wrap ((IntKind.i64.wrap (a1 - (List.length (Cel.name a0) : Int))) - (List.length (Cel.code a0) : Int)))
    )
  )
def laws_szCellS_as (a0 : List Cel) (a1 : Int) : List Arg := [.val (.v false [.sl .ro .cel a0]), .val (.v false [.int .i64 a1])]
def laws_szCellS_ro (r : Int) : CallO := ⟨.v false [.int .i64 r], [], []⟩
def laws_szCellS_b5 (N : Nat) : Nat → (List Cel) → Int → Int → Option (Int)
  | 0, _, _, _ => none
  | n + 1, x0, x1, x5 =>
    bif (decide ((x5 : Int) < (List.length x0 : Int))) then (
      if (0 : Int) ≤ x5 ∧ x5 < (List.length x0) then
      Option.bind (laws_szCell N (List.getD x0 (Int.toNat x5) Ty.cel.dflt) x1) fun r1 =>
      bif (decide ((r1 : Int) < 0)) then (
        some (-1)
      ) else (
        (laws_szCellS_b5 N n x0 r1 (IntKind.i64.wrap (x5 + 1)))
      )
      else none
    ) else (
      some x1
    )
def laws_szCellS (N : Nat) (a0 : List Cel) (a1 : Int) : Option (Int) :=
  bif (decide (((IntKind.i64.wrap (a1 - (List.length a0 : Int))) : Int) < 0)) then (
    some (-1)
  ) else (
    (laws_szCellS_b5 N N a0 (IntKind.i64.wrap (a1 - (List.length a0 : Int))) 0)
  )
def laws_szNotebook_as (a0 : List Cel) (a1 : Int) : List Arg := [.val (.v true [.sl .ro .cel a0]), .val (.v false [.int .i64 a1])]
def laws_szNotebook_ro (r : Int) : CallO := ⟨.v false [.int .i64 r], [], []⟩
def laws_szNotebook (N : Nat) (a0 : List Cel) (a1 : Int) : Option (Int) :=
  Option.bind (laws_szCellS N a0 a1) fun r1 =>
  bif (decide ((r1 : Int) < 0)) then (
    some (-1)
  ) else (
    some r1
  )
def laws_toCell_as (a0 : Cel) : List Arg := [.val (.v true [.int .i64 (Cel.id a0), .int .i64 (Cel.version a0), .int .i64 (Cel.kind a0), .str (Cel.name a0), .str (Cel.code a0), .int .i64 (Cel.n a0)])]
def laws_toCell_ro (r : Cel) : CallO := ⟨.v true [.int .i64 (Cel.id r), .int .i64 (Cel.version r), .int .i64 (Cel.kind r), .str (Cel.name r), .str (Cel.code r), .int .i64 (Cel.n r)], [], []⟩
def laws_toCell (N : Nat) (a0 : Cel) : Option (Cel) :=
  some a0
def laws_toCellS_as (a0 : List Cel) : List Arg := [.val (.v false [.sl .ro .cel a0])]
def laws_toCellS_ro (r : (List Cel)) : CallO := ⟨.v false [.sl .own .cel r], [], []⟩
def laws_toCellS_b3 (N : Nat) : Nat → (List Cel) → (List Cel) → Int → Option ((List Cel))
  | 0, _, _, _ => none
  | n + 1, x0, x3, x4 =>
    bif (decide ((x4 : Int) < (List.length x0 : Int))) then (
      if (0 : Int) ≤ x4 ∧ x4 < (List.length x0) then
      Option.bind (laws_toCell N (List.getD x0 (Int.toNat x4) Ty.cel.dflt)) fun r1 =>
      if (0 : Int) ≤ x4 ∧ x4 < (List.length x3) then
      (laws_toCellS_b3 N n x0 (List.set x3 (Int.toNat x4) r1) (IntKind.i64.wrap (x4 + 1)))
      else none
      else none
    ) else (
      some x3
    )
def laws_toCellS (N : Nat) (a0 : List Cel) : Option ((List Cel)) :=
  if (0 : Int) ≤ (List.length a0 : Int) ∧ (List.length a0 : Int) = (List.length a0 : Int) ∧ (List.length a0 : Int) ≤ Lim then
  (laws_toCellS_b3 N N a0 (List.replicate (Int.toNat (List.length a0 : Int)) Ty.cel.dflt) 0)
  else none
def laws_toNotebook_as (a0 : List Cel) : List Arg := [.val (.v true [.sl .ro .cel a0])]
def laws_toNotebook_ro (r : (List Cel)) : CallO := ⟨.v true [.sl .own .cel r], [], []⟩
def laws_toNotebook (N : Nat) (a0 : List Cel) : Option ((List Cel)) :=
  Option.bind (laws_toCellS N a0) fun r1 =>
  some r1
def laws_eqCell_as (a0 : Cel) (a1 : Cel) : List Arg := [.val (.v true [.int .i64 (Cel.id a0), .int .i64 (Cel.version a0), .int .i64 (Cel.kind a0), .str (Cel.name a0), .str (Cel.code a0), .int .i64 (Cel.n a0)]), .val (.v true [.int .i64 (Cel.id a1), .int .i64 (Cel.version a1), .int .i64 (Cel.kind a1), .str (Cel.name a1), .str (Cel.code a1), .int .i64 (Cel.n a1)])]
def laws_eqCell_ro (r : Bool) : CallO := ⟨.v false [.bool r], [], []⟩
def laws_eqCell (N : Nat) (a0 : Cel) (a1 : Cel) : Option (Bool) :=
  bif (((Cel.id a0) : Int) != (Cel.id a1)) then (
    some false
  ) else (
    bif (((Cel.version a0) : Int) != (Cel.version a1)) then (
      some false
    ) else (
      bif (((Cel.kind a0) : Int) != (Cel.kind a1)) then (
        some false
      ) else (
        bif (!(((Cel.name a0) : Str) == (Cel.name a1))) then (
          some false
        ) else (
          bif (!(((Cel.code a0) : Str) == (Cel.code a1))) then (
            some false
          ) else (
            bif (((Cel.n a0) : Int) != (Cel.n a1)) then (
              some false
            ) else (
              some true
            )
          )
        )
      )
    )
  )
def laws_eqCellS_as (a0 : List Cel) (a1 : List Cel) : List Arg := [.val (.v false [.sl .ro .cel a0]), .val (.v false [.sl .ro .cel a1])]
def laws_eqCellS_ro (r : Bool) : CallO := ⟨.v false [.bool r], [], []⟩
def laws_eqCellS_b4 (N : Nat) : Nat → (List Cel) → (List Cel) → Int → Option (Bool)
  | 0, _, _, _ => none
  | n + 1, x0, x1, x5 =>
    bif (decide ((x5 : Int) < (List.length x0 : Int))) then (
      if (0 : Int) ≤ x5 ∧ x5 < (List.length x0) then
      if (0 : Int) ≤ x5 ∧ x5 < (List.length x1) then
      Option.bind (laws_eqCell N (List.getD x0 (Int.toNat x5) Ty.cel.dflt) (List.getD x1 (Int.toNat x5) Ty.cel.dflt)) fun r1 =>
      bif (!r1) then (
        some false
      ) else (
        (laws_eqCellS_b4 N n x0 x1 (IntKind.i64.wrap (x5 + 1)))
      )
      else none
      else none
    ) else (
      some true
    )
def laws_eqCellS (N : Nat) (a0 : List Cel) (a1 : List Cel) : Option (Bool) :=
  bif (((List.length a0 : Int) : Int) != (List.length a1 : Int)) then (
    some false
  ) else (
    (laws_eqCellS_b4 N N a0 a1 0)
  )
def laws_eqNotebook_as (a0 : List Cel) (a1 : List Cel) : List Arg := [.val (.v true [.sl .ro .cel a0]), .val (.v true [.sl .ro .cel a1])]
def laws_eqNotebook_ro (r : Bool) : CallO := ⟨.v false [.bool r], [], []⟩
def laws_eqNotebook (N : Nat) (a0 : List Cel) (a1 : List Cel) : Option (Bool) :=
  Option.bind (laws_eqCellS N a0 a1) fun r1 =>
  bif (!r1) then (
    some false
  ) else (
    some true
  )
def spec_EqualNotebook_as (a0 : List Cel) (a1 : List Cel) : List Arg := [.val (.v true [.sl .ro .cel a0]), .val (.v true [.sl .ro .cel a1])]
def spec_EqualNotebook_ro (r : Bool) : CallO := ⟨.v false [.bool r], [], []⟩
def spec_EqualNotebook_b4 (N : Nat) : Nat → Int → (List Cel) → (List Cel) → Option (Bool)
  | 0, _, _, _ => none
  | n + 1, x5, b2, b3 =>
    bif (decide ((x5 : Int) < (List.length b2 : Int))) then (
      if (0 : Int) ≤ x5 ∧ x5 < (List.length b2) then
      if (0 : Int) ≤ x5 ∧ x5 < (List.length b3) then
      bif (!((((Cel.id (List.getD b2 (Int.toNat x5) Ty.cel.dflt)) : Int) == (Cel.id (List.getD b3 (Int.toNat x5) Ty.cel.dflt))) && ((((Cel.version (List.getD b2 (Int.toNat x5) Ty.cel.dflt)) : Int) == (Cel.version (List.getD b3 (Int.toNat x5) Ty.cel.dflt))) && ((((Cel.kind (List.getD b2 (Int.toNat x5) Ty.cel.dflt)) : Int) == (Cel.kind (List.getD b3 (Int.toNat x5) Ty.cel.dflt))) && ((((Cel.name (List.getD b2 (Int.toNat x5) Ty.cel.dflt)) : Str) == (Cel.name (List.getD b3 (Int.toNat x5) Ty.cel.dflt))) && ((((Cel.code (List.getD b2 (Int.toNat x5) Ty.cel.dflt)) : Str) == (Cel.code (List.getD b3 (Int.toNat x5) Ty.cel.dflt))) && (((Cel.n (List.getD b2 (Int.toNat x5) Ty.cel.dflt)) : Int) == (Cel.n (List.getD b3 (Int.toNat x5) Ty.cel.dflt))))))))) then (
        some false
      ) else (
        (spec_EqualNotebook_b4 N n (IntKind.i64.wrap (x5 + 1)) b2 b3)
      )
      else none
      else none
    ) else (
      some true
    )
def spec_EqualNotebook (N : Nat) (a0 : List Cel) (a1 : List Cel) : Option (Bool) :=
  bif (((List.length a0 : Int) : Int) != (List.length a1 : Int)) then (
    some false
  ) else (
    (spec_EqualNotebook_b4 N N 0 a0 a1)
  )
def impl_same_impl_Cell_as (a0 : List Cel) (a1 : List Cel) : List Arg := [.val (.v false [.sl .ro .cel a0]), .val (.v false [.sl .ro .cel a1])]
def impl_same_impl_Cell_ro (r : Bool) : CallO := ⟨.v false [.bool r], [], []⟩
def impl_same_impl_Cell_b4 (N : Nat) : Nat → (List Cel) → (List Cel) → Int → Int → Option (Bool)
  | 0, _, _, _, _ => none
  | n + 1, x0, x1, x12, x13 =>
    bif (decide ((x13 : Int) < x12)) then (
      if (0 : Int) ≤ x13 ∧ x13 < (List.length x0) then
      if (0 : Int) ≤ x13 ∧ x13 < (List.length x1) then
      bif (!((((Cel.id (List.getD x0 (Int.toNat x13) Ty.cel.dflt)) : Int) == (Cel.id (List.getD x1 (Int.toNat x13) Ty.cel.dflt))) && ((((Cel.version (List.getD x0 (Int.toNat x13) Ty.cel.dflt)) : Int) == (Cel.version (List.getD x1 (Int.toNat x13) Ty.cel.dflt))) && ((((Cel.kind (List.getD x0 (Int.toNat x13) Ty.cel.dflt)) : Int) == (Cel.kind (List.getD x1 (Int.toNat x13) Ty.cel.dflt))) && ((((Cel.name (List.getD x0 (Int.toNat x13) Ty.cel.dflt)) : Str) == (Cel.name (List.getD x1 (Int.toNat x13) Ty.cel.dflt))) && ((((Cel.code (List.getD x0 (Int.toNat x13) Ty.cel.dflt)) : Str) == (Cel.code (List.getD x1 (Int.toNat x13) Ty.cel.dflt))) && (((Cel.n (List.getD x0 (Int.toNat x13) Ty.cel.dflt)) : Int) == (Cel.n (List.getD x1 (Int.toNat x13) Ty.cel.dflt))))))))) then (
        some false
      ) else (
        (impl_same_impl_Cell_b4 N n x0 x1 x12 (IntKind.i64.wrap (x13 + 1)))
      )
      else none
      else none
    ) else (
      some true
    )
def impl_same_impl_Cell (N : Nat) (a0 : List Cel) (a1 : List Cel) : Option (Bool) :=
  bif (((List.length a0 : Int) : Int) != (List.length a1 : Int)) then (
    some false
  ) else (
    (impl_same_impl_Cell_b4 N N a0 a1 (List.length a0 : Int) 0)
  )
def impl_EqualNotebook_as (a0 : List Cel) (a1 : List Cel) : List Arg := [.val (.v true [.sl .ro .cel a0]), .val (.v true [.sl .ro .cel a1])]
def impl_EqualNotebook_ro (r : Bool) : CallO := ⟨.v false [.bool r], [], []⟩
def impl_EqualNotebook (N : Nat) (a0 : List Cel) (a1 : List Cel) : Option (Bool) :=
  Option.bind (impl_same_impl_Cell N a0 a1) fun r1 =>
  some r1
def laws_FnExactEqualNotebook_as (a0 : List Cel) (a1 : List Cel) : List Arg := [.val (.v true [.sl .ro .cel a0]), .val (.v true [.sl .ro .cel a1])]
def laws_FnExactEqualNotebook_ro (r : Bool) : CallO := ⟨.v false [.bool r], [], []⟩
def laws_FnExactEqualNotebook (N : Nat) (a0 : List Cel) (a1 : List Cel) : Option (Bool) :=
  Option.bind (laws_szNotebook N a0 1048576) fun r1 =>
  bif (decide ((r1 : Int) < 0)) then (
    some true
  ) else (
    Option.bind (laws_szNotebook N a1 r1) fun r2 =>
    bif (decide ((r2 : Int) < 0)) then (
      some true
    ) else (
      Option.bind (laws_toNotebook N a0) fun r3 =>
      Option.bind (laws_toNotebook N a1) fun r4 =>
      Option.bind (spec_EqualNotebook N r3 r4) fun r5 =>
      Option.bind (laws_toNotebook N a0) fun r6 =>
      Option.bind (laws_toNotebook N a1) fun r7 =>
      Option.bind (impl_EqualNotebook N r6 r7) fun r8 =>
      bif (!((r8 : Bool) == r5)) then (
        some false
      ) else (
        Option.bind (laws_toNotebook N a0) fun r9 =>
        Option.bind (laws_eqNotebook N r6 r9) fun r10 =>
        bif (!r10) then (
          some false
        ) else (
          Option.bind (laws_toNotebook N a1) fun r11 =>
          Option.bind (laws_eqNotebook N r7 r11) fun r12 =>
          bif (!r12) then (
            some false
          ) else (
            some true
          )
        )
      )
    )
  )
end Go.Ab
end
section
open Go.Proofs
namespace Go.Ab.T
set_option linter.unusedVariables false
set_option maxRecDepth 100000
def tt : TT := [(3, { zero := some [.int .i64 0], ik := some .i64 }),
  (4, { zero := some [.bool false], isBool := true }),
  (5, { zero := some [.int .u8 0], ik := some .u8 }),
  (9, { zero := some [.str []], isStr := true }),
  (25, { zero := some [.sl .own .fil []], elem := some (111, .fil) }),
  (27, { sz := 3, agg := true, zero := some [.int .i64 0, .int .i64 0, .sl .own .fil []], offs := [0, 1, 2], fsz := [1, 1, 1] }),
  (31, { zero := some [.sl .own .fil []], elem := some (80, .fil) }),
  (33, { sz := 3, agg := true, zero := some [.int .i64 0, .int .i64 0, .sl .own .fil []], offs := [0, 1, 2], fsz := [1, 1, 1] }),
  (37, { zero := some [.sl .own .exp []], elem := some (39, .exp) }),
  (39, { sz := 4, agg := true, zero := some [.int .i64 0, .int .i64 0, .str [], .sl .own .exp []], offs := [0, 1, 2, 3], fsz := [1, 1, 1, 1] }),
  (42, { zero := some [.sl .own .exp []], elem := some (44, .exp) }),
  (44, { sz := 4, agg := true, zero := some [.int .i64 0, .int .i64 0, .str [], .sl .own .exp []], offs := [0, 1, 2, 3], fsz := [1, 1, 1, 1] }),
  (48, { zero := some [.sl .own .cel []], elem := some (61, .cel) }),
  (50, { agg := true, zero := some [.sl .own .cel []], offs := [0], fsz := [1] }),
  (53, { zero := some [.sl .own .cel []], elem := some (64, .cel) }),
  (55, { agg := true, zero := some [.sl .own .cel []], offs := [0], fsz := [1] }),
  (61, { sz := 6, agg := true, zero := some [.int .i64 0, .int .i64 0, .int .i64 0, .str [], .str [], .int .i64 0], offs := [0, 1, 2, 3, 4, 5], fsz := [1, 1, 1, 1, 1, 1], same := true }),
  (64, { sz := 6, agg := true, zero := some [.int .i64 0, .int .i64 0, .int .i64 0, .str [], .str [], .int .i64 0], offs := [0, 1, 2, 3, 4, 5], fsz := [1, 1, 1, 1, 1, 1], same := true }),
  (73, { zero := some [.sl .own .byte []], elem := some (5, .byte) }),
  (80, { sz := 2, agg := true, zero := some [.str [], .int .i64 0], offs := [0, 1], fsz := [1, 1] }),
  (94, { zero := some [.sl .own .str []], elem := some (9, .str) }),
  (111, { sz := 2, agg := true, zero := some [.str [], .int .i64 0], offs := [0, 1], fsz := [1, 1] })]
theorem ttok : TTok Try.prog tt := ttChk_ok (by kernel_rfl)
theorem mix : Try.prog.follows .mixedOrders = true := by kernel_rfl
noncomputable def I36 : Info := { body := (Try.f36.body).getD .skip, nt := 20, results := [.tmp 4], keep := [0, 2, 4, 8, 22, 36, 5], live := [], modes := [], ext := [], lnt := [], casts := [], fcast := [] }
theorem fk36 : FnOk Try.prog 36 Try.f36 I36 := ⟨Try.func36, by kernel_rfl, by kernel_rfl, by kernel_rfl, by kernel_rfl⟩
theorem p36_e_0 (a0 : Cel) (a1 : Int) : run tt (AbsCalls Try.prog) I36 3000 false [.code I36.body] ⟨(entry 0 (laws_szCell_as a0 a1)), [true], [], []⟩ = some (.done (laws_szCell_ro (-1)) [(decide (((IntKind.i64.wrap (a1 - (List.length (Cel.name a0) : Int))) : Int) < 0)) = true]) := by kernel_rfl
theorem p36_e_1 (a0 : Cel) (a1 : Int) : run tt (AbsCalls Try.prog) I36 3000 false [.code I36.body] ⟨(entry 0 (laws_szCell_as a0 a1)), [false, true], [], []⟩ = some (.done (laws_szCell_ro (-1)) [(decide (((IntKind.i64.wrap (a1 - (List.length (Cel.name a0) : Int))) : Int) < 0)) = false, (decide (((IntKind.i64.wrap ((IntKind.i64.wrap (a1 - (List.length (Cel.name a0) : Int))) - (List.length (Cel.code a0) : Int))) : Int) < 0)) = true]) := by kernel_rfl
theorem p36_e_2 (a0 : Cel) (a1 : Int) : run tt (AbsCalls Try.prog) I36 3000 false [.code I36.body] ⟨(entry 0 (laws_szCell_as a0 a1)), [false, false], [], []⟩ = some (.done (laws_szCell_ro (IntKind.i64.wrap ((IntKind.i64.wrap (a1 - (List.length (Cel.name a0) : Int))) - (List.length (Cel.code a0) : Int)))) [(decide (((IntKind.i64.wrap (a1 - (List.length (Cel.name a0) : Int))) : Int) < 0)) = false, (decide (((IntKind.i64.wrap ((IntKind.i64.wrap (a1 - (List.length (Cel.name a0) : Int))) - (List.length (Cel.code a0) : Int))) : Int) < 0)) = false]) := by kernel_rfl
theorem c36_e {N : Nat} : ∀ a0 a1 r, laws_szCell N a0 a1 = some r → Reach Try.prog Try.f36 I36 [.code I36.body] (entry 0 (laws_szCell_as a0 a1)) (laws_szCell_ro r) := by
  intro a0 a1 r h
  unfold laws_szCell at h
  rcases cond_inv h with ⟨h0, h⟩ | ⟨h0, h⟩
  · obtain rfl := Option.some.inj h
    exact Reach.done ttok mix fk36 (p36_e_0 a0 a1) (obs_cons h0 obs_nil)
  · rcases cond_inv h with ⟨h1, h⟩ | ⟨h1, h⟩
    · obtain rfl := Option.some.inj h
      exact Reach.done ttok mix fk36 (p36_e_1 a0 a1) (obs_cons h0 (obs_cons h1 obs_nil))
    · obtain rfl := Option.some.inj h
      exact Reach.done ttok mix fk36 (p36_e_2 a0 a1) (obs_cons h0 (obs_cons h1 obs_nil))
theorem laws_szCell_ok {N : Nat} {a0 : Cel} {a1 : Int} {r : Int} (h : laws_szCell N  a0 a1 = some r) : AbsCalls Try.prog 36 (laws_szCell_as a0 a1) (laws_szCell_ro r) :=
 AbsCalls.of_reach fk36 rfl rfl (Nat.le_of_ble_eq_true rfl) (c36_e a0 a1 r h)
noncomputable def I59 : Info := { body := (Try.f59.body).getD .skip, nt := 27, results := [.tmp 4], keep := [0, 2, 8, 10, 22, 30, 50], live := [(5, [0, 2, 10])], modes := [], ext := [], lnt := [], casts := [], fcast := [] }
theorem fk59 : FnOk Try.prog 59 Try.f59 I59 := ⟨Try.func59, by kernel_rfl, by kernel_rfl, by kernel_rfl, by kernel_rfl⟩
def S59_5 (x0 : List Cel) (x1 : Int) (x5 : Int) : St := [(0, .v false [.sl .ro .cel x0]), (2, .v false [.int .i64 x1]), (10, .v false [.int .i64 x5])]
theorem p59_5_0 (x0 : List Cel) (x1 : Int) (x5 : Int) (r1 : Int) : run tt (AbsCalls Try.prog) I59 3000 true (stkAt 5 I59.body) ⟨(S59_5 x0 x1 x5), [true, true], [laws_szCell_ro r1], []⟩ = some (.done (laws_szCellS_ro (-1)) [(decide ((x5 : Int) < (List.length x0 : Int))) = true, (0 : Int) ≤ x5 ∧ x5 < (List.length x0), AbsCalls Try.prog 36 (laws_szCell_as (List.getD x0 (Int.toNat x5) Ty.cel.dflt) x1) (laws_szCell_ro r1), (decide ((r1 : Int) < 0)) = true]) := by kernel_rfl
theorem p59_5_1 (x0 : List Cel) (x1 : Int) (x5 : Int) (r1 : Int) : run tt (AbsCalls Try.prog) I59 3000 true (stkAt 5 I59.body) ⟨(S59_5 x0 x1 x5), [true, false], [laws_szCell_ro r1], []⟩ = some (.stop (stkAt 5 I59.body) (S59_5 x0 r1 (IntKind.i64.wrap (x5 + 1))) [(decide ((x5 : Int) < (List.length x0 : Int))) = true, (0 : Int) ≤ x5 ∧ x5 < (List.length x0), AbsCalls Try.prog 36 (laws_szCell_as (List.getD x0 (Int.toNat x5) Ty.cel.dflt) x1) (laws_szCell_ro r1), (decide ((r1 : Int) < 0)) = false]) := by kernel_rfl
theorem p59_5_2 (x0 : List Cel) (x1 : Int) (x5 : Int) : run tt (AbsCalls Try.prog) I59 3000 true (stkAt 5 I59.body) ⟨(S59_5 x0 x1 x5), [false], [], []⟩ = some (.done (laws_szCellS_ro x1) [(decide ((x5 : Int) < (List.length x0 : Int))) = false]) := by kernel_rfl
theorem p59_e_3 (a0 : List Cel) (a1 : Int) : run tt (AbsCalls Try.prog) I59 3000 false [.code I59.body] ⟨(entry 0 (laws_szCellS_as a0 a1)), [true], [], []⟩ = some (.done (laws_szCellS_ro (-1)) [(decide (((IntKind.i64.wrap (a1 - (List.length a0 : Int))) : Int) < 0)) = true]) := by kernel_rfl
theorem p59_e_4 (a0 : List Cel) (a1 : Int) : run tt (AbsCalls Try.prog) I59 3000 false [.code I59.body] ⟨(entry 0 (laws_szCellS_as a0 a1)), [false], [], []⟩ = some (.stop (stkAt 5 I59.body) (S59_5 a0 (IntKind.i64.wrap (a1 - (List.length a0 : Int))) 0) [(decide (((IntKind.i64.wrap (a1 - (List.length a0 : Int))) : Int) < 0)) = false]) := by kernel_rfl
theorem c59_5 {N : Nat} : ∀ n x0 x1 x5 r, laws_szCellS_b5 N n x0 x1 x5 = some r → Reach Try.prog Try.f59 I59 (stkAt 5 I59.body) (S59_5 x0 x1 x5) (laws_szCellS_ro r) := by
  intro n
  induction n with
  | zero => intro x0 x1 x5 r h; have h' : (none : Option (Int)) = some r := h; cases h'
  | succ n ih =>
    intro x0 x1 x5 r h
    rw [laws_szCellS_b5] at h
    rcases cond_inv h with ⟨h0, h⟩ | ⟨h0, h⟩
    · obtain ⟨h1, h⟩ := ite_inv h
      obtain ⟨r1, h2, h⟩ := bind_inv h
      rcases cond_inv h with ⟨h3, h⟩ | ⟨h3, h⟩
      · obtain rfl := Option.some.inj h
        exact Reach.done ttok mix fk59 (p59_5_0 x0 x1 x5 r1) (obs_cons h0 (obs_cons h1 (obs_cons (laws_szCell_ok h2) (obs_cons h3 obs_nil))))
      · exact Reach.stop ttok mix fk59 (p59_5_1 x0 x1 x5 r1) (obs_cons h0 (obs_cons h1 (obs_cons (laws_szCell_ok h2) (obs_cons h3 obs_nil)))) (ih _ _ _ _ h)
    · obtain rfl := Option.some.inj h
      exact Reach.done ttok mix fk59 (p59_5_2 x0 x1 x5) (obs_cons h0 obs_nil)
theorem c59_e {N : Nat} : ∀ a0 a1 r, laws_szCellS N a0 a1 = some r → Reach Try.prog Try.f59 I59 [.code I59.body] (entry 0 (laws_szCellS_as a0 a1)) (laws_szCellS_ro r) := by
  intro a0 a1 r h
  unfold laws_szCellS at h
  rcases cond_inv h with ⟨h0, h⟩ | ⟨h0, h⟩
  · obtain rfl := Option.some.inj h
    exact Reach.done ttok mix fk59 (p59_e_3 a0 a1) (obs_cons h0 obs_nil)
  · exact Reach.stop ttok mix fk59 (p59_e_4 a0 a1) (obs_cons h0 obs_nil) (c59_5   _ _ _ _ _ h)
theorem laws_szCellS_ok {N : Nat} {a0 : List Cel} {a1 : Int} {r : Int} (h : laws_szCellS N  a0 a1 = some r) : AbsCalls Try.prog 59 (laws_szCellS_as a0 a1) (laws_szCellS_ro r) :=
 AbsCalls.of_reach fk59 rfl rfl (Nat.le_of_ble_eq_true rfl) (c59_e a0 a1 r h)
noncomputable def I29 : Info := { body := (Try.f29.body).getD .skip, nt := 12, results := [.tmp 4], keep := [0, 2, 4, 8, 20, 5], live := [], modes := [], ext := [], lnt := [], casts := [], fcast := [] }
theorem fk29 : FnOk Try.prog 29 Try.f29 I29 := ⟨Try.func29, by kernel_rfl, by kernel_rfl, by kernel_rfl, by kernel_rfl⟩
theorem p29_e_0 (a0 : List Cel) (a1 : Int) (r1 : Int) : run tt (AbsCalls Try.prog) I29 3000 false [.code I29.body] ⟨(entry 0 (laws_szNotebook_as a0 a1)), [true], [laws_szCellS_ro r1], []⟩ = some (.done (laws_szNotebook_ro (-1)) [AbsCalls Try.prog 59 (laws_szCellS_as a0 a1) (laws_szCellS_ro r1), (decide ((r1 : Int) < 0)) = true]) := by kernel_rfl
theorem p29_e_1 (a0 : List Cel) (a1 : Int) (r1 : Int) : run tt (AbsCalls Try.prog) I29 3000 false [.code I29.body] ⟨(entry 0 (laws_szNotebook_as a0 a1)), [false], [laws_szCellS_ro r1], []⟩ = some (.done (laws_szNotebook_ro r1) [AbsCalls Try.prog 59 (laws_szCellS_as a0 a1) (laws_szCellS_ro r1), (decide ((r1 : Int) < 0)) = false]) := by kernel_rfl
theorem c29_e {N : Nat} : ∀ a0 a1 r, laws_szNotebook N a0 a1 = some r → Reach Try.prog Try.f29 I29 [.code I29.body] (entry 0 (laws_szNotebook_as a0 a1)) (laws_szNotebook_ro r) := by
  intro a0 a1 r h
  unfold laws_szNotebook at h
  obtain ⟨r1, h0, h⟩ := bind_inv h
  rcases cond_inv h with ⟨h1, h⟩ | ⟨h1, h⟩
  · obtain rfl := Option.some.inj h
    exact Reach.done ttok mix fk29 (p29_e_0 a0 a1 r1) (obs_cons (laws_szCellS_ok h0) (obs_cons h1 obs_nil))
  · obtain rfl := Option.some.inj h
    exact Reach.done ttok mix fk29 (p29_e_1 a0 a1 r1) (obs_cons (laws_szCellS_ok h0) (obs_cons h1 obs_nil))
theorem laws_szNotebook_ok {N : Nat} {a0 : List Cel} {a1 : Int} {r : Int} (h : laws_szNotebook N  a0 a1 = some r) : AbsCalls Try.prog 29 (laws_szNotebook_as a0 a1) (laws_szNotebook_ro r) :=
 AbsCalls.of_reach fk29 rfl rfl (Nat.le_of_ble_eq_true rfl) (c29_e a0 a1 r h)
noncomputable def I38 : Info := { body := (Try.f38.body).getD .skip, nt := 23, results := [.cell 2 64], keep := [0, 2, 4, 6, 3, 5, 7], live := [], modes := [], ext := [], lnt := [], casts := [], fcast := [] }
theorem fk38 : FnOk Try.prog 38 Try.f38 I38 := ⟨Try.func38, by kernel_rfl, by kernel_rfl, by kernel_rfl, by kernel_rfl⟩
theorem p38_e_0 (a0 : Cel) : run tt (AbsCalls Try.prog) I38 3000 false [.code I38.body] ⟨(entry 0 (laws_toCell_as a0)), [], [], []⟩ = some (.done (laws_toCell_ro a0) []) := by kernel_rfl
theorem c38_e {N : Nat} : ∀ a0 r, laws_toCell N a0 = some r → Reach Try.prog Try.f38 I38 [.code I38.body] (entry 0 (laws_toCell_as a0)) (laws_toCell_ro r) := by
  intro a0 r h
  unfold laws_toCell at h
  obtain rfl := Option.some.inj h
  exact Reach.done ttok mix fk38 (p38_e_0 a0) obs_nil
theorem laws_toCell_ok {N : Nat} {a0 : Cel} {r : Cel} (h : laws_toCell N  a0 = some r) : AbsCalls Try.prog 38 (laws_toCell_as a0) (laws_toCell_ro r) :=
 AbsCalls.of_reach fk38 rfl rfl (Nat.le_of_ble_eq_true rfl) (c38_e a0 r h)
noncomputable def I60 : Info := { body := (Try.f60.body).getD .skip, nt := 23, results := [.tmp 2], keep := [0, 4, 6, 8, 22], live := [(3, [0, 6, 8])], modes := [(5, [(0, .ref, false)]), (6, [(0, .take, false)])], ext := [], lnt := [], casts := [], fcast := [] }
theorem fk60 : FnOk Try.prog 60 Try.f60 I60 := ⟨Try.func60, by kernel_rfl, by kernel_rfl, by kernel_rfl, by kernel_rfl⟩
def S60_3 (x0 : List Cel) (x3 : List Cel) (x4 : Int) : St := [(0, .v false [.sl .ro .cel x0]), (6, .v false [.sl .own .cel x3]), (8, .v false [.int .i64 x4])]
theorem p60_3_0 (x0 : List Cel) (x3 : List Cel) (x4 : Int) (r1 : Cel) : run tt (AbsCalls Try.prog) I60 3000 true (stkAt 3 I60.body) ⟨(S60_3 x0 x3 x4), [true], [laws_toCell_ro r1], []⟩ = some (.stop (stkAt 3 I60.body) (S60_3 x0 (List.set x3 (Int.toNat x4) r1) (IntKind.i64.wrap (x4 + 1))) [(decide ((x4 : Int) < (List.length x0 : Int))) = true, (0 : Int) ≤ x4 ∧ x4 < (List.length x0), AbsCalls Try.prog 38 (laws_toCell_as (List.getD x0 (Int.toNat x4) Ty.cel.dflt)) (laws_toCell_ro r1), (0 : Int) ≤ x4 ∧ x4 < (List.length x3)]) := by kernel_rfl
theorem p60_3_1 (x0 : List Cel) (x3 : List Cel) (x4 : Int) : run tt (AbsCalls Try.prog) I60 3000 true (stkAt 3 I60.body) ⟨(S60_3 x0 x3 x4), [false], [], []⟩ = some (.done (laws_toCellS_ro x3) [(decide ((x4 : Int) < (List.length x0 : Int))) = false]) := by kernel_rfl
theorem p60_e_2 (a0 : List Cel) : run tt (AbsCalls Try.prog) I60 3000 false [.code I60.body] ⟨(entry 0 (laws_toCellS_as a0)), [], [], []⟩ = some (.stop (stkAt 3 I60.body) (S60_3 a0 (List.replicate (Int.toNat (List.length a0 : Int)) Ty.cel.dflt) 0) [(0 : Int) ≤ (List.length a0 : Int) ∧ (List.length a0 : Int) = (List.length a0 : Int) ∧ (List.length a0 : Int) ≤ Lim]) := by kernel_rfl
theorem c60_3 {N : Nat} : ∀ n x0 x3 x4 r, laws_toCellS_b3 N n x0 x3 x4 = some r → Reach Try.prog Try.f60 I60 (stkAt 3 I60.body) (S60_3 x0 x3 x4) (laws_toCellS_ro r) := by
  intro n
  induction n with
  | zero => intro x0 x3 x4 r h; have h' : (none : Option ((List Cel))) = some r := h; cases h'
  | succ n ih =>
    intro x0 x3 x4 r h
    rw [laws_toCellS_b3] at h
    rcases cond_inv h with ⟨h0, h⟩ | ⟨h0, h⟩
    · obtain ⟨h1, h⟩ := ite_inv h
      obtain ⟨r1, h2, h⟩ := bind_inv h
      obtain ⟨h3, h⟩ := ite_inv h
      exact Reach.stop ttok mix fk60 (p60_3_0 x0 x3 x4 r1) (obs_cons h0 (obs_cons h1 (obs_cons (laws_toCell_ok h2) (obs_cons h3 obs_nil)))) (ih _ _ _ _ h)
    · obtain rfl := Option.some.inj h
      exact Reach.done ttok mix fk60 (p60_3_1 x0 x3 x4) (obs_cons h0 obs_nil)
theorem c60_e {N : Nat} : ∀ a0 r, laws_toCellS N a0 = some r → Reach Try.prog Try.f60 I60 [.code I60.body] (entry 0 (laws_toCellS_as a0)) (laws_toCellS_ro r) := by
  intro a0 r h
  unfold laws_toCellS at h
  obtain ⟨h0, h⟩ := ite_inv h
  exact Reach.stop ttok mix fk60 (p60_e_2 a0) (obs_cons h0 obs_nil) (c60_3   _ _ _ _ _ h)
theorem laws_toCellS_ok {N : Nat} {a0 : List Cel} {r : (List Cel)} (h : laws_toCellS N  a0 = some r) : AbsCalls Try.prog 60 (laws_toCellS_as a0) (laws_toCellS_ro r) :=
 AbsCalls.of_reach fk60 rfl rfl (Nat.le_of_ble_eq_true rfl) (c60_e a0 r h)
noncomputable def I31 : Info := { body := (Try.f31.body).getD .skip, nt := 9, results := [.cell 2 55], keep := [0, 2, 4, 6, 3, 5, 7], live := [], modes := [(3, [(0, .take, false)])], ext := [], lnt := [], casts := [], fcast := [] }
theorem fk31 : FnOk Try.prog 31 Try.f31 I31 := ⟨Try.func31, by kernel_rfl, by kernel_rfl, by kernel_rfl, by kernel_rfl⟩
theorem p31_e_0 (a0 : List Cel) (r1 : (List Cel)) : run tt (AbsCalls Try.prog) I31 3000 false [.code I31.body] ⟨(entry 0 (laws_toNotebook_as a0)), [], [laws_toCellS_ro r1], []⟩ = some (.done (laws_toNotebook_ro r1) [AbsCalls Try.prog 60 (laws_toCellS_as a0) (laws_toCellS_ro r1)]) := by kernel_rfl
theorem c31_e {N : Nat} : ∀ a0 r, laws_toNotebook N a0 = some r → Reach Try.prog Try.f31 I31 [.code I31.body] (entry 0 (laws_toNotebook_as a0)) (laws_toNotebook_ro r) := by
  intro a0 r h
  unfold laws_toNotebook at h
  obtain ⟨r1, h0, h⟩ := bind_inv h
  obtain rfl := Option.some.inj h
  exact Reach.done ttok mix fk31 (p31_e_0 a0 r1) (obs_cons (laws_toCellS_ok h0) obs_nil)
theorem laws_toNotebook_ok {N : Nat} {a0 : List Cel} {r : (List Cel)} (h : laws_toNotebook N  a0 = some r) : AbsCalls Try.prog 31 (laws_toNotebook_as a0) (laws_toNotebook_ro r) :=
 AbsCalls.of_reach fk31 rfl rfl (Nat.le_of_ble_eq_true rfl) (c31_e a0 r h)
noncomputable def I84 : Info := { body := (Try.f84.body).getD .skip, nt := 35, results := [.tmp 4], keep := [0, 2, 4, 6, 8, 18, 28, 38, 48, 58, 68, 5, 7], live := [], modes := [], ext := [], lnt := [], casts := [], fcast := [] }
theorem fk84 : FnOk Try.prog 84 Try.f84 I84 := ⟨Try.func84, by kernel_rfl, by kernel_rfl, by kernel_rfl, by kernel_rfl⟩
theorem p84_e_0 (a0 : Cel) (a1 : Cel) : run tt (AbsCalls Try.prog) I84 3000 false [.code I84.body] ⟨(entry 0 (laws_eqCell_as a0 a1)), [true], [], []⟩ = some (.done (laws_eqCell_ro false) [(((Cel.id a0) : Int) != (Cel.id a1)) = true]) := by kernel_rfl
theorem p84_e_1 (a0 : Cel) (a1 : Cel) : run tt (AbsCalls Try.prog) I84 3000 false [.code I84.body] ⟨(entry 0 (laws_eqCell_as a0 a1)), [false, true], [], []⟩ = some (.done (laws_eqCell_ro false) [(((Cel.id a0) : Int) != (Cel.id a1)) = false, (((Cel.version a0) : Int) != (Cel.version a1)) = true]) := by kernel_rfl
theorem p84_e_2 (a0 : Cel) (a1 : Cel) : run tt (AbsCalls Try.prog) I84 3000 false [.code I84.body] ⟨(entry 0 (laws_eqCell_as a0 a1)), [false, false, true], [], []⟩ = some (.done (laws_eqCell_ro false) [(((Cel.id a0) : Int) != (Cel.id a1)) = false, (((Cel.version a0) : Int) != (Cel.version a1)) = false, (((Cel.kind a0) : Int) != (Cel.kind a1)) = true]) := by kernel_rfl
theorem p84_e_3 (a0 : Cel) (a1 : Cel) : run tt (AbsCalls Try.prog) I84 3000 false [.code I84.body] ⟨(entry 0 (laws_eqCell_as a0 a1)), [false, false, false, true], [], []⟩ = some (.done (laws_eqCell_ro false) [(((Cel.id a0) : Int) != (Cel.id a1)) = false, (((Cel.version a0) : Int) != (Cel.version a1)) = false, (((Cel.kind a0) : Int) != (Cel.kind a1)) = false, (!(((Cel.name a0) : Str) == (Cel.name a1))) = true]) := by kernel_rfl
theorem p84_e_4 (a0 : Cel) (a1 : Cel) : run tt (AbsCalls Try.prog) I84 3000 false [.code I84.body] ⟨(entry 0 (laws_eqCell_as a0 a1)), [false, false, false, false, true], [], []⟩ = some (.done (laws_eqCell_ro false) [(((Cel.id a0) : Int) != (Cel.id a1)) = false, (((Cel.version a0) : Int) != (Cel.version a1)) = false, (((Cel.kind a0) : Int) != (Cel.kind a1)) = false, (!(((Cel.name a0) : Str) == (Cel.name a1))) = false, (!(((Cel.code a0) : Str) == (Cel.code a1))) = true]) := by kernel_rfl
theorem p84_e_5 (a0 : Cel) (a1 : Cel) : run tt (AbsCalls Try.prog) I84 3000 false [.code I84.body] ⟨(entry 0 (laws_eqCell_as a0 a1)), [false, false, false, false, false, true], [], []⟩ = some (.done (laws_eqCell_ro false) [(((Cel.id a0) : Int) != (Cel.id a1)) = false, (((Cel.version a0) : Int) != (Cel.version a1)) = false, (((Cel.kind a0) : Int) != (Cel.kind a1)) = false, (!(((Cel.name a0) : Str) == (Cel.name a1))) = false, (!(((Cel.code a0) : Str) == (Cel.code a1))) = false, (((Cel.n a0) : Int) != (Cel.n a1)) = true]) := by kernel_rfl
theorem p84_e_6 (a0 : Cel) (a1 : Cel) : run tt (AbsCalls Try.prog) I84 3000 false [.code I84.body] ⟨(entry 0 (laws_eqCell_as a0 a1)), [false, false, false, false, false, false], [], []⟩ = some (.done (laws_eqCell_ro true) [(((Cel.id a0) : Int) != (Cel.id a1)) = false, (((Cel.version a0) : Int) != (Cel.version a1)) = false, (((Cel.kind a0) : Int) != (Cel.kind a1)) = false, (!(((Cel.name a0) : Str) == (Cel.name a1))) = false, (!(((Cel.code a0) : Str) == (Cel.code a1))) = false, (((Cel.n a0) : Int) != (Cel.n a1)) = false]) := by kernel_rfl
theorem c84_e {N : Nat} : ∀ a0 a1 r, laws_eqCell N a0 a1 = some r → Reach Try.prog Try.f84 I84 [.code I84.body] (entry 0 (laws_eqCell_as a0 a1)) (laws_eqCell_ro r) := by
  intro a0 a1 r h
  unfold laws_eqCell at h
  rcases cond_inv h with ⟨h0, h⟩ | ⟨h0, h⟩
  · obtain rfl := Option.some.inj h
    exact Reach.done ttok mix fk84 (p84_e_0 a0 a1) (obs_cons h0 obs_nil)
  · rcases cond_inv h with ⟨h1, h⟩ | ⟨h1, h⟩
    · obtain rfl := Option.some.inj h
      exact Reach.done ttok mix fk84 (p84_e_1 a0 a1) (obs_cons h0 (obs_cons h1 obs_nil))
    · rcases cond_inv h with ⟨h2, h⟩ | ⟨h2, h⟩
      · obtain rfl := Option.some.inj h
        exact Reach.done ttok mix fk84 (p84_e_2 a0 a1) (obs_cons h0 (obs_cons h1 (obs_cons h2 obs_nil)))
      · rcases cond_inv h with ⟨h3, h⟩ | ⟨h3, h⟩
        · obtain rfl := Option.some.inj h
          exact Reach.done ttok mix fk84 (p84_e_3 a0 a1) (obs_cons h0 (obs_cons h1 (obs_cons h2 (obs_cons h3 obs_nil))))
        · rcases cond_inv h with ⟨h4, h⟩ | ⟨h4, h⟩
          · obtain rfl := Option.some.inj h
            exact Reach.done ttok mix fk84 (p84_e_4 a0 a1) (obs_cons h0 (obs_cons h1 (obs_cons h2 (obs_cons h3 (obs_cons h4 obs_nil)))))
          · rcases cond_inv h with ⟨h5, h⟩ | ⟨h5, h⟩
            · obtain rfl := Option.some.inj h
              exact Reach.done ttok mix fk84 (p84_e_5 a0 a1) (obs_cons h0 (obs_cons h1 (obs_cons h2 (obs_cons h3 (obs_cons h4 (obs_cons h5 obs_nil))))))
            · obtain rfl := Option.some.inj h
              exact Reach.done ttok mix fk84 (p84_e_6 a0 a1) (obs_cons h0 (obs_cons h1 (obs_cons h2 (obs_cons h3 (obs_cons h4 (obs_cons h5 obs_nil))))))
theorem laws_eqCell_ok {N : Nat} {a0 : Cel} {a1 : Cel} {r : Bool} (h : laws_eqCell N  a0 a1 = some r) : AbsCalls Try.prog 84 (laws_eqCell_as a0 a1) (laws_eqCell_ro r) :=
 AbsCalls.of_reach fk84 rfl rfl (Nat.le_of_ble_eq_true rfl) (c84_e a0 a1 r h)
noncomputable def I61 : Info := { body := (Try.f61.body).getD .skip, nt := 27, results := [.tmp 4], keep := [0, 2, 8, 10, 20, 28, 52], live := [(4, [0, 2, 10])], modes := [], ext := [], lnt := [], casts := [], fcast := [] }
theorem fk61 : FnOk Try.prog 61 Try.f61 I61 := ⟨Try.func61, by kernel_rfl, by kernel_rfl, by kernel_rfl, by kernel_rfl⟩
def S61_4 (x0 : List Cel) (x1 : List Cel) (x5 : Int) : St := [(0, .v false [.sl .ro .cel x0]), (2, .v false [.sl .ro .cel x1]), (10, .v false [.int .i64 x5])]
theorem p61_4_0 (x0 : List Cel) (x1 : List Cel) (x5 : Int) (r1 : Bool) : run tt (AbsCalls Try.prog) I61 3000 true (stkAt 4 I61.body) ⟨(S61_4 x0 x1 x5), [true, true], [laws_eqCell_ro r1], []⟩ = some (.done (laws_eqCellS_ro false) [(decide ((x5 : Int) < (List.length x0 : Int))) = true, (0 : Int) ≤ x5 ∧ x5 < (List.length x0), (0 : Int) ≤ x5 ∧ x5 < (List.length x1), AbsCalls Try.prog 84 (laws_eqCell_as (List.getD x0 (Int.toNat x5) Ty.cel.dflt) (List.getD x1 (Int.toNat x5) Ty.cel.dflt)) (laws_eqCell_ro r1), (!r1) = true]) := by kernel_rfl
theorem p61_4_1 (x0 : List Cel) (x1 : List Cel) (x5 : Int) (r1 : Bool) : run tt (AbsCalls Try.prog) I61 3000 true (stkAt 4 I61.body) ⟨(S61_4 x0 x1 x5), [true, false], [laws_eqCell_ro r1], []⟩ = some (.stop (stkAt 4 I61.body) (S61_4 x0 x1 (IntKind.i64.wrap (x5 + 1))) [(decide ((x5 : Int) < (List.length x0 : Int))) = true, (0 : Int) ≤ x5 ∧ x5 < (List.length x0), (0 : Int) ≤ x5 ∧ x5 < (List.length x1), AbsCalls Try.prog 84 (laws_eqCell_as (List.getD x0 (Int.toNat x5) Ty.cel.dflt) (List.getD x1 (Int.toNat x5) Ty.cel.dflt)) (laws_eqCell_ro r1), (!r1) = false]) := by kernel_rfl
theorem p61_4_2 (x0 : List Cel) (x1 : List Cel) (x5 : Int) : run tt (AbsCalls Try.prog) I61 3000 true (stkAt 4 I61.body) ⟨(S61_4 x0 x1 x5), [false], [], []⟩ = some (.done (laws_eqCellS_ro true) [(decide ((x5 : Int) < (List.length x0 : Int))) = false]) := by kernel_rfl
theorem p61_e_3 (a0 : List Cel) (a1 : List Cel) : run tt (AbsCalls Try.prog) I61 3000 false [.code I61.body] ⟨(entry 0 (laws_eqCellS_as a0 a1)), [true], [], []⟩ = some (.done (laws_eqCellS_ro false) [(((List.length a0 : Int) : Int) != (List.length a1 : Int)) = true]) := by kernel_rfl
theorem p61_e_4 (a0 : List Cel) (a1 : List Cel) : run tt (AbsCalls Try.prog) I61 3000 false [.code I61.body] ⟨(entry 0 (laws_eqCellS_as a0 a1)), [false], [], []⟩ = some (.stop (stkAt 4 I61.body) (S61_4 a0 a1 0) [(((List.length a0 : Int) : Int) != (List.length a1 : Int)) = false]) := by kernel_rfl
theorem c61_4 {N : Nat} : ∀ n x0 x1 x5 r, laws_eqCellS_b4 N n x0 x1 x5 = some r → Reach Try.prog Try.f61 I61 (stkAt 4 I61.body) (S61_4 x0 x1 x5) (laws_eqCellS_ro r) := by
  intro n
  induction n with
  | zero => intro x0 x1 x5 r h; have h' : (none : Option (Bool)) = some r := h; cases h'
  | succ n ih =>
    intro x0 x1 x5 r h
    rw [laws_eqCellS_b4] at h
    rcases cond_inv h with ⟨h0, h⟩ | ⟨h0, h⟩
    · obtain ⟨h1, h⟩ := ite_inv h
      obtain ⟨h2, h⟩ := ite_inv h
      obtain ⟨r1, h3, h⟩ := bind_inv h
      rcases cond_inv h with ⟨h4, h⟩ | ⟨h4, h⟩
      · obtain rfl := Option.some.inj h
        exact Reach.done ttok mix fk61 (p61_4_0 x0 x1 x5 r1) (obs_cons h0 (obs_cons h1 (obs_cons h2 (obs_cons (laws_eqCell_ok h3) (obs_cons h4 obs_nil)))))
      · exact Reach.stop ttok mix fk61 (p61_4_1 x0 x1 x5 r1) (obs_cons h0 (obs_cons h1 (obs_cons h2 (obs_cons (laws_eqCell_ok h3) (obs_cons h4 obs_nil))))) (ih _ _ _ _ h)
    · obtain rfl := Option.some.inj h
      exact Reach.done ttok mix fk61 (p61_4_2 x0 x1 x5) (obs_cons h0 obs_nil)
theorem c61_e {N : Nat} : ∀ a0 a1 r, laws_eqCellS N a0 a1 = some r → Reach Try.prog Try.f61 I61 [.code I61.body] (entry 0 (laws_eqCellS_as a0 a1)) (laws_eqCellS_ro r) := by
  intro a0 a1 r h
  unfold laws_eqCellS at h
  rcases cond_inv h with ⟨h0, h⟩ | ⟨h0, h⟩
  · obtain rfl := Option.some.inj h
    exact Reach.done ttok mix fk61 (p61_e_3 a0 a1) (obs_cons h0 obs_nil)
  · exact Reach.stop ttok mix fk61 (p61_e_4 a0 a1) (obs_cons h0 obs_nil) (c61_4   _ _ _ _ _ h)
theorem laws_eqCellS_ok {N : Nat} {a0 : List Cel} {a1 : List Cel} {r : Bool} (h : laws_eqCellS N  a0 a1 = some r) : AbsCalls Try.prog 61 (laws_eqCellS_as a0 a1) (laws_eqCellS_ro r) :=
 AbsCalls.of_reach fk61 rfl rfl (Nat.le_of_ble_eq_true rfl) (c61_e a0 a1 r h)
noncomputable def I33 : Info := { body := (Try.f33.body).getD .skip, nt := 11, results := [.tmp 4], keep := [0, 2, 4, 6, 8, 20, 5, 7], live := [], modes := [], ext := [], lnt := [], casts := [], fcast := [] }
theorem fk33 : FnOk Try.prog 33 Try.f33 I33 := ⟨Try.func33, by kernel_rfl, by kernel_rfl, by kernel_rfl, by kernel_rfl⟩
theorem p33_e_0 (a0 : List Cel) (a1 : List Cel) (r1 : Bool) : run tt (AbsCalls Try.prog) I33 3000 false [.code I33.body] ⟨(entry 0 (laws_eqNotebook_as a0 a1)), [true], [laws_eqCellS_ro r1], []⟩ = some (.done (laws_eqNotebook_ro false) [AbsCalls Try.prog 61 (laws_eqCellS_as a0 a1) (laws_eqCellS_ro r1), (!r1) = true]) := by kernel_rfl
theorem p33_e_1 (a0 : List Cel) (a1 : List Cel) (r1 : Bool) : run tt (AbsCalls Try.prog) I33 3000 false [.code I33.body] ⟨(entry 0 (laws_eqNotebook_as a0 a1)), [false], [laws_eqCellS_ro r1], []⟩ = some (.done (laws_eqNotebook_ro true) [AbsCalls Try.prog 61 (laws_eqCellS_as a0 a1) (laws_eqCellS_ro r1), (!r1) = false]) := by kernel_rfl
theorem c33_e {N : Nat} : ∀ a0 a1 r, laws_eqNotebook N a0 a1 = some r → Reach Try.prog Try.f33 I33 [.code I33.body] (entry 0 (laws_eqNotebook_as a0 a1)) (laws_eqNotebook_ro r) := by
  intro a0 a1 r h
  unfold laws_eqNotebook at h
  obtain ⟨r1, h0, h⟩ := bind_inv h
  rcases cond_inv h with ⟨h1, h⟩ | ⟨h1, h⟩
  · obtain rfl := Option.some.inj h
    exact Reach.done ttok mix fk33 (p33_e_0 a0 a1 r1) (obs_cons (laws_eqCellS_ok h0) (obs_cons h1 obs_nil))
  · obtain rfl := Option.some.inj h
    exact Reach.done ttok mix fk33 (p33_e_1 a0 a1 r1) (obs_cons (laws_eqCellS_ok h0) (obs_cons h1 obs_nil))
theorem laws_eqNotebook_ok {N : Nat} {a0 : List Cel} {a1 : List Cel} {r : Bool} (h : laws_eqNotebook N  a0 a1 = some r) : AbsCalls Try.prog 33 (laws_eqNotebook_as a0 a1) (laws_eqNotebook_ro r) :=
 AbsCalls.of_reach fk33 rfl rfl (Nat.le_of_ble_eq_true rfl) (c33_e a0 a1 r h)
end Go.Ab.T
end
section
open Go.Proofs
namespace Go.Ab.T
set_option linter.unusedVariables false
set_option maxRecDepth 100000
noncomputable def I34 : Info := { body := (Try.f34.body).getD .skip, nt := 31, results := [.tmp 4], keep := [0, 2, 4, 6, 8, 10, 24, 34, 60, 5, 7], live := [(4, [4, 6, 10, 5, 7])], modes := [], ext := [], lnt := [], casts := [], fcast := [] }
theorem fk34 : FnOk Try.prog 34 Try.f34 I34 := ⟨Try.func34, by kernel_rfl, by kernel_rfl, by kernel_rfl, by kernel_rfl⟩
def S34_4 (x5 : Int) (b2 : List Cel) (b3 : List Cel) : St := [(4, .v false [.ptr 2 0]), (6, .v false [.ptr 3 0]), (10, .v false [.int .i64 x5]), (5, .v true [.sl .ro .cel b2]), (7, .v true [.sl .ro .cel b3])]
theorem p34_4_0 (x5 : Int) (b2 : List Cel) (b3 : List Cel) : run tt (AbsCalls Try.prog) I34 3000 true (stkAt 4 I34.body) ⟨(S34_4 x5 b2 b3), [true, true], [], []⟩ = some (.done (spec_EqualNotebook_ro false) [(decide ((x5 : Int) < (List.length b2 : Int))) = true, (0 : Int) ≤ x5 ∧ x5 < (List.length b2), (0 : Int) ≤ x5 ∧ x5 < (List.length b3), (!((((Cel.id (List.getD b2 (Int.toNat x5) Ty.cel.dflt)) : Int) == (Cel.id (List.getD b3 (Int.toNat x5) Ty.cel.dflt))) && ((((Cel.version (List.getD b2 (Int.toNat x5) Ty.cel.dflt)) : Int) == (Cel.version (List.getD b3 (Int.toNat x5) Ty.cel.dflt))) && ((((Cel.kind (List.getD b2 (Int.toNat x5) Ty.cel.dflt)) : Int) == (Cel.kind (List.getD b3 (Int.toNat x5) Ty.cel.dflt))) && ((((Cel.name (List.getD b2 (Int.toNat x5) Ty.cel.dflt)) : Str) == (Cel.name (List.getD b3 (Int.toNat x5) Ty.cel.dflt))) && ((((Cel.code (List.getD b2 (Int.toNat x5) Ty.cel.dflt)) : Str) == (Cel.code (List.getD b3 (Int.toNat x5) Ty.cel.dflt))) && (((Cel.n (List.getD b2 (Int.toNat x5) Ty.cel.dflt)) : Int) == (Cel.n (List.getD b3 (Int.toNat x5) Ty.cel.dflt))))))))) = true]) := by kernel_rfl
theorem p34_4_1 (x5 : Int) (b2 : List Cel) (b3 : List Cel) : run tt (AbsCalls Try.prog) I34 3000 true (stkAt 4 I34.body) ⟨(S34_4 x5 b2 b3), [true, false], [], []⟩ = some (.stop (stkAt 4 I34.body) (S34_4 (IntKind.i64.wrap (x5 + 1)) b2 b3) [(decide ((x5 : Int) < (List.length b2 : Int))) = true, (0 : Int) ≤ x5 ∧ x5 < (List.length b2), (0 : Int) ≤ x5 ∧ x5 < (List.length b3), (!((((Cel.id (List.getD b2 (Int.toNat x5) Ty.cel.dflt)) : Int) == (Cel.id (List.getD b3 (Int.toNat x5) Ty.cel.dflt))) && ((((Cel.version (List.getD b2 (Int.toNat x5) Ty.cel.dflt)) : Int) == (Cel.version (List.getD b3 (Int.toNat x5) Ty.cel.dflt))) && ((((Cel.kind (List.getD b2 (Int.toNat x5) Ty.cel.dflt)) : Int) == (Cel.kind (List.getD b3 (Int.toNat x5) Ty.cel.dflt))) && ((((Cel.name (List.getD b2 (Int.toNat x5) Ty.cel.dflt)) : Str) == (Cel.name (List.getD b3 (Int.toNat x5) Ty.cel.dflt))) && ((((Cel.code (List.getD b2 (Int.toNat x5) Ty.cel.dflt)) : Str) == (Cel.code (List.getD b3 (Int.toNat x5) Ty.cel.dflt))) && (((Cel.n (List.getD b2 (Int.toNat x5) Ty.cel.dflt)) : Int) == (Cel.n (List.getD b3 (Int.toNat x5) Ty.cel.dflt))))))))) = false]) := by kernel_rfl
theorem p34_4_2 (x5 : Int) (b2 : List Cel) (b3 : List Cel) : run tt (AbsCalls Try.prog) I34 3000 true (stkAt 4 I34.body) ⟨(S34_4 x5 b2 b3), [false], [], []⟩ = some (.done (spec_EqualNotebook_ro true) [(decide ((x5 : Int) < (List.length b2 : Int))) = false]) := by kernel_rfl
theorem p34_e_3 (a0 : List Cel) (a1 : List Cel) : run tt (AbsCalls Try.prog) I34 3000 false [.code I34.body] ⟨(entry 0 (spec_EqualNotebook_as a0 a1)), [true], [], []⟩ = some (.done (spec_EqualNotebook_ro false) [(((List.length a0 : Int) : Int) != (List.length a1 : Int)) = true]) := by kernel_rfl
theorem p34_e_4 (a0 : List Cel) (a1 : List Cel) : run tt (AbsCalls Try.prog) I34 3000 false [.code I34.body] ⟨(entry 0 (spec_EqualNotebook_as a0 a1)), [false], [], []⟩ = some (.stop (stkAt 4 I34.body) (S34_4 0 a0 a1) [(((List.length a0 : Int) : Int) != (List.length a1 : Int)) = false]) := by kernel_rfl
theorem c34_4 {N : Nat} : ∀ n x5 b2 b3 r, spec_EqualNotebook_b4 N n x5 b2 b3 = some r → Reach Try.prog Try.f34 I34 (stkAt 4 I34.body) (S34_4 x5 b2 b3) (spec_EqualNotebook_ro r) := by
  intro n
  induction n with
  | zero => intro x5 b2 b3 r h; have h' : (none : Option (Bool)) = some r := h; cases h'
  | succ n ih =>
    intro x5 b2 b3 r h
    rw [spec_EqualNotebook_b4] at h
    rcases cond_inv h with ⟨h0, h⟩ | ⟨h0, h⟩
    · obtain ⟨h1, h⟩ := ite_inv h
      obtain ⟨h2, h⟩ := ite_inv h
      rcases cond_inv h with ⟨h3, h⟩ | ⟨h3, h⟩
      · obtain rfl := Option.some.inj h
        exact Reach.done ttok mix fk34 (p34_4_0 x5 b2 b3) (obs_cons h0 (obs_cons h1 (obs_cons h2 (obs_cons h3 obs_nil))))
      · exact Reach.stop ttok mix fk34 (p34_4_1 x5 b2 b3) (obs_cons h0 (obs_cons h1 (obs_cons h2 (obs_cons h3 obs_nil)))) (ih _ _ _ _ h)
    · obtain rfl := Option.some.inj h
      exact Reach.done ttok mix fk34 (p34_4_2 x5 b2 b3) (obs_cons h0 obs_nil)
theorem c34_e {N : Nat} : ∀ a0 a1 r, spec_EqualNotebook N a0 a1 = some r → Reach Try.prog Try.f34 I34 [.code I34.body] (entry 0 (spec_EqualNotebook_as a0 a1)) (spec_EqualNotebook_ro r) := by
  intro a0 a1 r h
  unfold spec_EqualNotebook at h
  rcases cond_inv h with ⟨h0, h⟩ | ⟨h0, h⟩
  · obtain rfl := Option.some.inj h
    exact Reach.done ttok mix fk34 (p34_e_3 a0 a1) (obs_cons h0 obs_nil)
  · exact Reach.stop ttok mix fk34 (p34_e_4 a0 a1) (obs_cons h0 obs_nil) (c34_4   _ _ _ _ _ h)
theorem spec_EqualNotebook_ok {N : Nat} {a0 : List Cel} {a1 : List Cel} {r : Bool} (h : spec_EqualNotebook N  a0 a1 = some r) : AbsCalls Try.prog 34 (spec_EqualNotebook_as a0 a1) (spec_EqualNotebook_ro r) :=
 AbsCalls.of_reach fk34 rfl rfl (Nat.le_of_ble_eq_true rfl) (c34_e a0 a1 r h)
noncomputable def I62 : Info := { body := (Try.f62.body).getD .skip, nt := 26, results := [.tmp 4], keep := [0, 2, 8, 10, 20, 24, 26, 28, 48], live := [(4, [0, 2, 24, 26])], modes := [(8, [(1, .take, false)])], ext := [], lnt := [], casts := [], fcast := [] }
theorem fk62 : FnOk Try.prog 62 Try.f62 I62 := ⟨Try.func62, by kernel_rfl, by kernel_rfl, by kernel_rfl, by kernel_rfl⟩
def S62_4 (x0 : List Cel) (x1 : List Cel) (x12 : Int) (x13 : Int) : St := [(0, .v false [.sl .ro .cel x0]), (2, .v false [.sl .ro .cel x1]), (24, .v false [.int .i64 x12]), (26, .v false [.int .i64 x13])]
theorem p62_4_0 (x0 : List Cel) (x1 : List Cel) (x12 : Int) (x13 : Int) : run tt (AbsCalls Try.prog) I62 3000 true (stkAt 4 I62.body) ⟨(S62_4 x0 x1 x12 x13), [true, true], [], []⟩ = some (.done (impl_same_impl_Cell_ro false) [(decide ((x13 : Int) < x12)) = true, (0 : Int) ≤ x13 ∧ x13 < (List.length x0), (0 : Int) ≤ x13 ∧ x13 < (List.length x1), (!((((Cel.id (List.getD x0 (Int.toNat x13) Ty.cel.dflt)) : Int) == (Cel.id (List.getD x1 (Int.toNat x13) Ty.cel.dflt))) && ((((Cel.version (List.getD x0 (Int.toNat x13) Ty.cel.dflt)) : Int) == (Cel.version (List.getD x1 (Int.toNat x13) Ty.cel.dflt))) && ((((Cel.kind (List.getD x0 (Int.toNat x13) Ty.cel.dflt)) : Int) == (Cel.kind (List.getD x1 (Int.toNat x13) Ty.cel.dflt))) && ((((Cel.name (List.getD x0 (Int.toNat x13) Ty.cel.dflt)) : Str) == (Cel.name (List.getD x1 (Int.toNat x13) Ty.cel.dflt))) && ((((Cel.code (List.getD x0 (Int.toNat x13) Ty.cel.dflt)) : Str) == (Cel.code (List.getD x1 (Int.toNat x13) Ty.cel.dflt))) && (((Cel.n (List.getD x0 (Int.toNat x13) Ty.cel.dflt)) : Int) == (Cel.n (List.getD x1 (Int.toNat x13) Ty.cel.dflt))))))))) = true]) := by kernel_rfl
theorem p62_4_1 (x0 : List Cel) (x1 : List Cel) (x12 : Int) (x13 : Int) : run tt (AbsCalls Try.prog) I62 3000 true (stkAt 4 I62.body) ⟨(S62_4 x0 x1 x12 x13), [true, false], [], []⟩ = some (.stop (stkAt 4 I62.body) (S62_4 x0 x1 x12 (IntKind.i64.wrap (x13 + 1))) [(decide ((x13 : Int) < x12)) = true, (0 : Int) ≤ x13 ∧ x13 < (List.length x0), (0 : Int) ≤ x13 ∧ x13 < (List.length x1), (!((((Cel.id (List.getD x0 (Int.toNat x13) Ty.cel.dflt)) : Int) == (Cel.id (List.getD x1 (Int.toNat x13) Ty.cel.dflt))) && ((((Cel.version (List.getD x0 (Int.toNat x13) Ty.cel.dflt)) : Int) == (Cel.version (List.getD x1 (Int.toNat x13) Ty.cel.dflt))) && ((((Cel.kind (List.getD x0 (Int.toNat x13) Ty.cel.dflt)) : Int) == (Cel.kind (List.getD x1 (Int.toNat x13) Ty.cel.dflt))) && ((((Cel.name (List.getD x0 (Int.toNat x13) Ty.cel.dflt)) : Str) == (Cel.name (List.getD x1 (Int.toNat x13) Ty.cel.dflt))) && ((((Cel.code (List.getD x0 (Int.toNat x13) Ty.cel.dflt)) : Str) == (Cel.code (List.getD x1 (Int.toNat x13) Ty.cel.dflt))) && (((Cel.n (List.getD x0 (Int.toNat x13) Ty.cel.dflt)) : Int) == (Cel.n (List.getD x1 (Int.toNat x13) Ty.cel.dflt))))))))) = false]) := by kernel_rfl
theorem p62_4_2 (x0 : List Cel) (x1 : List Cel) (x12 : Int) (x13 : Int) : run tt (AbsCalls Try.prog) I62 3000 true (stkAt 4 I62.body) ⟨(S62_4 x0 x1 x12 x13), [false], [], []⟩ = some (.done (impl_same_impl_Cell_ro true) [(decide ((x13 : Int) < x12)) = false]) := by kernel_rfl
theorem p62_e_3 (a0 : List Cel) (a1 : List Cel) : run tt (AbsCalls Try.prog) I62 3000 false [.code I62.body] ⟨(entry 0 (impl_same_impl_Cell_as a0 a1)), [true], [], []⟩ = some (.done (impl_same_impl_Cell_ro false) [(((List.length a0 : Int) : Int) != (List.length a1 : Int)) = true]) := by kernel_rfl
theorem p62_e_4 (a0 : List Cel) (a1 : List Cel) : run tt (AbsCalls Try.prog) I62 3000 false [.code I62.body] ⟨(entry 0 (impl_same_impl_Cell_as a0 a1)), [false], [], []⟩ = some (.stop (stkAt 4 I62.body) (S62_4 a0 a1 (List.length a0 : Int) 0) [(((List.length a0 : Int) : Int) != (List.length a1 : Int)) = false]) := by kernel_rfl
theorem c62_4 {N : Nat} : ∀ n x0 x1 x12 x13 r, impl_same_impl_Cell_b4 N n x0 x1 x12 x13 = some r → Reach Try.prog Try.f62 I62 (stkAt 4 I62.body) (S62_4 x0 x1 x12 x13) (impl_same_impl_Cell_ro r) := by
  intro n
  induction n with
  | zero => intro x0 x1 x12 x13 r h; have h' : (none : Option (Bool)) = some r := h; cases h'
  | succ n ih =>
    intro x0 x1 x12 x13 r h
    rw [impl_same_impl_Cell_b4] at h
    rcases cond_inv h with ⟨h0, h⟩ | ⟨h0, h⟩
    · obtain ⟨h1, h⟩ := ite_inv h
      obtain ⟨h2, h⟩ := ite_inv h
      rcases cond_inv h with ⟨h3, h⟩ | ⟨h3, h⟩
      · obtain rfl := Option.some.inj h
        exact Reach.done ttok mix fk62 (p62_4_0 x0 x1 x12 x13) (obs_cons h0 (obs_cons h1 (obs_cons h2 (obs_cons h3 obs_nil))))
      · exact Reach.stop ttok mix fk62 (p62_4_1 x0 x1 x12 x13) (obs_cons h0 (obs_cons h1 (obs_cons h2 (obs_cons h3 obs_nil)))) (ih _ _ _ _ _ h)
    · obtain rfl := Option.some.inj h
      exact Reach.done ttok mix fk62 (p62_4_2 x0 x1 x12 x13) (obs_cons h0 obs_nil)
theorem c62_e {N : Nat} : ∀ a0 a1 r, impl_same_impl_Cell N a0 a1 = some r → Reach Try.prog Try.f62 I62 [.code I62.body] (entry 0 (impl_same_impl_Cell_as a0 a1)) (impl_same_impl_Cell_ro r) := by
  intro a0 a1 r h
  unfold impl_same_impl_Cell at h
  rcases cond_inv h with ⟨h0, h⟩ | ⟨h0, h⟩
  · obtain rfl := Option.some.inj h
    exact Reach.done ttok mix fk62 (p62_e_3 a0 a1) (obs_cons h0 obs_nil)
  · exact Reach.stop ttok mix fk62 (p62_e_4 a0 a1) (obs_cons h0 obs_nil) (c62_4   _ _ _ _ _ _ h)
theorem impl_same_impl_Cell_ok {N : Nat} {a0 : List Cel} {a1 : List Cel} {r : Bool} (h : impl_same_impl_Cell N  a0 a1 = some r) : AbsCalls Try.prog 62 (impl_same_impl_Cell_as a0 a1) (impl_same_impl_Cell_ro r) :=
 AbsCalls.of_reach fk62 rfl rfl (Nat.le_of_ble_eq_true rfl) (c62_e a0 a1 r h)
noncomputable def I35 : Info := { body := (Try.f35.body).getD .skip, nt := 10, results := [.tmp 4], keep := [0, 2, 4, 6, 8, 5, 7], live := [], modes := [], ext := [], lnt := [], casts := [], fcast := [] }
theorem fk35 : FnOk Try.prog 35 Try.f35 I35 := ⟨Try.func35, by kernel_rfl, by kernel_rfl, by kernel_rfl, by kernel_rfl⟩
theorem p35_e_0 (a0 : List Cel) (a1 : List Cel) (r1 : Bool) : run tt (AbsCalls Try.prog) I35 3000 false [.code I35.body] ⟨(entry 0 (impl_EqualNotebook_as a0 a1)), [], [impl_same_impl_Cell_ro r1], []⟩ = some (.done (impl_EqualNotebook_ro r1) [AbsCalls Try.prog 62 (impl_same_impl_Cell_as a0 a1) (impl_same_impl_Cell_ro r1)]) := by kernel_rfl
theorem c35_e {N : Nat} : ∀ a0 a1 r, impl_EqualNotebook N a0 a1 = some r → Reach Try.prog Try.f35 I35 [.code I35.body] (entry 0 (impl_EqualNotebook_as a0 a1)) (impl_EqualNotebook_ro r) := by
  intro a0 a1 r h
  unfold impl_EqualNotebook at h
  obtain ⟨r1, h0, h⟩ := bind_inv h
  obtain rfl := Option.some.inj h
  exact Reach.done ttok mix fk35 (p35_e_0 a0 a1 r1) (obs_cons (impl_same_impl_Cell_ok h0) obs_nil)
theorem impl_EqualNotebook_ok {N : Nat} {a0 : List Cel} {a1 : List Cel} {r : Bool} (h : impl_EqualNotebook N  a0 a1 = some r) : AbsCalls Try.prog 35 (impl_EqualNotebook_as a0 a1) (impl_EqualNotebook_ro r) :=
 AbsCalls.of_reach fk35 rfl rfl (Nat.le_of_ble_eq_true rfl) (c35_e a0 a1 r h)
noncomputable def I8 : Info := { body := (Try.f8.body).getD .skip, nt := 45, results := [.tmp 4], keep := [0, 2, 4, 6, 8, 10, 12, 14, 16, 18, 28, 38, 68, 78, 88, 5, 7, 15, 17], live := [], modes := [(12, [(0, .take, false), (1, .take, false)])], ext := [], lnt := [], casts := [], fcast := [] }
theorem fk8 : FnOk Try.prog 8 Try.f8 I8 := ⟨Try.func8, by kernel_rfl, by kernel_rfl, by kernel_rfl, by kernel_rfl⟩
theorem p8_e_0 (a0 : List Cel) (a1 : List Cel) (r1 : Int) : run tt (AbsCalls Try.prog) I8 3000 false [.code I8.body] ⟨(entry 0 (laws_FnExactEqualNotebook_as a0 a1)), [true], [laws_szNotebook_ro r1], []⟩ = some (.done (laws_FnExactEqualNotebook_ro true) [AbsCalls Try.prog 29 (laws_szNotebook_as a0 1048576) (laws_szNotebook_ro r1), (decide ((r1 : Int) < 0)) = true]) := by kernel_rfl
theorem p8_e_1 (a0 : List Cel) (a1 : List Cel) (r1 : Int) (r2 : Int) : run tt (AbsCalls Try.prog) I8 3000 false [.code I8.body] ⟨(entry 0 (laws_FnExactEqualNotebook_as a0 a1)), [false, true], [laws_szNotebook_ro r1, laws_szNotebook_ro r2], []⟩ = some (.done (laws_FnExactEqualNotebook_ro true) [AbsCalls Try.prog 29 (laws_szNotebook_as a0 1048576) (laws_szNotebook_ro r1), (decide ((r1 : Int) < 0)) = false, AbsCalls Try.prog 29 (laws_szNotebook_as a1 r1) (laws_szNotebook_ro r2), (decide ((r2 : Int) < 0)) = true]) := by kernel_rfl
theorem p8_e_2 (a0 : List Cel) (a1 : List Cel) (r1 : Int) (r2 : Int) (r3 : (List Cel)) (r4 : (List Cel)) (r5 : Bool) (r6 : (List Cel)) (r7 : (List Cel)) (r8 : Bool) : run tt (AbsCalls Try.prog) I8 3000 false [.code I8.body] ⟨(entry 0 (laws_FnExactEqualNotebook_as a0 a1)), [false, false, true], [laws_szNotebook_ro r1, laws_szNotebook_ro r2, laws_toNotebook_ro r3, laws_toNotebook_ro r4, spec_EqualNotebook_ro r5, laws_toNotebook_ro r6, laws_toNotebook_ro r7, impl_EqualNotebook_ro r8], []⟩ = some (.done (laws_FnExactEqualNotebook_ro false) [AbsCalls Try.prog 29 (laws_szNotebook_as a0 1048576) (laws_szNotebook_ro r1), (decide ((r1 : Int) < 0)) = false, AbsCalls Try.prog 29 (laws_szNotebook_as a1 r1) (laws_szNotebook_ro r2), (decide ((r2 : Int) < 0)) = false, AbsCalls Try.prog 31 (laws_toNotebook_as a0) (laws_toNotebook_ro r3), AbsCalls Try.prog 31 (laws_toNotebook_as a1) (laws_toNotebook_ro r4), AbsCalls Try.prog 34 (spec_EqualNotebook_as r3 r4) (spec_EqualNotebook_ro r5), AbsCalls Try.prog 31 (laws_toNotebook_as a0) (laws_toNotebook_ro r6), AbsCalls Try.prog 31 (laws_toNotebook_as a1) (laws_toNotebook_ro r7), AbsCalls Try.prog 35 (impl_EqualNotebook_as r6 r7) (impl_EqualNotebook_ro r8), (!((r8 : Bool) == r5)) = true]) := by kernel_rfl
theorem p8_e_3 (a0 : List Cel) (a1 : List Cel) (r1 : Int) (r2 : Int) (r3 : (List Cel)) (r4 : (List Cel)) (r5 : Bool) (r6 : (List Cel)) (r7 : (List Cel)) (r8 : Bool) (r9 : (List Cel)) (r10 : Bool) : run tt (AbsCalls Try.prog) I8 3000 false [.code I8.body] ⟨(entry 0 (laws_FnExactEqualNotebook_as a0 a1)), [false, false, false, true], [laws_szNotebook_ro r1, laws_szNotebook_ro r2, laws_toNotebook_ro r3, laws_toNotebook_ro r4, spec_EqualNotebook_ro r5, laws_toNotebook_ro r6, laws_toNotebook_ro r7, impl_EqualNotebook_ro r8, laws_toNotebook_ro r9, laws_eqNotebook_ro r10], []⟩ = some (.done (laws_FnExactEqualNotebook_ro false) [AbsCalls Try.prog 29 (laws_szNotebook_as a0 1048576) (laws_szNotebook_ro r1), (decide ((r1 : Int) < 0)) = false, AbsCalls Try.prog 29 (laws_szNotebook_as a1 r1) (laws_szNotebook_ro r2), (decide ((r2 : Int) < 0)) = false, AbsCalls Try.prog 31 (laws_toNotebook_as a0) (laws_toNotebook_ro r3), AbsCalls Try.prog 31 (laws_toNotebook_as a1) (laws_toNotebook_ro r4), AbsCalls Try.prog 34 (spec_EqualNotebook_as r3 r4) (spec_EqualNotebook_ro r5), AbsCalls Try.prog 31 (laws_toNotebook_as a0) (laws_toNotebook_ro r6), AbsCalls Try.prog 31 (laws_toNotebook_as a1) (laws_toNotebook_ro r7), AbsCalls Try.prog 35 (impl_EqualNotebook_as r6 r7) (impl_EqualNotebook_ro r8), (!((r8 : Bool) == r5)) = false, AbsCalls Try.prog 31 (laws_toNotebook_as a0) (laws_toNotebook_ro r9), AbsCalls Try.prog 33 (laws_eqNotebook_as r6 r9) (laws_eqNotebook_ro r10), (!r10) = true]) := by kernel_rfl
theorem p8_e_4 (a0 : List Cel) (a1 : List Cel) (r1 : Int) (r2 : Int) (r3 : (List Cel)) (r4 : (List Cel)) (r5 : Bool) (r6 : (List Cel)) (r7 : (List Cel)) (r8 : Bool) (r9 : (List Cel)) (r10 : Bool) (r11 : (List Cel)) (r12 : Bool) : run tt (AbsCalls Try.prog) I8 3000 false [.code I8.body] ⟨(entry 0 (laws_FnExactEqualNotebook_as a0 a1)), [false, false, false, false, true], [laws_szNotebook_ro r1, laws_szNotebook_ro r2, laws_toNotebook_ro r3, laws_toNotebook_ro r4, spec_EqualNotebook_ro r5, laws_toNotebook_ro r6, laws_toNotebook_ro r7, impl_EqualNotebook_ro r8, laws_toNotebook_ro r9, laws_eqNotebook_ro r10, laws_toNotebook_ro r11, laws_eqNotebook_ro r12], []⟩ = some (.done (laws_FnExactEqualNotebook_ro false) [AbsCalls Try.prog 29 (laws_szNotebook_as a0 1048576) (laws_szNotebook_ro r1), (decide ((r1 : Int) < 0)) = false, AbsCalls Try.prog 29 (laws_szNotebook_as a1 r1) (laws_szNotebook_ro r2), (decide ((r2 : Int) < 0)) = false, AbsCalls Try.prog 31 (laws_toNotebook_as a0) (laws_toNotebook_ro r3), AbsCalls Try.prog 31 (laws_toNotebook_as a1) (laws_toNotebook_ro r4), AbsCalls Try.prog 34 (spec_EqualNotebook_as r3 r4) (spec_EqualNotebook_ro r5), AbsCalls Try.prog 31 (laws_toNotebook_as a0) (laws_toNotebook_ro r6), AbsCalls Try.prog 31 (laws_toNotebook_as a1) (laws_toNotebook_ro r7), AbsCalls Try.prog 35 (impl_EqualNotebook_as r6 r7) (impl_EqualNotebook_ro r8), (!((r8 : Bool) == r5)) = false, AbsCalls Try.prog 31 (laws_toNotebook_as a0) (laws_toNotebook_ro r9), AbsCalls Try.prog 33 (laws_eqNotebook_as r6 r9) (laws_eqNotebook_ro r10), (!r10) = false, AbsCalls Try.prog 31 (laws_toNotebook_as a1) (laws_toNotebook_ro r11), AbsCalls Try.prog 33 (laws_eqNotebook_as r7 r11) (laws_eqNotebook_ro r12), (!r12) = true]) := by kernel_rfl
theorem p8_e_5 (a0 : List Cel) (a1 : List Cel) (r1 : Int) (r2 : Int) (r3 : (List Cel)) (r4 : (List Cel)) (r5 : Bool) (r6 : (List Cel)) (r7 : (List Cel)) (r8 : Bool) (r9 : (List Cel)) (r10 : Bool) (r11 : (List Cel)) (r12 : Bool) : run tt (AbsCalls Try.prog) I8 3000 false [.code I8.body] ⟨(entry 0 (laws_FnExactEqualNotebook_as a0 a1)), [false, false, false, false, false], [laws_szNotebook_ro r1, laws_szNotebook_ro r2, laws_toNotebook_ro r3, laws_toNotebook_ro r4, spec_EqualNotebook_ro r5, laws_toNotebook_ro r6, laws_toNotebook_ro r7, impl_EqualNotebook_ro r8, laws_toNotebook_ro r9, laws_eqNotebook_ro r10, laws_toNotebook_ro r11, laws_eqNotebook_ro r12], []⟩ = some (.done (laws_FnExactEqualNotebook_ro true) [AbsCalls Try.prog 29 (laws_szNotebook_as a0 1048576) (laws_szNotebook_ro r1), (decide ((r1 : Int) < 0)) = false, AbsCalls Try.prog 29 (laws_szNotebook_as a1 r1) (laws_szNotebook_ro r2), (decide ((r2 : Int) < 0)) = false, AbsCalls Try.prog 31 (laws_toNotebook_as a0) (laws_toNotebook_ro r3), AbsCalls Try.prog 31 (laws_toNotebook_as a1) (laws_toNotebook_ro r4), AbsCalls Try.prog 34 (spec_EqualNotebook_as r3 r4) (spec_EqualNotebook_ro r5), AbsCalls Try.prog 31 (laws_toNotebook_as a0) (laws_toNotebook_ro r6), AbsCalls Try.prog 31 (laws_toNotebook_as a1) (laws_toNotebook_ro r7), AbsCalls Try.prog 35 (impl_EqualNotebook_as r6 r7) (impl_EqualNotebook_ro r8), (!((r8 : Bool) == r5)) = false, AbsCalls Try.prog 31 (laws_toNotebook_as a0) (laws_toNotebook_ro r9), AbsCalls Try.prog 33 (laws_eqNotebook_as r6 r9) (laws_eqNotebook_ro r10), (!r10) = false, AbsCalls Try.prog 31 (laws_toNotebook_as a1) (laws_toNotebook_ro r11), AbsCalls Try.prog 33 (laws_eqNotebook_as r7 r11) (laws_eqNotebook_ro r12), (!r12) = false]) := by kernel_rfl
theorem c8_e {N : Nat} : ∀ a0 a1 r, laws_FnExactEqualNotebook N a0 a1 = some r → Reach Try.prog Try.f8 I8 [.code I8.body] (entry 0 (laws_FnExactEqualNotebook_as a0 a1)) (laws_FnExactEqualNotebook_ro r) := by
  intro a0 a1 r h
  unfold laws_FnExactEqualNotebook at h
  obtain ⟨r1, h0, h⟩ := bind_inv h
  rcases cond_inv h with ⟨h1, h⟩ | ⟨h1, h⟩
  · obtain rfl := Option.some.inj h
    exact Reach.done ttok mix fk8 (p8_e_0 a0 a1 r1) (obs_cons (laws_szNotebook_ok h0) (obs_cons h1 obs_nil))
  · obtain ⟨r2, h2, h⟩ := bind_inv h
    rcases cond_inv h with ⟨h3, h⟩ | ⟨h3, h⟩
    · obtain rfl := Option.some.inj h
      exact Reach.done ttok mix fk8 (p8_e_1 a0 a1 r1 r2) (obs_cons (laws_szNotebook_ok h0) (obs_cons h1 (obs_cons (laws_szNotebook_ok h2) (obs_cons h3 obs_nil))))
    · obtain ⟨r3, h4, h⟩ := bind_inv h
      obtain ⟨r4, h5, h⟩ := bind_inv h
      obtain ⟨r5, h6, h⟩ := bind_inv h
      obtain ⟨r6, h7, h⟩ := bind_inv h
      obtain ⟨r7, h8, h⟩ := bind_inv h
      obtain ⟨r8, h9, h⟩ := bind_inv h
      rcases cond_inv h with ⟨h10, h⟩ | ⟨h10, h⟩
      · obtain rfl := Option.some.inj h
        exact Reach.done ttok mix fk8 (p8_e_2 a0 a1 r1 r2 r3 r4 r5 r6 r7 r8) (obs_cons (laws_szNotebook_ok h0) (obs_cons h1 (obs_cons (laws_szNotebook_ok h2) (obs_cons h3 (obs_cons (laws_toNotebook_ok h4) (obs_cons (laws_toNotebook_ok h5) (obs_cons (spec_EqualNotebook_ok h6) (obs_cons (laws_toNotebook_ok h7) (obs_cons (laws_toNotebook_ok h8) (obs_cons (impl_EqualNotebook_ok h9) (obs_cons h10 obs_nil)))))))))))
      · obtain ⟨r9, h11, h⟩ := bind_inv h
        obtain ⟨r10, h12, h⟩ := bind_inv h
        rcases cond_inv h with ⟨h13, h⟩ | ⟨h13, h⟩
        · obtain rfl := Option.some.inj h
          exact Reach.done ttok mix fk8 (p8_e_3 a0 a1 r1 r2 r3 r4 r5 r6 r7 r8 r9 r10) (obs_cons (laws_szNotebook_ok h0) (obs_cons h1 (obs_cons (laws_szNotebook_ok h2) (obs_cons h3 (obs_cons (laws_toNotebook_ok h4) (obs_cons (laws_toNotebook_ok h5) (obs_cons (spec_EqualNotebook_ok h6) (obs_cons (laws_toNotebook_ok h7) (obs_cons (laws_toNotebook_ok h8) (obs_cons (impl_EqualNotebook_ok h9) (obs_cons h10 (obs_cons (laws_toNotebook_ok h11) (obs_cons (laws_eqNotebook_ok h12) (obs_cons h13 obs_nil))))))))))))))
        · obtain ⟨r11, h14, h⟩ := bind_inv h
          obtain ⟨r12, h15, h⟩ := bind_inv h
          rcases cond_inv h with ⟨h16, h⟩ | ⟨h16, h⟩
          · obtain rfl := Option.some.inj h
            exact Reach.done ttok mix fk8 (p8_e_4 a0 a1 r1 r2 r3 r4 r5 r6 r7 r8 r9 r10 r11 r12) (obs_cons (laws_szNotebook_ok h0) (obs_cons h1 (obs_cons (laws_szNotebook_ok h2) (obs_cons h3 (obs_cons (laws_toNotebook_ok h4) (obs_cons (laws_toNotebook_ok h5) (obs_cons (spec_EqualNotebook_ok h6) (obs_cons (laws_toNotebook_ok h7) (obs_cons (laws_toNotebook_ok h8) (obs_cons (impl_EqualNotebook_ok h9) (obs_cons h10 (obs_cons (laws_toNotebook_ok h11) (obs_cons (laws_eqNotebook_ok h12) (obs_cons h13 (obs_cons (laws_toNotebook_ok h14) (obs_cons (laws_eqNotebook_ok h15) (obs_cons h16 obs_nil)))))))))))))))))
          · obtain rfl := Option.some.inj h
            exact Reach.done ttok mix fk8 (p8_e_5 a0 a1 r1 r2 r3 r4 r5 r6 r7 r8 r9 r10 r11 r12) (obs_cons (laws_szNotebook_ok h0) (obs_cons h1 (obs_cons (laws_szNotebook_ok h2) (obs_cons h3 (obs_cons (laws_toNotebook_ok h4) (obs_cons (laws_toNotebook_ok h5) (obs_cons (spec_EqualNotebook_ok h6) (obs_cons (laws_toNotebook_ok h7) (obs_cons (laws_toNotebook_ok h8) (obs_cons (impl_EqualNotebook_ok h9) (obs_cons h10 (obs_cons (laws_toNotebook_ok h11) (obs_cons (laws_eqNotebook_ok h12) (obs_cons h13 (obs_cons (laws_toNotebook_ok h14) (obs_cons (laws_eqNotebook_ok h15) (obs_cons h16 obs_nil)))))))))))))))))
theorem laws_FnExactEqualNotebook_ok {N : Nat} {a0 : List Cel} {a1 : List Cel} {r : Bool} (h : laws_FnExactEqualNotebook N  a0 a1 = some r) : AbsCalls Try.prog 8 (laws_FnExactEqualNotebook_as a0 a1) (laws_FnExactEqualNotebook_ro r) :=
 AbsCalls.of_reach fk8 rfl rfl (Nat.le_of_ble_eq_true rfl) (c8_e a0 a1 r h)
noncomputable def I64 : Info := { body := (Try.f64.body).getD .skip, nt := 15, results := [.tmp 2], keep := [0, 4], live := [], modes := [(1, [(2, .take, false), (7, .take, false)])], ext := [], lnt := [], casts := [], fcast := [] }
end Go.Ab.T
end
section
namespace Go.Ab
set_option linter.unusedVariables false
def Big (p : Nat → Prop) : Prop := ∃ k, ∀ N, k ≤ N → p N
def Big2 (p : Nat → Nat → Prop) : Prop := ∃ k, ∀ N n, k ≤ N → k ≤ n → p N n
theorem Big.imp {p q : Nat → Prop} (h : Big p) (f : ∀ N, p N → q N) : Big q := h.elim fun k hk => ⟨k, fun N hN => f N (hk N hN)⟩
theorem Big2.imp {p q : Nat → Nat → Prop} (h : Big2 p) (f : ∀ N n, p N n → q N n) : Big2 q := h.elim fun k hk => ⟨k, fun N n h1 h2 => f N n (hk N n h1 h2)⟩
theorem Big2.succ {p : Nat → Nat → Prop} (h : Big2 fun N n => p N (n + 1)) : Big2 p := by
  obtain ⟨k, hk⟩ := h
  refine ⟨k + 1, fun N n h1 h2 => ?_⟩
  obtain ⟨m, rfl⟩ : ∃ m, n = m + 1 := ⟨n - 1, by omega⟩
  exact hk N m (by omega) (by omega)
def Big3 (p : Nat → Nat → Nat → Prop) : Prop := ∃ k, ∀ N d n, k ≤ N → k ≤ d → k ≤ n → p N d n
theorem Big3.imp {p q : Nat → Nat → Nat → Prop} (h : Big3 p) (f : ∀ N d n, p N d n → q N d n) : Big3 q := h.elim fun k hk => ⟨k, fun N d n h1 h2 h3 => f N d n (hk N d n h1 h2 h3)⟩
theorem Big3.succ {p : Nat → Nat → Nat → Prop} (h : Big3 fun N d n => p N d (n + 1)) : Big3 p := by
  obtain ⟨k, hk⟩ := h
  refine ⟨k + 1, fun N d n h1 h2 h3 => ?_⟩
  obtain ⟨m, rfl⟩ : ∃ m, n = m + 1 := ⟨n - 1, by omega⟩
  exact hk N d m (by omega) (by omega) (by omega)
def I64 (x : Int) : Prop := -9223372036854775808 ≤ x ∧ x ≤ 9223372036854775807
theorem wrap_i64_def (x : Int) : IntKind.i64.wrap x = if x % 18446744073709551616 ≥ 9223372036854775808 then x % 18446744073709551616 - 18446744073709551616 else x % 18446744073709551616 := by
  show (if (true && decide (x % 18446744073709551616 ≥ 9223372036854775808)) = true then x % 18446744073709551616 - 18446744073709551616 else x % 18446744073709551616) = _
  simp only [Bool.true_and, decide_eq_true_eq]
theorem wrap_i64 {x : Int} (h1 : -9223372036854775808 ≤ x) (h2 : x ≤ 9223372036854775807) : IntKind.i64.wrap x = x := by
  rw [wrap_i64_def]
  split <;> omega
theorem drop_cons {α : Type} {xs : List α} {i : Nat} {x : α} {l : List α} (h : xs.drop i = x :: l) : i < xs.length ∧ xs[i]? = some x ∧ xs.drop (i + 1) = l := by
  have h1 : i < xs.length := by
    rcases Nat.lt_or_ge i xs.length with h1 | h1
    · exact h1
    · rw [List.drop_eq_nil_of_le h1] at h; cases h
  rw [List.drop_eq_getElem_cons h1] at h
  cases h
  exact ⟨h1, by simp [h1], rfl⟩
theorem drop_nil {α : Type} {xs : List α} {i : Nat} (h : xs.drop i = []) : xs.length ≤ i := by simpa using h
end Go.Ab
end
section
namespace Go.Ab
set_option linter.unusedVariables false
inductive DK (K : Nat) : D → Prop where
  | int {k n} (h : (Lit.int k n).wf = true) : DK K (.int k n)
  | bool (b) : DK K (.bool b)
  | str {s : Str} (h : s.length ≤ K) : DK K (.str s)
  | sl {sz rows} (h : rows.length ≤ K) (hr : ∀ r ∈ rows, ∀ x ∈ r, DK K x) : DK K (.sl sz rows)
theorem DFit.dk {d : D} (h : DFit d) : DK maxLen d := by
  induction h with
  | int h => exact .int h
  | bool b => exact .bool b
  | str h => exact .str h
  | sl h _ ih => exact .sl h ih
theorem DK.mono {K M : Nat} (hKM : K ≤ M) {d : D} (h : DK K d) : DK M d := by
  induction h with
  | int h => exact .int h
  | bool b => exact .bool b
  | str h => exact .str (by omega)
  | sl h _ ih => exact .sl (by omega) ih
theorem wf_i64 {n : Int} : (Lit.int .i64 n).wf = true ↔ I64 n := by
  show (decide (_ ≤ n) && decide (n ≤ _)) = true ↔ _
  rw [Bool.and_eq_true, decide_eq_true_eq, decide_eq_true_eq]
  exact Iff.rfl
theorem DK.i64 {K : Nat} {n : Int} : DK K (.int .i64 n) ↔ I64 n := ⟨fun h => by cases h with | int h => exact wf_i64.1 h, fun h => .int (wf_i64.2 h)⟩
theorem DK.str_iff {K : Nat} {s : Str} : DK K (.str s) ↔ s.length ≤ K := ⟨fun h => by cases h; assumption, .str⟩
theorem DK.sl_iff {K sz : Nat} {α : Type} {f : α → List D} {xs : List α} : DK K (.sl sz (xs.map f)) ↔ xs.length ≤ K ∧ ∀ x ∈ xs, ∀ d ∈ f x, DK K d := by
  constructor
  · intro h
    cases h with
    | sl h hr => exact ⟨by simpa using h, fun x hx => hr _ (List.mem_map_of_mem hx)⟩
  · rintro ⟨h, hr⟩
    refine .sl (by simpa using h) fun r hr' => ?_
    obtain ⟨x, hx, rfl⟩ := List.mem_map.1 hr'
    exact hr x hx
def LFit {α : Type} (K : Nat) (p : α → Prop) (l : List α) : Prop := l.length ≤ K ∧ ∀ x ∈ l, p x
def Ty.Fit (K : Nat) (T : Ty) (x : T.den) : Prop := ∀ d ∈ T.toD x, DK K d
def Org.Fit (o : Org) : Prop := I64 o.cell ∧ I64 o.row
def Rowd.Fit (K : Nat) (r : Rowd) : Prop := LFit K I64 r.cells ∧ LFit K Org.Fit r.frm
def Str.Fit (K : Nat) (s : Str) : Prop := s.length ≤ K
def Val.Fit (K : Nat) (v : Val) : Prop := ∀ d ∈ Val.toD v, DK K d
def Exp.Fit (K : Nat) (v : Exp) : Prop := ∀ d ∈ Exp.toD v, DK K d
def Fil.Fit (K : Nat) (v : Fil) : Prop := Str.Fit K v.name ∧ I64 v.n
def Tok.Fit (K : Nat) (v : Tok) : Prop := I64 v.kind ∧ I64 v.n ∧ I64 v.pos ∧ Str.Fit K v.text
def Rea.Fit (K : Nat) (v : Rea) : Prop := I64 v.kind ∧ I64 v.n ∧ I64 v.time ∧ Str.Fit K v.text ∧ v.result.Fit K
def Bnd.Fit (K : Nat) (v : Bnd) : Prop := Str.Fit K v.name ∧ v.value.Fit K
def Cel.Fit (K : Nat) (v : Cel) : Prop := I64 v.id ∧ I64 v.version ∧ I64 v.kind ∧ Str.Fit K v.name ∧ Str.Fit K v.code ∧ I64 v.n
def Wld.Fit (K : Nat) (v : Wld) : Prop := I64 v.clock ∧ I64 v.seed ∧ LFit K (Fil.Fit K) v.files
theorem cel_fit {K : Nat} {r : Cel} : Ty.Fit K .cel r ↔ r.Fit K := by
  simp only [Ty.Fit, Ty.toD, List.mem_cons, List.not_mem_nil, or_false, forall_eq_or_imp, forall_eq, DK.str_iff, DK.i64, Cel.Fit, Str.Fit]
theorem cell_sl {T : Ty} {f : Fl} {xs : List T.den} (h : DK maxLen (CV.sl f T xs).toD) : LFit maxLen (T.Fit maxLen) xs := DK.sl_iff.1 h
theorem LFit.imp {α : Type} {K : Nat} {p q : α → Prop} {l : List α} (h : LFit K p l) (f : ∀ x, p x → q x) : LFit K q l := ⟨h.1, fun x hx => f x (h.2 x hx)⟩
end Go.Ab
end
section
namespace Go.Ab
set_option linter.unusedVariables false
theorem whileLoop {σ ρ : Type} {L : Nat → σ → Option ρ} (m : σ → Nat) (Inv : σ → Prop) (Post : ρ → Prop)
    (hstep : ∀ s, Inv s → (∃ s', Inv s' ∧ m s' < m s ∧ ∀ n, L (n + 1) s = L n s') ∨ (∃ r, Post r ∧ ∀ n, L (n + 1) s = some r)) :
    ∀ n s, Inv s → m s < n → ∃ r, Post r ∧ L n s = some r := by
  intro n
  induction n with
  | zero => intro s _ h; omega
  | succ n ih =>
    intro s hs hn
    rcases hstep s hs with ⟨s', h1, h2, h3⟩ | ⟨r, h1, h2⟩
    · obtain ⟨r, h4, h5⟩ := ih s' h1 (by omega)
      exact ⟨r, h4, by rw [h3]; exact h5⟩
    · exact ⟨r, h1, h2 n⟩
theorem forList {α σ ρ : Type} {L : Nat → Int → σ → Option ρ} (x0 : List α) (g : List α → σ → ρ) (Inv : Nat → σ → Prop)
    (hnil : ∀ n s, Inv x0.length s → L (n + 1) (x0.length : Nat) s = some (g [] s))
    (hcons : ∀ i x l s, x0.drop i = x :: l → i < x0.length → x0[i]? = some x → Inv i s →
      (∃ s', Inv (i + 1) s' ∧ g (x :: l) s = g l s' ∧ ∀ n, L (n + 1) (i : Nat) s = L n ((i + 1 : Nat) : Int) s') ∨ (∀ n, L (n + 1) (i : Nat) s = some (g (x :: l) s))) :
    ∀ n i s, Inv i s → i ≤ x0.length → x0.length < n + i → L n (i : Nat) s = some (g (x0.drop i) s) := by
  intro n
  induction n with
  | zero => intro i s _ h1 h2; omega
  | succ n ih =>
    intro i s hs hi hn
    cases hd : x0.drop i with
    | nil =>
      have := drop_nil hd
      obtain rfl : i = x0.length := by omega
      exact hnil n s hs
    | cons x l =>
      obtain ⟨h1, h2, h3⟩ := drop_cons hd
      rcases hcons i x l s hd h1 h2 hs with ⟨s', h4, h5, h6⟩ | h
      · rw [h6, ih (i + 1) s' h4 (by omega) (by omega), h3, h5]
      · exact h n
theorem getD_of {α : Type} {xs : List α} {i : Nat} {x : α} (h : xs[i]? = some x) (d : α) : xs.getD i d = x := by simp [List.getD, h]
theorem wrap_succ {i : Nat} {len : Nat} (h : i < len) (hl : len ≤ 9223372036854775807) : IntKind.i64.wrap ((i : Int) + 1) = ((i + 1 : Nat) : Int) := by
  rw [wrap_i64 (by omega) (by omega)]; omega
def left (s : Nat) (l : Int) : Int := if (s : Int) ≤ l then l - s else -1
theorem left_of {s : Nat} {l : Int} (h : (s : Int) ≤ l) : left s l = l - s := by unfold left; rw [if_pos h]
theorem left_not {s : Nat} {l : Int} (h : ¬ (s : Int) ≤ l) : left s l = -1 := by unfold left; rw [if_neg h]
theorem szThen {s b : Nat} {F : Option Int} {R : Int → Option Int} {l : Int} (hl : s ≤ 9223372036854775807) (h0 : 0 ≤ l) (h1 : l ≤ 1048576)
    (hF : F = bif decide (IntKind.i64.wrap (l - (s : Int)) < 0) then some (-1) else R (IntKind.i64.wrap (l - (s : Int))))
    (hR : ∀ m, 0 ≤ m → m ≤ 1048576 → R m = some (left b m)) : F = some (left (s + b) l) := by
  rw [hF, wrap_i64 (by omega) (by omega)]
  by_cases h : (s : Int) ≤ l
  · rw [decide_eq_false (by omega), cond_false, hR _ (by omega) (by omega)]
    unfold left
    split <;> split <;> first | rfl | omega | (congr 1; omega)
  · rw [decide_eq_true (by omega), cond_true, left_not (by omega)]
theorem szLast {s : Nat} {l : Int} (hl : s ≤ 9223372036854775807) (h0 : 0 ≤ l) (h1 : l ≤ 1048576) :
    (bif decide (IntKind.i64.wrap (l - (s : Int)) < 0) then some (-1) else some (IntKind.i64.wrap (l - (s : Int)))) = some (left s l) := by
  rw [wrap_i64 (by omega) (by omega)]
  unfold left
  by_cases h : (s : Int) ≤ l
  · rw [decide_eq_false (by omega), if_pos h]; rfl
  · rw [decide_eq_true (by omega), if_neg h]; rfl
theorem left_two {a : Nat} {l : Int} {x : Option Int} (h : x = some (left a l)) : (x.bind fun r1 => bif decide (r1 < 0) then (some (-1) : Option Int) else some r1) = some (left a l) := by
  rw [h, Option.bind_some]
  unfold left
  split
  · rw [decide_eq_false (by omega)]; rfl
  · rfl
section
variable {α : Type} {d : α}
theorem szLoop {L : Nat → List α → Int → Int → Option Int} {sz : α → Int → Option Int} {size : α → Nat} {x0 : List α}
    (hL : ∀ n x1 x5, L (n + 1) x0 x1 x5 = bif decide (x5 < (x0.length : Int)) then (if (0 : Int) ≤ x5 ∧ x5 < (x0.length : Int) then Option.bind (sz (x0.getD x5.toNat d) x1) fun r1 => bif decide (r1 < 0) then some (-1) else L n x0 r1 (IntKind.i64.wrap (x5 + 1)) else none) else some x1)
    (hlen : x0.length ≤ 9223372036854775807) (hsz : ∀ x ∈ x0, ∀ l, 0 ≤ l → l ≤ 1048576 → sz x l = some (left (size x) l)) {n : Nat} (hn : x0.length < n) {l : Int} (h0 : 0 ≤ l) (h1 : l ≤ 1048576) :
    L n x0 l 0 = some (left (x0.map size).sum l) := by
  have key := forList (L := fun n i s => L n x0 s i) x0 (fun l s => left (l.map size).sum s) (fun _ s => 0 ≤ s ∧ s ≤ 1048576) (fun n s hs => by
      have hs : 0 ≤ s ∧ s ≤ 1048576 := hs
      simp only [hL]; simp [left]; omega)
    (fun i x r s hd hi hx hs => by
      have hs : 0 ≤ s ∧ s ≤ 1048576 := hs
      have hi' : (i : Int) < (x0.length : Int) := by omega
      have hm : x ∈ x0 := List.mem_of_getElem? hx
      by_cases hle : (size x : Int) ≤ s
      · refine .inl ⟨s - size x, by omega, ?_, fun n => ?_⟩
        · simp only [List.map_cons, List.sum_cons, left]
          split <;> split <;> omega
        · simp only [hL, decide_eq_true hi', cond_true, Int.toNat_natCast, getD_of hx, hsz x hm s hs.1 hs.2, left_of hle, Option.bind_some, wrap_succ hi hlen]
          rw [if_pos (by omega), decide_eq_false (by omega), cond_false]
      · refine .inr fun n => ?_
        simp only [hL, decide_eq_true hi', cond_true, Int.toNat_natCast, getD_of hx, hsz x hm s hs.1 hs.2, left_not hle, Option.bind_some]
        rw [if_pos (by omega), decide_eq_true (by omega), cond_true]
        simp only [List.map_cons, List.sum_cons, left]
        rw [if_neg (by omega)])
    n 0 l ⟨h0, h1⟩ (by omega) (by omega)
  simpa using key
theorem toLoop {L : Nat → List α → List α → Int → Option (List α)} {to : α → Option α} {re : α → α} {x0 : List α}
    (hL : ∀ n x3 x4, L (n + 1) x0 x3 x4 = bif decide (x4 < (x0.length : Int)) then (if (0 : Int) ≤ x4 ∧ x4 < (x0.length : Int) then Option.bind (to (x0.getD x4.toNat d)) fun r1 => (if (0 : Int) ≤ x4 ∧ x4 < (x3.length : Int) then L n x0 (x3.set x4.toNat (re r1)) (IntKind.i64.wrap (x4 + 1)) else none) else none) else some x3)
    (hlen : x0.length ≤ 9223372036854775807) (hto : ∀ x ∈ x0, ∃ y, to x = some y ∧ re y = x) {n : Nat} (hn : x0.length < n) :
    L n x0 (List.replicate x0.length d) 0 = some x0 := by
  have key := forList (L := fun n i s => L n x0 s i) x0 (fun _ _ => x0) (fun i s => s = x0.take i ++ List.replicate (x0.length - i) d) (fun n s hs => by
      have hs : s = x0.take x0.length ++ List.replicate (x0.length - x0.length) d := hs
      simp only [hL]; simp [hs])
    (fun i x r s hd hi hx hs => by
      have hs : s = x0.take i ++ List.replicate (x0.length - i) d := hs
      have hi' : (i : Int) < (x0.length : Int) := by omega
      have hm : x ∈ x0 := List.mem_of_getElem? hx
      obtain ⟨y, h1, h2⟩ := hto x hm
      have hsl : s.length = x0.length := by rw [hs]; simp; omega
      refine .inl ⟨s.set i x, ?_, rfl, fun n => ?_⟩
      · show s.set i x = x0.take (i + 1) ++ List.replicate (x0.length - (i + 1)) d
        rw [hs, List.set_append]
        have : (x0.take i).length = i := by simp; omega
        rw [this, if_neg (by omega), List.take_add_one, hx, Option.toList_some, List.append_assoc, Nat.sub_self]
        rw [show x0.length - i = (x0.length - (i + 1)) + 1 from by omega, List.replicate_succ, List.set_cons_zero]
        rfl
      · simp only [hL, decide_eq_true hi', cond_true, Int.toNat_natCast, getD_of hx, h1, h2, Option.bind_some, wrap_succ hi hlen, hsl]
        rw [if_pos (by omega), if_pos (by omega)])
    n 0 (List.replicate x0.length d) (by simp) (by omega) (by omega)
  exact key
theorem eqLoop {L : Nat → Int → Option Bool} {x0 : List α} (hend : ∀ n, L (n + 1) (x0.length : Nat) = some true)
    (hcons : ∀ (i : Nat) x n, i < x0.length → x0[i]? = some x → x ∈ x0 → L (n + 1) (i : Nat) = L n ((i + 1 : Nat) : Int)) {n : Nat} (hn : x0.length < n) : L n 0 = some true := by
  have key := forList (σ := Unit) (L := fun n i _ => L n i) x0 (fun _ _ => true) (fun _ _ => True) (fun n _ _ => hend n)
    (fun i x r s hd hi hx _ => .inl ⟨(), trivial, rfl, fun n => hcons i x n hi hx (List.mem_of_getElem? hx)⟩) n 0 () trivial (by omega) (by omega)
  exact key
end
end Go.Ab
end
section
namespace Go.Ab
set_option linter.unusedVariables false
def Fil.size (f : Fil) : Nat := f.name.length
def Wld.size (w : Wld) : Nat := w.files.length + (w.files.map Fil.size).sum
def Cel.size (c : Cel) : Nat := c.name.length + c.code.length
mutual
def Exp.size : Exp → Nat
  | .mk _ _ t a => t.length + (a.length + Exp.sizes a)
def Exp.sizes : List Exp → Nat
  | [] => 0
  | x :: r => Exp.size x + Exp.sizes r
end
def Rowd.size (r : Rowd) : Nat := r.cells.length + r.frm.length
mutual
def Val.size : Val → Nat
  | .mk _ _ _ t l c r => t.length + (l.length + Val.sizes l) + (c.length + (c.map List.length).sum) + (r.length + (r.map Rowd.size).sum)
def Val.sizes : List Val → Nat
  | [] => 0
  | x :: r => Val.size x + Val.sizes r
end
end Go.Ab
end
section
namespace Go.Ab
set_option linter.unusedVariables false
theorem szCell_eq {N : Nat} {f : Cel} (h : f.Fit maxLen) {l : Int} (h0 : 0 ≤ l) (h1 : l ≤ 1048576) : laws_szCell N f l = some (left f.size l) := by
  obtain ⟨_, _, _, h2, h3, _⟩ := h
  exact szThen h2 h0 h1 rfl fun m m0 m1 => szLast h3 m0 m1
theorem szCellS_eq {N : Nat} {x0 : List Cel} (h : LFit maxLen (Cel.Fit maxLen) x0) (hn : x0.length < N) {l : Int} (h0 : 0 ≤ l) (h1 : l ≤ 1048576) : laws_szCellS N x0 l = some (left (x0.length + (x0.map Cel.size).sum) l) :=
  szThen h.1 h0 h1 rfl fun m hm0 hm1 => szLoop (L := fun n x0 x1 x5 => laws_szCellS_b5 N n x0 x1 x5) (d := Ty.cel.dflt) (sz := laws_szCell N) (fun _ _ _ => rfl) h.1 (fun x hx l h0 h1 => szCell_eq (h.2 x hx) h0 h1) hn hm0 hm1
theorem szNotebook_eq {N : Nat} {x0 : List Cel} (h : LFit maxLen (Cel.Fit maxLen) x0) (hn : x0.length < N) {l : Int} (h0 : 0 ≤ l) (h1 : l ≤ 1048576) : laws_szNotebook N x0 l = some (left (x0.length + (x0.map Cel.size).sum) l) := left_two (szCellS_eq h hn h0 h1)
theorem toCellS_eq {N : Nat} {x0 : List Cel} (hl : x0.length ≤ 1048576) (hn : x0.length < N) : laws_toCellS N x0 = some x0 := by
  unfold laws_toCellS
  rw [if_pos ⟨by omega, rfl, by unfold Lim; omega⟩]
  exact toLoop (L := fun n x0 x3 x4 => laws_toCellS_b3 N n x0 x3 x4) (to := laws_toCell N) (re := fun r => r) (fun _ _ _ => rfl) (by omega) (fun x hx => ⟨x, rfl, rfl⟩) hn
theorem toNotebook_eq {N : Nat} {x0 : List Cel} (hl : x0.length ≤ 1048576) (hn : x0.length < N) : laws_toNotebook N x0 = some x0 := by
  unfold laws_toNotebook
  rw [toCellS_eq hl hn]; rfl
theorem eqCell_self (N : Nat) (f : Cel) : laws_eqCell N f f = some true := by simp [laws_eqCell]
theorem eqCellS_self {N : Nat} {x0 : List Cel} (hl : x0.length ≤ 9223372036854775807) (hn : x0.length < N) : laws_eqCellS N x0 x0 = some true := by
  unfold laws_eqCellS
  rw [bne_self_eq_false, cond_false]
  exact eqLoop (L := fun n i => laws_eqCellS_b4 N n x0 x0 i) (fun n => by simp [laws_eqCellS_b4]) (fun i x n hi hx hm => by
    have hi' : (i : Int) < (x0.length : Int) := by omega
    simp only [laws_eqCellS_b4, decide_eq_true hi', cond_true, Int.toNat_natCast, getD_of hx, eqCell_self, Option.bind_some, wrap_succ hi hl, Bool.not_true, cond_false]
    rw [if_pos (by omega), if_pos (by omega)]) hn
theorem eqNotebook_self {N : Nat} {x0 : List Cel} (hl : x0.length ≤ 9223372036854775807) (hn : x0.length < N) : laws_eqNotebook N x0 x0 = some true := by
  simp [laws_eqNotebook, eqCellS_self hl hn]
end Go.Ab
end
section
namespace Go.Ab
set_option linter.unusedVariables false
set_option linter.unusedSimpArgs false
theorem left_ge {s : Nat} {l : Int} (h : ¬ left s l < 0) : (s : Int) ≤ l := by unfold left at h; split at h <;> omega
theorem nb_of_cells {a0 : List Cel} (f0 : ∀ z ∈ [CV.sl .ro .cel a0], DFit z.toD) : LFit maxLen (Cel.Fit maxLen) a0 := (cell_sl (f0 _ List.mem_cons_self).dk).imp fun x => cel_fit.1
theorem same_Cell_b4 (N n : Nat) (x0 x1 : List Cel) (i : Int) : impl_same_impl_Cell_b4 N n x0 x1 x0.length i = spec_EqualNotebook_b4 N n i x0 x1 := by
  induction n generalizing i with
  | zero => rfl
  | succ n ih => simp only [impl_same_impl_Cell_b4, spec_EqualNotebook_b4, ih]
theorem spec_EqualNotebook_some {N : Nat} {a b : List Cel} (hl : a.length ≤ 9223372036854775807) (hn : a.length < N) : ∃ r, spec_EqualNotebook N a b = some r ∧ impl_EqualNotebook N a b = some r := by
  unfold spec_EqualNotebook impl_EqualNotebook impl_same_impl_Cell
  cases h : ((a.length : Int) != (b.length : Int))
  · simp only [cond_false, same_Cell_b4]
    have hab : a.length = b.length := by simp at h; omega
    obtain ⟨r, _, hr⟩ := whileLoop (L := fun n (i : Nat) => spec_EqualNotebook_b4 N n i a b) (fun i => a.length - i) (fun i => i ≤ a.length) (fun _ => True) (fun i hi => by
      by_cases hi2 : i < a.length
      · have hi' : (i : Int) < (a.length : Int) := by omega
        simp only [spec_EqualNotebook_b4, decide_eq_true hi', cond_true, wrap_succ hi2 hl]
        simp only [if_pos (show (0 : Int) ≤ i ∧ (i : Int) < (a.length : Int) from by omega), if_pos (show (0 : Int) ≤ i ∧ (i : Int) < (b.length : Int) from by omega)]
        generalize (!_ : Bool) = q
        cases q
        · exact .inl ⟨i + 1, by omega, by omega, fun n => rfl⟩
        · exact .inr ⟨false, trivial, fun n => rfl⟩
      · refine .inr ⟨true, trivial, fun n => ?_⟩
        simp only [spec_EqualNotebook_b4]
        rw [decide_eq_false (by omega)]; rfl) N 0 (by omega) (by omega)
    have hr : spec_EqualNotebook_b4 N N 0 a b = some r := hr
    exact ⟨r, hr, by rw [hr]; rfl⟩
  · exact ⟨false, rfl, rfl⟩
theorem laws_FnExactEqualNotebook_true (a0 a1 : List Cel) (f0 : ∀ z ∈ [CV.sl .ro .cel a0], DFit z.toD) (f1 : ∀ z ∈ [CV.sl .ro .cel a1], DFit z.toD) : ∃ N, laws_FnExactEqualNotebook N a0 a1 = some true := by
  have hF := nb_of_cells f0
  have hG := nb_of_cells f1
  have hn : a0.length < a0.length + a1.length + 1 := by omega
  have hm : a1.length < a0.length + a1.length + 1 := by omega
  refine ⟨a0.length + a1.length + 1, ?_⟩
  generalize a0.length + a1.length + 1 = N at hn hm
  by_cases h : left (a0.length + (a0.map Cel.size).sum) 1048576 < 0
  · simp [laws_FnExactEqualNotebook, szNotebook_eq hF hn (l := 1048576) (by omega) (by omega), h]
  · have h0 := left_ge h
    have hl : a0.length ≤ 1048576 := by omega
    have e1 := szNotebook_eq hF hn (l := 1048576) (by omega) (by omega)
    rw [left_of h0] at e1 h
    have e2 := szNotebook_eq hG hm (l := 1048576 - ((a0.length + (a0.map Cel.size).sum : Nat) : Int)) (by omega) (by omega)
    by_cases h' : left (a1.length + (a1.map Cel.size).sum) (1048576 - ((a0.length + (a0.map Cel.size).sum : Nat) : Int)) < 0
    · unfold laws_FnExactEqualNotebook
      rw [e1, Option.bind_some, decide_eq_false h, cond_false, e2, Option.bind_some, decide_eq_true h', cond_true]
    · have hl1 : a1.length ≤ 1048576 := by have := left_ge h'; omega
      obtain ⟨r, r1, r2⟩ := spec_EqualNotebook_some (N := N) (a := a0) (b := a1) (by omega) hn
      unfold laws_FnExactEqualNotebook
      rw [e1, Option.bind_some, decide_eq_false h, cond_false, e2, Option.bind_some, decide_eq_false h', cond_false]
      simp [toNotebook_eq hl hn, toNotebook_eq hl1 hm, eqNotebook_self (by omega : a0.length ≤ _) hn, eqNotebook_self (by omega : a1.length ≤ _) hm, r1, r2]
end Go.Ab
end
section
namespace Go.Proofs.Ytimjapjfceenkaa
open Go.Ab Go.ChangeShapes Go.WideShapes Go.ChangeAt Go.RowKit
set_option linter.unusedVariables false
theorem own : ownKnob Try.prog.godebug = none := by kernel_rfl
theorem laidOut : laidOutB Try.prog = true := by kernel_rfl
theorem ktok_fnExactEqualNotebook : ktChk Try.prog [(61, .cel)] = true := by kernel_rfl
set_option maxRecDepth 100000 in
theorem fnExactEqualNotebook_lifted (os : Os) (started : os.Started) (H : Type) (enc : TypeId × Value → H) :
    ReturnsInHanded {} Try.checked os 8 .any (Rows.fnExactEqualNotebookSpec.pre6 enc Try.prog Try.f8 Rows.fnExactEqualNotebookRow.domain false) (Rows.fnExactEqualNotebookSpec.post enc Try.prog Try.f8 false true false false) := by
  refine returnsInHanded_of_change (C := Try.checked) own started (by kernel_rfl) Try.func8
    (ChangeSpec.witness6 (enc := enc) (C := Try.checked) false ⟨#[], #[.agg #[.slice none 0 0], .agg #[.slice none 0 0]], []⟩ 8 (by kernel_rfl) (by kernel_rfl) (by kernel_rfl) (by kernel_rfl)) ?_
  intro W base args ds gs before hval0 hW hcnd _
  have hval : ∀ (j : Nat) t v, Try.f8.params[j]? = some t → args[j]? = some v → Value.okWide Try.prog W .any base t v := hval0
  have hW' := hW
  obtain ⟨p, q, hA0, hV, rfl, hfz, hnd⟩ := hW
  have hA : DataW.TrodAll enc Try.prog W 0 (fun _ => true) true Try.f8.params.toList args.toList ds p := hA0
  rw [Try.params8] at hA hval
  obtain ⟨v0, vs0, d0, ds0, p0, q0, hargs, rfl, rfl, h0, r0⟩ := trodAll_cons hA
  obtain ⟨v1, vs1, d1, ds1, p1, q1, rfl, rfl, rfl, h1, r1⟩ := trodAll_cons r0
  obtain ⟨rfl, rfl, rfl⟩ := trodAll_nil r1
  obtain rfl : args = #[v0, v1] := by cases args; simp_all
  obtain ⟨rfl, rfl⟩ := trodVars_none hV
  have lt0 : ∀ x ∈ p0, x.block < W.heap.size := by obtain ⟨m, hm⟩ := h0; exact DataW.trod_lt m _ _ _ hm
  have lt1 : ∀ x ∈ p1, x.block < W.heap.size := by obtain ⟨m, hm⟩ := h1; exact DataW.trod_lt m _ _ _ hm
  obtain ⟨z0, e0, f0, vr0⟩ := vr_of ktok_fnExactEqualNotebook (g := true) (t := 50) (ns := [.inr .cel]) (by kernel_rfl) (hval 0 50 v0 rfl rfl) h0
  obtain ⟨x0_0, _, rfl, e0_0⟩ := AreOf.sl_inv e0
  obtain rfl := e0_0.nil_inv
  obtain ⟨z1, e1, f1, vr1⟩ := vr_of ktok_fnExactEqualNotebook (g := true) (t := 50) (ns := [.inr .cel]) (by kernel_rfl) (hval 1 50 v1 rfl rfl) h1
  obtain ⟨x1_0, _, rfl, e1_0⟩ := AreOf.sl_inv e1
  obtain rfl := e1_0.nil_inv
  obtain ⟨N, hF⟩ := laws_FnExactEqualNotebook_true x0_0 x1_0 f0 f1
  clear hA0 hval0
  refine (calls_of T.fk8 (T.laws_FnExactEqualNotebook_ok hF) (W := W) (args := #[v0, v1]) ⟨vr0 _, vr1 _, trivial⟩).mono fun e W' ⟨he, bel⟩ => ?_
  subst he
  exact ⟨_, rfl, _, _, _, [], _, [], hW', trodAll_mk1 (shut_bool Try.underlying4 _), (trodAll_cons_mk (Below.trod laidOut (by kernel_rfl) (of_decide_eq_true (by kernel_rfl)) h0 bel lt0) (trodAll_cons_mk (Below.trod laidOut (by kernel_rfl) (of_decide_eq_true (by kernel_rfl)) h1 bel lt1) trodAll_mk0)), rfl, bel.frame _, fun h => by cases h⟩
theorem fnExactEqualNotebook_proved : Rows.FnExactEqualNotebookSaid :=
  OpenClaim.holds_of_wide 8 Try.f8 rfl rfl rfl rfl rfl rfl rfl ⟨rfl, rfl, rfl, rfl, rfl⟩ rfl rfl rfl rfl rfl (by kernel_rfl) Try.func8 (by kernel_rfl)
    (of_decide_eq_true (by kernel_rfl)) (by unfold Func.isWrapper; first | (rw [if_pos (by decide +kernel)]; kernel_rfl) | (rw [if_neg (by decide +kernel)]; exact ⟨rfl, rfl⟩))
    (fun os started H enc _ => fnExactEqualNotebook_lifted os started H enc)
end Go.Proofs.Ytimjapjfceenkaa
end
