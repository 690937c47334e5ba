/- The statement FnExactSourceTable holds: plain functions, certificates, laws. Conditions: none. -/
import Derived.Test.YtkbojckenecnbaaChecked
import Derived.Test.YtkbojckenecnbaaProg
import Derived.Test.YtkbojckenecnbaaRows
import Derived.Test.YtkbojckenecnbaaK2
set_option linter.all false
section
namespace Go.Ab
set_option linter.unusedVariables false
def spec_l3Row_as (a0 : Rowd) : List Arg := [.val (.v true [.sl .ro .int (Rowd.cells a0), .sl .ro .org (Rowd.frm a0)])]
def spec_l3Row_ro (r : Rowd) : CallO := ⟨.v true [.sl .own .int (Rowd.cells r), .sl .own .org (Rowd.frm r)], [], []⟩
def spec_l3Row (N : Nat) (a0 : Rowd) : Option (Rowd) :=
  if 0 + List.length (Rowd.cells a0) ≤ Lim then
  if 0 + List.length (Rowd.frm a0) ≤ Lim then
  some (Rowd.mk ([] ++ (Rowd.cells a0)) ([] ++ (Rowd.frm a0)))
  else none
  else none
def spec_l3Copy_as (a0 : Val) : List Arg := [.val (.v true [.int .i64 (Val.kind a0), .int .i64 (Val.n a0), .int .i64 (Val.step a0), .str (Val.text a0), .sl .ro .val (Val.list a0), .sl .ro .str (Val.columns a0), .sl .ro .row (Val.rows a0)])]
def spec_l3Copy_ro (r : Val) : CallO := ⟨.v true [.int .i64 (Val.kind r), .int .i64 (Val.n r), .int .i64 (Val.step r), .str (Val.text r), .sl .own .val (Val.list r), .sl .own .str (Val.columns r), .sl .own .row (Val.rows r)], [], []⟩
def spec_l3Copy_b7 (N : Nat) (rc_spec_l3Copy : Val → Option (Val)) : Nat → Int → Val → Val → Val → Option (Val)
  | 0, _, _, _, _ => none
  | n + 1, x5, b1, b2, b3 =>
    bif (decide ((x5 : Int) < (List.length (Val.rows b1) : Int))) then (
      if (0 : Int) ≤ x5 ∧ x5 < (List.length (Val.rows b1)) then
      Option.bind (spec_l3Row N (List.getD (Val.rows b1) (Int.toNat x5) Ty.row.dflt)) fun r1 =>
      if List.length (Val.rows b3) + List.length [r1] ≤ Lim then
      (spec_l3Copy_b7 N rc_spec_l3Copy n (IntKind.i64.wrap (x5 + 1)) b1 b2 (Val.mk (Val.kind b3) (Val.n b3) (Val.step b3) (Val.text b3) (Val.list b3) (Val.columns b3) ((Val.rows b3) ++ [r1])))
      else none
      else none
    ) else (
      some b3
    )
def spec_l3Copy_b3 (N : Nat) (rc_spec_l3Copy : Val → Option (Val)) : Nat → Int → Val → Val → Val → Option (Val)
  | 0, _, _, _, _ => none
  | n + 1, x4, b1, b2, b3 =>
    bif (decide ((x4 : Int) < (List.length (Val.list b1) : Int))) then (
      if (0 : Int) ≤ x4 ∧ x4 < (List.length (Val.list b1)) then
      Option.bind (rc_spec_l3Copy (List.getD (Val.list b1) (Int.toNat x4) Ty.val.dflt)) fun r1 =>
      if List.length (Val.list b3) + List.length [(Val.re r1)] ≤ Lim then
      (spec_l3Copy_b3 N rc_spec_l3Copy n (IntKind.i64.wrap (x4 + 1)) b1 b2 (Val.mk (Val.kind b3) (Val.n b3) (Val.step b3) (Val.text b3) ((Val.list b3) ++ [(Val.re r1)]) (Val.columns b3) (Val.rows b3)))
      else none
      else none
    ) else (
      (spec_l3Copy_b7 N rc_spec_l3Copy N 0 b1 b2 b3)
    )
def spec_l3Copy_body (N : Nat) (rc_spec_l3Copy : Val → Option (Val)) (a0 : Val) : Option (Val) :=
  if 0 + List.length (Val.columns a0) ≤ Lim then
  (spec_l3Copy_b3 N rc_spec_l3Copy N 0 a0 (Val.mk 0 0 0 [] [] [] []) (Val.mk (Val.kind a0) (Val.n a0) (Val.step a0) (Val.text a0) [] ([] ++ (Val.columns a0)) []))
  else none
def spec_l3Copy_fix (N : Nat) : Nat → Val → Option (Val)
  | 0, _ => none
  | d + 1, a0 => spec_l3Copy_body N (spec_l3Copy_fix N d) a0
def spec_l3Copy (N : Nat) (a0 : Val) : Option (Val) := spec_l3Copy_fix N N a0
def impl_copyRow_as (a0 : Rowd) : List Arg := [.val (.v true [.sl .ro .int (Rowd.cells a0), .sl .ro .org (Rowd.frm a0)])]
def impl_copyRow_ro (r : Rowd) : CallO := ⟨.v true [.sl .own .int (Rowd.cells r), .sl .own .org (Rowd.frm r)], [], []⟩
def impl_copyRow (N : Nat) (a0 : Rowd) : Option (Rowd) :=
  if 0 + List.length (Rowd.cells a0) ≤ Lim then
  if 0 + List.length (Rowd.frm a0) ≤ Lim then
  some (Rowd.mk ([] ++ (Rowd.cells a0)) ([] ++ (Rowd.frm a0)))
  else none
  else none
def impl_copyValue_as (a0 : Val) : List Arg := [.val (.v true [.int .i64 (Val.kind a0), .int .i64 (Val.n a0), .int .i64 (Val.step a0), .str (Val.text a0), .sl .ro .val (Val.list a0), .sl .ro .str (Val.columns a0), .sl .ro .row (Val.rows a0)])]
def impl_copyValue_ro (r : Val) : CallO := ⟨.v true [.int .i64 (Val.kind r), .int .i64 (Val.n r), .int .i64 (Val.step r), .str (Val.text r), .sl .own .val (Val.list r), .sl .own .str (Val.columns r), .sl .own .row (Val.rows r)], [], []⟩
def impl_copyValue_b6 (N : Nat) (rc_impl_copyValue : Val → Option (Val)) (rc_impl_copyValues : (List Val) → Option ((List Val))) : Nat → (List Rowd) → Int → Int → Val → Val → Option (Val)
  | 0, _, _, _, _, _ => none
  | n + 1, x18, x19, x20, b2, b3 =>
    bif (decide ((x20 : Int) < x19)) then (
      if (0 : Int) ≤ x20 ∧ x20 < (List.length x18) then
      Option.bind (impl_copyRow N (List.getD x18 (Int.toNat x20) Ty.row.dflt)) fun r1 =>
      if List.length (Val.rows b3) + List.length [r1] ≤ Lim then
      (impl_copyValue_b6 N rc_impl_copyValue rc_impl_copyValues n x18 x19 (IntKind.i64.wrap (x20 + 1)) b2 (Val.mk (Val.kind b3) (Val.n b3) (Val.step b3) (Val.text b3) (Val.list b3) (Val.columns b3) ((Val.rows b3) ++ [r1])))
      else none
      else none
    ) else (
      some b3
    )
def impl_copyValue_body (N : Nat) (rc_impl_copyValue : Val → Option (Val)) (rc_impl_copyValues : (List Val) → Option ((List Val))) (a0 : Val) : Option (Val) :=
  Option.bind (rc_impl_copyValues (Val.list a0)) fun r1 =>
  if 0 + List.length (Val.columns a0) ≤ Lim then
  (impl_copyValue_b6 N rc_impl_copyValue rc_impl_copyValues N (Val.rows a0) (List.length (Val.rows a0) : Int) 0 (Val.mk 0 0 0 [] [] [] []) (Val.mk (Val.kind a0) (Val.n a0) (Val.step a0) (Val.text a0) r1 ([] ++ (Val.columns a0)) []))
  else none
def impl_copyValues_as (a0 : List Val) : List Arg := [.val (.v false [.sl .ro .val a0])]
def impl_copyValues_ro (r : (List Val)) : CallO := ⟨.v false [.sl .own .val r], [], []⟩
def impl_copyValues_b3 (N : Nat) (rc_impl_copyValue : Val → Option (Val)) (rc_impl_copyValues : (List Val) → Option ((List Val))) : Nat → (List Val) → (List Val) → Int → Int → Option ((List Val))
  | 0, _, _, _, _ => none
  | n + 1, x3, x7, x8, x9 =>
    bif (decide ((x9 : Int) < x8)) then (
      if (0 : Int) ≤ x9 ∧ x9 < (List.length x7) then
      Option.bind (rc_impl_copyValue (List.getD x7 (Int.toNat x9) Ty.val.dflt)) fun r1 =>
      if List.length x3 + List.length [(Val.re r1)] ≤ Lim then
      (impl_copyValues_b3 N rc_impl_copyValue rc_impl_copyValues n (x3 ++ [(Val.re r1)]) x7 x8 (IntKind.i64.wrap (x9 + 1)))
      else none
      else none
    ) else (
      some x3
    )
def impl_copyValues_body (N : Nat) (rc_impl_copyValue : Val → Option (Val)) (rc_impl_copyValues : (List Val) → Option ((List Val))) (a0 : List Val) : Option ((List Val)) :=
  (impl_copyValues_b3 N rc_impl_copyValue rc_impl_copyValues N [] a0 (List.length a0 : Int) 0)
structure impl_copyValue_rec where
  c_impl_copyValue : Val → Option (Val)
  c_impl_copyValues : (List Val) → Option ((List Val))
def impl_copyValue_fix (N : Nat) : Nat → impl_copyValue_rec
  | 0 => ⟨fun _ => none, fun _ => none⟩
  | d + 1 => ⟨impl_copyValue_body N (impl_copyValue_fix N d).c_impl_copyValue (impl_copyValue_fix N d).c_impl_copyValues, impl_copyValues_body N (impl_copyValue_fix N d).c_impl_copyValue (impl_copyValue_fix N d).c_impl_copyValues⟩
def impl_copyValue (N : Nat) (a0 : Val) : Option (Val) := (impl_copyValue_fix N N).c_impl_copyValue a0
def spec_SourceTable_as (a0 : Int) (a1 : Val) : List Arg := [.val (.v false [.int .i64 a0]), .val (.v true [.int .i64 (Val.kind a1), .int .i64 (Val.n a1), .int .i64 (Val.step a1), .str (Val.text a1), .sl .ro .val (Val.list a1), .sl .ro .str (Val.columns a1), .sl .ro .row (Val.rows a1)])]
def spec_SourceTable_ro (r : Val) : CallO := ⟨.v true [.int .i64 (Val.kind r), .int .i64 (Val.n r), .int .i64 (Val.step r), .str (Val.text r), .sl .own .val (Val.list r), .sl .own .str (Val.columns r), .sl .own .row (Val.rows r)], [], []⟩
def spec_SourceTable_b5 (N : Nat) : Nat → Int → Int → Val → Val → Option (Val)
  | 0, _, _, _, _ => none
  | n + 1, x0, x6, b4, b5 =>
    bif (decide ((x6 : Int) < (List.length (Val.rows b5) : Int))) then (
      if (0 : Int) ≤ x6 ∧ x6 < (List.length (Val.rows b5)) then
      (spec_SourceTable_b5 N n x0 (IntKind.i64.wrap (x6 + 1)) b4 (Val.mk (Val.kind b5) (Val.n b5) (Val.step b5) (Val.text b5) (Val.list b5) (Val.columns b5) (List.set (Val.rows b5) (Int.toNat x6) (Rowd.mk (Rowd.cells (List.getD (Val.rows b5) (Int.toNat x6) Ty.row.dflt)) [(Org.mk x0 x6)]))))
      else none
    ) else (
      some b5
    )
def spec_SourceTable (N : Nat) (a0 : Int) (a1 : Val) : Option (Val) :=
  bif (((Val.kind a1) : Int) != 5) then (
    Option.bind (spec_ErrorValue N 4) fun r1 =>
    some r1
  ) else (
    Option.bind (spec_IsValidValue N a1) fun r1 =>
    bif (!r1) then (
      Option.bind (spec_ErrorValue N 4) fun r2 =>
      some r2
    ) else (
      bif (decide ((a0 : Int) < 0)) then (
        Option.bind (spec_ErrorValue N 4) fun r2 =>
        some r2
      ) else (
        Option.bind (spec_l3Copy N a1) fun r2 =>
        (spec_SourceTable_b5 N N a0 0 (Val.mk 0 0 0 [] [] [] []) r2)
      )
    )
  )
def impl_SourceTable_as (a0 : Int) (a1 : Val) : List Arg := [.val (.v false [.int .i64 a0]), .val (.v true [.int .i64 (Val.kind a1), .int .i64 (Val.n a1), .int .i64 (Val.step a1), .str (Val.text a1), .sl .ro .val (Val.list a1), .sl .ro .str (Val.columns a1), .sl .ro .row (Val.rows a1)])]
def impl_SourceTable_ro (r : Val) : CallO := ⟨.v true [.int .i64 (Val.kind r), .int .i64 (Val.n r), .int .i64 (Val.step r), .str (Val.text r), .sl .own .val (Val.list r), .sl .own .str (Val.columns r), .sl .own .row (Val.rows r)], [], []⟩
def impl_SourceTable_b5 (N : Nat) : Nat → Int → Int → Int → Val → Val → Option (Val)
  | 0, _, _, _, _, _ => none
  | n + 1, x0, x24, x25, b4, b5 =>
    bif (decide ((x25 : Int) < x24)) then (
      if (0 : Int) ≤ x25 ∧ x25 < (List.length (Val.rows b5)) then
      (impl_SourceTable_b5 N n x0 x24 (IntKind.i64.wrap (x25 + 1)) b4 (Val.mk (Val.kind b5) (Val.n b5) (Val.step b5) (Val.text b5) (Val.list b5) (Val.columns b5) (List.set (Val.rows b5) (Int.toNat x25) (Rowd.mk (Rowd.cells (List.getD (Val.rows b5) (Int.toNat x25) Ty.row.dflt)) [(Org.mk x0 x25)]))))
      else none
    ) else (
      some b5
    )
def impl_SourceTable (N : Nat) (a0 : Int) (a1 : Val) : Option (Val) :=
  bif (((Val.kind a1) : Int) != 5) then (
    Option.bind (impl_ErrorValue N 4) fun r1 =>
    some r1
  ) else (
    Option.bind (impl_IsValidValue N a1) fun r1 =>
    bif (!r1) then (
      Option.bind (impl_ErrorValue N 4) fun r2 =>
      some r2
    ) else (
      bif (decide ((a0 : Int) < 0)) then (
        Option.bind (impl_ErrorValue N 4) fun r2 =>
        some r2
      ) else (
        Option.bind (impl_copyValue N a1) fun r2 =>
        (impl_SourceTable_b5 N N a0 (List.length (Val.rows r2) : Int) 0 (Val.mk 0 0 0 [] [] [] []) r2)
      )
    )
  )
def laws_FnExactSourceTable_as (a0 : Int) (a1 : Val) : List Arg := [.val (.v false [.int .i64 a0]), .val (.v true [.int .i64 (Val.kind a1), .int .i64 (Val.n a1), .int .i64 (Val.step a1), .str (Val.text a1), .sl .ro .val (Val.list a1), .sl .ro .str (Val.columns a1), .sl .ro .row (Val.rows a1)])]
def laws_FnExactSourceTable_ro (r : Bool) : CallO := ⟨.v false [.bool r], [], []⟩
def laws_FnExactSourceTable (N : Nat) (a0 : Int) (a1 : Val) : Option (Bool) :=
  Option.bind (laws_szValue N a1 1048576) fun r1 =>
  bif (decide ((r1 : Int) < 0)) then (
    some true
  ) else (
    Option.bind (laws_toValue N a1) fun r2 =>
    Option.bind (spec_SourceTable N a0 r2) fun r3 =>
    Option.bind (laws_toValue N a1) fun r4 =>
    Option.bind (impl_SourceTable N a0 r4) fun r5 =>
    Option.bind (laws_eqValue N r5 r3) fun r6 =>
    bif (!r6) then (
      some false
    ) else (
      Option.bind (laws_toValue N a1) fun r7 =>
      Option.bind (laws_eqValue N r4 r7) fun r8 =>
      bif (!r8) then (
        some false
      ) else (
        Option.bind (laws_markValue N r4 1) fun r9 =>
        if List.length r9.2.1 = List.length (Val.list r4) then
        if List.length r9.2.2.1 = List.length (Val.columns r4) then
        if List.length r9.2.2.2 = List.length (Val.rows r4) then
        bif (decide ((r9.1 : Int) < 0)) then (
          some false
        ) else (
          Option.bind (laws_eqValue N r5 r3) fun r10 =>
          bif (!r10) then (
            some false
          ) else (
            Option.bind (laws_markValue N r5 1) fun r11 =>
            if List.length r11.2.1 = List.length (Val.list r5) then
            if List.length r11.2.2.1 = List.length (Val.columns r5) then
            if List.length r11.2.2.2 = List.length (Val.rows r5) then
            Option.bind (laws_heldValue N (Val.mk (Val.kind r5) (Val.n r5) (Val.step r5) (Val.text r5) r11.2.1 r11.2.2.1 r11.2.2.2) 1) fun r12 =>
            bif (decide ((r12 : Int) < 0)) then (
              some false
            ) else (
              bif ((r12 : Int) != r11.1) then (
                some false
              ) else (
                Option.bind (laws_toValue N a1) fun r13 =>
                Option.bind (impl_SourceTable N a0 r13) fun r14 =>
                Option.bind (laws_eqValue N r14 r3) fun r15 =>
                bif (!r15) then (
                  some false
                ) else (
                  Option.bind (laws_heldValue N (Val.mk (Val.kind r5) (Val.n r5) (Val.step r5) (Val.text r5) r11.2.1 r11.2.2.1 r11.2.2.2) 1) fun r16 =>
                  bif (decide ((r16 : Int) < 0)) then (
                    some false
                  ) else (
                    bif ((r16 : Int) != r11.1) then (
                      some false
                    ) else (
                      some true
                    )
                  )
                )
              )
            )
            else none
            else none
            else none
          )
        )
        else none
        else none
        else none
      )
    )
  )
end Go.Ab
end
section
open Go.Proofs
namespace Go.Ab.T
set_option linter.unusedVariables false
set_option maxRecDepth 100000
noncomputable def I116 : Info := { body := (Try.f116.body).getD .skip, nt := 12, results := [.cell 2 130], keep := [0, 2, 4, 3, 5], live := [], modes := [], ext := [], lnt := [], casts := [], fcast := [] }
theorem fk116 : FnOk Try.prog 116 Try.f116 I116 := ⟨Try.func116, by kernel_rfl, by kernel_rfl, by kernel_rfl, by kernel_rfl⟩
theorem p116_e_0 (a0 : Rowd) : run tt (AbsCalls Try.prog) I116 3000 false [.code I116.body] ⟨(entry 0 (spec_l3Row_as a0)), [], [], []⟩ = some (.done (spec_l3Row_ro (Rowd.mk ([] ++ (Rowd.cells a0)) ([] ++ (Rowd.frm a0)))) [0 + List.length (Rowd.cells a0) ≤ Lim, 0 + List.length (Rowd.frm a0) ≤ Lim]) := by kernel_rfl
theorem c116_e {N : Nat} : ∀ a0 r, spec_l3Row N a0 = some r → Reach Try.prog Try.f116 I116 [.code I116.body] (entry 0 (spec_l3Row_as a0)) (spec_l3Row_ro r) := by
  intro a0 r h
  unfold spec_l3Row at h
  obtain ⟨h0, h⟩ := ite_inv h
  obtain ⟨h1, h⟩ := ite_inv h
  obtain rfl := Option.some.inj h
  exact Reach.done ttok mix fk116 (p116_e_0 a0) (obs_cons h0 (obs_cons h1 obs_nil))
theorem spec_l3Row_ok {N : Nat} {a0 : Rowd} {r : Rowd} (h : spec_l3Row N  a0 = some r) : AbsCalls Try.prog 116 (spec_l3Row_as a0) (spec_l3Row_ro r) :=
 AbsCalls.of_reach fk116 rfl rfl (Nat.le_of_ble_eq_true rfl) (c116_e a0 r h)
noncomputable def I71 : Info := { body := (Try.f71.body).getD .skip, nt := 56, results := [.cell 2 28], keep := [0, 2, 4, 6, 8, 10, 46, 82, 3, 5, 7], live := [(3, [2, 4, 6, 8, 3, 5, 7]), (7, [2, 4, 6, 10, 3, 5, 7])], modes := [(5, [(1, .take, false), (9, .take, false)]), (9, [(1, .take, false), (9, .take, false)]), (10, [(0, .take, false)])], ext := [], lnt := [], casts := [], fcast := [] }
theorem fk71 : FnOk Try.prog 71 Try.f71 I71 := ⟨Try.func71, by kernel_rfl, by kernel_rfl, by kernel_rfl, by kernel_rfl⟩
def S71_3 (x4 : Int) (b1 : Val) (b2 : Val) (b3 : Val) : St := [(2, .v false [.ptr 1 0]), (4, .v false [.ptr 2 0]), (6, .v false [.ptr 3 0]), (8, .v false [.int .i64 x4]), (3, .v true [.int .i64 (Val.kind b1), .int .i64 (Val.n b1), .int .i64 (Val.step b1), .str (Val.text b1), .sl .ro .val (Val.list b1), .sl .ro .str (Val.columns b1), .sl .ro .row (Val.rows b1)]), (5, .v true [.int .i64 (Val.kind b2), .int .i64 (Val.n b2), .int .i64 (Val.step b2), .str (Val.text b2), .sl .own .val (Val.list b2), .sl .own .str (Val.columns b2), .sl .own .row (Val.rows b2)]), (7, .v true [.int .i64 (Val.kind b3), .int .i64 (Val.n b3), .int .i64 (Val.step b3), .str (Val.text b3), .sl .own .val (Val.list b3), .sl .own .str (Val.columns b3), .sl .own .row (Val.rows b3)])]
def S71_7 (x5 : Int) (b1 : Val) (b2 : Val) (b3 : Val) : St := [(2, .v false [.ptr 1 0]), (4, .v false [.ptr 2 0]), (6, .v false [.ptr 3 0]), (10, .v false [.int .i64 x5]), (3, .v true [.int .i64 (Val.kind b1), .int .i64 (Val.n b1), .int .i64 (Val.step b1), .str (Val.text b1), .sl .ro .val (Val.list b1), .sl .ro .str (Val.columns b1), .sl .ro .row (Val.rows b1)]), (5, .v true [.int .i64 (Val.kind b2), .int .i64 (Val.n b2), .int .i64 (Val.step b2), .str (Val.text b2), .sl .own .val (Val.list b2), .sl .own .str (Val.columns b2), .sl .own .row (Val.rows b2)]), (7, .v true [.int .i64 (Val.kind b3), .int .i64 (Val.n b3), .int .i64 (Val.step b3), .str (Val.text b3), .sl .own .val (Val.list b3), .sl .own .str (Val.columns b3), .sl .own .row (Val.rows b3)])]
theorem p71_7_0 (x5 : Int) (b1 : Val) (b2 : Val) (b3 : Val) (r1 : Rowd) : run tt (AbsCalls Try.prog) I71 3000 true (stkAt 7 I71.body) ⟨(S71_7 x5 b1 b2 b3), [true], [spec_l3Row_ro r1], []⟩ = some (.stop (stkAt 7 I71.body) (S71_7 (IntKind.i64.wrap (x5 + 1)) b1 b2 (Val.mk (Val.kind b3) (Val.n b3) (Val.step b3) (Val.text b3) (Val.list b3) (Val.columns b3) ((Val.rows b3) ++ [r1]))) [(decide ((x5 : Int) < (List.length (Val.rows b1) : Int))) = true, (0 : Int) ≤ x5 ∧ x5 < (List.length (Val.rows b1)), AbsCalls Try.prog 116 (spec_l3Row_as (List.getD (Val.rows b1) (Int.toNat x5) Ty.row.dflt)) (spec_l3Row_ro r1), List.length (Val.rows b3) + List.length [r1] ≤ Lim]) := by kernel_rfl
theorem p71_7_1 (x5 : Int) (b1 : Val) (b2 : Val) (b3 : Val) : run tt (AbsCalls Try.prog) I71 3000 true (stkAt 7 I71.body) ⟨(S71_7 x5 b1 b2 b3), [false], [], []⟩ = some (.done (spec_l3Copy_ro b3) [(decide ((x5 : Int) < (List.length (Val.rows b1) : Int))) = false]) := by kernel_rfl
theorem p71_3_2 (x4 : Int) (b1 : Val) (b2 : Val) (b3 : Val) (r1 : Val) : run tt (AbsCalls Try.prog) I71 3000 true (stkAt 3 I71.body) ⟨(S71_3 x4 b1 b2 b3), [true], [spec_l3Copy_ro r1], []⟩ = some (.stop (stkAt 3 I71.body) (S71_3 (IntKind.i64.wrap (x4 + 1)) b1 b2 (Val.mk (Val.kind b3) (Val.n b3) (Val.step b3) (Val.text b3) ((Val.list b3) ++ [(Val.re r1)]) (Val.columns b3) (Val.rows b3))) [(decide ((x4 : Int) < (List.length (Val.list b1) : Int))) = true, (0 : Int) ≤ x4 ∧ x4 < (List.length (Val.list b1)), AbsCalls Try.prog 71 (spec_l3Copy_as (List.getD (Val.list b1) (Int.toNat x4) Ty.val.dflt)) (spec_l3Copy_ro r1), List.length (Val.list b3) + List.length [(Val.re r1)] ≤ Lim]) := by kernel_rfl
theorem p71_3_3 (x4 : Int) (b1 : Val) (b2 : Val) (b3 : Val) : run tt (AbsCalls Try.prog) I71 3000 true (stkAt 3 I71.body) ⟨(S71_3 x4 b1 b2 b3), [false], [], []⟩ = some (.stop (stkAt 7 I71.body) (S71_7 0 b1 b2 b3) [(decide ((x4 : Int) < (List.length (Val.list b1) : Int))) = false]) := by kernel_rfl
theorem p71_e_4 (a0 : Val) : run tt (AbsCalls Try.prog) I71 3000 false [.code I71.body] ⟨(entry 0 (spec_l3Copy_as a0)), [], [], []⟩ = some (.stop (stkAt 3 I71.body) (S71_3 0 a0 (Val.mk 0 0 0 [] [] [] []) (Val.mk (Val.kind a0) (Val.n a0) (Val.step a0) (Val.text a0) [] ([] ++ (Val.columns a0)) [])) [0 + List.length (Val.columns a0) ≤ Lim]) := by kernel_rfl
theorem c71_7 {N : Nat} {rc_spec_l3Copy : Val → Option (Val)} (hrc_spec_l3Copy : ∀ a0 r, rc_spec_l3Copy a0 = some r → AbsCalls Try.prog 71 (spec_l3Copy_as a0) (spec_l3Copy_ro r)) : ∀ n x5 b1 b2 b3 r, spec_l3Copy_b7 N rc_spec_l3Copy n x5 b1 b2 b3 = some r → Reach Try.prog Try.f71 I71 (stkAt 7 I71.body) (S71_7 x5 b1 b2 b3) (spec_l3Copy_ro r) := by
  intro n
  induction n with
  | zero => intro x5 b1 b2 b3 r h; have h' : (none : Option (Val)) = some r := h; cases h'
  | succ n ih =>
    intro x5 b1 b2 b3 r h
    rw [spec_l3Copy_b7] at h
    rcases cond_inv h with ⟨h0, h⟩ | ⟨h0, h⟩
    · obtain ⟨h1, h⟩ := ite_inv h
      obtain ⟨r1, h2, h⟩ := bind_inv h
      obtain ⟨h3, h⟩ := ite_inv h
      exact Reach.stop ttok mix fk71 (p71_7_0 x5 b1 b2 b3 r1) (obs_cons h0 (obs_cons h1 (obs_cons (spec_l3Row_ok h2) (obs_cons h3 obs_nil)))) (ih _ _ _ _ _ h)
    · obtain rfl := Option.some.inj h
      exact Reach.done ttok mix fk71 (p71_7_1 x5 b1 b2 b3) (obs_cons h0 obs_nil)
theorem c71_3 {N : Nat} {rc_spec_l3Copy : Val → Option (Val)} (hrc_spec_l3Copy : ∀ a0 r, rc_spec_l3Copy a0 = some r → AbsCalls Try.prog 71 (spec_l3Copy_as a0) (spec_l3Copy_ro r)) : ∀ n x4 b1 b2 b3 r, spec_l3Copy_b3 N rc_spec_l3Copy n x4 b1 b2 b3 = some r → Reach Try.prog Try.f71 I71 (stkAt 3 I71.body) (S71_3 x4 b1 b2 b3) (spec_l3Copy_ro r) := by
  intro n
  induction n with
  | zero => intro x4 b1 b2 b3 r h; have h' : (none : Option (Val)) = some r := h; cases h'
  | succ n ih =>
    intro x4 b1 b2 b3 r h
    rw [spec_l3Copy_b3] at h
    rcases cond_inv h with ⟨h0, h⟩ | ⟨h0, h⟩
    · obtain ⟨h1, h⟩ := ite_inv h
      obtain ⟨r1, h2, h⟩ := bind_inv h
      obtain ⟨h3, h⟩ := ite_inv h
      exact Reach.stop ttok mix fk71 (p71_3_2 x4 b1 b2 b3 r1) (obs_cons h0 (obs_cons h1 (obs_cons (hrc_spec_l3Copy _ _ h2) (obs_cons h3 obs_nil)))) (ih _ _ _ _ _ h)
    · exact Reach.stop ttok mix fk71 (p71_3_3 x4 b1 b2 b3) (obs_cons h0 obs_nil) (c71_7 hrc_spec_l3Copy  _ _ _ _ _ _ h)
theorem c71_e {N : Nat} {rc_spec_l3Copy : Val → Option (Val)} (hrc_spec_l3Copy : ∀ a0 r, rc_spec_l3Copy a0 = some r → AbsCalls Try.prog 71 (spec_l3Copy_as a0) (spec_l3Copy_ro r)) : ∀ a0 r, spec_l3Copy_body N rc_spec_l3Copy a0 = some r → Reach Try.prog Try.f71 I71 [.code I71.body] (entry 0 (spec_l3Copy_as a0)) (spec_l3Copy_ro r) := by
  intro a0 r h
  unfold spec_l3Copy_body at h
  obtain ⟨h0, h⟩ := ite_inv h
  exact Reach.stop ttok mix fk71 (p71_e_4 a0) (obs_cons h0 obs_nil) (c71_3 hrc_spec_l3Copy  _ _ _ _ _ _ h)
theorem spec_l3Copy_body_ok {N : Nat} {rc_spec_l3Copy : Val → Option (Val)} (hrc_spec_l3Copy : ∀ a0 r, rc_spec_l3Copy a0 = some r → AbsCalls Try.prog 71 (spec_l3Copy_as a0) (spec_l3Copy_ro r)) {a0 : Val} {r : Val} (h : spec_l3Copy_body N rc_spec_l3Copy a0 = some r) : AbsCalls Try.prog 71 (spec_l3Copy_as a0) (spec_l3Copy_ro r) :=
 AbsCalls.of_reach fk71 rfl rfl (Nat.le_of_ble_eq_true rfl) (c71_e hrc_spec_l3Copy a0 r h)
theorem spec_l3Copy_fix_ok {N : Nat} : ∀ d, (∀ a0 r, spec_l3Copy_fix N d a0 = some r → AbsCalls Try.prog 71 (spec_l3Copy_as a0) (spec_l3Copy_ro r)) := by
  intro d
  induction d with
  | zero => intro _ r h; have h' : (none : Option (Val)) = some r := h; cases h'
  | succ d ih => intro _ r h; exact spec_l3Copy_body_ok (N := N) ih h
theorem spec_l3Copy_ok {N : Nat} {a0 : Val} {r : Val} (h : spec_l3Copy N a0 = some r) : AbsCalls Try.prog 71 (spec_l3Copy_as a0) (spec_l3Copy_ro r) := spec_l3Copy_fix_ok N _ r h
noncomputable def I119 : Info := { body := (Try.f119.body).getD .skip, nt := 12, results := [.cell 2 130], keep := [0, 2, 4, 3, 5], live := [], modes := [], ext := [], lnt := [], casts := [], fcast := [] }
theorem fk119 : FnOk Try.prog 119 Try.f119 I119 := ⟨Try.func119, by kernel_rfl, by kernel_rfl, by kernel_rfl, by kernel_rfl⟩
theorem p119_e_0 (a0 : Rowd) : run tt (AbsCalls Try.prog) I119 3000 false [.code I119.body] ⟨(entry 0 (impl_copyRow_as a0)), [], [], []⟩ = some (.done (impl_copyRow_ro (Rowd.mk ([] ++ (Rowd.cells a0)) ([] ++ (Rowd.frm a0)))) [0 + List.length (Rowd.cells a0) ≤ Lim, 0 + List.length (Rowd.frm a0) ≤ Lim]) := by kernel_rfl
theorem c119_e {N : Nat} : ∀ a0 r, impl_copyRow N a0 = some r → Reach Try.prog Try.f119 I119 [.code I119.body] (entry 0 (impl_copyRow_as a0)) (impl_copyRow_ro r) := by
  intro a0 r h
  unfold impl_copyRow at h
  obtain ⟨h0, h⟩ := ite_inv h
  obtain ⟨h1, h⟩ := ite_inv h
  obtain rfl := Option.some.inj h
  exact Reach.done ttok mix fk119 (p119_e_0 a0) (obs_cons h0 (obs_cons h1 obs_nil))
theorem impl_copyRow_ok {N : Nat} {a0 : Rowd} {r : Rowd} (h : impl_copyRow N  a0 = some r) : AbsCalls Try.prog 119 (impl_copyRow_as a0) (impl_copyRow_ro r) :=
 AbsCalls.of_reach fk119 rfl rfl (Nat.le_of_ble_eq_true rfl) (c119_e a0 r h)
noncomputable def I74 : Info := { body := (Try.f74.body).getD .skip, nt := 33, results := [.cell 2 28], keep := [0, 2, 4, 6, 10, 36, 38, 40, 42, 3, 5, 7, 11], live := [(6, [4, 6, 36, 38, 40, 5, 7])], modes := [(8, [(1, .take, false), (5, .take, false)]), (9, [(1, .take, false)]), (10, [(0, .take, false)])], ext := [], lnt := [], casts := [], fcast := [] }
theorem fk74 : FnOk Try.prog 74 Try.f74 I74 := ⟨Try.func74, by kernel_rfl, by kernel_rfl, by kernel_rfl, by kernel_rfl⟩
def S74_6 (x18 : List Rowd) (x19 : Int) (x20 : Int) (b2 : Val) (b3 : Val) : St := [(4, .v false [.ptr 2 0]), (6, .v false [.ptr 3 0]), (36, .v false [.sl .ro .row x18]), (38, .v false [.int .i64 x19]), (40, .v false [.int .i64 x20]), (5, .v true [.int .i64 (Val.kind b2), .int .i64 (Val.n b2), .int .i64 (Val.step b2), .str (Val.text b2), .sl .own .val (Val.list b2), .sl .own .str (Val.columns b2), .sl .own .row (Val.rows b2)]), (7, .v true [.int .i64 (Val.kind b3), .int .i64 (Val.n b3), .int .i64 (Val.step b3), .str (Val.text b3), .sl .own .val (Val.list b3), .sl .own .str (Val.columns b3), .sl .own .row (Val.rows b3)])]
theorem p74_6_0 (x18 : List Rowd) (x19 : Int) (x20 : Int) (b2 : Val) (b3 : Val) (r1 : Rowd) : run tt (AbsCalls Try.prog) I74 3000 true (stkAt 6 I74.body) ⟨(S74_6 x18 x19 x20 b2 b3), [true], [impl_copyRow_ro r1], []⟩ = some (.stop (stkAt 6 I74.body) (S74_6 x18 x19 (IntKind.i64.wrap (x20 + 1)) b2 (Val.mk (Val.kind b3) (Val.n b3) (Val.step b3) (Val.text b3) (Val.list b3) (Val.columns b3) ((Val.rows b3) ++ [r1]))) [(decide ((x20 : Int) < x19)) = true, (0 : Int) ≤ x20 ∧ x20 < (List.length x18), AbsCalls Try.prog 119 (impl_copyRow_as (List.getD x18 (Int.toNat x20) Ty.row.dflt)) (impl_copyRow_ro r1), List.length (Val.rows b3) + List.length [r1] ≤ Lim]) := by kernel_rfl
theorem p74_6_1 (x18 : List Rowd) (x19 : Int) (x20 : Int) (b2 : Val) (b3 : Val) : run tt (AbsCalls Try.prog) I74 3000 true (stkAt 6 I74.body) ⟨(S74_6 x18 x19 x20 b2 b3), [false], [], []⟩ = some (.done (impl_copyValue_ro b3) [(decide ((x20 : Int) < x19)) = false]) := by kernel_rfl
theorem p74_e_2 (a0 : Val) (r1 : (List Val)) : run tt (AbsCalls Try.prog) I74 3000 false [.code I74.body] ⟨(entry 0 (impl_copyValue_as a0)), [], [impl_copyValues_ro r1], []⟩ = some (.stop (stkAt 6 I74.body) (S74_6 (Val.rows a0) (List.length (Val.rows a0) : Int) 0 (Val.mk 0 0 0 [] [] [] []) (Val.mk (Val.kind a0) (Val.n a0) (Val.step a0) (Val.text a0) r1 ([] ++ (Val.columns a0)) [])) [AbsCalls Try.prog 128 (impl_copyValues_as (Val.list a0)) (impl_copyValues_ro r1), 0 + List.length (Val.columns a0) ≤ Lim]) := by kernel_rfl
theorem c74_6 {N : Nat} {rc_impl_copyValue : Val → Option (Val)} (hrc_impl_copyValue : ∀ a0 r, rc_impl_copyValue a0 = some r → AbsCalls Try.prog 74 (impl_copyValue_as a0) (impl_copyValue_ro r)) {rc_impl_copyValues : (List Val) → Option ((List Val))} (hrc_impl_copyValues : ∀ a0 r, rc_impl_copyValues a0 = some r → AbsCalls Try.prog 128 (impl_copyValues_as a0) (impl_copyValues_ro r)) : ∀ n x18 x19 x20 b2 b3 r, impl_copyValue_b6 N rc_impl_copyValue rc_impl_copyValues n x18 x19 x20 b2 b3 = some r → Reach Try.prog Try.f74 I74 (stkAt 6 I74.body) (S74_6 x18 x19 x20 b2 b3) (impl_copyValue_ro r) := by
  intro n
  induction n with
  | zero => intro x18 x19 x20 b2 b3 r h; have h' : (none : Option (Val)) = some r := h; cases h'
  | succ n ih =>
    intro x18 x19 x20 b2 b3 r h
    rw [impl_copyValue_b6] at h
    rcases cond_inv h with ⟨h0, h⟩ | ⟨h0, h⟩
    · obtain ⟨h1, h⟩ := ite_inv h
      obtain ⟨r1, h2, h⟩ := bind_inv h
      obtain ⟨h3, h⟩ := ite_inv h
      exact Reach.stop ttok mix fk74 (p74_6_0 x18 x19 x20 b2 b3 r1) (obs_cons h0 (obs_cons h1 (obs_cons (impl_copyRow_ok h2) (obs_cons h3 obs_nil)))) (ih _ _ _ _ _ _ h)
    · obtain rfl := Option.some.inj h
      exact Reach.done ttok mix fk74 (p74_6_1 x18 x19 x20 b2 b3) (obs_cons h0 obs_nil)
theorem c74_e {N : Nat} {rc_impl_copyValue : Val → Option (Val)} (hrc_impl_copyValue : ∀ a0 r, rc_impl_copyValue a0 = some r → AbsCalls Try.prog 74 (impl_copyValue_as a0) (impl_copyValue_ro r)) {rc_impl_copyValues : (List Val) → Option ((List Val))} (hrc_impl_copyValues : ∀ a0 r, rc_impl_copyValues a0 = some r → AbsCalls Try.prog 128 (impl_copyValues_as a0) (impl_copyValues_ro r)) : ∀ a0 r, impl_copyValue_body N rc_impl_copyValue rc_impl_copyValues a0 = some r → Reach Try.prog Try.f74 I74 [.code I74.body] (entry 0 (impl_copyValue_as a0)) (impl_copyValue_ro r) := by
  intro a0 r h
  unfold impl_copyValue_body at h
  obtain ⟨r1, h0, h⟩ := bind_inv h
  obtain ⟨h1, h⟩ := ite_inv h
  exact Reach.stop ttok mix fk74 (p74_e_2 a0 r1) (obs_cons (hrc_impl_copyValues _ _ h0) (obs_cons h1 obs_nil)) (c74_6 hrc_impl_copyValue hrc_impl_copyValues  _ _ _ _ _ _ _ h)
theorem impl_copyValue_body_ok {N : Nat} {rc_impl_copyValue : Val → Option (Val)} (hrc_impl_copyValue : ∀ a0 r, rc_impl_copyValue a0 = some r → AbsCalls Try.prog 74 (impl_copyValue_as a0) (impl_copyValue_ro r)) {rc_impl_copyValues : (List Val) → Option ((List Val))} (hrc_impl_copyValues : ∀ a0 r, rc_impl_copyValues a0 = some r → AbsCalls Try.prog 128 (impl_copyValues_as a0) (impl_copyValues_ro r)) {a0 : Val} {r : Val} (h : impl_copyValue_body N rc_impl_copyValue rc_impl_copyValues a0 = some r) : AbsCalls Try.prog 74 (impl_copyValue_as a0) (impl_copyValue_ro r) :=
 AbsCalls.of_reach fk74 rfl rfl (Nat.le_of_ble_eq_true rfl) (c74_e hrc_impl_copyValue hrc_impl_copyValues a0 r h)
noncomputable def I128 : Info := { body := (Try.f128.body).getD .skip, nt := 20, results := [.tmp 2], keep := [0, 4, 6, 10, 14, 16, 18, 20, 11], live := [(3, [6, 14, 16, 18])], modes := [(5, [(0, .take, false), (4, .take, false)]), (6, [(1, .take, false)]), (7, [(0, .take, false)])], ext := [], lnt := [], casts := [], fcast := [] }
theorem fk128 : FnOk Try.prog 128 Try.f128 I128 := ⟨Try.func128, by kernel_rfl, by kernel_rfl, by kernel_rfl, by kernel_rfl⟩
def S128_3 (x3 : List Val) (x7 : List Val) (x8 : Int) (x9 : Int) : St := [(6, .v false [.sl .own .val x3]), (14, .v false [.sl .ro .val x7]), (16, .v false [.int .i64 x8]), (18, .v false [.int .i64 x9])]
theorem p128_3_0 (x3 : List Val) (x7 : List Val) (x8 : Int) (x9 : Int) (r1 : Val) : run tt (AbsCalls Try.prog) I128 3000 true (stkAt 3 I128.body) ⟨(S128_3 x3 x7 x8 x9), [true], [impl_copyValue_ro r1], []⟩ = some (.stop (stkAt 3 I128.body) (S128_3 (x3 ++ [(Val.re r1)]) x7 x8 (IntKind.i64.wrap (x9 + 1))) [(decide ((x9 : Int) < x8)) = true, (0 : Int) ≤ x9 ∧ x9 < (List.length x7), AbsCalls Try.prog 74 (impl_copyValue_as (List.getD x7 (Int.toNat x9) Ty.val.dflt)) (impl_copyValue_ro r1), List.length x3 + List.length [(Val.re r1)] ≤ Lim]) := by kernel_rfl
theorem p128_3_1 (x3 : List Val) (x7 : List Val) (x8 : Int) (x9 : Int) : run tt (AbsCalls Try.prog) I128 3000 true (stkAt 3 I128.body) ⟨(S128_3 x3 x7 x8 x9), [false], [], []⟩ = some (.done (impl_copyValues_ro x3) [(decide ((x9 : Int) < x8)) = false]) := by kernel_rfl
theorem p128_e_2 (a0 : List Val) : run tt (AbsCalls Try.prog) I128 3000 false [.code I128.body] ⟨(entry 0 (impl_copyValues_as a0)), [], [], []⟩ = some (.stop (stkAt 3 I128.body) (S128_3 [] a0 (List.length a0 : Int) 0) []) := by kernel_rfl
theorem c128_3 {N : Nat} {rc_impl_copyValue : Val → Option (Val)} (hrc_impl_copyValue : ∀ a0 r, rc_impl_copyValue a0 = some r → AbsCalls Try.prog 74 (impl_copyValue_as a0) (impl_copyValue_ro r)) {rc_impl_copyValues : (List Val) → Option ((List Val))} (hrc_impl_copyValues : ∀ a0 r, rc_impl_copyValues a0 = some r → AbsCalls Try.prog 128 (impl_copyValues_as a0) (impl_copyValues_ro r)) : ∀ n x3 x7 x8 x9 r, impl_copyValues_b3 N rc_impl_copyValue rc_impl_copyValues n x3 x7 x8 x9 = some r → Reach Try.prog Try.f128 I128 (stkAt 3 I128.body) (S128_3 x3 x7 x8 x9) (impl_copyValues_ro r) := by
  intro n
  induction n with
  | zero => intro x3 x7 x8 x9 r h; have h' : (none : Option ((List Val))) = some r := h; cases h'
  | succ n ih =>
    intro x3 x7 x8 x9 r h
    rw [impl_copyValues_b3] at h
    rcases cond_inv h with ⟨h0, h⟩ | ⟨h0, h⟩
    · obtain ⟨h1, h⟩ := ite_inv h
      obtain ⟨r1, h2, h⟩ := bind_inv h
      obtain ⟨h3, h⟩ := ite_inv h
      exact Reach.stop ttok mix fk128 (p128_3_0 x3 x7 x8 x9 r1) (obs_cons h0 (obs_cons h1 (obs_cons (hrc_impl_copyValue _ _ h2) (obs_cons h3 obs_nil)))) (ih _ _ _ _ _ h)
    · obtain rfl := Option.some.inj h
      exact Reach.done ttok mix fk128 (p128_3_1 x3 x7 x8 x9) (obs_cons h0 obs_nil)
theorem c128_e {N : Nat} {rc_impl_copyValue : Val → Option (Val)} (hrc_impl_copyValue : ∀ a0 r, rc_impl_copyValue a0 = some r → AbsCalls Try.prog 74 (impl_copyValue_as a0) (impl_copyValue_ro r)) {rc_impl_copyValues : (List Val) → Option ((List Val))} (hrc_impl_copyValues : ∀ a0 r, rc_impl_copyValues a0 = some r → AbsCalls Try.prog 128 (impl_copyValues_as a0) (impl_copyValues_ro r)) : ∀ a0 r, impl_copyValues_body N rc_impl_copyValue rc_impl_copyValues a0 = some r → Reach Try.prog Try.f128 I128 [.code I128.body] (entry 0 (impl_copyValues_as a0)) (impl_copyValues_ro r) := by
  intro a0 r h
  unfold impl_copyValues_body at h
  exact Reach.stop ttok mix fk128 (p128_e_2 a0) obs_nil (c128_3 hrc_impl_copyValue hrc_impl_copyValues  _ _ _ _ _ _ h)
theorem impl_copyValues_body_ok {N : Nat} {rc_impl_copyValue : Val → Option (Val)} (hrc_impl_copyValue : ∀ a0 r, rc_impl_copyValue a0 = some r → AbsCalls Try.prog 74 (impl_copyValue_as a0) (impl_copyValue_ro r)) {rc_impl_copyValues : (List Val) → Option ((List Val))} (hrc_impl_copyValues : ∀ a0 r, rc_impl_copyValues a0 = some r → AbsCalls Try.prog 128 (impl_copyValues_as a0) (impl_copyValues_ro r)) {a0 : List Val} {r : (List Val)} (h : impl_copyValues_body N rc_impl_copyValue rc_impl_copyValues a0 = some r) : AbsCalls Try.prog 128 (impl_copyValues_as a0) (impl_copyValues_ro r) :=
 AbsCalls.of_reach fk128 rfl rfl (Nat.le_of_ble_eq_true rfl) (c128_e hrc_impl_copyValue hrc_impl_copyValues a0 r h)
theorem impl_copyValue_fix_ok {N : Nat} : ∀ d, (∀ a0 r, (impl_copyValue_fix N d).c_impl_copyValue a0 = some r → AbsCalls Try.prog 74 (impl_copyValue_as a0) (impl_copyValue_ro r)) ∧ (∀ a0 r, (impl_copyValue_fix N d).c_impl_copyValues a0 = some r → AbsCalls Try.prog 128 (impl_copyValues_as a0) (impl_copyValues_ro r)) := by
  intro d
  induction d with
  | zero =>
    refine ⟨?_, ?_⟩ <;> (intros; rename_i h; cases h)
  | succ d ih =>
    obtain ⟨ih0, ih1⟩ := ih
    refine ⟨?_, ?_⟩
    · intro _ r h; exact impl_copyValue_body_ok (N := N) ih0 ih1 h
    · intro _ r h; exact impl_copyValues_body_ok (N := N) ih0 ih1 h
theorem impl_copyValue_ok {N : Nat} {a0 : Val} {r : Val} (h : impl_copyValue N a0 = some r) : AbsCalls Try.prog 74 (impl_copyValue_as a0) (impl_copyValue_ro r) := (impl_copyValue_fix_ok N).1 _ r h
end Go.Ab.T
end
section
open Go.Proofs
namespace Go.Ab.T
set_option linter.unusedVariables false
set_option maxRecDepth 100000
noncomputable def I48 : Info := { body := (Try.f48.body).getD .skip, nt := 39, results := [.cell 4 28], keep := [0, 2, 6, 8, 10, 12, 36, 52, 7, 9, 11], live := [(5, [0, 8, 10, 12, 9, 11])], modes := [(1, [(3, .take, false), (8, .take, false)]), (7, [(1, .ref, false)]), (8, [(0, .take, false)])], ext := [], lnt := [], casts := [], fcast := [] }
theorem fk48 : FnOk Try.prog 48 Try.f48 I48 := ⟨Try.func48, by kernel_rfl, by kernel_rfl, by kernel_rfl, by kernel_rfl⟩
def S48_5 (x0 : Int) (x6 : Int) (b4 : Val) (b5 : Val) : St := [(0, .v false [.int .i64 x0]), (8, .v false [.ptr 4 0]), (10, .v false [.ptr 5 0]), (12, .v false [.int .i64 x6]), (9, .v true [.int .i64 (Val.kind b4), .int .i64 (Val.n b4), .int .i64 (Val.step b4), .str (Val.text b4), .sl .own .val (Val.list b4), .sl .own .str (Val.columns b4), .sl .own .row (Val.rows b4)]), (11, .v true [.int .i64 (Val.kind b5), .int .i64 (Val.n b5), .int .i64 (Val.step b5), .str (Val.text b5), .sl .own .val (Val.list b5), .sl .own .str (Val.columns b5), .sl .own .row (Val.rows b5)])]
theorem p48_5_0 (x0 : Int) (x6 : Int) (b4 : Val) (b5 : Val) : run tt (AbsCalls Try.prog) I48 3000 true (stkAt 5 I48.body) ⟨(S48_5 x0 x6 b4 b5), [true], [], []⟩ = some (.stop (stkAt 5 I48.body) (S48_5 x0 (IntKind.i64.wrap (x6 + 1)) b4 (Val.mk (Val.kind b5) (Val.n b5) (Val.step b5) (Val.text b5) (Val.list b5) (Val.columns b5) (List.set (Val.rows b5) (Int.toNat x6) (Rowd.mk (Rowd.cells (List.getD (Val.rows b5) (Int.toNat x6) Ty.row.dflt)) [(Org.mk x0 x6)])))) [(decide ((x6 : Int) < (List.length (Val.rows b5) : Int))) = true, (0 : Int) ≤ x6 ∧ x6 < (List.length (Val.rows b5))]) := by kernel_rfl
theorem p48_5_1 (x0 : Int) (x6 : Int) (b4 : Val) (b5 : Val) : run tt (AbsCalls Try.prog) I48 3000 true (stkAt 5 I48.body) ⟨(S48_5 x0 x6 b4 b5), [false], [], []⟩ = some (.done (spec_SourceTable_ro b5) [(decide ((x6 : Int) < (List.length (Val.rows b5) : Int))) = false]) := by kernel_rfl
theorem p48_e_2 (a0 : Int) (a1 : Val) (r1 : Val) : run tt (AbsCalls Try.prog) I48 3000 false [.code I48.body] ⟨(entry 0 (spec_SourceTable_as a0 a1)), [true, true, true], [spec_ErrorValue_ro r1], []⟩ = some (.done (spec_SourceTable_ro r1) [(((Val.kind a1) : Int) != 5) = true, true = true, true = true, AbsCalls Try.prog 72 (spec_ErrorValue_as 4) (spec_ErrorValue_ro r1)]) := by kernel_rfl
theorem p48_e_3 (a0 : Int) (a1 : Val) (r1 : Bool) (r2 : Val) : run tt (AbsCalls Try.prog) I48 3000 false [.code I48.body] ⟨(entry 0 (spec_SourceTable_as a0 a1)), [false, true, true], [spec_IsValidValue_ro r1, spec_ErrorValue_ro r2], []⟩ = some (.done (spec_SourceTable_ro r2) [(((Val.kind a1) : Int) != 5) = false, AbsCalls Try.prog 108 (spec_IsValidValue_as a1) (spec_IsValidValue_ro r1), (!r1) = true, true = true, AbsCalls Try.prog 72 (spec_ErrorValue_as 4) (spec_ErrorValue_ro r2)]) := by kernel_rfl
theorem p48_e_4 (a0 : Int) (a1 : Val) (r1 : Bool) (r2 : Val) : run tt (AbsCalls Try.prog) I48 3000 false [.code I48.body] ⟨(entry 0 (spec_SourceTable_as a0 a1)), [false, false, true], [spec_IsValidValue_ro r1, spec_ErrorValue_ro r2], []⟩ = some (.done (spec_SourceTable_ro r2) [(((Val.kind a1) : Int) != 5) = false, AbsCalls Try.prog 108 (spec_IsValidValue_as a1) (spec_IsValidValue_ro r1), (!r1) = false, (decide ((a0 : Int) < 0)) = true, AbsCalls Try.prog 72 (spec_ErrorValue_as 4) (spec_ErrorValue_ro r2)]) := by kernel_rfl
theorem p48_e_5 (a0 : Int) (a1 : Val) (r1 : Bool) (r2 : Val) : run tt (AbsCalls Try.prog) I48 3000 false [.code I48.body] ⟨(entry 0 (spec_SourceTable_as a0 a1)), [false, false, false], [spec_IsValidValue_ro r1, spec_l3Copy_ro r2], []⟩ = some (.stop (stkAt 5 I48.body) (S48_5 a0 0 (Val.mk 0 0 0 [] [] [] []) r2) [(((Val.kind a1) : Int) != 5) = false, AbsCalls Try.prog 108 (spec_IsValidValue_as a1) (spec_IsValidValue_ro r1), (!r1) = false, (decide ((a0 : Int) < 0)) = false, AbsCalls Try.prog 71 (spec_l3Copy_as a1) (spec_l3Copy_ro r2)]) := by kernel_rfl
theorem c48_5 {N : Nat} : ∀ n x0 x6 b4 b5 r, spec_SourceTable_b5 N n x0 x6 b4 b5 = some r → Reach Try.prog Try.f48 I48 (stkAt 5 I48.body) (S48_5 x0 x6 b4 b5) (spec_SourceTable_ro r) := by
  intro n
  induction n with
  | zero => intro x0 x6 b4 b5 r h; have h' : (none : Option (Val)) = some r := h; cases h'
  | succ n ih =>
    intro x0 x6 b4 b5 r h
    rw [spec_SourceTable_b5] at h
    rcases cond_inv h with ⟨h0, h⟩ | ⟨h0, h⟩
    · obtain ⟨h1, h⟩ := ite_inv h
      exact Reach.stop ttok mix fk48 (p48_5_0 x0 x6 b4 b5) (obs_cons h0 (obs_cons h1 obs_nil)) (ih _ _ _ _ _ h)
    · obtain rfl := Option.some.inj h
      exact Reach.done ttok mix fk48 (p48_5_1 x0 x6 b4 b5) (obs_cons h0 obs_nil)
theorem c48_e {N : Nat} : ∀ a0 a1 r, spec_SourceTable N a0 a1 = some r → Reach Try.prog Try.f48 I48 [.code I48.body] (entry 0 (spec_SourceTable_as a0 a1)) (spec_SourceTable_ro r) := by
  intro a0 a1 r h
  unfold spec_SourceTable at h
  rcases cond_inv h with ⟨h0, h⟩ | ⟨h0, h⟩
  · obtain ⟨r1, h3, h⟩ := bind_inv h
    obtain rfl := Option.some.inj h
    exact Reach.done ttok mix fk48 (p48_e_2 a0 a1 r1) (obs_cons h0 (obs_cons rfl (obs_cons rfl (obs_cons (spec_ErrorValue_ok h3) obs_nil))))
  · obtain ⟨r1, h1, h⟩ := bind_inv h
    rcases cond_inv h with ⟨h2, h⟩ | ⟨h2, h⟩
    · obtain ⟨r2, h4, h⟩ := bind_inv h
      obtain rfl := Option.some.inj h
      exact Reach.done ttok mix fk48 (p48_e_3 a0 a1 r1 r2) (obs_cons h0 (obs_cons (spec_IsValidValue_ok h1) (obs_cons h2 (obs_cons rfl (obs_cons (spec_ErrorValue_ok h4) obs_nil)))))
    · rcases cond_inv h with ⟨h3, h⟩ | ⟨h3, h⟩
      · obtain ⟨r2, h4, h⟩ := bind_inv h
        obtain rfl := Option.some.inj h
        exact Reach.done ttok mix fk48 (p48_e_4 a0 a1 r1 r2) (obs_cons h0 (obs_cons (spec_IsValidValue_ok h1) (obs_cons h2 (obs_cons h3 (obs_cons (spec_ErrorValue_ok h4) obs_nil)))))
      · obtain ⟨r2, h4, h⟩ := bind_inv h
        exact Reach.stop ttok mix fk48 (p48_e_5 a0 a1 r1 r2) (obs_cons h0 (obs_cons (spec_IsValidValue_ok h1) (obs_cons h2 (obs_cons h3 (obs_cons (spec_l3Copy_ok h4) obs_nil))))) (c48_5   _ _ _ _ _ _ h)
theorem spec_SourceTable_ok {N : Nat} {a0 : Int} {a1 : Val} {r : Val} (h : spec_SourceTable N  a0 a1 = some r) : AbsCalls Try.prog 48 (spec_SourceTable_as a0 a1) (spec_SourceTable_ro r) :=
 AbsCalls.of_reach fk48 rfl rfl (Nat.le_of_ble_eq_true rfl) (c48_e a0 a1 r h)
end Go.Ab.T
end
section
open Go.Proofs
namespace Go.Ab.T
set_option linter.unusedVariables false
set_option maxRecDepth 100000
noncomputable def I49 : Info := { body := (Try.f49.body).getD .skip, nt := 39, results := [.cell 4 28], keep := [0, 2, 6, 8, 10, 12, 36, 48, 50, 52, 7, 9, 11], live := [(5, [0, 8, 10, 48, 50, 9, 11])], modes := [(1, [(3, .take, false), (8, .take, false)]), (7, [(1, .ref, false)]), (8, [(1, .take, false)]), (9, [(0, .take, false)])], ext := [], lnt := [], casts := [], fcast := [] }
theorem fk49 : FnOk Try.prog 49 Try.f49 I49 := ⟨Try.func49, by kernel_rfl, by kernel_rfl, by kernel_rfl, by kernel_rfl⟩
def S49_5 (x0 : Int) (x24 : Int) (x25 : Int) (b4 : Val) (b5 : Val) : St := [(0, .v false [.int .i64 x0]), (8, .v false [.ptr 4 0]), (10, .v false [.ptr 5 0]), (48, .v false [.int .i64 x24]), (50, .v false [.int .i64 x25]), (9, .v true [.int .i64 (Val.kind b4), .int .i64 (Val.n b4), .int .i64 (Val.step b4), .str (Val.text b4), .sl .own .val (Val.list b4), .sl .own .str (Val.columns b4), .sl .own .row (Val.rows b4)]), (11, .v true [.int .i64 (Val.kind b5), .int .i64 (Val.n b5), .int .i64 (Val.step b5), .str (Val.text b5), .sl .own .val (Val.list b5), .sl .own .str (Val.columns b5), .sl .own .row (Val.rows b5)])]
theorem p49_5_0 (x0 : Int) (x24 : Int) (x25 : Int) (b4 : Val) (b5 : Val) : run tt (AbsCalls Try.prog) I49 3000 true (stkAt 5 I49.body) ⟨(S49_5 x0 x24 x25 b4 b5), [true], [], []⟩ = some (.stop (stkAt 5 I49.body) (S49_5 x0 x24 (IntKind.i64.wrap (x25 + 1)) b4 (Val.mk (Val.kind b5) (Val.n b5) (Val.step b5) (Val.text b5) (Val.list b5) (Val.columns b5) (List.set (Val.rows b5) (Int.toNat x25) (Rowd.mk (Rowd.cells (List.getD (Val.rows b5) (Int.toNat x25) Ty.row.dflt)) [(Org.mk x0 x25)])))) [(decide ((x25 : Int) < x24)) = true, (0 : Int) ≤ x25 ∧ x25 < (List.length (Val.rows b5))]) := by kernel_rfl
theorem p49_5_1 (x0 : Int) (x24 : Int) (x25 : Int) (b4 : Val) (b5 : Val) : run tt (AbsCalls Try.prog) I49 3000 true (stkAt 5 I49.body) ⟨(S49_5 x0 x24 x25 b4 b5), [false], [], []⟩ = some (.done (impl_SourceTable_ro b5) [(decide ((x25 : Int) < x24)) = false]) := by kernel_rfl
theorem p49_e_2 (a0 : Int) (a1 : Val) (r1 : Val) : run tt (AbsCalls Try.prog) I49 3000 false [.code I49.body] ⟨(entry 0 (impl_SourceTable_as a0 a1)), [true, true, true], [impl_ErrorValue_ro r1], []⟩ = some (.done (impl_SourceTable_ro r1) [(((Val.kind a1) : Int) != 5) = true, true = true, true = true, AbsCalls Try.prog 75 (impl_ErrorValue_as 4) (impl_ErrorValue_ro r1)]) := by kernel_rfl
theorem p49_e_3 (a0 : Int) (a1 : Val) (r1 : Bool) (r2 : Val) : run tt (AbsCalls Try.prog) I49 3000 false [.code I49.body] ⟨(entry 0 (impl_SourceTable_as a0 a1)), [false, true, true], [impl_IsValidValue_ro r1, impl_ErrorValue_ro r2], []⟩ = some (.done (impl_SourceTable_ro r2) [(((Val.kind a1) : Int) != 5) = false, AbsCalls Try.prog 109 (impl_IsValidValue_as a1) (impl_IsValidValue_ro r1), (!r1) = true, true = true, AbsCalls Try.prog 75 (impl_ErrorValue_as 4) (impl_ErrorValue_ro r2)]) := by kernel_rfl
theorem p49_e_4 (a0 : Int) (a1 : Val) (r1 : Bool) (r2 : Val) : run tt (AbsCalls Try.prog) I49 3000 false [.code I49.body] ⟨(entry 0 (impl_SourceTable_as a0 a1)), [false, false, true], [impl_IsValidValue_ro r1, impl_ErrorValue_ro r2], []⟩ = some (.done (impl_SourceTable_ro r2) [(((Val.kind a1) : Int) != 5) = false, AbsCalls Try.prog 109 (impl_IsValidValue_as a1) (impl_IsValidValue_ro r1), (!r1) = false, (decide ((a0 : Int) < 0)) = true, AbsCalls Try.prog 75 (impl_ErrorValue_as 4) (impl_ErrorValue_ro r2)]) := by kernel_rfl
theorem p49_e_5 (a0 : Int) (a1 : Val) (r1 : Bool) (r2 : Val) : run tt (AbsCalls Try.prog) I49 3000 false [.code I49.body] ⟨(entry 0 (impl_SourceTable_as a0 a1)), [false, false, false], [impl_IsValidValue_ro r1, impl_copyValue_ro r2], []⟩ = some (.stop (stkAt 5 I49.body) (S49_5 a0 (List.length (Val.rows r2) : Int) 0 (Val.mk 0 0 0 [] [] [] []) r2) [(((Val.kind a1) : Int) != 5) = false, AbsCalls Try.prog 109 (impl_IsValidValue_as a1) (impl_IsValidValue_ro r1), (!r1) = false, (decide ((a0 : Int) < 0)) = false, AbsCalls Try.prog 74 (impl_copyValue_as a1) (impl_copyValue_ro r2)]) := by kernel_rfl
theorem c49_5 {N : Nat} : ∀ n x0 x24 x25 b4 b5 r, impl_SourceTable_b5 N n x0 x24 x25 b4 b5 = some r → Reach Try.prog Try.f49 I49 (stkAt 5 I49.body) (S49_5 x0 x24 x25 b4 b5) (impl_SourceTable_ro r) := by
  intro n
  induction n with
  | zero => intro x0 x24 x25 b4 b5 r h; have h' : (none : Option (Val)) = some r := h; cases h'
  | succ n ih =>
    intro x0 x24 x25 b4 b5 r h
    rw [impl_SourceTable_b5] at h
    rcases cond_inv h with ⟨h0, h⟩ | ⟨h0, h⟩
    · obtain ⟨h1, h⟩ := ite_inv h
      exact Reach.stop ttok mix fk49 (p49_5_0 x0 x24 x25 b4 b5) (obs_cons h0 (obs_cons h1 obs_nil)) (ih _ _ _ _ _ _ h)
    · obtain rfl := Option.some.inj h
      exact Reach.done ttok mix fk49 (p49_5_1 x0 x24 x25 b4 b5) (obs_cons h0 obs_nil)
theorem c49_e {N : Nat} : ∀ a0 a1 r, impl_SourceTable N a0 a1 = some r → Reach Try.prog Try.f49 I49 [.code I49.body] (entry 0 (impl_SourceTable_as a0 a1)) (impl_SourceTable_ro r) := by
  intro a0 a1 r h
  unfold impl_SourceTable at h
  rcases cond_inv h with ⟨h0, h⟩ | ⟨h0, h⟩
  · obtain ⟨r1, h3, h⟩ := bind_inv h
    obtain rfl := Option.some.inj h
    exact Reach.done ttok mix fk49 (p49_e_2 a0 a1 r1) (obs_cons h0 (obs_cons rfl (obs_cons rfl (obs_cons (impl_ErrorValue_ok h3) obs_nil))))
  · obtain ⟨r1, h1, h⟩ := bind_inv h
    rcases cond_inv h with ⟨h2, h⟩ | ⟨h2, h⟩
    · obtain ⟨r2, h4, h⟩ := bind_inv h
      obtain rfl := Option.some.inj h
      exact Reach.done ttok mix fk49 (p49_e_3 a0 a1 r1 r2) (obs_cons h0 (obs_cons (impl_IsValidValue_ok h1) (obs_cons h2 (obs_cons rfl (obs_cons (impl_ErrorValue_ok h4) obs_nil)))))
    · rcases cond_inv h with ⟨h3, h⟩ | ⟨h3, h⟩
      · obtain ⟨r2, h4, h⟩ := bind_inv h
        obtain rfl := Option.some.inj h
        exact Reach.done ttok mix fk49 (p49_e_4 a0 a1 r1 r2) (obs_cons h0 (obs_cons (impl_IsValidValue_ok h1) (obs_cons h2 (obs_cons h3 (obs_cons (impl_ErrorValue_ok h4) obs_nil)))))
      · obtain ⟨r2, h4, h⟩ := bind_inv h
        exact Reach.stop ttok mix fk49 (p49_e_5 a0 a1 r1 r2) (obs_cons h0 (obs_cons (impl_IsValidValue_ok h1) (obs_cons h2 (obs_cons h3 (obs_cons (impl_copyValue_ok h4) obs_nil))))) (c49_5   _ _ _ _ _ _ _ h)
theorem impl_SourceTable_ok {N : Nat} {a0 : Int} {a1 : Val} {r : Val} (h : impl_SourceTable N  a0 a1 = some r) : AbsCalls Try.prog 49 (impl_SourceTable_as a0 a1) (impl_SourceTable_ro r) :=
 AbsCalls.of_reach fk49 rfl rfl (Nat.le_of_ble_eq_true rfl) (c49_e a0 a1 r h)
noncomputable def I8 : Info := { body := (Try.f8.body).getD .skip, nt := 74, results := [.tmp 4], keep := [0, 2, 6, 8, 10, 12, 14, 16, 18, 20, 22, 24, 34, 60, 70, 92, 108, 114, 130, 140, 146, 7, 13, 15, 17, 25], live := [], modes := [(13, [(0, .ref, false), (2, .ref, false)]), (14, [(2, .take, false)]), (17, [(0, .ref, false), (2, .ref, false)])], ext := [], lnt := [], casts := [], fcast := [] }
theorem fk8 : FnOk Try.prog 8 Try.f8 I8 := ⟨Try.func8, by kernel_rfl, by kernel_rfl, by kernel_rfl, by kernel_rfl⟩
theorem p8_e_0 (a0 : Int) (a1 : Val) (r1 : Int) : run tt (AbsCalls Try.prog) I8 3000 false [.code I8.body] ⟨(entry 0 (laws_FnExactSourceTable_as a0 a1)), [true], [laws_szValue_ro r1], []⟩ = some (.done (laws_FnExactSourceTable_ro true) [AbsCalls Try.prog 24 (laws_szValue_as a1 1048576) (laws_szValue_ro r1), (decide ((r1 : Int) < 0)) = true]) := by kernel_rfl
theorem p8_e_1 (a0 : Int) (a1 : Val) (r1 : Int) (r2 : Val) (r3 : Val) (r4 : Val) (r5 : Val) (r6 : Bool) : run tt (AbsCalls Try.prog) I8 3000 false [.code I8.body] ⟨(entry 0 (laws_FnExactSourceTable_as a0 a1)), [false, true], [laws_szValue_ro r1, laws_toValue_ro r2, spec_SourceTable_ro r3, laws_toValue_ro r4, impl_SourceTable_ro r5, laws_eqValue_ro r6], []⟩ = some (.done (laws_FnExactSourceTable_ro false) [AbsCalls Try.prog 24 (laws_szValue_as a1 1048576) (laws_szValue_ro r1), (decide ((r1 : Int) < 0)) = false, AbsCalls Try.prog 26 (laws_toValue_as a1) (laws_toValue_ro r2), AbsCalls Try.prog 48 (spec_SourceTable_as a0 r2) (spec_SourceTable_ro r3), AbsCalls Try.prog 26 (laws_toValue_as a1) (laws_toValue_ro r4), AbsCalls Try.prog 49 (impl_SourceTable_as a0 r4) (impl_SourceTable_ro r5), AbsCalls Try.prog 19 (laws_eqValue_as r5 r3) (laws_eqValue_ro r6), (!r6) = true]) := by kernel_rfl
theorem p8_e_2 (a0 : Int) (a1 : Val) (r1 : Int) (r2 : Val) (r3 : Val) (r4 : Val) (r5 : Val) (r6 : Bool) (r7 : Val) (r8 : Bool) : run tt (AbsCalls Try.prog) I8 3000 false [.code I8.body] ⟨(entry 0 (laws_FnExactSourceTable_as a0 a1)), [false, false, true], [laws_szValue_ro r1, laws_toValue_ro r2, spec_SourceTable_ro r3, laws_toValue_ro r4, impl_SourceTable_ro r5, laws_eqValue_ro r6, laws_toValue_ro r7, laws_eqValue_ro r8], []⟩ = some (.done (laws_FnExactSourceTable_ro false) [AbsCalls Try.prog 24 (laws_szValue_as a1 1048576) (laws_szValue_ro r1), (decide ((r1 : Int) < 0)) = false, AbsCalls Try.prog 26 (laws_toValue_as a1) (laws_toValue_ro r2), AbsCalls Try.prog 48 (spec_SourceTable_as a0 r2) (spec_SourceTable_ro r3), AbsCalls Try.prog 26 (laws_toValue_as a1) (laws_toValue_ro r4), AbsCalls Try.prog 49 (impl_SourceTable_as a0 r4) (impl_SourceTable_ro r5), AbsCalls Try.prog 19 (laws_eqValue_as r5 r3) (laws_eqValue_ro r6), (!r6) = false, AbsCalls Try.prog 26 (laws_toValue_as a1) (laws_toValue_ro r7), AbsCalls Try.prog 19 (laws_eqValue_as r4 r7) (laws_eqValue_ro r8), (!r8) = true]) := by kernel_rfl
theorem p8_e_3 (a0 : Int) (a1 : Val) (r1 : Int) (r2 : Val) (r3 : Val) (r4 : Val) (r5 : Val) (r6 : Bool) (r7 : Val) (r8 : Bool) (r9 : Int × (List Val) × (List Str) × (List Rowd)) : run tt (AbsCalls Try.prog) I8 3000 false [.code I8.body] ⟨(entry 0 (laws_FnExactSourceTable_as a0 a1)), [false, false, false, true, true], [laws_szValue_ro r1, laws_toValue_ro r2, spec_SourceTable_ro r3, laws_toValue_ro r4, impl_SourceTable_ro r5, laws_eqValue_ro r6, laws_toValue_ro r7, laws_eqValue_ro r8, laws_markValue_ro r9], []⟩ = some (.done (laws_FnExactSourceTable_ro false) [AbsCalls Try.prog 24 (laws_szValue_as a1 1048576) (laws_szValue_ro r1), (decide ((r1 : Int) < 0)) = false, AbsCalls Try.prog 26 (laws_toValue_as a1) (laws_toValue_ro r2), AbsCalls Try.prog 48 (spec_SourceTable_as a0 r2) (spec_SourceTable_ro r3), AbsCalls Try.prog 26 (laws_toValue_as a1) (laws_toValue_ro r4), AbsCalls Try.prog 49 (impl_SourceTable_as a0 r4) (impl_SourceTable_ro r5), AbsCalls Try.prog 19 (laws_eqValue_as r5 r3) (laws_eqValue_ro r6), (!r6) = false, AbsCalls Try.prog 26 (laws_toValue_as a1) (laws_toValue_ro r7), AbsCalls Try.prog 19 (laws_eqValue_as r4 r7) (laws_eqValue_ro r8), (!r8) = false, AbsCalls Try.prog 22 (laws_markValue_as r4 1) (laws_markValue_ro r9), List.length r9.2.1 = List.length (Val.list r4), List.length r9.2.2.1 = List.length (Val.columns r4), List.length r9.2.2.2 = List.length (Val.rows r4), (decide ((r9.1 : Int) < 0)) = true, true = true]) := by kernel_rfl
theorem p8_e_4 (a0 : Int) (a1 : Val) (r1 : Int) (r2 : Val) (r3 : Val) (r4 : Val) (r5 : Val) (r6 : Bool) (r7 : Val) (r8 : Bool) (r9 : Int × (List Val) × (List Str) × (List Rowd)) (r10 : Bool) : run tt (AbsCalls Try.prog) I8 3000 false [.code I8.body] ⟨(entry 0 (laws_FnExactSourceTable_as a0 a1)), [false, false, false, false, true], [laws_szValue_ro r1, laws_toValue_ro r2, spec_SourceTable_ro r3, laws_toValue_ro r4, impl_SourceTable_ro r5, laws_eqValue_ro r6, laws_toValue_ro r7, laws_eqValue_ro r8, laws_markValue_ro r9, laws_eqValue_ro r10], []⟩ = some (.done (laws_FnExactSourceTable_ro false) [AbsCalls Try.prog 24 (laws_szValue_as a1 1048576) (laws_szValue_ro r1), (decide ((r1 : Int) < 0)) = false, AbsCalls Try.prog 26 (laws_toValue_as a1) (laws_toValue_ro r2), AbsCalls Try.prog 48 (spec_SourceTable_as a0 r2) (spec_SourceTable_ro r3), AbsCalls Try.prog 26 (laws_toValue_as a1) (laws_toValue_ro r4), AbsCalls Try.prog 49 (impl_SourceTable_as a0 r4) (impl_SourceTable_ro r5), AbsCalls Try.prog 19 (laws_eqValue_as r5 r3) (laws_eqValue_ro r6), (!r6) = false, AbsCalls Try.prog 26 (laws_toValue_as a1) (laws_toValue_ro r7), AbsCalls Try.prog 19 (laws_eqValue_as r4 r7) (laws_eqValue_ro r8), (!r8) = false, AbsCalls Try.prog 22 (laws_markValue_as r4 1) (laws_markValue_ro r9), List.length r9.2.1 = List.length (Val.list r4), List.length r9.2.2.1 = List.length (Val.columns r4), List.length r9.2.2.2 = List.length (Val.rows r4), (decide ((r9.1 : Int) < 0)) = false, AbsCalls Try.prog 19 (laws_eqValue_as r5 r3) (laws_eqValue_ro r10), (!r10) = true]) := by kernel_rfl
theorem p8_e_5 (a0 : Int) (a1 : Val) (r1 : Int) (r2 : Val) (r3 : Val) (r4 : Val) (r5 : Val) (r6 : Bool) (r7 : Val) (r8 : Bool) (r9 : Int × (List Val) × (List Str) × (List Rowd)) (r10 : Bool) (r11 : Int × (List Val) × (List Str) × (List Rowd)) (r12 : Int) : run tt (AbsCalls Try.prog) I8 3000 false [.code I8.body] ⟨(entry 0 (laws_FnExactSourceTable_as a0 a1)), [false, false, false, false, false, true], [laws_szValue_ro r1, laws_toValue_ro r2, spec_SourceTable_ro r3, laws_toValue_ro r4, impl_SourceTable_ro r5, laws_eqValue_ro r6, laws_toValue_ro r7, laws_eqValue_ro r8, laws_markValue_ro r9, laws_eqValue_ro r10, laws_markValue_ro r11, laws_heldValue_ro r12], []⟩ = some (.done (laws_FnExactSourceTable_ro false) [AbsCalls Try.prog 24 (laws_szValue_as a1 1048576) (laws_szValue_ro r1), (decide ((r1 : Int) < 0)) = false, AbsCalls Try.prog 26 (laws_toValue_as a1) (laws_toValue_ro r2), AbsCalls Try.prog 48 (spec_SourceTable_as a0 r2) (spec_SourceTable_ro r3), AbsCalls Try.prog 26 (laws_toValue_as a1) (laws_toValue_ro r4), AbsCalls Try.prog 49 (impl_SourceTable_as a0 r4) (impl_SourceTable_ro r5), AbsCalls Try.prog 19 (laws_eqValue_as r5 r3) (laws_eqValue_ro r6), (!r6) = false, AbsCalls Try.prog 26 (laws_toValue_as a1) (laws_toValue_ro r7), AbsCalls Try.prog 19 (laws_eqValue_as r4 r7) (laws_eqValue_ro r8), (!r8) = false, AbsCalls Try.prog 22 (laws_markValue_as r4 1) (laws_markValue_ro r9), List.length r9.2.1 = List.length (Val.list r4), List.length r9.2.2.1 = List.length (Val.columns r4), List.length r9.2.2.2 = List.length (Val.rows r4), (decide ((r9.1 : Int) < 0)) = false, AbsCalls Try.prog 19 (laws_eqValue_as r5 r3) (laws_eqValue_ro r10), (!r10) = false, AbsCalls Try.prog 22 (laws_markValue_as r5 1) (laws_markValue_ro r11), List.length r11.2.1 = List.length (Val.list r5), List.length r11.2.2.1 = List.length (Val.columns r5), List.length r11.2.2.2 = List.length (Val.rows r5), AbsCalls Try.prog 23 (laws_heldValue_as (Val.mk (Val.kind r5) (Val.n r5) (Val.step r5) (Val.text r5) r11.2.1 r11.2.2.1 r11.2.2.2) 1) (laws_heldValue_ro r12), (decide ((r12 : Int) < 0)) = true]) := by kernel_rfl
theorem p8_e_6 (a0 : Int) (a1 : Val) (r1 : Int) (r2 : Val) (r3 : Val) (r4 : Val) (r5 : Val) (r6 : Bool) (r7 : Val) (r8 : Bool) (r9 : Int × (List Val) × (List Str) × (List Rowd)) (r10 : Bool) (r11 : Int × (List Val) × (List Str) × (List Rowd)) (r12 : Int) : run tt (AbsCalls Try.prog) I8 3000 false [.code I8.body] ⟨(entry 0 (laws_FnExactSourceTable_as a0 a1)), [false, false, false, false, false, false, true], [laws_szValue_ro r1, laws_toValue_ro r2, spec_SourceTable_ro r3, laws_toValue_ro r4, impl_SourceTable_ro r5, laws_eqValue_ro r6, laws_toValue_ro r7, laws_eqValue_ro r8, laws_markValue_ro r9, laws_eqValue_ro r10, laws_markValue_ro r11, laws_heldValue_ro r12], []⟩ = some (.done (laws_FnExactSourceTable_ro false) [AbsCalls Try.prog 24 (laws_szValue_as a1 1048576) (laws_szValue_ro r1), (decide ((r1 : Int) < 0)) = false, AbsCalls Try.prog 26 (laws_toValue_as a1) (laws_toValue_ro r2), AbsCalls Try.prog 48 (spec_SourceTable_as a0 r2) (spec_SourceTable_ro r3), AbsCalls Try.prog 26 (laws_toValue_as a1) (laws_toValue_ro r4), AbsCalls Try.prog 49 (impl_SourceTable_as a0 r4) (impl_SourceTable_ro r5), AbsCalls Try.prog 19 (laws_eqValue_as r5 r3) (laws_eqValue_ro r6), (!r6) = false, AbsCalls Try.prog 26 (laws_toValue_as a1) (laws_toValue_ro r7), AbsCalls Try.prog 19 (laws_eqValue_as r4 r7) (laws_eqValue_ro r8), (!r8) = false, AbsCalls Try.prog 22 (laws_markValue_as r4 1) (laws_markValue_ro r9), List.length r9.2.1 = List.length (Val.list r4), List.length r9.2.2.1 = List.length (Val.columns r4), List.length r9.2.2.2 = List.length (Val.rows r4), (decide ((r9.1 : Int) < 0)) = false, AbsCalls Try.prog 19 (laws_eqValue_as r5 r3) (laws_eqValue_ro r10), (!r10) = false, AbsCalls Try.prog 22 (laws_markValue_as r5 1) (laws_markValue_ro r11), List.length r11.2.1 = List.length (Val.list r5), List.length r11.2.2.1 = List.length (Val.columns r5), List.length r11.2.2.2 = List.length (Val.rows r5), AbsCalls Try.prog 23 (laws_heldValue_as (Val.mk (Val.kind r5) (Val.n r5) (Val.step r5) (Val.text r5) r11.2.1 r11.2.2.1 r11.2.2.2) 1) (laws_heldValue_ro r12), (decide ((r12 : Int) < 0)) = false, ((r12 : Int) != r11.1) = true]) := by kernel_rfl
theorem p8_e_7 (a0 : Int) (a1 : Val) (r1 : Int) (r2 : Val) (r3 : Val) (r4 : Val) (r5 : Val) (r6 : Bool) (r7 : Val) (r8 : Bool) (r9 : Int × (List Val) × (List Str) × (List Rowd)) (r10 : Bool) (r11 : Int × (List Val) × (List Str) × (List Rowd)) (r12 : Int) (r13 : Val) (r14 : Val) (r15 : Bool) : run tt (AbsCalls Try.prog) I8 3000 false [.code I8.body] ⟨(entry 0 (laws_FnExactSourceTable_as a0 a1)), [false, false, false, false, false, false, false, true], [laws_szValue_ro r1, laws_toValue_ro r2, spec_SourceTable_ro r3, laws_toValue_ro r4, impl_SourceTable_ro r5, laws_eqValue_ro r6, laws_toValue_ro r7, laws_eqValue_ro r8, laws_markValue_ro r9, laws_eqValue_ro r10, laws_markValue_ro r11, laws_heldValue_ro r12, laws_toValue_ro r13, impl_SourceTable_ro r14, laws_eqValue_ro r15], []⟩ = some (.done (laws_FnExactSourceTable_ro false) [AbsCalls Try.prog 24 (laws_szValue_as a1 1048576) (laws_szValue_ro r1), (decide ((r1 : Int) < 0)) = false, AbsCalls Try.prog 26 (laws_toValue_as a1) (laws_toValue_ro r2), AbsCalls Try.prog 48 (spec_SourceTable_as a0 r2) (spec_SourceTable_ro r3), AbsCalls Try.prog 26 (laws_toValue_as a1) (laws_toValue_ro r4), AbsCalls Try.prog 49 (impl_SourceTable_as a0 r4) (impl_SourceTable_ro r5), AbsCalls Try.prog 19 (laws_eqValue_as r5 r3) (laws_eqValue_ro r6), (!r6) = false, AbsCalls Try.prog 26 (laws_toValue_as a1) (laws_toValue_ro r7), AbsCalls Try.prog 19 (laws_eqValue_as r4 r7) (laws_eqValue_ro r8), (!r8) = false, AbsCalls Try.prog 22 (laws_markValue_as r4 1) (laws_markValue_ro r9), List.length r9.2.1 = List.length (Val.list r4), List.length r9.2.2.1 = List.length (Val.columns r4), List.length r9.2.2.2 = List.length (Val.rows r4), (decide ((r9.1 : Int) < 0)) = false, AbsCalls Try.prog 19 (laws_eqValue_as r5 r3) (laws_eqValue_ro r10), (!r10) = false, AbsCalls Try.prog 22 (laws_markValue_as r5 1) (laws_markValue_ro r11), List.length r11.2.1 = List.length (Val.list r5), List.length r11.2.2.1 = List.length (Val.columns r5), List.length r11.2.2.2 = List.length (Val.rows r5), AbsCalls Try.prog 23 (laws_heldValue_as (Val.mk (Val.kind r5) (Val.n r5) (Val.step r5) (Val.text r5) r11.2.1 r11.2.2.1 r11.2.2.2) 1) (laws_heldValue_ro r12), (decide ((r12 : Int) < 0)) = false, ((r12 : Int) != r11.1) = false, AbsCalls Try.prog 26 (laws_toValue_as a1) (laws_toValue_ro r13), AbsCalls Try.prog 49 (impl_SourceTable_as a0 r13) (impl_SourceTable_ro r14), AbsCalls Try.prog 19 (laws_eqValue_as r14 r3) (laws_eqValue_ro r15), (!r15) = true]) := by kernel_rfl
theorem p8_e_8 (a0 : Int) (a1 : Val) (r1 : Int) (r2 : Val) (r3 : Val) (r4 : Val) (r5 : Val) (r6 : Bool) (r7 : Val) (r8 : Bool) (r9 : Int × (List Val) × (List Str) × (List Rowd)) (r10 : Bool) (r11 : Int × (List Val) × (List Str) × (List Rowd)) (r12 : Int) (r13 : Val) (r14 : Val) (r15 : Bool) (r16 : Int) : run tt (AbsCalls Try.prog) I8 3000 false [.code I8.body] ⟨(entry 0 (laws_FnExactSourceTable_as a0 a1)), [false, false, false, false, false, false, false, false, true], [laws_szValue_ro r1, laws_toValue_ro r2, spec_SourceTable_ro r3, laws_toValue_ro r4, impl_SourceTable_ro r5, laws_eqValue_ro r6, laws_toValue_ro r7, laws_eqValue_ro r8, laws_markValue_ro r9, laws_eqValue_ro r10, laws_markValue_ro r11, laws_heldValue_ro r12, laws_toValue_ro r13, impl_SourceTable_ro r14, laws_eqValue_ro r15, laws_heldValue_ro r16], []⟩ = some (.done (laws_FnExactSourceTable_ro false) [AbsCalls Try.prog 24 (laws_szValue_as a1 1048576) (laws_szValue_ro r1), (decide ((r1 : Int) < 0)) = false, AbsCalls Try.prog 26 (laws_toValue_as a1) (laws_toValue_ro r2), AbsCalls Try.prog 48 (spec_SourceTable_as a0 r2) (spec_SourceTable_ro r3), AbsCalls Try.prog 26 (laws_toValue_as a1) (laws_toValue_ro r4), AbsCalls Try.prog 49 (impl_SourceTable_as a0 r4) (impl_SourceTable_ro r5), AbsCalls Try.prog 19 (laws_eqValue_as r5 r3) (laws_eqValue_ro r6), (!r6) = false, AbsCalls Try.prog 26 (laws_toValue_as a1) (laws_toValue_ro r7), AbsCalls Try.prog 19 (laws_eqValue_as r4 r7) (laws_eqValue_ro r8), (!r8) = false, AbsCalls Try.prog 22 (laws_markValue_as r4 1) (laws_markValue_ro r9), List.length r9.2.1 = List.length (Val.list r4), List.length r9.2.2.1 = List.length (Val.columns r4), List.length r9.2.2.2 = List.length (Val.rows r4), (decide ((r9.1 : Int) < 0)) = false, AbsCalls Try.prog 19 (laws_eqValue_as r5 r3) (laws_eqValue_ro r10), (!r10) = false, AbsCalls Try.prog 22 (laws_markValue_as r5 1) (laws_markValue_ro r11), List.length r11.2.1 = List.length (Val.list r5), List.length r11.2.2.1 = List.length (Val.columns r5), List.length r11.2.2.2 = List.length (Val.rows r5), AbsCalls Try.prog 23 (laws_heldValue_as (Val.mk (Val.kind r5) (Val.n r5) (Val.step r5) (Val.text r5) r11.2.1 r11.2.2.1 r11.2.2.2) 1) (laws_heldValue_ro r12), (decide ((r12 : Int) < 0)) = false, ((r12 : Int) != r11.1) = false, AbsCalls Try.prog 26 (laws_toValue_as a1) (laws_toValue_ro r13), AbsCalls Try.prog 49 (impl_SourceTable_as a0 r13) (impl_SourceTable_ro r14), AbsCalls Try.prog 19 (laws_eqValue_as r14 r3) (laws_eqValue_ro r15), (!r15) = false, AbsCalls Try.prog 23 (laws_heldValue_as (Val.mk (Val.kind r5) (Val.n r5) (Val.step r5) (Val.text r5) r11.2.1 r11.2.2.1 r11.2.2.2) 1) (laws_heldValue_ro r16), (decide ((r16 : Int) < 0)) = true]) := by kernel_rfl
theorem p8_e_9 (a0 : Int) (a1 : Val) (r1 : Int) (r2 : Val) (r3 : Val) (r4 : Val) (r5 : Val) (r6 : Bool) (r7 : Val) (r8 : Bool) (r9 : Int × (List Val) × (List Str) × (List Rowd)) (r10 : Bool) (r11 : Int × (List Val) × (List Str) × (List Rowd)) (r12 : Int) (r13 : Val) (r14 : Val) (r15 : Bool) (r16 : Int) : run tt (AbsCalls Try.prog) I8 3000 false [.code I8.body] ⟨(entry 0 (laws_FnExactSourceTable_as a0 a1)), [false, false, false, false, false, false, false, false, false, true], [laws_szValue_ro r1, laws_toValue_ro r2, spec_SourceTable_ro r3, laws_toValue_ro r4, impl_SourceTable_ro r5, laws_eqValue_ro r6, laws_toValue_ro r7, laws_eqValue_ro r8, laws_markValue_ro r9, laws_eqValue_ro r10, laws_markValue_ro r11, laws_heldValue_ro r12, laws_toValue_ro r13, impl_SourceTable_ro r14, laws_eqValue_ro r15, laws_heldValue_ro r16], []⟩ = some (.done (laws_FnExactSourceTable_ro false) [AbsCalls Try.prog 24 (laws_szValue_as a1 1048576) (laws_szValue_ro r1), (decide ((r1 : Int) < 0)) = false, AbsCalls Try.prog 26 (laws_toValue_as a1) (laws_toValue_ro r2), AbsCalls Try.prog 48 (spec_SourceTable_as a0 r2) (spec_SourceTable_ro r3), AbsCalls Try.prog 26 (laws_toValue_as a1) (laws_toValue_ro r4), AbsCalls Try.prog 49 (impl_SourceTable_as a0 r4) (impl_SourceTable_ro r5), AbsCalls Try.prog 19 (laws_eqValue_as r5 r3) (laws_eqValue_ro r6), (!r6) = false, AbsCalls Try.prog 26 (laws_toValue_as a1) (laws_toValue_ro r7), AbsCalls Try.prog 19 (laws_eqValue_as r4 r7) (laws_eqValue_ro r8), (!r8) = false, AbsCalls Try.prog 22 (laws_markValue_as r4 1) (laws_markValue_ro r9), List.length r9.2.1 = List.length (Val.list r4), List.length r9.2.2.1 = List.length (Val.columns r4), List.length r9.2.2.2 = List.length (Val.rows r4), (decide ((r9.1 : Int) < 0)) = false, AbsCalls Try.prog 19 (laws_eqValue_as r5 r3) (laws_eqValue_ro r10), (!r10) = false, AbsCalls Try.prog 22 (laws_markValue_as r5 1) (laws_markValue_ro r11), List.length r11.2.1 = List.length (Val.list r5), List.length r11.2.2.1 = List.length (Val.columns r5), List.length r11.2.2.2 = List.length (Val.rows r5), AbsCalls Try.prog 23 (laws_heldValue_as (Val.mk (Val.kind r5) (Val.n r5) (Val.step r5) (Val.text r5) r11.2.1 r11.2.2.1 r11.2.2.2) 1) (laws_heldValue_ro r12), (decide ((r12 : Int) < 0)) = false, ((r12 : Int) != r11.1) = false, AbsCalls Try.prog 26 (laws_toValue_as a1) (laws_toValue_ro r13), AbsCalls Try.prog 49 (impl_SourceTable_as a0 r13) (impl_SourceTable_ro r14), AbsCalls Try.prog 19 (laws_eqValue_as r14 r3) (laws_eqValue_ro r15), (!r15) = false, AbsCalls Try.prog 23 (laws_heldValue_as (Val.mk (Val.kind r5) (Val.n r5) (Val.step r5) (Val.text r5) r11.2.1 r11.2.2.1 r11.2.2.2) 1) (laws_heldValue_ro r16), (decide ((r16 : Int) < 0)) = false, ((r16 : Int) != r11.1) = true]) := by kernel_rfl
theorem p8_e_10 (a0 : Int) (a1 : Val) (r1 : Int) (r2 : Val) (r3 : Val) (r4 : Val) (r5 : Val) (r6 : Bool) (r7 : Val) (r8 : Bool) (r9 : Int × (List Val) × (List Str) × (List Rowd)) (r10 : Bool) (r11 : Int × (List Val) × (List Str) × (List Rowd)) (r12 : Int) (r13 : Val) (r14 : Val) (r15 : Bool) (r16 : Int) : run tt (AbsCalls Try.prog) I8 3000 false [.code I8.body] ⟨(entry 0 (laws_FnExactSourceTable_as a0 a1)), [false, false, false, false, false, false, false, false, false, false], [laws_szValue_ro r1, laws_toValue_ro r2, spec_SourceTable_ro r3, laws_toValue_ro r4, impl_SourceTable_ro r5, laws_eqValue_ro r6, laws_toValue_ro r7, laws_eqValue_ro r8, laws_markValue_ro r9, laws_eqValue_ro r10, laws_markValue_ro r11, laws_heldValue_ro r12, laws_toValue_ro r13, impl_SourceTable_ro r14, laws_eqValue_ro r15, laws_heldValue_ro r16], []⟩ = some (.done (laws_FnExactSourceTable_ro true) [AbsCalls Try.prog 24 (laws_szValue_as a1 1048576) (laws_szValue_ro r1), (decide ((r1 : Int) < 0)) = false, AbsCalls Try.prog 26 (laws_toValue_as a1) (laws_toValue_ro r2), AbsCalls Try.prog 48 (spec_SourceTable_as a0 r2) (spec_SourceTable_ro r3), AbsCalls Try.prog 26 (laws_toValue_as a1) (laws_toValue_ro r4), AbsCalls Try.prog 49 (impl_SourceTable_as a0 r4) (impl_SourceTable_ro r5), AbsCalls Try.prog 19 (laws_eqValue_as r5 r3) (laws_eqValue_ro r6), (!r6) = false, AbsCalls Try.prog 26 (laws_toValue_as a1) (laws_toValue_ro r7), AbsCalls Try.prog 19 (laws_eqValue_as r4 r7) (laws_eqValue_ro r8), (!r8) = false, AbsCalls Try.prog 22 (laws_markValue_as r4 1) (laws_markValue_ro r9), List.length r9.2.1 = List.length (Val.list r4), List.length r9.2.2.1 = List.length (Val.columns r4), List.length r9.2.2.2 = List.length (Val.rows r4), (decide ((r9.1 : Int) < 0)) = false, AbsCalls Try.prog 19 (laws_eqValue_as r5 r3) (laws_eqValue_ro r10), (!r10) = false, AbsCalls Try.prog 22 (laws_markValue_as r5 1) (laws_markValue_ro r11), List.length r11.2.1 = List.length (Val.list r5), List.length r11.2.2.1 = List.length (Val.columns r5), List.length r11.2.2.2 = List.length (Val.rows r5), AbsCalls Try.prog 23 (laws_heldValue_as (Val.mk (Val.kind r5) (Val.n r5) (Val.step r5) (Val.text r5) r11.2.1 r11.2.2.1 r11.2.2.2) 1) (laws_heldValue_ro r12), (decide ((r12 : Int) < 0)) = false, ((r12 : Int) != r11.1) = false, AbsCalls Try.prog 26 (laws_toValue_as a1) (laws_toValue_ro r13), AbsCalls Try.prog 49 (impl_SourceTable_as a0 r13) (impl_SourceTable_ro r14), AbsCalls Try.prog 19 (laws_eqValue_as r14 r3) (laws_eqValue_ro r15), (!r15) = false, AbsCalls Try.prog 23 (laws_heldValue_as (Val.mk (Val.kind r5) (Val.n r5) (Val.step r5) (Val.text r5) r11.2.1 r11.2.2.1 r11.2.2.2) 1) (laws_heldValue_ro r16), (decide ((r16 : Int) < 0)) = false, ((r16 : Int) != r11.1) = false]) := by kernel_rfl
theorem c8_e {N : Nat} : ∀ a0 a1 r, laws_FnExactSourceTable N a0 a1 = some r → Reach Try.prog Try.f8 I8 [.code I8.body] (entry 0 (laws_FnExactSourceTable_as a0 a1)) (laws_FnExactSourceTable_ro r) := by
  intro a0 a1 r h
  unfold laws_FnExactSourceTable at h
  obtain ⟨r1, h0, h⟩ := bind_inv h
  rcases cond_inv h with ⟨h1, h⟩ | ⟨h1, h⟩
  · obtain rfl := Option.some.inj h
    exact Reach.done ttok mix fk8 (p8_e_0 a0 a1 r1) (obs_cons (laws_szValue_ok h0) (obs_cons h1 obs_nil))
  · obtain ⟨r2, h2, h⟩ := bind_inv h
    obtain ⟨r3, h3, h⟩ := bind_inv h
    obtain ⟨r4, h4, h⟩ := bind_inv h
    obtain ⟨r5, h5, h⟩ := bind_inv h
    obtain ⟨r6, h6, h⟩ := bind_inv h
    rcases cond_inv h with ⟨h7, h⟩ | ⟨h7, h⟩
    · obtain rfl := Option.some.inj h
      exact Reach.done ttok mix fk8 (p8_e_1 a0 a1 r1 r2 r3 r4 r5 r6) (obs_cons (laws_szValue_ok h0) (obs_cons h1 (obs_cons (laws_toValue_ok h2) (obs_cons (spec_SourceTable_ok h3) (obs_cons (laws_toValue_ok h4) (obs_cons (impl_SourceTable_ok h5) (obs_cons (laws_eqValue_ok h6) (obs_cons h7 obs_nil))))))))
    · obtain ⟨r7, h8, h⟩ := bind_inv h
      obtain ⟨r8, h9, h⟩ := bind_inv h
      rcases cond_inv h with ⟨h10, h⟩ | ⟨h10, h⟩
      · obtain rfl := Option.some.inj h
        exact Reach.done ttok mix fk8 (p8_e_2 a0 a1 r1 r2 r3 r4 r5 r6 r7 r8) (obs_cons (laws_szValue_ok h0) (obs_cons h1 (obs_cons (laws_toValue_ok h2) (obs_cons (spec_SourceTable_ok h3) (obs_cons (laws_toValue_ok h4) (obs_cons (impl_SourceTable_ok h5) (obs_cons (laws_eqValue_ok h6) (obs_cons h7 (obs_cons (laws_toValue_ok h8) (obs_cons (laws_eqValue_ok h9) (obs_cons h10 obs_nil)))))))))))
      · obtain ⟨r9, h11, h⟩ := bind_inv h
        obtain ⟨h12, h⟩ := ite_inv h
        obtain ⟨h13, h⟩ := ite_inv h
        obtain ⟨h14, h⟩ := ite_inv h
        rcases cond_inv h with ⟨h15, h⟩ | ⟨h15, h⟩
        · obtain rfl := Option.some.inj h
          exact Reach.done ttok mix fk8 (p8_e_3 a0 a1 r1 r2 r3 r4 r5 r6 r7 r8 r9) (obs_cons (laws_szValue_ok h0) (obs_cons h1 (obs_cons (laws_toValue_ok h2) (obs_cons (spec_SourceTable_ok h3) (obs_cons (laws_toValue_ok h4) (obs_cons (impl_SourceTable_ok h5) (obs_cons (laws_eqValue_ok h6) (obs_cons h7 (obs_cons (laws_toValue_ok h8) (obs_cons (laws_eqValue_ok h9) (obs_cons h10 (obs_cons (laws_markValue_ok h11) (obs_cons h12 (obs_cons h13 (obs_cons h14 (obs_cons h15 (obs_cons rfl obs_nil)))))))))))))))))
        · obtain ⟨r10, h16, h⟩ := bind_inv h
          rcases cond_inv h with ⟨h17, h⟩ | ⟨h17, h⟩
          · obtain rfl := Option.some.inj h
            exact Reach.done ttok mix fk8 (p8_e_4 a0 a1 r1 r2 r3 r4 r5 r6 r7 r8 r9 r10) (obs_cons (laws_szValue_ok h0) (obs_cons h1 (obs_cons (laws_toValue_ok h2) (obs_cons (spec_SourceTable_ok h3) (obs_cons (laws_toValue_ok h4) (obs_cons (impl_SourceTable_ok h5) (obs_cons (laws_eqValue_ok h6) (obs_cons h7 (obs_cons (laws_toValue_ok h8) (obs_cons (laws_eqValue_ok h9) (obs_cons h10 (obs_cons (laws_markValue_ok h11) (obs_cons h12 (obs_cons h13 (obs_cons h14 (obs_cons h15 (obs_cons (laws_eqValue_ok h16) (obs_cons h17 obs_nil))))))))))))))))))
          · obtain ⟨r11, h18, h⟩ := bind_inv h
            obtain ⟨h19, h⟩ := ite_inv h
            obtain ⟨h20, h⟩ := ite_inv h
            obtain ⟨h21, h⟩ := ite_inv h
            obtain ⟨r12, h22, h⟩ := bind_inv h
            rcases cond_inv h with ⟨h23, h⟩ | ⟨h23, h⟩
            · obtain rfl := Option.some.inj h
              exact Reach.done ttok mix fk8 (p8_e_5 a0 a1 r1 r2 r3 r4 r5 r6 r7 r8 r9 r10 r11 r12) (obs_cons (laws_szValue_ok h0) (obs_cons h1 (obs_cons (laws_toValue_ok h2) (obs_cons (spec_SourceTable_ok h3) (obs_cons (laws_toValue_ok h4) (obs_cons (impl_SourceTable_ok h5) (obs_cons (laws_eqValue_ok h6) (obs_cons h7 (obs_cons (laws_toValue_ok h8) (obs_cons (laws_eqValue_ok h9) (obs_cons h10 (obs_cons (laws_markValue_ok h11) (obs_cons h12 (obs_cons h13 (obs_cons h14 (obs_cons h15 (obs_cons (laws_eqValue_ok h16) (obs_cons h17 (obs_cons (laws_markValue_ok h18) (obs_cons h19 (obs_cons h20 (obs_cons h21 (obs_cons (laws_heldValue_ok h22) (obs_cons h23 obs_nil))))))))))))))))))))))))
            · rcases cond_inv h with ⟨h24, h⟩ | ⟨h24, h⟩
              · obtain rfl := Option.some.inj h
                exact Reach.done ttok mix fk8 (p8_e_6 a0 a1 r1 r2 r3 r4 r5 r6 r7 r8 r9 r10 r11 r12) (obs_cons (laws_szValue_ok h0) (obs_cons h1 (obs_cons (laws_toValue_ok h2) (obs_cons (spec_SourceTable_ok h3) (obs_cons (laws_toValue_ok h4) (obs_cons (impl_SourceTable_ok h5) (obs_cons (laws_eqValue_ok h6) (obs_cons h7 (obs_cons (laws_toValue_ok h8) (obs_cons (laws_eqValue_ok h9) (obs_cons h10 (obs_cons (laws_markValue_ok h11) (obs_cons h12 (obs_cons h13 (obs_cons h14 (obs_cons h15 (obs_cons (laws_eqValue_ok h16) (obs_cons h17 (obs_cons (laws_markValue_ok h18) (obs_cons h19 (obs_cons h20 (obs_cons h21 (obs_cons (laws_heldValue_ok h22) (obs_cons h23 (obs_cons h24 obs_nil)))))))))))))))))))))))))
              · obtain ⟨r13, h25, h⟩ := bind_inv h
                obtain ⟨r14, h26, h⟩ := bind_inv h
                obtain ⟨r15, h27, h⟩ := bind_inv h
                rcases cond_inv h with ⟨h28, h⟩ | ⟨h28, h⟩
                · obtain rfl := Option.some.inj h
                  exact Reach.done ttok mix fk8 (p8_e_7 a0 a1 r1 r2 r3 r4 r5 r6 r7 r8 r9 r10 r11 r12 r13 r14 r15) (obs_cons (laws_szValue_ok h0) (obs_cons h1 (obs_cons (laws_toValue_ok h2) (obs_cons (spec_SourceTable_ok h3) (obs_cons (laws_toValue_ok h4) (obs_cons (impl_SourceTable_ok h5) (obs_cons (laws_eqValue_ok h6) (obs_cons h7 (obs_cons (laws_toValue_ok h8) (obs_cons (laws_eqValue_ok h9) (obs_cons h10 (obs_cons (laws_markValue_ok h11) (obs_cons h12 (obs_cons h13 (obs_cons h14 (obs_cons h15 (obs_cons (laws_eqValue_ok h16) (obs_cons h17 (obs_cons (laws_markValue_ok h18) (obs_cons h19 (obs_cons h20 (obs_cons h21 (obs_cons (laws_heldValue_ok h22) (obs_cons h23 (obs_cons h24 (obs_cons (laws_toValue_ok h25) (obs_cons (impl_SourceTable_ok h26) (obs_cons (laws_eqValue_ok h27) (obs_cons h28 obs_nil)))))))))))))))))))))))))))))
                · obtain ⟨r16, h29, h⟩ := bind_inv h
                  rcases cond_inv h with ⟨h30, h⟩ | ⟨h30, h⟩
                  · obtain rfl := Option.some.inj h
                    exact Reach.done ttok mix fk8 (p8_e_8 a0 a1 r1 r2 r3 r4 r5 r6 r7 r8 r9 r10 r11 r12 r13 r14 r15 r16) (obs_cons (laws_szValue_ok h0) (obs_cons h1 (obs_cons (laws_toValue_ok h2) (obs_cons (spec_SourceTable_ok h3) (obs_cons (laws_toValue_ok h4) (obs_cons (impl_SourceTable_ok h5) (obs_cons (laws_eqValue_ok h6) (obs_cons h7 (obs_cons (laws_toValue_ok h8) (obs_cons (laws_eqValue_ok h9) (obs_cons h10 (obs_cons (laws_markValue_ok h11) (obs_cons h12 (obs_cons h13 (obs_cons h14 (obs_cons h15 (obs_cons (laws_eqValue_ok h16) (obs_cons h17 (obs_cons (laws_markValue_ok h18) (obs_cons h19 (obs_cons h20 (obs_cons h21 (obs_cons (laws_heldValue_ok h22) (obs_cons h23 (obs_cons h24 (obs_cons (laws_toValue_ok h25) (obs_cons (impl_SourceTable_ok h26) (obs_cons (laws_eqValue_ok h27) (obs_cons h28 (obs_cons (laws_heldValue_ok h29) (obs_cons h30 obs_nil)))))))))))))))))))))))))))))))
                  · rcases cond_inv h with ⟨h31, h⟩ | ⟨h31, h⟩
                    · obtain rfl := Option.some.inj h
                      exact Reach.done ttok mix fk8 (p8_e_9 a0 a1 r1 r2 r3 r4 r5 r6 r7 r8 r9 r10 r11 r12 r13 r14 r15 r16) (obs_cons (laws_szValue_ok h0) (obs_cons h1 (obs_cons (laws_toValue_ok h2) (obs_cons (spec_SourceTable_ok h3) (obs_cons (laws_toValue_ok h4) (obs_cons (impl_SourceTable_ok h5) (obs_cons (laws_eqValue_ok h6) (obs_cons h7 (obs_cons (laws_toValue_ok h8) (obs_cons (laws_eqValue_ok h9) (obs_cons h10 (obs_cons (laws_markValue_ok h11) (obs_cons h12 (obs_cons h13 (obs_cons h14 (obs_cons h15 (obs_cons (laws_eqValue_ok h16) (obs_cons h17 (obs_cons (laws_markValue_ok h18) (obs_cons h19 (obs_cons h20 (obs_cons h21 (obs_cons (laws_heldValue_ok h22) (obs_cons h23 (obs_cons h24 (obs_cons (laws_toValue_ok h25) (obs_cons (impl_SourceTable_ok h26) (obs_cons (laws_eqValue_ok h27) (obs_cons h28 (obs_cons (laws_heldValue_ok h29) (obs_cons h30 (obs_cons h31 obs_nil))))))))))))))))))))))))))))))))
                    · obtain rfl := Option.some.inj h
                      exact Reach.done ttok mix fk8 (p8_e_10 a0 a1 r1 r2 r3 r4 r5 r6 r7 r8 r9 r10 r11 r12 r13 r14 r15 r16) (obs_cons (laws_szValue_ok h0) (obs_cons h1 (obs_cons (laws_toValue_ok h2) (obs_cons (spec_SourceTable_ok h3) (obs_cons (laws_toValue_ok h4) (obs_cons (impl_SourceTable_ok h5) (obs_cons (laws_eqValue_ok h6) (obs_cons h7 (obs_cons (laws_toValue_ok h8) (obs_cons (laws_eqValue_ok h9) (obs_cons h10 (obs_cons (laws_markValue_ok h11) (obs_cons h12 (obs_cons h13 (obs_cons h14 (obs_cons h15 (obs_cons (laws_eqValue_ok h16) (obs_cons h17 (obs_cons (laws_markValue_ok h18) (obs_cons h19 (obs_cons h20 (obs_cons h21 (obs_cons (laws_heldValue_ok h22) (obs_cons h23 (obs_cons h24 (obs_cons (laws_toValue_ok h25) (obs_cons (impl_SourceTable_ok h26) (obs_cons (laws_eqValue_ok h27) (obs_cons h28 (obs_cons (laws_heldValue_ok h29) (obs_cons h30 (obs_cons h31 obs_nil))))))))))))))))))))))))))))))))
theorem laws_FnExactSourceTable_ok {N : Nat} {a0 : Int} {a1 : Val} {r : Bool} (h : laws_FnExactSourceTable N  a0 a1 = some r) : AbsCalls Try.prog 8 (laws_FnExactSourceTable_as a0 a1) (laws_FnExactSourceTable_ro r) :=
 AbsCalls.of_reach fk8 rfl rfl (Nat.le_of_ble_eq_true rfl) (c8_e a0 a1 r h)
end Go.Ab.T
end
section
namespace Go.Ab
set_option linter.unusedVariables false
set_option linter.unusedSimpArgs false
theorem spec_l3Row_eq {N K : Nat} {r : Rowd} (h : r.Fit K) (hK : K ≤ 137438953472) : spec_l3Row N r = some r := by
  have h1 : r.cells.length ≤ K := h.1.1
  have h2 : r.frm.length ≤ K := h.2.1
  unfold spec_l3Row
  rw [if_pos (by unfold Lim; omega), if_pos (by unfold Lim; omega)]; rfl
theorem impl_copyRow_eq {N K : Nat} {r : Rowd} (h : r.Fit K) (hK : K ≤ 137438953472) : impl_copyRow N r = some r := spec_l3Row_eq (N := N) h hK
theorem spec_copy_b7_eq {N K : Nat} {rc : Val → Option Val} {v z : Val} {k n s : Int} {t : Str} {l : List Val} {c : List Str} (h : LFit K (Rowd.Fit K) v.rows) (hK : K ≤ 137438953472) (hN : K < N) :
    spec_l3Copy_b7 N rc N 0 v z (Val.mk k n s t l c []) = some (Val.mk k n s t l c v.rows) := by
  have hl : v.rows.length ≤ K := h.1
  exact forList (L := fun m i q => spec_l3Copy_b7 N rc m i v z (Val.mk k n s t l c q)) v.rows (fun r q => Val.mk k n s t l c (q ++ r)) (fun i q => q.length = i) (fun m q hq => by simp [spec_l3Copy_b7])
    (fun i x r q hd hi hx hq => by
      have hq : q.length = i := hq
      have hi' : (i : Int) < (v.rows.length : Int) := by omega
      refine .inl ⟨q ++ [x], by simp [hq], by simp, fun m => ?_⟩
      simp only [spec_l3Copy_b7, decide_eq_true hi', cond_true, Int.toNat_natCast, getD_of hx, spec_l3Row_eq (h.2 x (List.mem_of_getElem? hx)) hK, Option.bind_some, wrap_succ hi (by omega : v.rows.length ≤ _), vk, vn, vs, vt, vl, vc, vr]
      rw [if_pos (by omega), if_pos (by simp only [List.length_cons, List.length_nil]; unfold Lim; omega)]) N 0 [] rfl (by omega) (by omega)
theorem spec_copy_step {N d K : Nat} {v : Val} (h : v.Fit K) (hK : K ≤ 137438953472) (hN : K < N) (hx : ∀ x ∈ v.list, spec_l3Copy_fix N d x = some x) : spec_l3Copy_body N (spec_l3Copy_fix N d) v = some v := by
  obtain ⟨h1, h2, h3, h4, h5, h6, h7⟩ := Val.fit_iff.1 h
  have hl : v.list.length ≤ K := h5.1
  have hc : v.columns.length ≤ K := h6.1
  unfold spec_l3Copy_body
  rw [if_pos (by unfold Lim; omega)]
  have key := forList (L := fun m i q => spec_l3Copy_b3 N (spec_l3Copy_fix N d) m i v (Val.mk 0 0 0 [] [] [] []) (Val.mk v.kind v.n v.step v.text q ([] ++ v.columns) [])) v.list (fun l q => Val.mk v.kind v.n v.step v.text (q ++ l) v.columns v.rows) (fun i q => q.length = i)
    (fun m q hq => by
      simp only [spec_l3Copy_b3, Int.lt_irrefl, decide_false, cond_false, List.append_nil, List.nil_append]
      exact spec_copy_b7_eq h7 hK hN)
    (fun i x l q hd hi hxi hq => by
      have hq : q.length = i := hq
      have hi' : (i : Int) < (v.list.length : Int) := by omega
      refine .inl ⟨q ++ [x], by simp [hq], by simp, fun m => ?_⟩
      simp only [spec_l3Copy_b3, decide_eq_true hi', cond_true, Int.toNat_natCast, getD_of hxi, hx x (List.mem_of_getElem? hxi), Option.bind_some, Val.re_eq, wrap_succ hi (by omega : v.list.length ≤ _), vk, vn, vs, vt, vl, vc, vr]
      rw [if_pos (by omega), if_pos (by simp only [List.length_cons, List.length_nil]; unfold Lim; omega)]) N 0 [] rfl (by omega) (by omega)
  rw [List.drop_zero, List.nil_append, List.nil_append, Val.eta] at key
  exact key
theorem spec_copy_big {K : Nat} (hK : K ≤ 137438953472) : ∀ v : Val, v.Fit K → Big2 fun N d => spec_l3Copy_fix N d v = some v := by
  refine Val.ind fun k n s t a c r ih h => ?_
  have h5 := (Val.fit_iff.1 h).2.2.2.2.1
  refine Big2.succ ?_
  exact ((Big2.list fun x hx => ih x hx (h5.2 x hx)).and (big_lt K).two).imp fun N d ⟨hx, hN⟩ => spec_copy_step h hK hN hx
theorem spec_copy_eq' {K : Nat} {v : Val} (h : v.Fit K) (hK : K ≤ 137438953472) : Big fun N => spec_l3Copy N v = some v := (spec_copy_big hK v h).diag
theorem impl_copy_b6_eq {N K : Nat} {rc : Val → Option Val} {rd : List Val → Option (List Val)} {z : Val} {k n s : Int} {t : Str} {l : List Val} {c : List Str} {rs : List Rowd} (h : LFit K (Rowd.Fit K) rs) (hK : K ≤ 137438953472) (hN : K < N) :
    impl_copyValue_b6 N rc rd N rs rs.length 0 z (Val.mk k n s t l c []) = some (Val.mk k n s t l c rs) := by
  have hl : rs.length ≤ K := h.1
  exact forList (L := fun m i q => impl_copyValue_b6 N rc rd m rs rs.length i z (Val.mk k n s t l c q)) rs (fun r q => Val.mk k n s t l c (q ++ r)) (fun i q => q.length = i) (fun m q hq => by simp [impl_copyValue_b6])
    (fun i x r q hd hi hx hq => by
      have hq : q.length = i := hq
      have hi' : (i : Int) < (rs.length : Int) := by omega
      refine .inl ⟨q ++ [x], by simp [hq], by simp, fun m => ?_⟩
      simp only [impl_copyValue_b6, decide_eq_true hi', cond_true, Int.toNat_natCast, getD_of hx, impl_copyRow_eq (h.2 x (List.mem_of_getElem? hx)) hK, Option.bind_some, wrap_succ hi (by omega : rs.length ≤ _), vk, vn, vs, vt, vl, vc, vr]
      rw [if_pos (by omega), if_pos (by simp only [List.length_cons, List.length_nil]; unfold Lim; omega)]) N 0 [] rfl (by omega) (by omega)
theorem impl_copies_step {N d : Nat} {a : List Val} (hl : a.length ≤ 137438953472) (hn : a.length < N) (hx : ∀ x ∈ a, (impl_copyValue_fix N d).c_impl_copyValue x = some x) : (impl_copyValue_fix N (d + 1)).c_impl_copyValues a = some a := by
  show impl_copyValues_body N (impl_copyValue_fix N d).c_impl_copyValue (impl_copyValue_fix N d).c_impl_copyValues a = _
  unfold impl_copyValues_body
  exact forList (L := fun m i q => impl_copyValues_b3 N (impl_copyValue_fix N d).c_impl_copyValue (impl_copyValue_fix N d).c_impl_copyValues m q a a.length i) a (fun l q => q ++ l) (fun i q => q.length = i) (fun m q hq => by simp [impl_copyValues_b3])
    (fun i x l q hd hi hxi hq => by
      have hq : q.length = i := hq
      have hi' : (i : Int) < (a.length : Int) := by omega
      refine .inl ⟨q ++ [x], by simp [hq], by simp, fun m => ?_⟩
      simp only [impl_copyValues_b3, decide_eq_true hi', cond_true, Int.toNat_natCast, getD_of hxi, hx x (List.mem_of_getElem? hxi), Option.bind_some, Val.re_eq, wrap_succ hi (by omega : a.length ≤ _)]
      rw [if_pos (by omega), if_pos (by simp only [List.length_cons, List.length_nil]; unfold Lim; omega)]) N 0 [] rfl (by omega) (by omega)
theorem impl_copy_step {N d K : Nat} {v : Val} (h : v.Fit K) (hK : K ≤ 137438953472) (hN : K < N) (hx : (impl_copyValue_fix N d).c_impl_copyValues v.list = some v.list) : (impl_copyValue_fix N (d + 1)).c_impl_copyValue v = some v := by
  obtain ⟨h1, h2, h3, h4, h5, h6, h7⟩ := Val.fit_iff.1 h
  have hc : v.columns.length ≤ K := h6.1
  show impl_copyValue_body N (impl_copyValue_fix N d).c_impl_copyValue (impl_copyValue_fix N d).c_impl_copyValues v = _
  unfold impl_copyValue_body
  rw [hx, Option.bind_some, if_pos (by unfold Lim; omega), impl_copy_b6_eq h7 hK hN, List.nil_append, Val.eta]
theorem impl_copy_big {K : Nat} (hK : K ≤ 137438953472) : ∀ v : Val, v.Fit K → Big2 fun N d => (impl_copyValue_fix N d).c_impl_copyValue v = some v := by
  refine Val.ind fun k n s t a c r ih h => ?_
  have h5 := (Val.fit_iff.1 h).2.2.2.2.1
  have hl : a.length ≤ K := h5.1
  refine Big2.succ (Big2.succ ?_)
  exact ((Big2.list fun x hx => ih x hx (h5.2 x hx)).and (big_lt K).two).imp fun N d ⟨hx, hN⟩ => impl_copy_step h hK hN (impl_copies_step (a := a) (by omega) (by omega) hx)
theorem impl_copy_eq' {K : Nat} {v : Val} (h : v.Fit K) (hK : K ≤ 137438953472) : Big fun N => impl_copyValue N v = some v := (impl_copy_big hK v h).diag
end Go.Ab
end
section
namespace Go.Ab
set_option linter.unusedVariables false
set_option linter.unusedSimpArgs false
def srcRows (c : Int) : List Rowd → Nat → List Rowd
  | [], _ => []
  | r :: rs, i => ⟨r.cells, [⟨c, i⟩]⟩ :: srcRows c rs (i + 1)
theorem srcRows_length {c : Int} : ∀ {l : List Rowd} {i : Nat}, (srcRows c l i).length = l.length
  | [], _ => rfl
  | r :: rs, i => by simp [srcRows, srcRows_length (l := rs)]
def srcG (c : Int) (v : Val) : Val := bif v.kind != 5 then errV 4 else bif !valOk v then errV 4 else bif decide (c < 0) then errV 4 else .mk v.kind v.n v.step v.text v.list v.columns (srcRows c v.rows 0)
theorem src_loop {c : Int} {rows : List Rowd} {mk : List Rowd → Val} {L : Nat → Int → List Rowd → Option Val} (hend : ∀ n s, s.length = rows.length → L (n + 1) (rows.length : Nat) s = some (mk s))
    (hstep : ∀ n (i : Nat) s x, i < rows.length → s.length = rows.length → s[i]? = some x → L (n + 1) (i : Nat) s = L n ((i + 1 : Nat) : Int) (s.set i ⟨x.cells, [⟨c, i⟩]⟩)) {n : Nat} (hn : rows.length < n) : L n 0 rows = some (mk (srcRows c rows 0)) := by
  have key := forList (L := L) rows (fun l s => mk (s.take (rows.length - l.length) ++ srcRows c l (rows.length - l.length))) (fun i s => s.length = rows.length ∧ s.drop i = rows.drop i)
    (fun n s hs => by
      have hs1 : s.length = rows.length := hs.1
      rw [hend n s hs1]
      have : s.take (rows.length - 0) = s := by rw [Nat.sub_zero, ← hs1, List.take_length]
      simp [srcRows, ← hs1])
    (fun i x l s hd hi hx hs => by
      obtain ⟨hs1, hs2⟩ := hs
      have hl : l.length = rows.length - (i + 1) := by have := congrArg List.length hd; simp at this; omega
      have hsx : s[i]? = some x := by
        have := hs2.trans hd
        exact (drop_cons this).2.1
      refine .inl ⟨s.set i ⟨x.cells, [⟨c, i⟩]⟩, ⟨by simpa using hs1, ?_⟩, ?_, fun n => hstep n i s x hi hs1 hsx⟩
      · rw [List.drop_set_of_lt (by omega)]
        have := congrArg (List.drop 1) hs2
        simpa [List.drop_drop, Nat.add_comm] using this
      · have e1 : rows.length - (x :: l).length = i := by simp only [List.length_cons]; omega
        have e2 : rows.length - l.length = i + 1 := by omega
        show mk _ = mk _
        rw [e1, e2, srcRows, List.take_add_one, List.getElem?_set_self (by omega), List.take_set_of_le (by omega)]
        simp) n 0 rows ⟨rfl, rfl⟩ (by omega) (by omega)
  simpa using key
theorem src_eq {K : Nat} (hK : 24 ≤ K ∧ K ≤ 137438953472) {v : Val} {c : Int} (h : v.Fit K) : Big fun N => impl_SourceTable N c v = some (srcG c v) ∧ spec_SourceTable N c v = some (srcG c v) := by
  have hr : v.rows.length ≤ K := (Val.fit_iff.1 h).2.2.2.2.2.2.1
  refine ((valid_eq (by omega) h).and ((impl_copy_eq' h (by omega)).and ((spec_copy_eq' h (by omega)).and (big_lt K)))).imp fun N ⟨⟨h1, h2⟩, h3, h4, hN⟩ => ?_
  have ev := Val.eta v
  have i1 : impl_SourceTable_b5 N N c v.rows.length 0 (Val.mk 0 0 0 [] [] [] []) v = some (.mk v.kind v.n v.step v.text v.list v.columns (srcRows c v.rows 0)) := by
    have := src_loop (c := c) (rows := v.rows) (n := N) (mk := fun s => .mk v.kind v.n v.step v.text v.list v.columns s) (L := fun m i s => impl_SourceTable_b5 N m c v.rows.length i (Val.mk 0 0 0 [] [] [] []) (.mk v.kind v.n v.step v.text v.list v.columns s))
      (fun n s hs => by simp only [impl_SourceTable_b5, Int.lt_irrefl, decide_false, cond_false])
      (fun n i s x hi hs hx => by
        have hi' : (i : Int) < (v.rows.length : Int) := by omega
        simp only [impl_SourceTable_b5, decide_eq_true hi', cond_true, vk, vn, vs, vt, vl, vc, vr, Int.toNat_natCast, getD_of hx, wrap_succ hi (by omega : v.rows.length ≤ _)]
        rw [if_pos (by omega)]) (by omega)
    simpa only [ev] using this
  have i2 : spec_SourceTable_b5 N N c 0 (Val.mk 0 0 0 [] [] [] []) v = some (.mk v.kind v.n v.step v.text v.list v.columns (srcRows c v.rows 0)) := by
    have := src_loop (c := c) (rows := v.rows) (n := N) (mk := fun s => .mk v.kind v.n v.step v.text v.list v.columns s) (L := fun m i s => spec_SourceTable_b5 N m c i (Val.mk 0 0 0 [] [] [] []) (.mk v.kind v.n v.step v.text v.list v.columns s))
      (fun n s hs => by
        rw [spec_SourceTable_b5, decide_eq_false (show ¬ ((v.rows.length : Nat) : Int) < (((Val.mk v.kind v.n v.step v.text v.list v.columns s).rows.length : Nat) : Int) from by show ¬ ((v.rows.length : Nat) : Int) < ((s.length : Nat) : Int); omega)]; rfl)
      (fun n i s x hi hs hx => by
        have hi' : (i : Int) < ((Val.mk v.kind v.n v.step v.text v.list v.columns s).rows.length : Int) := by show (i : Int) < (s.length : Int); omega
        have hcd : (0 : Int) ≤ (i : Int) ∧ (i : Int) < ((Val.mk v.kind v.n v.step v.text v.list v.columns s).rows.length : Int) := ⟨by omega, hi'⟩
        have hx' : (Val.mk v.kind v.n v.step v.text v.list v.columns s).rows[i]? = some x := hx
        rw [spec_SourceTable_b5]
        rw [decide_eq_true hi', cond_true, if_pos hcd]
        simp only [Int.toNat_natCast, vk, vn, vs, vt, vl, vc, vr, getD_of hx, wrap_succ hi (by omega : v.rows.length ≤ _)]) (by omega)
    simpa only [ev] using this
  refine ⟨?_, ?_⟩
  · simp only [impl_SourceTable, h1, h3, Option.bind_some, i1, impl_ErrorValue, srcG]
    cases (v.kind != 5) <;> cases valOk v <;> cases decide (c < 0) <;> rfl
  · simp only [spec_SourceTable, h2, h4, Option.bind_some, i2, spec_ErrorValue, srcG]
    cases (v.kind != 5) <;> cases valOk v <;> cases decide (c < 0) <;> rfl
theorem srcRows_fit {K : Nat} {c : Int} (hc : I64 c) (h1 : 1 ≤ K) : ∀ {l : List Rowd} {i : Nat}, (∀ r ∈ l, r.Fit K) → i + l.length ≤ 4611686018427387903 → ∀ r ∈ srcRows c l i, r.Fit K
  | [], _, _, _, r, hr => by cases hr
  | x :: l, i, h, hi, r, hr => by
    simp only [srcRows, List.mem_cons] at hr
    simp only [List.length_cons] at hi
    rcases hr with rfl | hr
    · refine ⟨(h x List.mem_cons_self).1, ⟨h1, fun o ho => ?_⟩⟩
      rw [List.mem_singleton] at ho; subst ho
      exact ⟨hc, by show I64 (i : Int); exact ⟨by omega, by omega⟩⟩
    · exact srcRows_fit hc h1 (fun y hy => h y (List.mem_cons_of_mem _ hy)) (by omega) r hr
theorem srcRows_cnt {c : Int} : ∀ {l : List Rowd} {i : Nat}, ((srcRows c l i).map cRow).sum ≤ (l.map cRow).sum + 2 * l.length
  | [], _ => by simp [srcRows]
  | x :: l, i => by
    have := srcRows_cnt (c := c) (l := l) (i := i + 1)
    have h1 : cRow ⟨x.cells, [⟨c, (i : Int)⟩]⟩ = (x.cells.map cOne).sum + 2 := rfl
    have h2 : cRow x = (x.cells.map cOne).sum + (x.frm.map cOrg).sum := rfl
    simp only [srcRows, List.map_cons, List.sum_cons, List.length_cons, h1, h2]
    omega
theorem srcG_fit {v : Val} {c : Int} (h : v.Fit 1048576) (hc : I64 c) : (srcG c v).Fit 1048576 := by
  have he : (errV 4).Fit 1048576 := (flat_err (i64_of (by omega) (by omega))).fit _
  obtain ⟨h1, h2, h3, h4, h5, h6, h7⟩ := Val.fit_iff.1 h
  have hr : v.rows.length ≤ 1048576 := h7.1
  unfold srcG
  cases (v.kind != 5)
  · cases valOk v
    · exact he
    · cases decide (c < 0)
      · exact Val.fit_iff.2 ⟨h1, h2, h3, h4, h5, h6, by show (srcRows c v.rows 0).length ≤ _; rw [srcRows_length]; exact hr, srcRows_fit hc (by omega) h7.2 (by omega)⟩
      · exact he
  · exact he
theorem srcG_cnt {v : Val} {c : Int} : (srcG c v).cnt ≤ 4 + v.cnt + 2 * v.rows.length := by
  have he : (errV 4).cnt = 4 := rfl
  unfold srcG
  cases (v.kind != 5)
  · cases valOk v
    · simp only [cond_true, cond_false, Bool.not_false, he]; omega
    · cases decide (c < 0)
      · have h1 := srcRows_cnt (c := c) (l := v.rows) (i := 0)
        simp only [cond_false, Bool.not_true]
        rw [valCnt, valCnt v, vl, vc, vr]
        omega
      · simp only [cond_true, cond_false, Bool.not_true, he]; omega
  · simp only [cond_true, he]; omega
theorem laws_FnExactSourceTable_true (a0 : Int) (a1 : Val) (f0 : ∀ z ∈ [CV.int .i64 a0], DFit z.toD) (f1 : ∀ z ∈ [CV.int .i64 (Val.kind a1), .int .i64 (Val.n a1), .int .i64 (Val.step a1), .str (Val.text a1), .sl .ro .val (Val.list a1), .sl .ro .str (Val.columns a1), .sl .ro .row (Val.rows a1)], DFit z.toD) : ∃ N, laws_FnExactSourceTable N a0 a1 = some true := by
  have hF := val_of_cells f1
  have hi : I64 a0 := cell_int (f0 _ List.mem_cons_self).dk
  by_cases h : left a1.size 1048576 < 0
  · exact ((szValue_eq hF).imp fun N hs => by simp [laws_FnExactSourceTable, hs 1048576 (by omega) (by omega), h]).get
  · have hs := Val.fit_size a1 hF (guard h)
    have hg := guard h
    have hc := Val.cnt_le a1
    have hr : a1.rows.length ≤ 1048576 := (Val.fit_iff.1 hs).2.2.2.2.2.2.1
    have hff := srcG_fit hs hi
    have hfc := srcG_cnt (v := a1) (c := a0)
    refine (((szValue_eq hF).and ((toValue_eq hs).and (eqValue_self hs (by omega)))).and (((src_eq (c := a0) (by omega) hs).and (eqValue_self hff (by omega))).and ((markValue_held (by omega) hs (by omega)).and (markValue_held (by omega) hff (by omega))))).imp (fun N ⟨⟨k1, k2, k3⟩, ⟨⟨k4, k5⟩, k6⟩, k7, k8⟩ => ?_) |>.get
    obtain ⟨k, xa, xb, xc, p0, p1, p2, p3, p4, p5⟩ := k7
    obtain ⟨k', ya, yb, yc, q0, q1, q2, q3, q4, q5⟩ := k8
    generalize srcG a0 a1 = r at *
    simp [laws_FnExactSourceTable, k1 1048576 (by omega) (by omega), k2, k3, k4, k5, k6, h, p4, p1, p2, p3, decide_eq_false (by omega : ¬ k < 0), q1, q2, q3, q4, q5, decide_eq_false (by omega : ¬ k' < 0)]
end Go.Ab
end
section
namespace Go.Proofs.Ytkbojckenecnbaa
open Go.Ab Go.ChangeShapes Go.WideShapes Go.ChangeAt Go.RowKit
set_option linter.unusedVariables false
theorem own : ownKnob Try.prog.godebug = none := by kernel_rfl
theorem laidOut : laidOutB Try.prog = true := by kernel_rfl
theorem ktok_fnExactSourceTable : ktChk Try.prog [(3, .int), (9, .str), (40, .val), (137, .org), (148, .row)] = true := by kernel_rfl
set_option maxRecDepth 100000 in
theorem fnExactSourceTable_lifted (os : Os) (started : os.Started) (H : Type) (enc : TypeId × Value → H) :
    ReturnsInHanded {} Try.checked os 8 .any (Rows.fnExactSourceTableSpec.pre6 enc Try.prog Try.f8 Rows.fnExactSourceTableRow.domain false) (Rows.fnExactSourceTableSpec.post enc Try.prog Try.f8 false true false false) := by
  refine returnsInHanded_of_change (C := Try.checked) own started (by kernel_rfl) Try.func8
    (ChangeSpec.witness6 (enc := enc) (C := Try.checked) false ⟨#[], #[.int .i64 0, .agg #[.int .i64 0, .int .i64 0, .int .i64 0, .string ByteArray.empty, .slice none 0 0, .slice none 0 0, .slice none 0 0]], []⟩ 8 (by kernel_rfl) (by kernel_rfl) (by kernel_rfl) (by kernel_rfl)) ?_
  intro W base args ds gs before hval0 hW hcnd _
  have hval : ∀ (j : Nat) t v, Try.f8.params[j]? = some t → args[j]? = some v → Value.okWide Try.prog W .any base t v := hval0
  have hW' := hW
  obtain ⟨p, q, hA0, hV, rfl, hfz, hnd⟩ := hW
  have hA : DataW.TrodAll enc Try.prog W 0 (fun _ => true) true Try.f8.params.toList args.toList ds p := hA0
  rw [Try.params8] at hA hval
  obtain ⟨v0, vs0, d0, ds0, p0, q0, hargs, rfl, rfl, h0, r0⟩ := trodAll_cons hA
  obtain ⟨v1, vs1, d1, ds1, p1, q1, rfl, rfl, rfl, h1, r1⟩ := trodAll_cons r0
  obtain ⟨rfl, rfl, rfl⟩ := trodAll_nil r1
  obtain rfl : args = #[v0, v1] := by cases args; simp_all
  obtain ⟨rfl, rfl⟩ := trodVars_none hV
  have lt0 : ∀ x ∈ p0, x.block < W.heap.size := by obtain ⟨m, hm⟩ := h0; exact DataW.trod_lt m _ _ _ hm
  have lt1 : ∀ x ∈ p1, x.block < W.heap.size := by obtain ⟨m, hm⟩ := h1; exact DataW.trod_lt m _ _ _ hm
  obtain ⟨z0, e0, f0, vr0⟩ := vr_of ktok_fnExactSourceTable (g := false) (t := 3) (ns := [.inl (.int .i64)]) (by kernel_rfl) (hval 0 3 v0 rfl rfl) h0
  obtain ⟨x0_0, _, rfl, e0_0⟩ := AreOf.int_inv e0
  obtain rfl := e0_0.nil_inv
  obtain ⟨z1, e1, f1, vr1⟩ := vr_of ktok_fnExactSourceTable (g := true) (t := 40) (ns := [.inl (.int .i64), .inl (.int .i64), .inl (.int .i64), .inl .str, .inr .val, .inr .str, .inr .row]) (by kernel_rfl) (hval 1 40 v1 rfl rfl) h1
  obtain ⟨x1_0, _, rfl, e1_0⟩ := AreOf.int_inv e1
  obtain ⟨x1_1, _, rfl, e1_1⟩ := AreOf.int_inv e1_0
  obtain ⟨x1_2, _, rfl, e1_2⟩ := AreOf.int_inv e1_1
  obtain ⟨x1_3, _, rfl, e1_3⟩ := AreOf.str_inv e1_2
  obtain ⟨x1_4, _, rfl, e1_4⟩ := AreOf.sl_inv e1_3
  obtain ⟨x1_5, _, rfl, e1_5⟩ := AreOf.sl_inv e1_4
  obtain ⟨x1_6, _, rfl, e1_6⟩ := AreOf.sl_inv e1_5
  obtain rfl := e1_6.nil_inv
  obtain ⟨N, hF⟩ := laws_FnExactSourceTable_true x0_0 (Val.mk x1_0 x1_1 x1_2 x1_3 x1_4 x1_5 x1_6) f0 f1
  clear hA0 hval0
  refine (calls_of T.fk8 (T.laws_FnExactSourceTable_ok hF) (W := W) (args := #[v0, v1]) ⟨vr0 _, vr1 _, trivial⟩).mono fun e W' ⟨he, bel⟩ => ?_
  subst he
  exact ⟨_, rfl, _, _, _, [], _, [], hW', trodAll_mk1 (shut_bool Try.underlying4 _), (trodAll_cons_mk (Below.trod laidOut (by kernel_rfl) (of_decide_eq_true (by kernel_rfl)) h0 bel lt0) (trodAll_cons_mk (Below.trod laidOut (by kernel_rfl) (of_decide_eq_true (by kernel_rfl)) h1 bel lt1) trodAll_mk0)), rfl, bel.frame _, fun h => by cases h⟩
theorem fnExactSourceTable_proved : Rows.FnExactSourceTableSaid :=
  OpenClaim.holds_of_wide 8 Try.f8 rfl rfl rfl rfl rfl rfl rfl ⟨rfl, rfl, rfl, rfl, rfl⟩ rfl rfl rfl rfl rfl (by kernel_rfl) Try.func8 (by kernel_rfl)
    (of_decide_eq_true (by kernel_rfl)) (by unfold Func.isWrapper; first | (rw [if_pos (by decide +kernel)]; kernel_rfl) | (rw [if_neg (by decide +kernel)]; exact ⟨rfl, rfl⟩))
    (fun os started H enc _ => fnExactSourceTable_lifted os started H enc)
end Go.Proofs.Ytkbojckenecnbaa
end
