/- The statement FnExactRestrictTable holds: plain functions, certificates, laws. Conditions: none. -/
import Derived.Test.YtkbojckenecnbaaChecked
import Derived.Test.YtkbojckenecnbaaProg
import Derived.Test.YtkbojckenecnbaaRows
import Derived.Test.YtkbojckenecnbaaK2
set_option linter.all false
section
namespace Go.Ab
set_option linter.unusedVariables false
def spec_l3Row_as (a0 : Rowd) : List Arg := [.val (.v true [.sl .ro .int (Rowd.cells a0), .sl .ro .org (Rowd.frm a0)])]
def spec_l3Row_ro (r : Rowd) : CallO := ⟨.v true [.sl .own .int (Rowd.cells r), .sl .own .org (Rowd.frm r)], [], []⟩
def spec_l3Row (N : Nat) (a0 : Rowd) : Option (Rowd) :=
  if 0 + List.length (Rowd.cells a0) ≤ Lim then
  if 0 + List.length (Rowd.frm a0) ≤ Lim then
  some (Rowd.mk ([] ++ (Rowd.cells a0)) ([] ++ (Rowd.frm a0)))
  else none
  else none
def spec_l3Copy_as (a0 : Val) : List Arg := [.val (.v true [.int .i64 (Val.kind a0), .int .i64 (Val.n a0), .int .i64 (Val.step a0), .str (Val.text a0), .sl .ro .val (Val.list a0), .sl .ro .str (Val.columns a0), .sl .ro .row (Val.rows a0)])]
def spec_l3Copy_ro (r : Val) : CallO := ⟨.v true [.int .i64 (Val.kind r), .int .i64 (Val.n r), .int .i64 (Val.step r), .str (Val.text r), .sl .own .val (Val.list r), .sl .own .str (Val.columns r), .sl .own .row (Val.rows r)], [], []⟩
def spec_l3Copy_b7 (N : Nat) (rc_spec_l3Copy : Val → Option (Val)) : Nat → Int → Val → Val → Val → Option (Val)
  | 0, _, _, _, _ => none
  | n + 1, x5, b1, b2, b3 =>
    bif (decide ((x5 : Int) < (List.length (Val.rows b1) : Int))) then (
      if (0 : Int) ≤ x5 ∧ x5 < (List.length (Val.rows b1)) then
      Option.bind (spec_l3Row N (List.getD (Val.rows b1) (Int.toNat x5) Ty.row.dflt)) fun r1 =>
      if List.length (Val.rows b3) + List.length [r1] ≤ Lim then
      (spec_l3Copy_b7 N rc_spec_l3Copy n (IntKind.i64.wrap (x5 + 1)) b1 b2 (Val.mk (Val.kind b3) (Val.n b3) (Val.step b3) (Val.text b3) (Val.list b3) (Val.columns b3) ((Val.rows b3) ++ [r1])))
      else none
      else none
    ) else (
      some b3
    )
def spec_l3Copy_b3 (N : Nat) (rc_spec_l3Copy : Val → Option (Val)) : Nat → Int → Val → Val → Val → Option (Val)
  | 0, _, _, _, _ => none
  | n + 1, x4, b1, b2, b3 =>
    bif (decide ((x4 : Int) < (List.length (Val.list b1) : Int))) then (
      if (0 : Int) ≤ x4 ∧ x4 < (List.length (Val.list b1)) then
      Option.bind (rc_spec_l3Copy (List.getD (Val.list b1) (Int.toNat x4) Ty.val.dflt)) fun r1 =>
      if List.length (Val.list b3) + List.length [(Val.re r1)] ≤ Lim then
      (spec_l3Copy_b3 N rc_spec_l3Copy n (IntKind.i64.wrap (x4 + 1)) b1 b2 (Val.mk (Val.kind b3) (Val.n b3) (Val.step b3) (Val.text b3) ((Val.list b3) ++ [(Val.re r1)]) (Val.columns b3) (Val.rows b3)))
      else none
      else none
    ) else (
      (spec_l3Copy_b7 N rc_spec_l3Copy N 0 b1 b2 b3)
    )
def spec_l3Copy_body (N : Nat) (rc_spec_l3Copy : Val → Option (Val)) (a0 : Val) : Option (Val) :=
  if 0 + List.length (Val.columns a0) ≤ Lim then
  (spec_l3Copy_b3 N rc_spec_l3Copy N 0 a0 (Val.mk 0 0 0 [] [] [] []) (Val.mk (Val.kind a0) (Val.n a0) (Val.step a0) (Val.text a0) [] ([] ++ (Val.columns a0)) []))
  else none
def spec_l3Copy_fix (N : Nat) : Nat → Val → Option (Val)
  | 0, _ => none
  | d + 1, a0 => spec_l3Copy_body N (spec_l3Copy_fix N d) a0
def spec_l3Copy (N : Nat) (a0 : Val) : Option (Val) := spec_l3Copy_fix N N a0
def impl_copyRow_as (a0 : Rowd) : List Arg := [.val (.v true [.sl .ro .int (Rowd.cells a0), .sl .ro .org (Rowd.frm a0)])]
def impl_copyRow_ro (r : Rowd) : CallO := ⟨.v true [.sl .own .int (Rowd.cells r), .sl .own .org (Rowd.frm r)], [], []⟩
def impl_copyRow (N : Nat) (a0 : Rowd) : Option (Rowd) :=
  if 0 + List.length (Rowd.cells a0) ≤ Lim then
  if 0 + List.length (Rowd.frm a0) ≤ Lim then
  some (Rowd.mk ([] ++ (Rowd.cells a0)) ([] ++ (Rowd.frm a0)))
  else none
  else none
def impl_copyValue_as (a0 : Val) : List Arg := [.val (.v true [.int .i64 (Val.kind a0), .int .i64 (Val.n a0), .int .i64 (Val.step a0), .str (Val.text a0), .sl .ro .val (Val.list a0), .sl .ro .str (Val.columns a0), .sl .ro .row (Val.rows a0)])]
def impl_copyValue_ro (r : Val) : CallO := ⟨.v true [.int .i64 (Val.kind r), .int .i64 (Val.n r), .int .i64 (Val.step r), .str (Val.text r), .sl .own .val (Val.list r), .sl .own .str (Val.columns r), .sl .own .row (Val.rows r)], [], []⟩
def impl_copyValue_b6 (N : Nat) (rc_impl_copyValue : Val → Option (Val)) (rc_impl_copyValues : (List Val) → Option ((List Val))) : Nat → (List Rowd) → Int → Int → Val → Val → Option (Val)
  | 0, _, _, _, _, _ => none
  | n + 1, x18, x19, x20, b2, b3 =>
    bif (decide ((x20 : Int) < x19)) then (
      if (0 : Int) ≤ x20 ∧ x20 < (List.length x18) then
      Option.bind (impl_copyRow N (List.getD x18 (Int.toNat x20) Ty.row.dflt)) fun r1 =>
      if List.length (Val.rows b3) + List.length [r1] ≤ Lim then
      (impl_copyValue_b6 N rc_impl_copyValue rc_impl_copyValues n x18 x19 (IntKind.i64.wrap (x20 + 1)) b2 (Val.mk (Val.kind b3) (Val.n b3) (Val.step b3) (Val.text b3) (Val.list b3) (Val.columns b3) ((Val.rows b3) ++ [r1])))
      else none
      else none
    ) else (
      some b3
    )
def impl_copyValue_body (N : Nat) (rc_impl_copyValue : Val → Option (Val)) (rc_impl_copyValues : (List Val) → Option ((List Val))) (a0 : Val) : Option (Val) :=
  Option.bind (rc_impl_copyValues (Val.list a0)) fun r1 =>
  if 0 + List.length (Val.columns a0) ≤ Lim then
  (impl_copyValue_b6 N rc_impl_copyValue rc_impl_copyValues N (Val.rows a0) (List.length (Val.rows a0) : Int) 0 (Val.mk 0 0 0 [] [] [] []) (Val.mk (Val.kind a0) (Val.n a0) (Val.step a0) (Val.text a0) r1 ([] ++ (Val.columns a0)) []))
  else none
def impl_copyValues_as (a0 : List Val) : List Arg := [.val (.v false [.sl .ro .val a0])]
def impl_copyValues_ro (r : (List Val)) : CallO := ⟨.v false [.sl .own .val r], [], []⟩
def impl_copyValues_b3 (N : Nat) (rc_impl_copyValue : Val → Option (Val)) (rc_impl_copyValues : (List Val) → Option ((List Val))) : Nat → (List Val) → (List Val) → Int → Int → Option ((List Val))
  | 0, _, _, _, _ => none
  | n + 1, x3, x7, x8, x9 =>
    bif (decide ((x9 : Int) < x8)) then (
      if (0 : Int) ≤ x9 ∧ x9 < (List.length x7) then
      Option.bind (rc_impl_copyValue (List.getD x7 (Int.toNat x9) Ty.val.dflt)) fun r1 =>
      if List.length x3 + List.length [(Val.re r1)] ≤ Lim then
      (impl_copyValues_b3 N rc_impl_copyValue rc_impl_copyValues n (x3 ++ [(Val.re r1)]) x7 x8 (IntKind.i64.wrap (x9 + 1)))
      else none
      else none
    ) else (
      some x3
    )
def impl_copyValues_body (N : Nat) (rc_impl_copyValue : Val → Option (Val)) (rc_impl_copyValues : (List Val) → Option ((List Val))) (a0 : List Val) : Option ((List Val)) :=
  (impl_copyValues_b3 N rc_impl_copyValue rc_impl_copyValues N [] a0 (List.length a0 : Int) 0)
structure impl_copyValue_rec where
  c_impl_copyValue : Val → Option (Val)
  c_impl_copyValues : (List Val) → Option ((List Val))
def impl_copyValue_fix (N : Nat) : Nat → impl_copyValue_rec
  | 0 => ⟨fun _ => none, fun _ => none⟩
  | d + 1 => ⟨impl_copyValue_body N (impl_copyValue_fix N d).c_impl_copyValue (impl_copyValue_fix N d).c_impl_copyValues, impl_copyValues_body N (impl_copyValue_fix N d).c_impl_copyValue (impl_copyValue_fix N d).c_impl_copyValues⟩
def impl_copyValue (N : Nat) (a0 : Val) : Option (Val) := (impl_copyValue_fix N N).c_impl_copyValue a0
def spec_l8Has_as (a0 : List Org) (a1 : Org) : List Arg := [.val (.v false [.sl .ro .org a0]), .val (.v true [.int .i64 (Org.cell a1), .int .i64 (Org.row a1)])]
def spec_l8Has_ro (r : Bool) : CallO := ⟨.v false [.bool r], [], []⟩
def spec_l8Has_b2 (N : Nat) : Nat → (List Org) → Int → Org → Option (Bool)
  | 0, _, _, _ => none
  | n + 1, x0, x5, b3 =>
    bif (decide ((x5 : Int) < (List.length x0 : Int))) then (
      if (0 : Int) ≤ x5 ∧ x5 < (List.length x0) then
      bif ((((Org.cell (List.getD x0 (Int.toNat x5) Ty.org.dflt)) : Int) == (Org.cell b3)) && (((Org.row (List.getD x0 (Int.toNat x5) Ty.org.dflt)) : Int) == (Org.row b3))) then (
        some true
      ) else (
        (spec_l8Has_b2 N n x0 (IntKind.i64.wrap (x5 + 1)) b3)
      )
      else none
    ) else (
      some false
    )
def spec_l8Has (N : Nat) (a0 : List Org) (a1 : Org) : Option (Bool) :=
  (spec_l8Has_b2 N N a0 0 a1)
def spec_l8Beneath_as (a0 : List Org) (a1 : List Org) : List Arg := [.val (.v false [.sl .ro .org a0]), .val (.v false [.sl .ro .org a1])]
def spec_l8Beneath_ro (r : Bool) : CallO := ⟨.v false [.bool r], [], []⟩
def spec_l8Beneath_b2 (N : Nat) : Nat → (List Org) → (List Org) → Int → Option (Bool)
  | 0, _, _, _ => none
  | n + 1, x0, x1, x5 =>
    bif (decide ((x5 : Int) < (List.length x0 : Int))) then (
      if (0 : Int) ≤ x5 ∧ x5 < (List.length x0) then
      Option.bind (spec_l8Has N x1 (List.getD x0 (Int.toNat x5) Ty.org.dflt)) fun r1 =>
      bif (!r1) then (
        some false
      ) else (
        (spec_l8Beneath_b2 N n x0 x1 (IntKind.i64.wrap (x5 + 1)))
      )
      else none
    ) else (
      some true
    )
def spec_l8Beneath (N : Nat) (a0 : List Org) (a1 : List Org) : Option (Bool) :=
  (spec_l8Beneath_b2 N N a0 a1 0)
def spec_RestrictTable_as (a0 : Val) (a1 : List Org) : List Arg := [.val (.v true [.int .i64 (Val.kind a0), .int .i64 (Val.n a0), .int .i64 (Val.step a0), .str (Val.text a0), .sl .ro .val (Val.list a0), .sl .ro .str (Val.columns a0), .sl .ro .row (Val.rows a0)]), .val (.v false [.sl .ro .org a1])]
def spec_RestrictTable_ro (r : Val) : CallO := ⟨.v true [.int .i64 (Val.kind r), .int .i64 (Val.n r), .int .i64 (Val.step r), .str (Val.text r), .sl .own .val (Val.list r), .sl .own .str (Val.columns r), .sl .own .row (Val.rows r)], [], []⟩
def spec_RestrictTable_b5 (N : Nat) : Nat → (List Org) → Int → Val → Val → Val → Option (Val)
  | 0, _, _, _, _, _ => none
  | n + 1, x1, x6, b2, b4, b5 =>
    bif (decide ((x6 : Int) < (List.length (Val.rows b2) : Int))) then (
      if (0 : Int) ≤ x6 ∧ x6 < (List.length (Val.rows b2)) then
      Option.bind (spec_l8Beneath N (Rowd.frm (List.getD (Val.rows b2) (Int.toNat x6) Ty.row.dflt)) x1) fun r1 =>
      bif r1 then (
        Option.bind (spec_l3Row N (List.getD (Val.rows b2) (Int.toNat x6) Ty.row.dflt)) fun r2 =>
        if List.length (Val.rows b5) + List.length [r2] ≤ Lim then
        (spec_RestrictTable_b5 N n x1 (IntKind.i64.wrap (x6 + 1)) b2 b4 (Val.mk (Val.kind b5) (Val.n b5) (Val.step b5) (Val.text b5) (Val.list b5) (Val.columns b5) ((Val.rows b5) ++ [r2])))
        else none
      ) else (
        (spec_RestrictTable_b5 N n x1 (IntKind.i64.wrap (x6 + 1)) b2 b4 b5)
      )
      else none
    ) else (
      some b5
    )
def spec_RestrictTable (N : Nat) (a0 : Val) (a1 : List Org) : Option (Val) :=
  bif (((Val.kind a0) : Int) != 5) then (
    Option.bind (spec_l3Copy N a0) fun r1 =>
    some r1
  ) else (
    Option.bind (spec_IsValidValue N a0) fun r1 =>
    bif (!r1) then (
      Option.bind (spec_l3Copy N a0) fun r2 =>
      some r2
    ) else (
      if 0 + List.length (Val.columns a0) ≤ Lim then
      (spec_RestrictTable_b5 N N a1 0 a0 (Val.mk 0 0 0 [] [] [] []) (Val.mk 5 0 0 [] [] ([] ++ (Val.columns a0)) []))
      else none
    )
  )
def impl_hasOrigin_as (a0 : List Org) (a1 : Org) : List Arg := [.val (.v false [.sl .ro .org a0]), .val (.v true [.int .i64 (Org.cell a1), .int .i64 (Org.row a1)])]
def impl_hasOrigin_ro (r : Bool) : CallO := ⟨.v false [.bool r], [], []⟩
def impl_hasOrigin_b2 (N : Nat) : Nat → (List Org) → Int → Int → Org → Option (Bool)
  | 0, _, _, _, _ => none
  | n + 1, x7, x8, x9, b3 =>
    bif (decide ((x9 : Int) < x8)) then (
      if (0 : Int) ≤ x9 ∧ x9 < (List.length x7) then
      bif ((((Org.cell (List.getD x7 (Int.toNat x9) Ty.org.dflt)) : Int) == (Org.cell b3)) && (((Org.row (List.getD x7 (Int.toNat x9) Ty.org.dflt)) : Int) == (Org.row b3))) then (
        some true
      ) else (
        (impl_hasOrigin_b2 N n x7 x8 (IntKind.i64.wrap (x9 + 1)) b3)
      )
      else none
    ) else (
      some false
    )
def impl_hasOrigin (N : Nat) (a0 : List Org) (a1 : Org) : Option (Bool) :=
  (impl_hasOrigin_b2 N N a0 (List.length a0 : Int) 0 a1)
def impl_RestrictTable_as (a0 : Val) (a1 : List Org) : List Arg := [.val (.v true [.int .i64 (Val.kind a0), .int .i64 (Val.n a0), .int .i64 (Val.step a0), .str (Val.text a0), .sl .ro .val (Val.list a0), .sl .ro .str (Val.columns a0), .sl .ro .row (Val.rows a0)]), .val (.v false [.sl .ro .org a1])]
def impl_RestrictTable_ro (r : Val) : CallO := ⟨.v true [.int .i64 (Val.kind r), .int .i64 (Val.n r), .int .i64 (Val.step r), .str (Val.text r), .sl .own .val (Val.list r), .sl .own .str (Val.columns r), .sl .own .row (Val.rows r)], [], []⟩
def impl_RestrictTable_b10 (N : Nat) (k6 : (List Org) → (List Rowd) → Int → Int → Val → Val → Option (Val)) : Nat → (List Org) → Bool → (List Rowd) → Int → Int → (List Org) → Int → Int → Val → Val → Rowd → Option (Val)
  | 0, _, _, _, _, _, _, _, _, _, _, _ => none
  | n + 1, x1, x8, x24, x25, x26, x31, x32, x33, b4, b5, b7 =>
    bif (decide ((x33 : Int) < x32)) then (
      if (0 : Int) ≤ x33 ∧ x33 < (List.length x31) then
      bif x8 then (
        Option.bind (impl_hasOrigin N x1 (List.getD x31 (Int.toNat x33) Ty.org.dflt)) fun r1 =>
        (impl_RestrictTable_b10 N k6 n x1 r1 x24 x25 x26 x31 x32 (IntKind.i64.wrap (x33 + 1)) b4 b5 b7)
      ) else (
        (impl_RestrictTable_b10 N k6 n x1 false x24 x25 x26 x31 x32 (IntKind.i64.wrap (x33 + 1)) b4 b5 b7)
      )
      else none
    ) else (
      bif x8 then (
        Option.bind (impl_copyRow N b7) fun r1 =>
        if List.length (Val.rows b5) + List.length [r1] ≤ Lim then
        (k6 x1 x24 x25 (IntKind.i64.wrap (x26 + 1)) b4 (Val.mk (Val.kind b5) (Val.n b5) (Val.step b5) (Val.text b5) (Val.list b5) (Val.columns b5) ((Val.rows b5) ++ [r1])))
        else none
      ) else (
        (k6 x1 x24 x25 (IntKind.i64.wrap (x26 + 1)) b4 b5)
      )
    )
def impl_RestrictTable_b6 (N : Nat) : Nat → (List Org) → (List Rowd) → Int → Int → Val → Val → Option (Val)
  | 0, _, _, _, _, _, _ => none
  | n + 1, x1, x24, x25, x26, b4, b5 =>
    bif (decide ((x26 : Int) < x25)) then (
      if (0 : Int) ≤ x26 ∧ x26 < (List.length x24) then
      (impl_RestrictTable_b10 N (fun z0 z1 z2 z3 z4 z5 => (impl_RestrictTable_b6 N n z0 z1 z2 z3 z4 z5)) N x1 true x24 x25 x26 (Rowd.frm (List.getD x24 (Int.toNat x26) Ty.row.dflt)) (List.length (Rowd.frm (List.getD x24 (Int.toNat x26) Ty.row.dflt)) : Int) 0 b4 b5 (List.getD x24 (Int.toNat x26) Ty.row.dflt))
      else none
    ) else (
      some b5
    )
def impl_RestrictTable (N : Nat) (a0 : Val) (a1 : List Org) : Option (Val) :=
  Option.bind (impl_copyValue N a0) fun r1 =>
  bif (((Val.kind a0) : Int) != 5) then (
    some r1
  ) else (
    Option.bind (impl_IsValidValue N a0) fun r2 =>
    bif (!r2) then (
      some r1
    ) else (
      (impl_RestrictTable_b6 N N a1 (Val.rows a0) (List.length (Val.rows a0) : Int) 0 (Val.mk 0 0 0 [] [] [] []) (Val.mk (Val.kind r1) (Val.n r1) (Val.step r1) (Val.text r1) (Val.list r1) (Val.columns r1) []))
    )
  )
def laws_FnExactRestrictTable_as (a0 : Val) (a1 : List Org) : List Arg := [.val (.v true [.int .i64 (Val.kind a0), .int .i64 (Val.n a0), .int .i64 (Val.step a0), .str (Val.text a0), .sl .ro .val (Val.list a0), .sl .ro .str (Val.columns a0), .sl .ro .row (Val.rows a0)]), .val (.v false [.sl .ro .org a1])]
def laws_FnExactRestrictTable_ro (r : Bool) : CallO := ⟨.v false [.bool r], [], []⟩
def laws_FnExactRestrictTable (N : Nat) (a0 : Val) (a1 : List Org) : Option (Bool) :=
  Option.bind (laws_szValue N a0 1048576) fun r1 =>
  bif (decide ((r1 : Int) < 0)) then (
    some true
  ) else (
    Option.bind (laws_szOriginS N a1 r1) fun r2 =>
    bif (decide ((r2 : Int) < 0)) then (
      some true
    ) else (
      Option.bind (laws_toValue N a0) fun r3 =>
      Option.bind (laws_toOriginS N a1) fun r4 =>
      Option.bind (spec_RestrictTable N r3 r4) fun r5 =>
      Option.bind (laws_toValue N a0) fun r6 =>
      Option.bind (laws_toOriginS N a1) fun r7 =>
      Option.bind (impl_RestrictTable N r6 r7) fun r8 =>
      Option.bind (laws_eqValue N r8 r5) fun r9 =>
      bif (!r9) then (
        some false
      ) else (
        Option.bind (laws_toValue N a0) fun r10 =>
        Option.bind (laws_eqValue N r6 r10) fun r11 =>
        bif (!r11) then (
          some false
        ) else (
          Option.bind (laws_toOriginS N a1) fun r12 =>
          Option.bind (laws_eqOriginS N r7 r12) fun r13 =>
          bif (!r13) then (
            some false
          ) else (
            Option.bind (laws_markValue N r6 1) fun r14 =>
            if List.length r14.2.1 = List.length (Val.list r6) then
            if List.length r14.2.2.1 = List.length (Val.columns r6) then
            if List.length r14.2.2.2 = List.length (Val.rows r6) then
            Option.bind (laws_markOriginS N r7 r14.1) fun r15 =>
            if List.length r15.2 = List.length r7 then
            bif (decide ((r15.1 : Int) < 0)) then (
              some false
            ) else (
              Option.bind (laws_eqValue N r8 r5) fun r16 =>
              bif (!r16) then (
                some false
              ) else (
                Option.bind (laws_markValue N r8 1) fun r17 =>
                if List.length r17.2.1 = List.length (Val.list r8) then
                if List.length r17.2.2.1 = List.length (Val.columns r8) then
                if List.length r17.2.2.2 = List.length (Val.rows r8) then
                Option.bind (laws_heldValue N (Val.mk (Val.kind r8) (Val.n r8) (Val.step r8) (Val.text r8) r17.2.1 r17.2.2.1 r17.2.2.2) 1) fun r18 =>
                bif (decide ((r18 : Int) < 0)) then (
                  some false
                ) else (
                  bif ((r18 : Int) != r17.1) then (
                    some false
                  ) else (
                    Option.bind (laws_toValue N a0) fun r19 =>
                    Option.bind (laws_toOriginS N a1) fun r20 =>
                    Option.bind (impl_RestrictTable N r19 r20) fun r21 =>
                    Option.bind (laws_eqValue N r21 r5) fun r22 =>
                    bif (!r22) then (
                      some false
                    ) else (
                      Option.bind (laws_heldValue N (Val.mk (Val.kind r8) (Val.n r8) (Val.step r8) (Val.text r8) r17.2.1 r17.2.2.1 r17.2.2.2) 1) fun r23 =>
                      bif (decide ((r23 : Int) < 0)) then (
                        some false
                      ) else (
                        bif ((r23 : Int) != r17.1) then (
                          some false
                        ) else (
                          some true
                        )
                      )
                    )
                  )
                )
                else none
                else none
                else none
              )
            )
            else none
            else none
            else none
            else none
          )
        )
      )
    )
  )
end Go.Ab
end
section
open Go.Proofs
namespace Go.Ab.T
set_option linter.unusedVariables false
set_option maxRecDepth 100000
noncomputable def I116 : Info := { body := (Try.f116.body).getD .skip, nt := 12, results := [.cell 2 130], keep := [0, 2, 4, 3, 5], live := [], modes := [], ext := [], lnt := [], casts := [], fcast := [] }
theorem fk116 : FnOk Try.prog 116 Try.f116 I116 := ⟨Try.func116, by kernel_rfl, by kernel_rfl, by kernel_rfl, by kernel_rfl⟩
theorem p116_e_0 (a0 : Rowd) : run tt (AbsCalls Try.prog) I116 3000 false [.code I116.body] ⟨(entry 0 (spec_l3Row_as a0)), [], [], []⟩ = some (.done (spec_l3Row_ro (Rowd.mk ([] ++ (Rowd.cells a0)) ([] ++ (Rowd.frm a0)))) [0 + List.length (Rowd.cells a0) ≤ Lim, 0 + List.length (Rowd.frm a0) ≤ Lim]) := by kernel_rfl
theorem c116_e {N : Nat} : ∀ a0 r, spec_l3Row N a0 = some r → Reach Try.prog Try.f116 I116 [.code I116.body] (entry 0 (spec_l3Row_as a0)) (spec_l3Row_ro r) := by
  intro a0 r h
  unfold spec_l3Row at h
  obtain ⟨h0, h⟩ := ite_inv h
  obtain ⟨h1, h⟩ := ite_inv h
  obtain rfl := Option.some.inj h
  exact Reach.done ttok mix fk116 (p116_e_0 a0) (obs_cons h0 (obs_cons h1 obs_nil))
theorem spec_l3Row_ok {N : Nat} {a0 : Rowd} {r : Rowd} (h : spec_l3Row N  a0 = some r) : AbsCalls Try.prog 116 (spec_l3Row_as a0) (spec_l3Row_ro r) :=
 AbsCalls.of_reach fk116 rfl rfl (Nat.le_of_ble_eq_true rfl) (c116_e a0 r h)
noncomputable def I71 : Info := { body := (Try.f71.body).getD .skip, nt := 56, results := [.cell 2 28], keep := [0, 2, 4, 6, 8, 10, 46, 82, 3, 5, 7], live := [(3, [2, 4, 6, 8, 3, 5, 7]), (7, [2, 4, 6, 10, 3, 5, 7])], modes := [(5, [(1, .take, false), (9, .take, false)]), (9, [(1, .take, false), (9, .take, false)]), (10, [(0, .take, false)])], ext := [], lnt := [], casts := [], fcast := [] }
theorem fk71 : FnOk Try.prog 71 Try.f71 I71 := ⟨Try.func71, by kernel_rfl, by kernel_rfl, by kernel_rfl, by kernel_rfl⟩
def S71_3 (x4 : Int) (b1 : Val) (b2 : Val) (b3 : Val) : St := [(2, .v false [.ptr 1 0]), (4, .v false [.ptr 2 0]), (6, .v false [.ptr 3 0]), (8, .v false [.int .i64 x4]), (3, .v true [.int .i64 (Val.kind b1), .int .i64 (Val.n b1), .int .i64 (Val.step b1), .str (Val.text b1), .sl .ro .val (Val.list b1), .sl .ro .str (Val.columns b1), .sl .ro .row (Val.rows b1)]), (5, .v true [.int .i64 (Val.kind b2), .int .i64 (Val.n b2), .int .i64 (Val.step b2), .str (Val.text b2), .sl .own .val (Val.list b2), .sl .own .str (Val.columns b2), .sl .own .row (Val.rows b2)]), (7, .v true [.int .i64 (Val.kind b3), .int .i64 (Val.n b3), .int .i64 (Val.step b3), .str (Val.text b3), .sl .own .val (Val.list b3), .sl .own .str (Val.columns b3), .sl .own .row (Val.rows b3)])]
def S71_7 (x5 : Int) (b1 : Val) (b2 : Val) (b3 : Val) : St := [(2, .v false [.ptr 1 0]), (4, .v false [.ptr 2 0]), (6, .v false [.ptr 3 0]), (10, .v false [.int .i64 x5]), (3, .v true [.int .i64 (Val.kind b1), .int .i64 (Val.n b1), .int .i64 (Val.step b1), .str (Val.text b1), .sl .ro .val (Val.list b1), .sl .ro .str (Val.columns b1), .sl .ro .row (Val.rows b1)]), (5, .v true [.int .i64 (Val.kind b2), .int .i64 (Val.n b2), .int .i64 (Val.step b2), .str (Val.text b2), .sl .own .val (Val.list b2), .sl .own .str (Val.columns b2), .sl .own .row (Val.rows b2)]), (7, .v true [.int .i64 (Val.kind b3), .int .i64 (Val.n b3), .int .i64 (Val.step b3), .str (Val.text b3), .sl .own .val (Val.list b3), .sl .own .str (Val.columns b3), .sl .own .row (Val.rows b3)])]
theorem p71_7_0 (x5 : Int) (b1 : Val) (b2 : Val) (b3 : Val) (r1 : Rowd) : run tt (AbsCalls Try.prog) I71 3000 true (stkAt 7 I71.body) ⟨(S71_7 x5 b1 b2 b3), [true], [spec_l3Row_ro r1], []⟩ = some (.stop (stkAt 7 I71.body) (S71_7 (IntKind.i64.wrap (x5 + 1)) b1 b2 (Val.mk (Val.kind b3) (Val.n b3) (Val.step b3) (Val.text b3) (Val.list b3) (Val.columns b3) ((Val.rows b3) ++ [r1]))) [(decide ((x5 : Int) < (List.length (Val.rows b1) : Int))) = true, (0 : Int) ≤ x5 ∧ x5 < (List.length (Val.rows b1)), AbsCalls Try.prog 116 (spec_l3Row_as (List.getD (Val.rows b1) (Int.toNat x5) Ty.row.dflt)) (spec_l3Row_ro r1), List.length (Val.rows b3) + List.length [r1] ≤ Lim]) := by kernel_rfl
theorem p71_7_1 (x5 : Int) (b1 : Val) (b2 : Val) (b3 : Val) : run tt (AbsCalls Try.prog) I71 3000 true (stkAt 7 I71.body) ⟨(S71_7 x5 b1 b2 b3), [false], [], []⟩ = some (.done (spec_l3Copy_ro b3) [(decide ((x5 : Int) < (List.length (Val.rows b1) : Int))) = false]) := by kernel_rfl
theorem p71_3_2 (x4 : Int) (b1 : Val) (b2 : Val) (b3 : Val) (r1 : Val) : run tt (AbsCalls Try.prog) I71 3000 true (stkAt 3 I71.body) ⟨(S71_3 x4 b1 b2 b3), [true], [spec_l3Copy_ro r1], []⟩ = some (.stop (stkAt 3 I71.body) (S71_3 (IntKind.i64.wrap (x4 + 1)) b1 b2 (Val.mk (Val.kind b3) (Val.n b3) (Val.step b3) (Val.text b3) ((Val.list b3) ++ [(Val.re r1)]) (Val.columns b3) (Val.rows b3))) [(decide ((x4 : Int) < (List.length (Val.list b1) : Int))) = true, (0 : Int) ≤ x4 ∧ x4 < (List.length (Val.list b1)), AbsCalls Try.prog 71 (spec_l3Copy_as (List.getD (Val.list b1) (Int.toNat x4) Ty.val.dflt)) (spec_l3Copy_ro r1), List.length (Val.list b3) + List.length [(Val.re r1)] ≤ Lim]) := by kernel_rfl
theorem p71_3_3 (x4 : Int) (b1 : Val) (b2 : Val) (b3 : Val) : run tt (AbsCalls Try.prog) I71 3000 true (stkAt 3 I71.body) ⟨(S71_3 x4 b1 b2 b3), [false], [], []⟩ = some (.stop (stkAt 7 I71.body) (S71_7 0 b1 b2 b3) [(decide ((x4 : Int) < (List.length (Val.list b1) : Int))) = false]) := by kernel_rfl
theorem p71_e_4 (a0 : Val) : run tt (AbsCalls Try.prog) I71 3000 false [.code I71.body] ⟨(entry 0 (spec_l3Copy_as a0)), [], [], []⟩ = some (.stop (stkAt 3 I71.body) (S71_3 0 a0 (Val.mk 0 0 0 [] [] [] []) (Val.mk (Val.kind a0) (Val.n a0) (Val.step a0) (Val.text a0) [] ([] ++ (Val.columns a0)) [])) [0 + List.length (Val.columns a0) ≤ Lim]) := by kernel_rfl
theorem c71_7 {N : Nat} {rc_spec_l3Copy : Val → Option (Val)} (hrc_spec_l3Copy : ∀ a0 r, rc_spec_l3Copy a0 = some r → AbsCalls Try.prog 71 (spec_l3Copy_as a0) (spec_l3Copy_ro r)) : ∀ n x5 b1 b2 b3 r, spec_l3Copy_b7 N rc_spec_l3Copy n x5 b1 b2 b3 = some r → Reach Try.prog Try.f71 I71 (stkAt 7 I71.body) (S71_7 x5 b1 b2 b3) (spec_l3Copy_ro r) := by
  intro n
  induction n with
  | zero => intro x5 b1 b2 b3 r h; have h' : (none : Option (Val)) = some r := h; cases h'
  | succ n ih =>
    intro x5 b1 b2 b3 r h
    rw [spec_l3Copy_b7] at h
    rcases cond_inv h with ⟨h0, h⟩ | ⟨h0, h⟩
    · obtain ⟨h1, h⟩ := ite_inv h
      obtain ⟨r1, h2, h⟩ := bind_inv h
      obtain ⟨h3, h⟩ := ite_inv h
      exact Reach.stop ttok mix fk71 (p71_7_0 x5 b1 b2 b3 r1) (obs_cons h0 (obs_cons h1 (obs_cons (spec_l3Row_ok h2) (obs_cons h3 obs_nil)))) (ih _ _ _ _ _ h)
    · obtain rfl := Option.some.inj h
      exact Reach.done ttok mix fk71 (p71_7_1 x5 b1 b2 b3) (obs_cons h0 obs_nil)
theorem c71_3 {N : Nat} {rc_spec_l3Copy : Val → Option (Val)} (hrc_spec_l3Copy : ∀ a0 r, rc_spec_l3Copy a0 = some r → AbsCalls Try.prog 71 (spec_l3Copy_as a0) (spec_l3Copy_ro r)) : ∀ n x4 b1 b2 b3 r, spec_l3Copy_b3 N rc_spec_l3Copy n x4 b1 b2 b3 = some r → Reach Try.prog Try.f71 I71 (stkAt 3 I71.body) (S71_3 x4 b1 b2 b3) (spec_l3Copy_ro r) := by
  intro n
  induction n with
  | zero => intro x4 b1 b2 b3 r h; have h' : (none : Option (Val)) = some r := h; cases h'
  | succ n ih =>
    intro x4 b1 b2 b3 r h
    rw [spec_l3Copy_b3] at h
    rcases cond_inv h with ⟨h0, h⟩ | ⟨h0, h⟩
    · obtain ⟨h1, h⟩ := ite_inv h
      obtain ⟨r1, h2, h⟩ := bind_inv h
      obtain ⟨h3, h⟩ := ite_inv h
      exact Reach.stop ttok mix fk71 (p71_3_2 x4 b1 b2 b3 r1) (obs_cons h0 (obs_cons h1 (obs_cons (hrc_spec_l3Copy _ _ h2) (obs_cons h3 obs_nil)))) (ih _ _ _ _ _ h)
    · exact Reach.stop ttok mix fk71 (p71_3_3 x4 b1 b2 b3) (obs_cons h0 obs_nil) (c71_7 hrc_spec_l3Copy  _ _ _ _ _ _ h)
theorem c71_e {N : Nat} {rc_spec_l3Copy : Val → Option (Val)} (hrc_spec_l3Copy : ∀ a0 r, rc_spec_l3Copy a0 = some r → AbsCalls Try.prog 71 (spec_l3Copy_as a0) (spec_l3Copy_ro r)) : ∀ a0 r, spec_l3Copy_body N rc_spec_l3Copy a0 = some r → Reach Try.prog Try.f71 I71 [.code I71.body] (entry 0 (spec_l3Copy_as a0)) (spec_l3Copy_ro r) := by
  intro a0 r h
  unfold spec_l3Copy_body at h
  obtain ⟨h0, h⟩ := ite_inv h
  exact Reach.stop ttok mix fk71 (p71_e_4 a0) (obs_cons h0 obs_nil) (c71_3 hrc_spec_l3Copy  _ _ _ _ _ _ h)
theorem spec_l3Copy_body_ok {N : Nat} {rc_spec_l3Copy : Val → Option (Val)} (hrc_spec_l3Copy : ∀ a0 r, rc_spec_l3Copy a0 = some r → AbsCalls Try.prog 71 (spec_l3Copy_as a0) (spec_l3Copy_ro r)) {a0 : Val} {r : Val} (h : spec_l3Copy_body N rc_spec_l3Copy a0 = some r) : AbsCalls Try.prog 71 (spec_l3Copy_as a0) (spec_l3Copy_ro r) :=
 AbsCalls.of_reach fk71 rfl rfl (Nat.le_of_ble_eq_true rfl) (c71_e hrc_spec_l3Copy a0 r h)
theorem spec_l3Copy_fix_ok {N : Nat} : ∀ d, (∀ a0 r, spec_l3Copy_fix N d a0 = some r → AbsCalls Try.prog 71 (spec_l3Copy_as a0) (spec_l3Copy_ro r)) := by
  intro d
  induction d with
  | zero => intro _ r h; have h' : (none : Option (Val)) = some r := h; cases h'
  | succ d ih => intro _ r h; exact spec_l3Copy_body_ok (N := N) ih h
theorem spec_l3Copy_ok {N : Nat} {a0 : Val} {r : Val} (h : spec_l3Copy N a0 = some r) : AbsCalls Try.prog 71 (spec_l3Copy_as a0) (spec_l3Copy_ro r) := spec_l3Copy_fix_ok N _ r h
noncomputable def I119 : Info := { body := (Try.f119.body).getD .skip, nt := 12, results := [.cell 2 130], keep := [0, 2, 4, 3, 5], live := [], modes := [], ext := [], lnt := [], casts := [], fcast := [] }
theorem fk119 : FnOk Try.prog 119 Try.f119 I119 := ⟨Try.func119, by kernel_rfl, by kernel_rfl, by kernel_rfl, by kernel_rfl⟩
theorem p119_e_0 (a0 : Rowd) : run tt (AbsCalls Try.prog) I119 3000 false [.code I119.body] ⟨(entry 0 (impl_copyRow_as a0)), [], [], []⟩ = some (.done (impl_copyRow_ro (Rowd.mk ([] ++ (Rowd.cells a0)) ([] ++ (Rowd.frm a0)))) [0 + List.length (Rowd.cells a0) ≤ Lim, 0 + List.length (Rowd.frm a0) ≤ Lim]) := by kernel_rfl
theorem c119_e {N : Nat} : ∀ a0 r, impl_copyRow N a0 = some r → Reach Try.prog Try.f119 I119 [.code I119.body] (entry 0 (impl_copyRow_as a0)) (impl_copyRow_ro r) := by
  intro a0 r h
  unfold impl_copyRow at h
  obtain ⟨h0, h⟩ := ite_inv h
  obtain ⟨h1, h⟩ := ite_inv h
  obtain rfl := Option.some.inj h
  exact Reach.done ttok mix fk119 (p119_e_0 a0) (obs_cons h0 (obs_cons h1 obs_nil))
theorem impl_copyRow_ok {N : Nat} {a0 : Rowd} {r : Rowd} (h : impl_copyRow N  a0 = some r) : AbsCalls Try.prog 119 (impl_copyRow_as a0) (impl_copyRow_ro r) :=
 AbsCalls.of_reach fk119 rfl rfl (Nat.le_of_ble_eq_true rfl) (c119_e a0 r h)
noncomputable def I74 : Info := { body := (Try.f74.body).getD .skip, nt := 33, results := [.cell 2 28], keep := [0, 2, 4, 6, 10, 36, 38, 40, 42, 3, 5, 7, 11], live := [(6, [4, 6, 36, 38, 40, 5, 7])], modes := [(8, [(1, .take, false), (5, .take, false)]), (9, [(1, .take, false)]), (10, [(0, .take, false)])], ext := [], lnt := [], casts := [], fcast := [] }
theorem fk74 : FnOk Try.prog 74 Try.f74 I74 := ⟨Try.func74, by kernel_rfl, by kernel_rfl, by kernel_rfl, by kernel_rfl⟩
def S74_6 (x18 : List Rowd) (x19 : Int) (x20 : Int) (b2 : Val) (b3 : Val) : St := [(4, .v false [.ptr 2 0]), (6, .v false [.ptr 3 0]), (36, .v false [.sl .ro .row x18]), (38, .v false [.int .i64 x19]), (40, .v false [.int .i64 x20]), (5, .v true [.int .i64 (Val.kind b2), .int .i64 (Val.n b2), .int .i64 (Val.step b2), .str (Val.text b2), .sl .own .val (Val.list b2), .sl .own .str (Val.columns b2), .sl .own .row (Val.rows b2)]), (7, .v true [.int .i64 (Val.kind b3), .int .i64 (Val.n b3), .int .i64 (Val.step b3), .str (Val.text b3), .sl .own .val (Val.list b3), .sl .own .str (Val.columns b3), .sl .own .row (Val.rows b3)])]
theorem p74_6_0 (x18 : List Rowd) (x19 : Int) (x20 : Int) (b2 : Val) (b3 : Val) (r1 : Rowd) : run tt (AbsCalls Try.prog) I74 3000 true (stkAt 6 I74.body) ⟨(S74_6 x18 x19 x20 b2 b3), [true], [impl_copyRow_ro r1], []⟩ = some (.stop (stkAt 6 I74.body) (S74_6 x18 x19 (IntKind.i64.wrap (x20 + 1)) b2 (Val.mk (Val.kind b3) (Val.n b3) (Val.step b3) (Val.text b3) (Val.list b3) (Val.columns b3) ((Val.rows b3) ++ [r1]))) [(decide ((x20 : Int) < x19)) = true, (0 : Int) ≤ x20 ∧ x20 < (List.length x18), AbsCalls Try.prog 119 (impl_copyRow_as (List.getD x18 (Int.toNat x20) Ty.row.dflt)) (impl_copyRow_ro r1), List.length (Val.rows b3) + List.length [r1] ≤ Lim]) := by kernel_rfl
theorem p74_6_1 (x18 : List Rowd) (x19 : Int) (x20 : Int) (b2 : Val) (b3 : Val) : run tt (AbsCalls Try.prog) I74 3000 true (stkAt 6 I74.body) ⟨(S74_6 x18 x19 x20 b2 b3), [false], [], []⟩ = some (.done (impl_copyValue_ro b3) [(decide ((x20 : Int) < x19)) = false]) := by kernel_rfl
theorem p74_e_2 (a0 : Val) (r1 : (List Val)) : run tt (AbsCalls Try.prog) I74 3000 false [.code I74.body] ⟨(entry 0 (impl_copyValue_as a0)), [], [impl_copyValues_ro r1], []⟩ = some (.stop (stkAt 6 I74.body) (S74_6 (Val.rows a0) (List.length (Val.rows a0) : Int) 0 (Val.mk 0 0 0 [] [] [] []) (Val.mk (Val.kind a0) (Val.n a0) (Val.step a0) (Val.text a0) r1 ([] ++ (Val.columns a0)) [])) [AbsCalls Try.prog 128 (impl_copyValues_as (Val.list a0)) (impl_copyValues_ro r1), 0 + List.length (Val.columns a0) ≤ Lim]) := by kernel_rfl
theorem c74_6 {N : Nat} {rc_impl_copyValue : Val → Option (Val)} (hrc_impl_copyValue : ∀ a0 r, rc_impl_copyValue a0 = some r → AbsCalls Try.prog 74 (impl_copyValue_as a0) (impl_copyValue_ro r)) {rc_impl_copyValues : (List Val) → Option ((List Val))} (hrc_impl_copyValues : ∀ a0 r, rc_impl_copyValues a0 = some r → AbsCalls Try.prog 128 (impl_copyValues_as a0) (impl_copyValues_ro r)) : ∀ n x18 x19 x20 b2 b3 r, impl_copyValue_b6 N rc_impl_copyValue rc_impl_copyValues n x18 x19 x20 b2 b3 = some r → Reach Try.prog Try.f74 I74 (stkAt 6 I74.body) (S74_6 x18 x19 x20 b2 b3) (impl_copyValue_ro r) := by
  intro n
  induction n with
  | zero => intro x18 x19 x20 b2 b3 r h; have h' : (none : Option (Val)) = some r := h; cases h'
  | succ n ih =>
    intro x18 x19 x20 b2 b3 r h
    rw [impl_copyValue_b6] at h
    rcases cond_inv h with ⟨h0, h⟩ | ⟨h0, h⟩
    · obtain ⟨h1, h⟩ := ite_inv h
      obtain ⟨r1, h2, h⟩ := bind_inv h
      obtain ⟨h3, h⟩ := ite_inv h
      exact Reach.stop ttok mix fk74 (p74_6_0 x18 x19 x20 b2 b3 r1) (obs_cons h0 (obs_cons h1 (obs_cons (impl_copyRow_ok h2) (obs_cons h3 obs_nil)))) (ih _ _ _ _ _ _ h)
    · obtain rfl := Option.some.inj h
      exact Reach.done ttok mix fk74 (p74_6_1 x18 x19 x20 b2 b3) (obs_cons h0 obs_nil)
theorem c74_e {N : Nat} {rc_impl_copyValue : Val → Option (Val)} (hrc_impl_copyValue : ∀ a0 r, rc_impl_copyValue a0 = some r → AbsCalls Try.prog 74 (impl_copyValue_as a0) (impl_copyValue_ro r)) {rc_impl_copyValues : (List Val) → Option ((List Val))} (hrc_impl_copyValues : ∀ a0 r, rc_impl_copyValues a0 = some r → AbsCalls Try.prog 128 (impl_copyValues_as a0) (impl_copyValues_ro r)) : ∀ a0 r, impl_copyValue_body N rc_impl_copyValue rc_impl_copyValues a0 = some r → Reach Try.prog Try.f74 I74 [.code I74.body] (entry 0 (impl_copyValue_as a0)) (impl_copyValue_ro r) := by
  intro a0 r h
  unfold impl_copyValue_body at h
  obtain ⟨r1, h0, h⟩ := bind_inv h
  obtain ⟨h1, h⟩ := ite_inv h
  exact Reach.stop ttok mix fk74 (p74_e_2 a0 r1) (obs_cons (hrc_impl_copyValues _ _ h0) (obs_cons h1 obs_nil)) (c74_6 hrc_impl_copyValue hrc_impl_copyValues  _ _ _ _ _ _ _ h)
theorem impl_copyValue_body_ok {N : Nat} {rc_impl_copyValue : Val → Option (Val)} (hrc_impl_copyValue : ∀ a0 r, rc_impl_copyValue a0 = some r → AbsCalls Try.prog 74 (impl_copyValue_as a0) (impl_copyValue_ro r)) {rc_impl_copyValues : (List Val) → Option ((List Val))} (hrc_impl_copyValues : ∀ a0 r, rc_impl_copyValues a0 = some r → AbsCalls Try.prog 128 (impl_copyValues_as a0) (impl_copyValues_ro r)) {a0 : Val} {r : Val} (h : impl_copyValue_body N rc_impl_copyValue rc_impl_copyValues a0 = some r) : AbsCalls Try.prog 74 (impl_copyValue_as a0) (impl_copyValue_ro r) :=
 AbsCalls.of_reach fk74 rfl rfl (Nat.le_of_ble_eq_true rfl) (c74_e hrc_impl_copyValue hrc_impl_copyValues a0 r h)
noncomputable def I128 : Info := { body := (Try.f128.body).getD .skip, nt := 20, results := [.tmp 2], keep := [0, 4, 6, 10, 14, 16, 18, 20, 11], live := [(3, [6, 14, 16, 18])], modes := [(5, [(0, .take, false), (4, .take, false)]), (6, [(1, .take, false)]), (7, [(0, .take, false)])], ext := [], lnt := [], casts := [], fcast := [] }
theorem fk128 : FnOk Try.prog 128 Try.f128 I128 := ⟨Try.func128, by kernel_rfl, by kernel_rfl, by kernel_rfl, by kernel_rfl⟩
def S128_3 (x3 : List Val) (x7 : List Val) (x8 : Int) (x9 : Int) : St := [(6, .v false [.sl .own .val x3]), (14, .v false [.sl .ro .val x7]), (16, .v false [.int .i64 x8]), (18, .v false [.int .i64 x9])]
theorem p128_3_0 (x3 : List Val) (x7 : List Val) (x8 : Int) (x9 : Int) (r1 : Val) : run tt (AbsCalls Try.prog) I128 3000 true (stkAt 3 I128.body) ⟨(S128_3 x3 x7 x8 x9), [true], [impl_copyValue_ro r1], []⟩ = some (.stop (stkAt 3 I128.body) (S128_3 (x3 ++ [(Val.re r1)]) x7 x8 (IntKind.i64.wrap (x9 + 1))) [(decide ((x9 : Int) < x8)) = true, (0 : Int) ≤ x9 ∧ x9 < (List.length x7), AbsCalls Try.prog 74 (impl_copyValue_as (List.getD x7 (Int.toNat x9) Ty.val.dflt)) (impl_copyValue_ro r1), List.length x3 + List.length [(Val.re r1)] ≤ Lim]) := by kernel_rfl
theorem p128_3_1 (x3 : List Val) (x7 : List Val) (x8 : Int) (x9 : Int) : run tt (AbsCalls Try.prog) I128 3000 true (stkAt 3 I128.body) ⟨(S128_3 x3 x7 x8 x9), [false], [], []⟩ = some (.done (impl_copyValues_ro x3) [(decide ((x9 : Int) < x8)) = false]) := by kernel_rfl
theorem p128_e_2 (a0 : List Val) : run tt (AbsCalls Try.prog) I128 3000 false [.code I128.body] ⟨(entry 0 (impl_copyValues_as a0)), [], [], []⟩ = some (.stop (stkAt 3 I128.body) (S128_3 [] a0 (List.length a0 : Int) 0) []) := by kernel_rfl
theorem c128_3 {N : Nat} {rc_impl_copyValue : Val → Option (Val)} (hrc_impl_copyValue : ∀ a0 r, rc_impl_copyValue a0 = some r → AbsCalls Try.prog 74 (impl_copyValue_as a0) (impl_copyValue_ro r)) {rc_impl_copyValues : (List Val) → Option ((List Val))} (hrc_impl_copyValues : ∀ a0 r, rc_impl_copyValues a0 = some r → AbsCalls Try.prog 128 (impl_copyValues_as a0) (impl_copyValues_ro r)) : ∀ n x3 x7 x8 x9 r, impl_copyValues_b3 N rc_impl_copyValue rc_impl_copyValues n x3 x7 x8 x9 = some r → Reach Try.prog Try.f128 I128 (stkAt 3 I128.body) (S128_3 x3 x7 x8 x9) (impl_copyValues_ro r) := by
  intro n
  induction n with
  | zero => intro x3 x7 x8 x9 r h; have h' : (none : Option ((List Val))) = some r := h; cases h'
  | succ n ih =>
    intro x3 x7 x8 x9 r h
    rw [impl_copyValues_b3] at h
    rcases cond_inv h with ⟨h0, h⟩ | ⟨h0, h⟩
    · obtain ⟨h1, h⟩ := ite_inv h
      obtain ⟨r1, h2, h⟩ := bind_inv h
      obtain ⟨h3, h⟩ := ite_inv h
      exact Reach.stop ttok mix fk128 (p128_3_0 x3 x7 x8 x9 r1) (obs_cons h0 (obs_cons h1 (obs_cons (hrc_impl_copyValue _ _ h2) (obs_cons h3 obs_nil)))) (ih _ _ _ _ _ h)
    · obtain rfl := Option.some.inj h
      exact Reach.done ttok mix fk128 (p128_3_1 x3 x7 x8 x9) (obs_cons h0 obs_nil)
theorem c128_e {N : Nat} {rc_impl_copyValue : Val → Option (Val)} (hrc_impl_copyValue : ∀ a0 r, rc_impl_copyValue a0 = some r → AbsCalls Try.prog 74 (impl_copyValue_as a0) (impl_copyValue_ro r)) {rc_impl_copyValues : (List Val) → Option ((List Val))} (hrc_impl_copyValues : ∀ a0 r, rc_impl_copyValues a0 = some r → AbsCalls Try.prog 128 (impl_copyValues_as a0) (impl_copyValues_ro r)) : ∀ a0 r, impl_copyValues_body N rc_impl_copyValue rc_impl_copyValues a0 = some r → Reach Try.prog Try.f128 I128 [.code I128.body] (entry 0 (impl_copyValues_as a0)) (impl_copyValues_ro r) := by
  intro a0 r h
  unfold impl_copyValues_body at h
  exact Reach.stop ttok mix fk128 (p128_e_2 a0) obs_nil (c128_3 hrc_impl_copyValue hrc_impl_copyValues  _ _ _ _ _ _ h)
theorem impl_copyValues_body_ok {N : Nat} {rc_impl_copyValue : Val → Option (Val)} (hrc_impl_copyValue : ∀ a0 r, rc_impl_copyValue a0 = some r → AbsCalls Try.prog 74 (impl_copyValue_as a0) (impl_copyValue_ro r)) {rc_impl_copyValues : (List Val) → Option ((List Val))} (hrc_impl_copyValues : ∀ a0 r, rc_impl_copyValues a0 = some r → AbsCalls Try.prog 128 (impl_copyValues_as a0) (impl_copyValues_ro r)) {a0 : List Val} {r : (List Val)} (h : impl_copyValues_body N rc_impl_copyValue rc_impl_copyValues a0 = some r) : AbsCalls Try.prog 128 (impl_copyValues_as a0) (impl_copyValues_ro r) :=
 AbsCalls.of_reach fk128 rfl rfl (Nat.le_of_ble_eq_true rfl) (c128_e hrc_impl_copyValue hrc_impl_copyValues a0 r h)
theorem impl_copyValue_fix_ok {N : Nat} : ∀ d, (∀ a0 r, (impl_copyValue_fix N d).c_impl_copyValue a0 = some r → AbsCalls Try.prog 74 (impl_copyValue_as a0) (impl_copyValue_ro r)) ∧ (∀ a0 r, (impl_copyValue_fix N d).c_impl_copyValues a0 = some r → AbsCalls Try.prog 128 (impl_copyValues_as a0) (impl_copyValues_ro r)) := by
  intro d
  induction d with
  | zero =>
    refine ⟨?_, ?_⟩ <;> (intros; rename_i h; cases h)
  | succ d ih =>
    obtain ⟨ih0, ih1⟩ := ih
    refine ⟨?_, ?_⟩
    · intro _ r h; exact impl_copyValue_body_ok (N := N) ih0 ih1 h
    · intro _ r h; exact impl_copyValues_body_ok (N := N) ih0 ih1 h
theorem impl_copyValue_ok {N : Nat} {a0 : Val} {r : Val} (h : impl_copyValue N a0 = some r) : AbsCalls Try.prog 74 (impl_copyValue_as a0) (impl_copyValue_ro r) := (impl_copyValue_fix_ok N).1 _ r h
end Go.Ab.T
end
section
open Go.Proofs
namespace Go.Ab.T
set_option linter.unusedVariables false
set_option maxRecDepth 100000
noncomputable def I144 : Info := { body := (Try.f144.body).getD .skip, nt := 18, results := [.tmp 4], keep := [0, 2, 6, 8, 10, 18, 34, 7], live := [(2, [0, 6, 10, 7])], modes := [], ext := [], lnt := [], casts := [], fcast := [] }
theorem fk144 : FnOk Try.prog 144 Try.f144 I144 := ⟨Try.func144, by kernel_rfl, by kernel_rfl, by kernel_rfl, by kernel_rfl⟩
def S144_2 (x0 : List Org) (x5 : Int) (b3 : Org) : St := [(0, .v false [.sl .ro .org x0]), (6, .v false [.ptr 3 0]), (10, .v false [.int .i64 x5]), (7, .v true [.int .i64 (Org.cell b3), .int .i64 (Org.row b3)])]
theorem p144_2_0 (x0 : List Org) (x5 : Int) (b3 : Org) : run tt (AbsCalls Try.prog) I144 3000 true (stkAt 2 I144.body) ⟨(S144_2 x0 x5 b3), [true, true], [], []⟩ = some (.done (spec_l8Has_ro true) [(decide ((x5 : Int) < (List.length x0 : Int))) = true, (0 : Int) ≤ x5 ∧ x5 < (List.length x0), ((((Org.cell (List.getD x0 (Int.toNat x5) Ty.org.dflt)) : Int) == (Org.cell b3)) && (((Org.row (List.getD x0 (Int.toNat x5) Ty.org.dflt)) : Int) == (Org.row b3))) = true]) := by kernel_rfl
theorem p144_2_1 (x0 : List Org) (x5 : Int) (b3 : Org) : run tt (AbsCalls Try.prog) I144 3000 true (stkAt 2 I144.body) ⟨(S144_2 x0 x5 b3), [true, false], [], []⟩ = some (.stop (stkAt 2 I144.body) (S144_2 x0 (IntKind.i64.wrap (x5 + 1)) b3) [(decide ((x5 : Int) < (List.length x0 : Int))) = true, (0 : Int) ≤ x5 ∧ x5 < (List.length x0), ((((Org.cell (List.getD x0 (Int.toNat x5) Ty.org.dflt)) : Int) == (Org.cell b3)) && (((Org.row (List.getD x0 (Int.toNat x5) Ty.org.dflt)) : Int) == (Org.row b3))) = false]) := by kernel_rfl
theorem p144_2_2 (x0 : List Org) (x5 : Int) (b3 : Org) : run tt (AbsCalls Try.prog) I144 3000 true (stkAt 2 I144.body) ⟨(S144_2 x0 x5 b3), [false], [], []⟩ = some (.done (spec_l8Has_ro false) [(decide ((x5 : Int) < (List.length x0 : Int))) = false]) := by kernel_rfl
theorem p144_e_3 (a0 : List Org) (a1 : Org) : run tt (AbsCalls Try.prog) I144 3000 false [.code I144.body] ⟨(entry 0 (spec_l8Has_as a0 a1)), [], [], []⟩ = some (.stop (stkAt 2 I144.body) (S144_2 a0 0 a1) []) := by kernel_rfl
theorem c144_2 {N : Nat} : ∀ n x0 x5 b3 r, spec_l8Has_b2 N n x0 x5 b3 = some r → Reach Try.prog Try.f144 I144 (stkAt 2 I144.body) (S144_2 x0 x5 b3) (spec_l8Has_ro r) := by
  intro n
  induction n with
  | zero => intro x0 x5 b3 r h; have h' : (none : Option (Bool)) = some r := h; cases h'
  | succ n ih =>
    intro x0 x5 b3 r h
    rw [spec_l8Has_b2] at h
    rcases cond_inv h with ⟨h0, h⟩ | ⟨h0, h⟩
    · obtain ⟨h1, h⟩ := ite_inv h
      rcases cond_inv h with ⟨h2, h⟩ | ⟨h2, h⟩
      · obtain rfl := Option.some.inj h
        exact Reach.done ttok mix fk144 (p144_2_0 x0 x5 b3) (obs_cons h0 (obs_cons h1 (obs_cons h2 obs_nil)))
      · exact Reach.stop ttok mix fk144 (p144_2_1 x0 x5 b3) (obs_cons h0 (obs_cons h1 (obs_cons h2 obs_nil))) (ih _ _ _ _ h)
    · obtain rfl := Option.some.inj h
      exact Reach.done ttok mix fk144 (p144_2_2 x0 x5 b3) (obs_cons h0 obs_nil)
theorem c144_e {N : Nat} : ∀ a0 a1 r, spec_l8Has N a0 a1 = some r → Reach Try.prog Try.f144 I144 [.code I144.body] (entry 0 (spec_l8Has_as a0 a1)) (spec_l8Has_ro r) := by
  intro a0 a1 r h
  unfold spec_l8Has at h
  exact Reach.stop ttok mix fk144 (p144_e_3 a0 a1) obs_nil (c144_2   _ _ _ _ _ h)
theorem spec_l8Has_ok {N : Nat} {a0 : List Org} {a1 : Org} {r : Bool} (h : spec_l8Has N  a0 a1 = some r) : AbsCalls Try.prog 144 (spec_l8Has_as a0 a1) (spec_l8Has_ro r) :=
 AbsCalls.of_reach fk144 rfl rfl (Nat.le_of_ble_eq_true rfl) (c144_e a0 a1 r h)
noncomputable def I115 : Info := { body := (Try.f115.body).getD .skip, nt := 19, results := [.tmp 4], keep := [0, 2, 8, 10, 18, 36], live := [(2, [0, 2, 10])], modes := [], ext := [], lnt := [], casts := [], fcast := [] }
theorem fk115 : FnOk Try.prog 115 Try.f115 I115 := ⟨Try.func115, by kernel_rfl, by kernel_rfl, by kernel_rfl, by kernel_rfl⟩
def S115_2 (x0 : List Org) (x1 : List Org) (x5 : Int) : St := [(0, .v false [.sl .ro .org x0]), (2, .v false [.sl .ro .org x1]), (10, .v false [.int .i64 x5])]
theorem p115_2_0 (x0 : List Org) (x1 : List Org) (x5 : Int) (r1 : Bool) : run tt (AbsCalls Try.prog) I115 3000 true (stkAt 2 I115.body) ⟨(S115_2 x0 x1 x5), [true, true], [spec_l8Has_ro r1], []⟩ = some (.done (spec_l8Beneath_ro false) [(decide ((x5 : Int) < (List.length x0 : Int))) = true, (0 : Int) ≤ x5 ∧ x5 < (List.length x0), AbsCalls Try.prog 144 (spec_l8Has_as x1 (List.getD x0 (Int.toNat x5) Ty.org.dflt)) (spec_l8Has_ro r1), (!r1) = true]) := by kernel_rfl
theorem p115_2_1 (x0 : List Org) (x1 : List Org) (x5 : Int) (r1 : Bool) : run tt (AbsCalls Try.prog) I115 3000 true (stkAt 2 I115.body) ⟨(S115_2 x0 x1 x5), [true, false], [spec_l8Has_ro r1], []⟩ = some (.stop (stkAt 2 I115.body) (S115_2 x0 x1 (IntKind.i64.wrap (x5 + 1))) [(decide ((x5 : Int) < (List.length x0 : Int))) = true, (0 : Int) ≤ x5 ∧ x5 < (List.length x0), AbsCalls Try.prog 144 (spec_l8Has_as x1 (List.getD x0 (Int.toNat x5) Ty.org.dflt)) (spec_l8Has_ro r1), (!r1) = false]) := by kernel_rfl
theorem p115_2_2 (x0 : List Org) (x1 : List Org) (x5 : Int) : run tt (AbsCalls Try.prog) I115 3000 true (stkAt 2 I115.body) ⟨(S115_2 x0 x1 x5), [false], [], []⟩ = some (.done (spec_l8Beneath_ro true) [(decide ((x5 : Int) < (List.length x0 : Int))) = false]) := by kernel_rfl
theorem p115_e_3 (a0 : List Org) (a1 : List Org) : run tt (AbsCalls Try.prog) I115 3000 false [.code I115.body] ⟨(entry 0 (spec_l8Beneath_as a0 a1)), [], [], []⟩ = some (.stop (stkAt 2 I115.body) (S115_2 a0 a1 0) []) := by kernel_rfl
theorem c115_2 {N : Nat} : ∀ n x0 x1 x5 r, spec_l8Beneath_b2 N n x0 x1 x5 = some r → Reach Try.prog Try.f115 I115 (stkAt 2 I115.body) (S115_2 x0 x1 x5) (spec_l8Beneath_ro r) := by
  intro n
  induction n with
  | zero => intro x0 x1 x5 r h; have h' : (none : Option (Bool)) = some r := h; cases h'
  | succ n ih =>
    intro x0 x1 x5 r h
    rw [spec_l8Beneath_b2] at h
    rcases cond_inv h with ⟨h0, h⟩ | ⟨h0, h⟩
    · obtain ⟨h1, h⟩ := ite_inv h
      obtain ⟨r1, h2, h⟩ := bind_inv h
      rcases cond_inv h with ⟨h3, h⟩ | ⟨h3, h⟩
      · obtain rfl := Option.some.inj h
        exact Reach.done ttok mix fk115 (p115_2_0 x0 x1 x5 r1) (obs_cons h0 (obs_cons h1 (obs_cons (spec_l8Has_ok h2) (obs_cons h3 obs_nil))))
      · exact Reach.stop ttok mix fk115 (p115_2_1 x0 x1 x5 r1) (obs_cons h0 (obs_cons h1 (obs_cons (spec_l8Has_ok h2) (obs_cons h3 obs_nil)))) (ih _ _ _ _ h)
    · obtain rfl := Option.some.inj h
      exact Reach.done ttok mix fk115 (p115_2_2 x0 x1 x5) (obs_cons h0 obs_nil)
theorem c115_e {N : Nat} : ∀ a0 a1 r, spec_l8Beneath N a0 a1 = some r → Reach Try.prog Try.f115 I115 [.code I115.body] (entry 0 (spec_l8Beneath_as a0 a1)) (spec_l8Beneath_ro r) := by
  intro a0 a1 r h
  unfold spec_l8Beneath at h
  exact Reach.stop ttok mix fk115 (p115_e_3 a0 a1) obs_nil (c115_2   _ _ _ _ _ h)
theorem spec_l8Beneath_ok {N : Nat} {a0 : List Org} {a1 : List Org} {r : Bool} (h : spec_l8Beneath N  a0 a1 = some r) : AbsCalls Try.prog 115 (spec_l8Beneath_as a0 a1) (spec_l8Beneath_ro r) :=
 AbsCalls.of_reach fk115 rfl rfl (Nat.le_of_ble_eq_true rfl) (c115_e a0 a1 r h)
noncomputable def I55 : Info := { body := (Try.f55.body).getD .skip, nt := 49, results := [.cell 4 28], keep := [0, 2, 4, 8, 10, 12, 28, 52, 72, 5, 9, 11], live := [(5, [2, 4, 8, 10, 12, 5, 9, 11])], modes := [(1, [(3, .take, false)]), (8, [(1, .take, false), (9, .take, false)]), (9, [(0, .take, false)])], ext := [], lnt := [], casts := [], fcast := [] }
theorem fk55 : FnOk Try.prog 55 Try.f55 I55 := ⟨Try.func55, by kernel_rfl, by kernel_rfl, by kernel_rfl, by kernel_rfl⟩
def S55_5 (x1 : List Org) (x6 : Int) (b2 : Val) (b4 : Val) (b5 : Val) : St := [(2, .v false [.sl .ro .org x1]), (4, .v false [.ptr 2 0]), (8, .v false [.ptr 4 0]), (10, .v false [.ptr 5 0]), (12, .v false [.int .i64 x6]), (5, .v true [.int .i64 (Val.kind b2), .int .i64 (Val.n b2), .int .i64 (Val.step b2), .str (Val.text b2), .sl .ro .val (Val.list b2), .sl .ro .str (Val.columns b2), .sl .ro .row (Val.rows b2)]), (9, .v true [.int .i64 (Val.kind b4), .int .i64 (Val.n b4), .int .i64 (Val.step b4), .str (Val.text b4), .sl .own .val (Val.list b4), .sl .own .str (Val.columns b4), .sl .own .row (Val.rows b4)]), (11, .v true [.int .i64 (Val.kind b5), .int .i64 (Val.n b5), .int .i64 (Val.step b5), .str (Val.text b5), .sl .own .val (Val.list b5), .sl .own .str (Val.columns b5), .sl .own .row (Val.rows b5)])]
theorem p55_5_0 (x1 : List Org) (x6 : Int) (b2 : Val) (b4 : Val) (b5 : Val) (r1 : Bool) (r2 : Rowd) : run tt (AbsCalls Try.prog) I55 3000 true (stkAt 5 I55.body) ⟨(S55_5 x1 x6 b2 b4 b5), [true, true], [spec_l8Beneath_ro r1, spec_l3Row_ro r2], []⟩ = some (.stop (stkAt 5 I55.body) (S55_5 x1 (IntKind.i64.wrap (x6 + 1)) b2 b4 (Val.mk (Val.kind b5) (Val.n b5) (Val.step b5) (Val.text b5) (Val.list b5) (Val.columns b5) ((Val.rows b5) ++ [r2]))) [(decide ((x6 : Int) < (List.length (Val.rows b2) : Int))) = true, (0 : Int) ≤ x6 ∧ x6 < (List.length (Val.rows b2)), AbsCalls Try.prog 115 (spec_l8Beneath_as (Rowd.frm (List.getD (Val.rows b2) (Int.toNat x6) Ty.row.dflt)) x1) (spec_l8Beneath_ro r1), r1 = true, (0 : Int) ≤ x6 ∧ x6 < (List.length (Val.rows b2)), AbsCalls Try.prog 116 (spec_l3Row_as (List.getD (Val.rows b2) (Int.toNat x6) Ty.row.dflt)) (spec_l3Row_ro r2), List.length (Val.rows b5) + List.length [r2] ≤ Lim]) := by kernel_rfl
theorem p55_5_1 (x1 : List Org) (x6 : Int) (b2 : Val) (b4 : Val) (b5 : Val) (r1 : Bool) : run tt (AbsCalls Try.prog) I55 3000 true (stkAt 5 I55.body) ⟨(S55_5 x1 x6 b2 b4 b5), [true, false], [spec_l8Beneath_ro r1], []⟩ = some (.stop (stkAt 5 I55.body) (S55_5 x1 (IntKind.i64.wrap (x6 + 1)) b2 b4 b5) [(decide ((x6 : Int) < (List.length (Val.rows b2) : Int))) = true, (0 : Int) ≤ x6 ∧ x6 < (List.length (Val.rows b2)), AbsCalls Try.prog 115 (spec_l8Beneath_as (Rowd.frm (List.getD (Val.rows b2) (Int.toNat x6) Ty.row.dflt)) x1) (spec_l8Beneath_ro r1), r1 = false]) := by kernel_rfl
theorem p55_5_2 (x1 : List Org) (x6 : Int) (b2 : Val) (b4 : Val) (b5 : Val) : run tt (AbsCalls Try.prog) I55 3000 true (stkAt 5 I55.body) ⟨(S55_5 x1 x6 b2 b4 b5), [false], [], []⟩ = some (.done (spec_RestrictTable_ro b5) [(decide ((x6 : Int) < (List.length (Val.rows b2) : Int))) = false]) := by kernel_rfl
theorem p55_e_3 (a0 : Val) (a1 : List Org) (r1 : Val) : run tt (AbsCalls Try.prog) I55 3000 false [.code I55.body] ⟨(entry 0 (spec_RestrictTable_as a0 a1)), [true, true], [spec_l3Copy_ro r1], []⟩ = some (.done (spec_RestrictTable_ro r1) [(((Val.kind a0) : Int) != 5) = true, true = true, AbsCalls Try.prog 71 (spec_l3Copy_as a0) (spec_l3Copy_ro r1)]) := by kernel_rfl
theorem p55_e_4 (a0 : Val) (a1 : List Org) (r1 : Bool) (r2 : Val) : run tt (AbsCalls Try.prog) I55 3000 false [.code I55.body] ⟨(entry 0 (spec_RestrictTable_as a0 a1)), [false, true], [spec_IsValidValue_ro r1, spec_l3Copy_ro r2], []⟩ = some (.done (spec_RestrictTable_ro r2) [(((Val.kind a0) : Int) != 5) = false, AbsCalls Try.prog 108 (spec_IsValidValue_as a0) (spec_IsValidValue_ro r1), (!r1) = true, AbsCalls Try.prog 71 (spec_l3Copy_as a0) (spec_l3Copy_ro r2)]) := by kernel_rfl
theorem p55_e_5 (a0 : Val) (a1 : List Org) (r1 : Bool) : run tt (AbsCalls Try.prog) I55 3000 false [.code I55.body] ⟨(entry 0 (spec_RestrictTable_as a0 a1)), [false, false], [spec_IsValidValue_ro r1], []⟩ = some (.stop (stkAt 5 I55.body) (S55_5 a1 0 a0 (Val.mk 0 0 0 [] [] [] []) (Val.mk 5 0 0 [] [] ([] ++ (Val.columns a0)) [])) [(((Val.kind a0) : Int) != 5) = false, AbsCalls Try.prog 108 (spec_IsValidValue_as a0) (spec_IsValidValue_ro r1), (!r1) = false, 0 + List.length (Val.columns a0) ≤ Lim]) := by kernel_rfl
theorem c55_5 {N : Nat} : ∀ n x1 x6 b2 b4 b5 r, spec_RestrictTable_b5 N n x1 x6 b2 b4 b5 = some r → Reach Try.prog Try.f55 I55 (stkAt 5 I55.body) (S55_5 x1 x6 b2 b4 b5) (spec_RestrictTable_ro r) := by
  intro n
  induction n with
  | zero => intro x1 x6 b2 b4 b5 r h; have h' : (none : Option (Val)) = some r := h; cases h'
  | succ n ih =>
    intro x1 x6 b2 b4 b5 r h
    rw [spec_RestrictTable_b5] at h
    rcases cond_inv h with ⟨h0, h⟩ | ⟨h0, h⟩
    · obtain ⟨h1, h⟩ := ite_inv h
      obtain ⟨r1, h2, h⟩ := bind_inv h
      rcases cond_inv h with ⟨h3, h⟩ | ⟨h3, h⟩
      · obtain ⟨r2, h5, h⟩ := bind_inv h
        obtain ⟨h6, h⟩ := ite_inv h
        exact Reach.stop ttok mix fk55 (p55_5_0 x1 x6 b2 b4 b5 r1 r2) (obs_cons h0 (obs_cons h1 (obs_cons (spec_l8Beneath_ok h2) (obs_cons h3 (obs_cons h1 (obs_cons (spec_l3Row_ok h5) (obs_cons h6 obs_nil))))))) (ih _ _ _ _ _ _ h)
      · exact Reach.stop ttok mix fk55 (p55_5_1 x1 x6 b2 b4 b5 r1) (obs_cons h0 (obs_cons h1 (obs_cons (spec_l8Beneath_ok h2) (obs_cons h3 obs_nil)))) (ih _ _ _ _ _ _ h)
    · obtain rfl := Option.some.inj h
      exact Reach.done ttok mix fk55 (p55_5_2 x1 x6 b2 b4 b5) (obs_cons h0 obs_nil)
theorem c55_e {N : Nat} : ∀ a0 a1 r, spec_RestrictTable N a0 a1 = some r → Reach Try.prog Try.f55 I55 [.code I55.body] (entry 0 (spec_RestrictTable_as a0 a1)) (spec_RestrictTable_ro r) := by
  intro a0 a1 r h
  unfold spec_RestrictTable at h
  rcases cond_inv h with ⟨h0, h⟩ | ⟨h0, h⟩
  · obtain ⟨r1, h2, h⟩ := bind_inv h
    obtain rfl := Option.some.inj h
    exact Reach.done ttok mix fk55 (p55_e_3 a0 a1 r1) (obs_cons h0 (obs_cons rfl (obs_cons (spec_l3Copy_ok h2) obs_nil)))
  · obtain ⟨r1, h1, h⟩ := bind_inv h
    rcases cond_inv h with ⟨h2, h⟩ | ⟨h2, h⟩
    · obtain ⟨r2, h3, h⟩ := bind_inv h
      obtain rfl := Option.some.inj h
      exact Reach.done ttok mix fk55 (p55_e_4 a0 a1 r1 r2) (obs_cons h0 (obs_cons (spec_IsValidValue_ok h1) (obs_cons h2 (obs_cons (spec_l3Copy_ok h3) obs_nil))))
    · obtain ⟨h3, h⟩ := ite_inv h
      exact Reach.stop ttok mix fk55 (p55_e_5 a0 a1 r1) (obs_cons h0 (obs_cons (spec_IsValidValue_ok h1) (obs_cons h2 (obs_cons h3 obs_nil)))) (c55_5   _ _ _ _ _ _ _ h)
theorem spec_RestrictTable_ok {N : Nat} {a0 : Val} {a1 : List Org} {r : Val} (h : spec_RestrictTable N  a0 a1 = some r) : AbsCalls Try.prog 55 (spec_RestrictTable_as a0 a1) (spec_RestrictTable_ro r) :=
 AbsCalls.of_reach fk55 rfl rfl (Nat.le_of_ble_eq_true rfl) (c55_e a0 a1 r h)
noncomputable def I118 : Info := { body := (Try.f118.body).getD .skip, nt := 17, results := [.tmp 4], keep := [0, 2, 6, 8, 12, 14, 16, 18, 20, 30, 7, 13], live := [(2, [6, 14, 16, 18, 7])], modes := [(6, [(1, .take, false)])], ext := [], lnt := [], casts := [], fcast := [] }
theorem fk118 : FnOk Try.prog 118 Try.f118 I118 := ⟨Try.func118, by kernel_rfl, by kernel_rfl, by kernel_rfl, by kernel_rfl⟩
def S118_2 (x7 : List Org) (x8 : Int) (x9 : Int) (b3 : Org) : St := [(6, .v false [.ptr 3 0]), (14, .v false [.sl .ro .org x7]), (16, .v false [.int .i64 x8]), (18, .v false [.int .i64 x9]), (7, .v true [.int .i64 (Org.cell b3), .int .i64 (Org.row b3)])]
theorem p118_2_0 (x7 : List Org) (x8 : Int) (x9 : Int) (b3 : Org) : run tt (AbsCalls Try.prog) I118 3000 true (stkAt 2 I118.body) ⟨(S118_2 x7 x8 x9 b3), [true, true], [], []⟩ = some (.done (impl_hasOrigin_ro true) [(decide ((x9 : Int) < x8)) = true, (0 : Int) ≤ x9 ∧ x9 < (List.length x7), ((((Org.cell (List.getD x7 (Int.toNat x9) Ty.org.dflt)) : Int) == (Org.cell b3)) && (((Org.row (List.getD x7 (Int.toNat x9) Ty.org.dflt)) : Int) == (Org.row b3))) = true]) := by kernel_rfl
theorem p118_2_1 (x7 : List Org) (x8 : Int) (x9 : Int) (b3 : Org) : run tt (AbsCalls Try.prog) I118 3000 true (stkAt 2 I118.body) ⟨(S118_2 x7 x8 x9 b3), [true, false], [], []⟩ = some (.stop (stkAt 2 I118.body) (S118_2 x7 x8 (IntKind.i64.wrap (x9 + 1)) b3) [(decide ((x9 : Int) < x8)) = true, (0 : Int) ≤ x9 ∧ x9 < (List.length x7), ((((Org.cell (List.getD x7 (Int.toNat x9) Ty.org.dflt)) : Int) == (Org.cell b3)) && (((Org.row (List.getD x7 (Int.toNat x9) Ty.org.dflt)) : Int) == (Org.row b3))) = false]) := by kernel_rfl
theorem p118_2_2 (x7 : List Org) (x8 : Int) (x9 : Int) (b3 : Org) : run tt (AbsCalls Try.prog) I118 3000 true (stkAt 2 I118.body) ⟨(S118_2 x7 x8 x9 b3), [false], [], []⟩ = some (.done (impl_hasOrigin_ro false) [(decide ((x9 : Int) < x8)) = false]) := by kernel_rfl
theorem p118_e_3 (a0 : List Org) (a1 : Org) : run tt (AbsCalls Try.prog) I118 3000 false [.code I118.body] ⟨(entry 0 (impl_hasOrigin_as a0 a1)), [], [], []⟩ = some (.stop (stkAt 2 I118.body) (S118_2 a0 (List.length a0 : Int) 0 a1) []) := by kernel_rfl
theorem c118_2 {N : Nat} : ∀ n x7 x8 x9 b3 r, impl_hasOrigin_b2 N n x7 x8 x9 b3 = some r → Reach Try.prog Try.f118 I118 (stkAt 2 I118.body) (S118_2 x7 x8 x9 b3) (impl_hasOrigin_ro r) := by
  intro n
  induction n with
  | zero => intro x7 x8 x9 b3 r h; have h' : (none : Option (Bool)) = some r := h; cases h'
  | succ n ih =>
    intro x7 x8 x9 b3 r h
    rw [impl_hasOrigin_b2] at h
    rcases cond_inv h with ⟨h0, h⟩ | ⟨h0, h⟩
    · obtain ⟨h1, h⟩ := ite_inv h
      rcases cond_inv h with ⟨h2, h⟩ | ⟨h2, h⟩
      · obtain rfl := Option.some.inj h
        exact Reach.done ttok mix fk118 (p118_2_0 x7 x8 x9 b3) (obs_cons h0 (obs_cons h1 (obs_cons h2 obs_nil)))
      · exact Reach.stop ttok mix fk118 (p118_2_1 x7 x8 x9 b3) (obs_cons h0 (obs_cons h1 (obs_cons h2 obs_nil))) (ih _ _ _ _ _ h)
    · obtain rfl := Option.some.inj h
      exact Reach.done ttok mix fk118 (p118_2_2 x7 x8 x9 b3) (obs_cons h0 obs_nil)
theorem c118_e {N : Nat} : ∀ a0 a1 r, impl_hasOrigin N a0 a1 = some r → Reach Try.prog Try.f118 I118 [.code I118.body] (entry 0 (impl_hasOrigin_as a0 a1)) (impl_hasOrigin_ro r) := by
  intro a0 a1 r h
  unfold impl_hasOrigin at h
  exact Reach.stop ttok mix fk118 (p118_e_3 a0 a1) obs_nil (c118_2   _ _ _ _ _ _ h)
theorem impl_hasOrigin_ok {N : Nat} {a0 : List Org} {a1 : Org} {r : Bool} (h : impl_hasOrigin N  a0 a1 = some r) : AbsCalls Try.prog 118 (impl_hasOrigin_as a0 a1) (impl_hasOrigin_ro r) :=
 AbsCalls.of_reach fk118 rfl rfl (Nat.le_of_ble_eq_true rfl) (c118_e a0 a1 r h)
noncomputable def I57 : Info := { body := (Try.f57.body).getD .skip, nt := 54, results := [.cell 4 28], keep := [0, 2, 4, 8, 10, 14, 16, 20, 40, 48, 50, 52, 54, 62, 64, 66, 68, 88, 5, 9, 11, 15, 21], live := [(6, [2, 8, 10, 48, 50, 52, 9, 11]), (10, [2, 8, 10, 14, 16, 48, 50, 52, 62, 64, 66, 9, 11, 15])], modes := [(2, [(3, .take, false)]), (3, [(0, .take, false)]), (12, [(1, .take, false)]), (13, [(1, .take, false)]), (15, [(1, .take, false), (5, .take, false)]), (16, [(1, .take, false)]), (17, [(0, .take, false)])], ext := [], lnt := [], casts := [], fcast := [] }
theorem fk57 : FnOk Try.prog 57 Try.f57 I57 := ⟨Try.func57, by kernel_rfl, by kernel_rfl, by kernel_rfl, by kernel_rfl⟩
def S57_6 (x1 : List Org) (x24 : List Rowd) (x25 : Int) (x26 : Int) (b4 : Val) (b5 : Val) : St := [(2, .v false [.sl .ro .org x1]), (8, .v false [.ptr 4 0]), (10, .v false [.ptr 5 0]), (48, .v false [.sl .ro .row x24]), (50, .v false [.int .i64 x25]), (52, .v false [.int .i64 x26]), (9, .v true [.int .i64 (Val.kind b4), .int .i64 (Val.n b4), .int .i64 (Val.step b4), .str (Val.text b4), .sl .own .val (Val.list b4), .sl .own .str (Val.columns b4), .sl .own .row (Val.rows b4)]), (11, .v true [.int .i64 (Val.kind b5), .int .i64 (Val.n b5), .int .i64 (Val.step b5), .str (Val.text b5), .sl .own .val (Val.list b5), .sl .own .str (Val.columns b5), .sl .own .row (Val.rows b5)])]
def S57_10 (x1 : List Org) (x8 : Bool) (x24 : List Rowd) (x25 : Int) (x26 : Int) (x31 : List Org) (x32 : Int) (x33 : Int) (b4 : Val) (b5 : Val) (b7 : Rowd) : St := [(2, .v false [.sl .ro .org x1]), (8, .v false [.ptr 4 0]), (10, .v false [.ptr 5 0]), (14, .v false [.ptr 7 0]), (16, .v false [.bool x8]), (48, .v false [.sl .ro .row x24]), (50, .v false [.int .i64 x25]), (52, .v false [.int .i64 x26]), (62, .v false [.sl .ro .org x31]), (64, .v false [.int .i64 x32]), (66, .v false [.int .i64 x33]), (9, .v true [.int .i64 (Val.kind b4), .int .i64 (Val.n b4), .int .i64 (Val.step b4), .str (Val.text b4), .sl .own .val (Val.list b4), .sl .own .str (Val.columns b4), .sl .own .row (Val.rows b4)]), (11, .v true [.int .i64 (Val.kind b5), .int .i64 (Val.n b5), .int .i64 (Val.step b5), .str (Val.text b5), .sl .own .val (Val.list b5), .sl .own .str (Val.columns b5), .sl .own .row (Val.rows b5)]), (15, .v true [.sl .ro .int (Rowd.cells b7), .sl .ro .org (Rowd.frm b7)])]
theorem p57_10_0 (x1 : List Org) (x8 : Bool) (x24 : List Rowd) (x25 : Int) (x26 : Int) (x31 : List Org) (x32 : Int) (x33 : Int) (b4 : Val) (b5 : Val) (b7 : Rowd) (r1 : Bool) : run tt (AbsCalls Try.prog) I57 3000 true (stkAt 10 I57.body) ⟨(S57_10 x1 x8 x24 x25 x26 x31 x32 x33 b4 b5 b7), [true, true], [impl_hasOrigin_ro r1], []⟩ = some (.stop (stkAt 10 I57.body) (S57_10 x1 r1 x24 x25 x26 x31 x32 (IntKind.i64.wrap (x33 + 1)) b4 b5 b7) [(decide ((x33 : Int) < x32)) = true, (0 : Int) ≤ x33 ∧ x33 < (List.length x31), x8 = true, AbsCalls Try.prog 118 (impl_hasOrigin_as x1 (List.getD x31 (Int.toNat x33) Ty.org.dflt)) (impl_hasOrigin_ro r1)]) := by kernel_rfl
theorem p57_10_1 (x1 : List Org) (x8 : Bool) (x24 : List Rowd) (x25 : Int) (x26 : Int) (x31 : List Org) (x32 : Int) (x33 : Int) (b4 : Val) (b5 : Val) (b7 : Rowd) : run tt (AbsCalls Try.prog) I57 3000 true (stkAt 10 I57.body) ⟨(S57_10 x1 x8 x24 x25 x26 x31 x32 x33 b4 b5 b7), [true, false], [], []⟩ = some (.stop (stkAt 10 I57.body) (S57_10 x1 false x24 x25 x26 x31 x32 (IntKind.i64.wrap (x33 + 1)) b4 b5 b7) [(decide ((x33 : Int) < x32)) = true, (0 : Int) ≤ x33 ∧ x33 < (List.length x31), x8 = false]) := by kernel_rfl
theorem p57_10_2 (x1 : List Org) (x8 : Bool) (x24 : List Rowd) (x25 : Int) (x26 : Int) (x31 : List Org) (x32 : Int) (x33 : Int) (b4 : Val) (b5 : Val) (b7 : Rowd) (r1 : Rowd) : run tt (AbsCalls Try.prog) I57 3000 true (stkAt 10 I57.body) ⟨(S57_10 x1 x8 x24 x25 x26 x31 x32 x33 b4 b5 b7), [false, true], [impl_copyRow_ro r1], []⟩ = some (.stop (stkAt 6 I57.body) (S57_6 x1 x24 x25 (IntKind.i64.wrap (x26 + 1)) b4 (Val.mk (Val.kind b5) (Val.n b5) (Val.step b5) (Val.text b5) (Val.list b5) (Val.columns b5) ((Val.rows b5) ++ [r1]))) [(decide ((x33 : Int) < x32)) = false, x8 = true, AbsCalls Try.prog 119 (impl_copyRow_as b7) (impl_copyRow_ro r1), List.length (Val.rows b5) + List.length [r1] ≤ Lim]) := by kernel_rfl
theorem p57_10_3 (x1 : List Org) (x8 : Bool) (x24 : List Rowd) (x25 : Int) (x26 : Int) (x31 : List Org) (x32 : Int) (x33 : Int) (b4 : Val) (b5 : Val) (b7 : Rowd) : run tt (AbsCalls Try.prog) I57 3000 true (stkAt 10 I57.body) ⟨(S57_10 x1 x8 x24 x25 x26 x31 x32 x33 b4 b5 b7), [false, false], [], []⟩ = some (.stop (stkAt 6 I57.body) (S57_6 x1 x24 x25 (IntKind.i64.wrap (x26 + 1)) b4 b5) [(decide ((x33 : Int) < x32)) = false, x8 = false]) := by kernel_rfl
theorem p57_6_4 (x1 : List Org) (x24 : List Rowd) (x25 : Int) (x26 : Int) (b4 : Val) (b5 : Val) : run tt (AbsCalls Try.prog) I57 3000 true (stkAt 6 I57.body) ⟨(S57_6 x1 x24 x25 x26 b4 b5), [true], [], []⟩ = some (.stop (stkAt 10 I57.body) (S57_10 x1 true x24 x25 x26 (Rowd.frm (List.getD x24 (Int.toNat x26) Ty.row.dflt)) (List.length (Rowd.frm (List.getD x24 (Int.toNat x26) Ty.row.dflt)) : Int) 0 b4 b5 (List.getD x24 (Int.toNat x26) Ty.row.dflt)) [(decide ((x26 : Int) < x25)) = true, (0 : Int) ≤ x26 ∧ x26 < (List.length x24)]) := by kernel_rfl
theorem p57_6_5 (x1 : List Org) (x24 : List Rowd) (x25 : Int) (x26 : Int) (b4 : Val) (b5 : Val) : run tt (AbsCalls Try.prog) I57 3000 true (stkAt 6 I57.body) ⟨(S57_6 x1 x24 x25 x26 b4 b5), [false], [], []⟩ = some (.done (impl_RestrictTable_ro b5) [(decide ((x26 : Int) < x25)) = false]) := by kernel_rfl
theorem p57_e_6 (a0 : Val) (a1 : List Org) (r1 : Val) : run tt (AbsCalls Try.prog) I57 3000 false [.code I57.body] ⟨(entry 0 (impl_RestrictTable_as a0 a1)), [true, true], [impl_copyValue_ro r1], []⟩ = some (.done (impl_RestrictTable_ro r1) [AbsCalls Try.prog 74 (impl_copyValue_as a0) (impl_copyValue_ro r1), (((Val.kind a0) : Int) != 5) = true, true = true]) := by kernel_rfl
theorem p57_e_7 (a0 : Val) (a1 : List Org) (r1 : Val) (r2 : Bool) : run tt (AbsCalls Try.prog) I57 3000 false [.code I57.body] ⟨(entry 0 (impl_RestrictTable_as a0 a1)), [false, true], [impl_copyValue_ro r1, impl_IsValidValue_ro r2], []⟩ = some (.done (impl_RestrictTable_ro r1) [AbsCalls Try.prog 74 (impl_copyValue_as a0) (impl_copyValue_ro r1), (((Val.kind a0) : Int) != 5) = false, AbsCalls Try.prog 109 (impl_IsValidValue_as a0) (impl_IsValidValue_ro r2), (!r2) = true]) := by kernel_rfl
theorem p57_e_8 (a0 : Val) (a1 : List Org) (r1 : Val) (r2 : Bool) : run tt (AbsCalls Try.prog) I57 3000 false [.code I57.body] ⟨(entry 0 (impl_RestrictTable_as a0 a1)), [false, false], [impl_copyValue_ro r1, impl_IsValidValue_ro r2], []⟩ = some (.stop (stkAt 6 I57.body) (S57_6 a1 (Val.rows a0) (List.length (Val.rows a0) : Int) 0 (Val.mk 0 0 0 [] [] [] []) (Val.mk (Val.kind r1) (Val.n r1) (Val.step r1) (Val.text r1) (Val.list r1) (Val.columns r1) [])) [AbsCalls Try.prog 74 (impl_copyValue_as a0) (impl_copyValue_ro r1), (((Val.kind a0) : Int) != 5) = false, AbsCalls Try.prog 109 (impl_IsValidValue_as a0) (impl_IsValidValue_ro r2), (!r2) = false]) := by kernel_rfl
theorem c57_10 {N : Nat} {k6 : (List Org) → (List Rowd) → Int → Int → Val → Val → Option (Val)} (hk6 : ∀ z0 z1 z2 z3 z4 z5 r, k6 z0 z1 z2 z3 z4 z5 = some r → Reach Try.prog Try.f57 I57 (stkAt 6 I57.body) (S57_6 z0 z1 z2 z3 z4 z5) (impl_RestrictTable_ro r)) : ∀ n x1 x8 x24 x25 x26 x31 x32 x33 b4 b5 b7 r, impl_RestrictTable_b10 N k6 n x1 x8 x24 x25 x26 x31 x32 x33 b4 b5 b7 = some r → Reach Try.prog Try.f57 I57 (stkAt 10 I57.body) (S57_10 x1 x8 x24 x25 x26 x31 x32 x33 b4 b5 b7) (impl_RestrictTable_ro r) := by
  intro n
  induction n with
  | zero => intro x1 x8 x24 x25 x26 x31 x32 x33 b4 b5 b7 r h; have h' : (none : Option (Val)) = some r := h; cases h'
  | succ n ih =>
    intro x1 x8 x24 x25 x26 x31 x32 x33 b4 b5 b7 r h
    rw [impl_RestrictTable_b10] at h
    rcases cond_inv h with ⟨h0, h⟩ | ⟨h0, h⟩
    · obtain ⟨h1, h⟩ := ite_inv h
      rcases cond_inv h with ⟨h2, h⟩ | ⟨h2, h⟩
      · obtain ⟨r1, h3, h⟩ := bind_inv h
        exact Reach.stop ttok mix fk57 (p57_10_0 x1 x8 x24 x25 x26 x31 x32 x33 b4 b5 b7 r1) (obs_cons h0 (obs_cons h1 (obs_cons h2 (obs_cons (impl_hasOrigin_ok h3) obs_nil)))) (ih _ _ _ _ _ _ _ _ _ _ _ _ h)
      · exact Reach.stop ttok mix fk57 (p57_10_1 x1 x8 x24 x25 x26 x31 x32 x33 b4 b5 b7) (obs_cons h0 (obs_cons h1 (obs_cons h2 obs_nil))) (ih _ _ _ _ _ _ _ _ _ _ _ _ h)
    · rcases cond_inv h with ⟨h1, h⟩ | ⟨h1, h⟩
      · obtain ⟨r1, h2, h⟩ := bind_inv h
        obtain ⟨h3, h⟩ := ite_inv h
        exact Reach.stop ttok mix fk57 (p57_10_2 x1 x8 x24 x25 x26 x31 x32 x33 b4 b5 b7 r1) (obs_cons h0 (obs_cons h1 (obs_cons (impl_copyRow_ok h2) (obs_cons h3 obs_nil)))) (hk6 _ _ _ _ _ _ _ h)
      · exact Reach.stop ttok mix fk57 (p57_10_3 x1 x8 x24 x25 x26 x31 x32 x33 b4 b5 b7) (obs_cons h0 (obs_cons h1 obs_nil)) (hk6 _ _ _ _ _ _ _ h)
theorem c57_6 {N : Nat} : ∀ n x1 x24 x25 x26 b4 b5 r, impl_RestrictTable_b6 N n x1 x24 x25 x26 b4 b5 = some r → Reach Try.prog Try.f57 I57 (stkAt 6 I57.body) (S57_6 x1 x24 x25 x26 b4 b5) (impl_RestrictTable_ro r) := by
  intro n
  induction n with
  | zero => intro x1 x24 x25 x26 b4 b5 r h; have h' : (none : Option (Val)) = some r := h; cases h'
  | succ n ih =>
    intro x1 x24 x25 x26 b4 b5 r h
    rw [impl_RestrictTable_b6] at h
    rcases cond_inv h with ⟨h0, h⟩ | ⟨h0, h⟩
    · obtain ⟨h1, h⟩ := ite_inv h
      exact Reach.stop ttok mix fk57 (p57_6_4 x1 x24 x25 x26 b4 b5) (obs_cons h0 (obs_cons h1 obs_nil)) (c57_10  ih _ _ _ _ _ _ _ _ _ _ _ _ _ h)
    · obtain rfl := Option.some.inj h
      exact Reach.done ttok mix fk57 (p57_6_5 x1 x24 x25 x26 b4 b5) (obs_cons h0 obs_nil)
theorem c57_e {N : Nat} : ∀ a0 a1 r, impl_RestrictTable N a0 a1 = some r → Reach Try.prog Try.f57 I57 [.code I57.body] (entry 0 (impl_RestrictTable_as a0 a1)) (impl_RestrictTable_ro r) := by
  intro a0 a1 r h
  unfold impl_RestrictTable at h
  obtain ⟨r1, h0, h⟩ := bind_inv h
  rcases cond_inv h with ⟨h1, h⟩ | ⟨h1, h⟩
  · obtain rfl := Option.some.inj h
    exact Reach.done ttok mix fk57 (p57_e_6 a0 a1 r1) (obs_cons (impl_copyValue_ok h0) (obs_cons h1 (obs_cons rfl obs_nil)))
  · obtain ⟨r2, h2, h⟩ := bind_inv h
    rcases cond_inv h with ⟨h3, h⟩ | ⟨h3, h⟩
    · obtain rfl := Option.some.inj h
      exact Reach.done ttok mix fk57 (p57_e_7 a0 a1 r1 r2) (obs_cons (impl_copyValue_ok h0) (obs_cons h1 (obs_cons (impl_IsValidValue_ok h2) (obs_cons h3 obs_nil))))
    · exact Reach.stop ttok mix fk57 (p57_e_8 a0 a1 r1 r2) (obs_cons (impl_copyValue_ok h0) (obs_cons h1 (obs_cons (impl_IsValidValue_ok h2) (obs_cons h3 obs_nil)))) (c57_6   _ _ _ _ _ _ _ _ h)
theorem impl_RestrictTable_ok {N : Nat} {a0 : Val} {a1 : List Org} {r : Val} (h : impl_RestrictTable N  a0 a1 = some r) : AbsCalls Try.prog 57 (impl_RestrictTable_as a0 a1) (impl_RestrictTable_ro r) :=
 AbsCalls.of_reach fk57 rfl rfl (Nat.le_of_ble_eq_true rfl) (c57_e a0 a1 r h)
end Go.Ab.T
end
section
open Go.Proofs
namespace Go.Ab.T
set_option linter.unusedVariables false
set_option maxRecDepth 100000
noncomputable def I11 : Info := { body := (Try.f11.body).getD .skip, nt := 92, results := [.tmp 4], keep := [0, 2, 4, 8, 10, 12, 14, 16, 18, 20, 22, 24, 26, 36, 46, 78, 88, 98, 126, 142, 148, 166, 176, 182, 5, 13, 15, 19, 27], live := [], modes := [(19, [(0, .ref, false), (2, .ref, false)]), (20, [(0, .ref, false), (2, .ref, false)]), (21, [(2, .take, false)]), (24, [(0, .ref, false), (2, .ref, false)])], ext := [], lnt := [], casts := [], fcast := [] }
theorem fk11 : FnOk Try.prog 11 Try.f11 I11 := ⟨Try.func11, by kernel_rfl, by kernel_rfl, by kernel_rfl, by kernel_rfl⟩
theorem p11_e_0 (a0 : Val) (a1 : List Org) (r1 : Int) : run tt (AbsCalls Try.prog) I11 3000 false [.code I11.body] ⟨(entry 0 (laws_FnExactRestrictTable_as a0 a1)), [true], [laws_szValue_ro r1], []⟩ = some (.done (laws_FnExactRestrictTable_ro true) [AbsCalls Try.prog 24 (laws_szValue_as a0 1048576) (laws_szValue_ro r1), (decide ((r1 : Int) < 0)) = true]) := by kernel_rfl
theorem p11_e_1 (a0 : Val) (a1 : List Org) (r1 : Int) (r2 : Int) : run tt (AbsCalls Try.prog) I11 3000 false [.code I11.body] ⟨(entry 0 (laws_FnExactRestrictTable_as a0 a1)), [false, true], [laws_szValue_ro r1, laws_szOriginS_ro r2], []⟩ = some (.done (laws_FnExactRestrictTable_ro true) [AbsCalls Try.prog 24 (laws_szValue_as a0 1048576) (laws_szValue_ro r1), (decide ((r1 : Int) < 0)) = false, AbsCalls Try.prog 54 (laws_szOriginS_as a1 r1) (laws_szOriginS_ro r2), (decide ((r2 : Int) < 0)) = true]) := by kernel_rfl
theorem p11_e_2 (a0 : Val) (a1 : List Org) (r1 : Int) (r2 : Int) (r3 : Val) (r4 : (List Org)) (r5 : Val) (r6 : Val) (r7 : (List Org)) (r8 : Val) (r9 : Bool) : run tt (AbsCalls Try.prog) I11 3000 false [.code I11.body] ⟨(entry 0 (laws_FnExactRestrictTable_as a0 a1)), [false, false, true], [laws_szValue_ro r1, laws_szOriginS_ro r2, laws_toValue_ro r3, laws_toOriginS_ro r4, spec_RestrictTable_ro r5, laws_toValue_ro r6, laws_toOriginS_ro r7, impl_RestrictTable_ro r8, laws_eqValue_ro r9], []⟩ = some (.done (laws_FnExactRestrictTable_ro false) [AbsCalls Try.prog 24 (laws_szValue_as a0 1048576) (laws_szValue_ro r1), (decide ((r1 : Int) < 0)) = false, AbsCalls Try.prog 54 (laws_szOriginS_as a1 r1) (laws_szOriginS_ro r2), (decide ((r2 : Int) < 0)) = false, AbsCalls Try.prog 26 (laws_toValue_as a0) (laws_toValue_ro r3), AbsCalls Try.prog 56 (laws_toOriginS_as a1) (laws_toOriginS_ro r4), AbsCalls Try.prog 55 (spec_RestrictTable_as r3 r4) (spec_RestrictTable_ro r5), AbsCalls Try.prog 26 (laws_toValue_as a0) (laws_toValue_ro r6), AbsCalls Try.prog 56 (laws_toOriginS_as a1) (laws_toOriginS_ro r7), AbsCalls Try.prog 57 (impl_RestrictTable_as r6 r7) (impl_RestrictTable_ro r8), AbsCalls Try.prog 19 (laws_eqValue_as r8 r5) (laws_eqValue_ro r9), (!r9) = true]) := by kernel_rfl
theorem p11_e_3 (a0 : Val) (a1 : List Org) (r1 : Int) (r2 : Int) (r3 : Val) (r4 : (List Org)) (r5 : Val) (r6 : Val) (r7 : (List Org)) (r8 : Val) (r9 : Bool) (r10 : Val) (r11 : Bool) : run tt (AbsCalls Try.prog) I11 3000 false [.code I11.body] ⟨(entry 0 (laws_FnExactRestrictTable_as a0 a1)), [false, false, false, true], [laws_szValue_ro r1, laws_szOriginS_ro r2, laws_toValue_ro r3, laws_toOriginS_ro r4, spec_RestrictTable_ro r5, laws_toValue_ro r6, laws_toOriginS_ro r7, impl_RestrictTable_ro r8, laws_eqValue_ro r9, laws_toValue_ro r10, laws_eqValue_ro r11], []⟩ = some (.done (laws_FnExactRestrictTable_ro false) [AbsCalls Try.prog 24 (laws_szValue_as a0 1048576) (laws_szValue_ro r1), (decide ((r1 : Int) < 0)) = false, AbsCalls Try.prog 54 (laws_szOriginS_as a1 r1) (laws_szOriginS_ro r2), (decide ((r2 : Int) < 0)) = false, AbsCalls Try.prog 26 (laws_toValue_as a0) (laws_toValue_ro r3), AbsCalls Try.prog 56 (laws_toOriginS_as a1) (laws_toOriginS_ro r4), AbsCalls Try.prog 55 (spec_RestrictTable_as r3 r4) (spec_RestrictTable_ro r5), AbsCalls Try.prog 26 (laws_toValue_as a0) (laws_toValue_ro r6), AbsCalls Try.prog 56 (laws_toOriginS_as a1) (laws_toOriginS_ro r7), AbsCalls Try.prog 57 (impl_RestrictTable_as r6 r7) (impl_RestrictTable_ro r8), AbsCalls Try.prog 19 (laws_eqValue_as r8 r5) (laws_eqValue_ro r9), (!r9) = false, AbsCalls Try.prog 26 (laws_toValue_as a0) (laws_toValue_ro r10), AbsCalls Try.prog 19 (laws_eqValue_as r6 r10) (laws_eqValue_ro r11), (!r11) = true]) := by kernel_rfl
theorem p11_e_4 (a0 : Val) (a1 : List Org) (r1 : Int) (r2 : Int) (r3 : Val) (r4 : (List Org)) (r5 : Val) (r6 : Val) (r7 : (List Org)) (r8 : Val) (r9 : Bool) (r10 : Val) (r11 : Bool) (r12 : (List Org)) (r13 : Bool) : run tt (AbsCalls Try.prog) I11 3000 false [.code I11.body] ⟨(entry 0 (laws_FnExactRestrictTable_as a0 a1)), [false, false, false, false, true], [laws_szValue_ro r1, laws_szOriginS_ro r2, laws_toValue_ro r3, laws_toOriginS_ro r4, spec_RestrictTable_ro r5, laws_toValue_ro r6, laws_toOriginS_ro r7, impl_RestrictTable_ro r8, laws_eqValue_ro r9, laws_toValue_ro r10, laws_eqValue_ro r11, laws_toOriginS_ro r12, laws_eqOriginS_ro r13], []⟩ = some (.done (laws_FnExactRestrictTable_ro false) [AbsCalls Try.prog 24 (laws_szValue_as a0 1048576) (laws_szValue_ro r1), (decide ((r1 : Int) < 0)) = false, AbsCalls Try.prog 54 (laws_szOriginS_as a1 r1) (laws_szOriginS_ro r2), (decide ((r2 : Int) < 0)) = false, AbsCalls Try.prog 26 (laws_toValue_as a0) (laws_toValue_ro r3), AbsCalls Try.prog 56 (laws_toOriginS_as a1) (laws_toOriginS_ro r4), AbsCalls Try.prog 55 (spec_RestrictTable_as r3 r4) (spec_RestrictTable_ro r5), AbsCalls Try.prog 26 (laws_toValue_as a0) (laws_toValue_ro r6), AbsCalls Try.prog 56 (laws_toOriginS_as a1) (laws_toOriginS_ro r7), AbsCalls Try.prog 57 (impl_RestrictTable_as r6 r7) (impl_RestrictTable_ro r8), AbsCalls Try.prog 19 (laws_eqValue_as r8 r5) (laws_eqValue_ro r9), (!r9) = false, AbsCalls Try.prog 26 (laws_toValue_as a0) (laws_toValue_ro r10), AbsCalls Try.prog 19 (laws_eqValue_as r6 r10) (laws_eqValue_ro r11), (!r11) = false, AbsCalls Try.prog 56 (laws_toOriginS_as a1) (laws_toOriginS_ro r12), AbsCalls Try.prog 58 (laws_eqOriginS_as r7 r12) (laws_eqOriginS_ro r13), (!r13) = true]) := by kernel_rfl
theorem p11_e_5 (a0 : Val) (a1 : List Org) (r1 : Int) (r2 : Int) (r3 : Val) (r4 : (List Org)) (r5 : Val) (r6 : Val) (r7 : (List Org)) (r8 : Val) (r9 : Bool) (r10 : Val) (r11 : Bool) (r12 : (List Org)) (r13 : Bool) (r14 : Int × (List Val) × (List Str) × (List Rowd)) (r15 : Int × (List Org)) : run tt (AbsCalls Try.prog) I11 3000 false [.code I11.body] ⟨(entry 0 (laws_FnExactRestrictTable_as a0 a1)), [false, false, false, false, false, true, true], [laws_szValue_ro r1, laws_szOriginS_ro r2, laws_toValue_ro r3, laws_toOriginS_ro r4, spec_RestrictTable_ro r5, laws_toValue_ro r6, laws_toOriginS_ro r7, impl_RestrictTable_ro r8, laws_eqValue_ro r9, laws_toValue_ro r10, laws_eqValue_ro r11, laws_toOriginS_ro r12, laws_eqOriginS_ro r13, laws_markValue_ro r14, laws_markOriginS_ro r15], []⟩ = some (.done (laws_FnExactRestrictTable_ro false) [AbsCalls Try.prog 24 (laws_szValue_as a0 1048576) (laws_szValue_ro r1), (decide ((r1 : Int) < 0)) = false, AbsCalls Try.prog 54 (laws_szOriginS_as a1 r1) (laws_szOriginS_ro r2), (decide ((r2 : Int) < 0)) = false, AbsCalls Try.prog 26 (laws_toValue_as a0) (laws_toValue_ro r3), AbsCalls Try.prog 56 (laws_toOriginS_as a1) (laws_toOriginS_ro r4), AbsCalls Try.prog 55 (spec_RestrictTable_as r3 r4) (spec_RestrictTable_ro r5), AbsCalls Try.prog 26 (laws_toValue_as a0) (laws_toValue_ro r6), AbsCalls Try.prog 56 (laws_toOriginS_as a1) (laws_toOriginS_ro r7), AbsCalls Try.prog 57 (impl_RestrictTable_as r6 r7) (impl_RestrictTable_ro r8), AbsCalls Try.prog 19 (laws_eqValue_as r8 r5) (laws_eqValue_ro r9), (!r9) = false, AbsCalls Try.prog 26 (laws_toValue_as a0) (laws_toValue_ro r10), AbsCalls Try.prog 19 (laws_eqValue_as r6 r10) (laws_eqValue_ro r11), (!r11) = false, AbsCalls Try.prog 56 (laws_toOriginS_as a1) (laws_toOriginS_ro r12), AbsCalls Try.prog 58 (laws_eqOriginS_as r7 r12) (laws_eqOriginS_ro r13), (!r13) = false, AbsCalls Try.prog 22 (laws_markValue_as r6 1) (laws_markValue_ro r14), List.length r14.2.1 = List.length (Val.list r6), List.length r14.2.2.1 = List.length (Val.columns r6), List.length r14.2.2.2 = List.length (Val.rows r6), AbsCalls Try.prog 59 (laws_markOriginS_as r7 r14.1) (laws_markOriginS_ro r15), List.length r15.2 = List.length r7, (decide ((r15.1 : Int) < 0)) = true, true = true]) := by kernel_rfl
theorem p11_e_6 (a0 : Val) (a1 : List Org) (r1 : Int) (r2 : Int) (r3 : Val) (r4 : (List Org)) (r5 : Val) (r6 : Val) (r7 : (List Org)) (r8 : Val) (r9 : Bool) (r10 : Val) (r11 : Bool) (r12 : (List Org)) (r13 : Bool) (r14 : Int × (List Val) × (List Str) × (List Rowd)) (r15 : Int × (List Org)) (r16 : Bool) : run tt (AbsCalls Try.prog) I11 3000 false [.code I11.body] ⟨(entry 0 (laws_FnExactRestrictTable_as a0 a1)), [false, false, false, false, false, false, true], [laws_szValue_ro r1, laws_szOriginS_ro r2, laws_toValue_ro r3, laws_toOriginS_ro r4, spec_RestrictTable_ro r5, laws_toValue_ro r6, laws_toOriginS_ro r7, impl_RestrictTable_ro r8, laws_eqValue_ro r9, laws_toValue_ro r10, laws_eqValue_ro r11, laws_toOriginS_ro r12, laws_eqOriginS_ro r13, laws_markValue_ro r14, laws_markOriginS_ro r15, laws_eqValue_ro r16], []⟩ = some (.done (laws_FnExactRestrictTable_ro false) [AbsCalls Try.prog 24 (laws_szValue_as a0 1048576) (laws_szValue_ro r1), (decide ((r1 : Int) < 0)) = false, AbsCalls Try.prog 54 (laws_szOriginS_as a1 r1) (laws_szOriginS_ro r2), (decide ((r2 : Int) < 0)) = false, AbsCalls Try.prog 26 (laws_toValue_as a0) (laws_toValue_ro r3), AbsCalls Try.prog 56 (laws_toOriginS_as a1) (laws_toOriginS_ro r4), AbsCalls Try.prog 55 (spec_RestrictTable_as r3 r4) (spec_RestrictTable_ro r5), AbsCalls Try.prog 26 (laws_toValue_as a0) (laws_toValue_ro r6), AbsCalls Try.prog 56 (laws_toOriginS_as a1) (laws_toOriginS_ro r7), AbsCalls Try.prog 57 (impl_RestrictTable_as r6 r7) (impl_RestrictTable_ro r8), AbsCalls Try.prog 19 (laws_eqValue_as r8 r5) (laws_eqValue_ro r9), (!r9) = false, AbsCalls Try.prog 26 (laws_toValue_as a0) (laws_toValue_ro r10), AbsCalls Try.prog 19 (laws_eqValue_as r6 r10) (laws_eqValue_ro r11), (!r11) = false, AbsCalls Try.prog 56 (laws_toOriginS_as a1) (laws_toOriginS_ro r12), AbsCalls Try.prog 58 (laws_eqOriginS_as r7 r12) (laws_eqOriginS_ro r13), (!r13) = false, AbsCalls Try.prog 22 (laws_markValue_as r6 1) (laws_markValue_ro r14), List.length r14.2.1 = List.length (Val.list r6), List.length r14.2.2.1 = List.length (Val.columns r6), List.length r14.2.2.2 = List.length (Val.rows r6), AbsCalls Try.prog 59 (laws_markOriginS_as r7 r14.1) (laws_markOriginS_ro r15), List.length r15.2 = List.length r7, (decide ((r15.1 : Int) < 0)) = false, AbsCalls Try.prog 19 (laws_eqValue_as r8 r5) (laws_eqValue_ro r16), (!r16) = true]) := by kernel_rfl
theorem p11_e_7 (a0 : Val) (a1 : List Org) (r1 : Int) (r2 : Int) (r3 : Val) (r4 : (List Org)) (r5 : Val) (r6 : Val) (r7 : (List Org)) (r8 : Val) (r9 : Bool) (r10 : Val) (r11 : Bool) (r12 : (List Org)) (r13 : Bool) (r14 : Int × (List Val) × (List Str) × (List Rowd)) (r15 : Int × (List Org)) (r16 : Bool) (r17 : Int × (List Val) × (List Str) × (List Rowd)) (r18 : Int) : run tt (AbsCalls Try.prog) I11 3000 false [.code I11.body] ⟨(entry 0 (laws_FnExactRestrictTable_as a0 a1)), [false, false, false, false, false, false, false, true], [laws_szValue_ro r1, laws_szOriginS_ro r2, laws_toValue_ro r3, laws_toOriginS_ro r4, spec_RestrictTable_ro r5, laws_toValue_ro r6, laws_toOriginS_ro r7, impl_RestrictTable_ro r8, laws_eqValue_ro r9, laws_toValue_ro r10, laws_eqValue_ro r11, laws_toOriginS_ro r12, laws_eqOriginS_ro r13, laws_markValue_ro r14, laws_markOriginS_ro r15, laws_eqValue_ro r16, laws_markValue_ro r17, laws_heldValue_ro r18], []⟩ = some (.done (laws_FnExactRestrictTable_ro false) [AbsCalls Try.prog 24 (laws_szValue_as a0 1048576) (laws_szValue_ro r1), (decide ((r1 : Int) < 0)) = false, AbsCalls Try.prog 54 (laws_szOriginS_as a1 r1) (laws_szOriginS_ro r2), (decide ((r2 : Int) < 0)) = false, AbsCalls Try.prog 26 (laws_toValue_as a0) (laws_toValue_ro r3), AbsCalls Try.prog 56 (laws_toOriginS_as a1) (laws_toOriginS_ro r4), AbsCalls Try.prog 55 (spec_RestrictTable_as r3 r4) (spec_RestrictTable_ro r5), AbsCalls Try.prog 26 (laws_toValue_as a0) (laws_toValue_ro r6), AbsCalls Try.prog 56 (laws_toOriginS_as a1) (laws_toOriginS_ro r7), AbsCalls Try.prog 57 (impl_RestrictTable_as r6 r7) (impl_RestrictTable_ro r8), AbsCalls Try.prog 19 (laws_eqValue_as r8 r5) (laws_eqValue_ro r9), (!r9) = false, AbsCalls Try.prog 26 (laws_toValue_as a0) (laws_toValue_ro r10), AbsCalls Try.prog 19 (laws_eqValue_as r6 r10) (laws_eqValue_ro r11), (!r11) = false, AbsCalls Try.prog 56 (laws_toOriginS_as a1) (laws_toOriginS_ro r12), AbsCalls Try.prog 58 (laws_eqOriginS_as r7 r12) (laws_eqOriginS_ro r13), (!r13) = false, AbsCalls Try.prog 22 (laws_markValue_as r6 1) (laws_markValue_ro r14), List.length r14.2.1 = List.length (Val.list r6), List.length r14.2.2.1 = List.length (Val.columns r6), List.length r14.2.2.2 = List.length (Val.rows r6), AbsCalls Try.prog 59 (laws_markOriginS_as r7 r14.1) (laws_markOriginS_ro r15), List.length r15.2 = List.length r7, (decide ((r15.1 : Int) < 0)) = false, AbsCalls Try.prog 19 (laws_eqValue_as r8 r5) (laws_eqValue_ro r16), (!r16) = false, AbsCalls Try.prog 22 (laws_markValue_as r8 1) (laws_markValue_ro r17), List.length r17.2.1 = List.length (Val.list r8), List.length r17.2.2.1 = List.length (Val.columns r8), List.length r17.2.2.2 = List.length (Val.rows r8), AbsCalls Try.prog 23 (laws_heldValue_as (Val.mk (Val.kind r8) (Val.n r8) (Val.step r8) (Val.text r8) r17.2.1 r17.2.2.1 r17.2.2.2) 1) (laws_heldValue_ro r18), (decide ((r18 : Int) < 0)) = true]) := by kernel_rfl
theorem p11_e_8 (a0 : Val) (a1 : List Org) (r1 : Int) (r2 : Int) (r3 : Val) (r4 : (List Org)) (r5 : Val) (r6 : Val) (r7 : (List Org)) (r8 : Val) (r9 : Bool) (r10 : Val) (r11 : Bool) (r12 : (List Org)) (r13 : Bool) (r14 : Int × (List Val) × (List Str) × (List Rowd)) (r15 : Int × (List Org)) (r16 : Bool) (r17 : Int × (List Val) × (List Str) × (List Rowd)) (r18 : Int) : run tt (AbsCalls Try.prog) I11 3000 false [.code I11.body] ⟨(entry 0 (laws_FnExactRestrictTable_as a0 a1)), [false, false, false, false, false, false, false, false, true], [laws_szValue_ro r1, laws_szOriginS_ro r2, laws_toValue_ro r3, laws_toOriginS_ro r4, spec_RestrictTable_ro r5, laws_toValue_ro r6, laws_toOriginS_ro r7, impl_RestrictTable_ro r8, laws_eqValue_ro r9, laws_toValue_ro r10, laws_eqValue_ro r11, laws_toOriginS_ro r12, laws_eqOriginS_ro r13, laws_markValue_ro r14, laws_markOriginS_ro r15, laws_eqValue_ro r16, laws_markValue_ro r17, laws_heldValue_ro r18], []⟩ = some (.done (laws_FnExactRestrictTable_ro false) [AbsCalls Try.prog 24 (laws_szValue_as a0 1048576) (laws_szValue_ro r1), (decide ((r1 : Int) < 0)) = false, AbsCalls Try.prog 54 (laws_szOriginS_as a1 r1) (laws_szOriginS_ro r2), (decide ((r2 : Int) < 0)) = false, AbsCalls Try.prog 26 (laws_toValue_as a0) (laws_toValue_ro r3), AbsCalls Try.prog 56 (laws_toOriginS_as a1) (laws_toOriginS_ro r4), AbsCalls Try.prog 55 (spec_RestrictTable_as r3 r4) (spec_RestrictTable_ro r5), AbsCalls Try.prog 26 (laws_toValue_as a0) (laws_toValue_ro r6), AbsCalls Try.prog 56 (laws_toOriginS_as a1) (laws_toOriginS_ro r7), AbsCalls Try.prog 57 (impl_RestrictTable_as r6 r7) (impl_RestrictTable_ro r8), AbsCalls Try.prog 19 (laws_eqValue_as r8 r5) (laws_eqValue_ro r9), (!r9) = false, AbsCalls Try.prog 26 (laws_toValue_as a0) (laws_toValue_ro r10), AbsCalls Try.prog 19 (laws_eqValue_as r6 r10) (laws_eqValue_ro r11), (!r11) = false, AbsCalls Try.prog 56 (laws_toOriginS_as a1) (laws_toOriginS_ro r12), AbsCalls Try.prog 58 (laws_eqOriginS_as r7 r12) (laws_eqOriginS_ro r13), (!r13) = false, AbsCalls Try.prog 22 (laws_markValue_as r6 1) (laws_markValue_ro r14), List.length r14.2.1 = List.length (Val.list r6), List.length r14.2.2.1 = List.length (Val.columns r6), List.length r14.2.2.2 = List.length (Val.rows r6), AbsCalls Try.prog 59 (laws_markOriginS_as r7 r14.1) (laws_markOriginS_ro r15), List.length r15.2 = List.length r7, (decide ((r15.1 : Int) < 0)) = false, AbsCalls Try.prog 19 (laws_eqValue_as r8 r5) (laws_eqValue_ro r16), (!r16) = false, AbsCalls Try.prog 22 (laws_markValue_as r8 1) (laws_markValue_ro r17), List.length r17.2.1 = List.length (Val.list r8), List.length r17.2.2.1 = List.length (Val.columns r8), List.length r17.2.2.2 = List.length (Val.rows r8), AbsCalls Try.prog 23 (laws_heldValue_as (Val.mk (Val.kind r8) (Val.n r8) (Val.step r8) (Val.text r8) r17.2.1 r17.2.2.1 r17.2.2.2) 1) (laws_heldValue_ro r18), (decide ((r18 : Int) < 0)) = false, ((r18 : Int) != r17.1) = true]) := by kernel_rfl
theorem p11_e_9 (a0 : Val) (a1 : List Org) (r1 : Int) (r2 : Int) (r3 : Val) (r4 : (List Org)) (r5 : Val) (r6 : Val) (r7 : (List Org)) (r8 : Val) (r9 : Bool) (r10 : Val) (r11 : Bool) (r12 : (List Org)) (r13 : Bool) (r14 : Int × (List Val) × (List Str) × (List Rowd)) (r15 : Int × (List Org)) (r16 : Bool) (r17 : Int × (List Val) × (List Str) × (List Rowd)) (r18 : Int) (r19 : Val) (r20 : (List Org)) (r21 : Val) (r22 : Bool) : run tt (AbsCalls Try.prog) I11 3000 false [.code I11.body] ⟨(entry 0 (laws_FnExactRestrictTable_as a0 a1)), [false, false, false, false, false, false, false, false, false, true], [laws_szValue_ro r1, laws_szOriginS_ro r2, laws_toValue_ro r3, laws_toOriginS_ro r4, spec_RestrictTable_ro r5, laws_toValue_ro r6, laws_toOriginS_ro r7, impl_RestrictTable_ro r8, laws_eqValue_ro r9, laws_toValue_ro r10, laws_eqValue_ro r11, laws_toOriginS_ro r12, laws_eqOriginS_ro r13, laws_markValue_ro r14, laws_markOriginS_ro r15, laws_eqValue_ro r16, laws_markValue_ro r17, laws_heldValue_ro r18, laws_toValue_ro r19, laws_toOriginS_ro r20, impl_RestrictTable_ro r21, laws_eqValue_ro r22], []⟩ = some (.done (laws_FnExactRestrictTable_ro false) [AbsCalls Try.prog 24 (laws_szValue_as a0 1048576) (laws_szValue_ro r1), (decide ((r1 : Int) < 0)) = false, AbsCalls Try.prog 54 (laws_szOriginS_as a1 r1) (laws_szOriginS_ro r2), (decide ((r2 : Int) < 0)) = false, AbsCalls Try.prog 26 (laws_toValue_as a0) (laws_toValue_ro r3), AbsCalls Try.prog 56 (laws_toOriginS_as a1) (laws_toOriginS_ro r4), AbsCalls Try.prog 55 (spec_RestrictTable_as r3 r4) (spec_RestrictTable_ro r5), AbsCalls Try.prog 26 (laws_toValue_as a0) (laws_toValue_ro r6), AbsCalls Try.prog 56 (laws_toOriginS_as a1) (laws_toOriginS_ro r7), AbsCalls Try.prog 57 (impl_RestrictTable_as r6 r7) (impl_RestrictTable_ro r8), AbsCalls Try.prog 19 (laws_eqValue_as r8 r5) (laws_eqValue_ro r9), (!r9) = false, AbsCalls Try.prog 26 (laws_toValue_as a0) (laws_toValue_ro r10), AbsCalls Try.prog 19 (laws_eqValue_as r6 r10) (laws_eqValue_ro r11), (!r11) = false, AbsCalls Try.prog 56 (laws_toOriginS_as a1) (laws_toOriginS_ro r12), AbsCalls Try.prog 58 (laws_eqOriginS_as r7 r12) (laws_eqOriginS_ro r13), (!r13) = false, AbsCalls Try.prog 22 (laws_markValue_as r6 1) (laws_markValue_ro r14), List.length r14.2.1 = List.length (Val.list r6), List.length r14.2.2.1 = List.length (Val.columns r6), List.length r14.2.2.2 = List.length (Val.rows r6), AbsCalls Try.prog 59 (laws_markOriginS_as r7 r14.1) (laws_markOriginS_ro r15), List.length r15.2 = List.length r7, (decide ((r15.1 : Int) < 0)) = false, AbsCalls Try.prog 19 (laws_eqValue_as r8 r5) (laws_eqValue_ro r16), (!r16) = false, AbsCalls Try.prog 22 (laws_markValue_as r8 1) (laws_markValue_ro r17), List.length r17.2.1 = List.length (Val.list r8), List.length r17.2.2.1 = List.length (Val.columns r8), List.length r17.2.2.2 = List.length (Val.rows r8), AbsCalls Try.prog 23 (laws_heldValue_as (Val.mk (Val.kind r8) (Val.n r8) (Val.step r8) (Val.text r8) r17.2.1 r17.2.2.1 r17.2.2.2) 1) (laws_heldValue_ro r18), (decide ((r18 : Int) < 0)) = false, ((r18 : Int) != r17.1) = false, AbsCalls Try.prog 26 (laws_toValue_as a0) (laws_toValue_ro r19), AbsCalls Try.prog 56 (laws_toOriginS_as a1) (laws_toOriginS_ro r20), AbsCalls Try.prog 57 (impl_RestrictTable_as r19 r20) (impl_RestrictTable_ro r21), AbsCalls Try.prog 19 (laws_eqValue_as r21 r5) (laws_eqValue_ro r22), (!r22) = true]) := by kernel_rfl
theorem p11_e_10 (a0 : Val) (a1 : List Org) (r1 : Int) (r2 : Int) (r3 : Val) (r4 : (List Org)) (r5 : Val) (r6 : Val) (r7 : (List Org)) (r8 : Val) (r9 : Bool) (r10 : Val) (r11 : Bool) (r12 : (List Org)) (r13 : Bool) (r14 : Int × (List Val) × (List Str) × (List Rowd)) (r15 : Int × (List Org)) (r16 : Bool) (r17 : Int × (List Val) × (List Str) × (List Rowd)) (r18 : Int) (r19 : Val) (r20 : (List Org)) (r21 : Val) (r22 : Bool) (r23 : Int) : run tt (AbsCalls Try.prog) I11 3000 false [.code I11.body] ⟨(entry 0 (laws_FnExactRestrictTable_as a0 a1)), [false, false, false, false, false, false, false, false, false, false, true], [laws_szValue_ro r1, laws_szOriginS_ro r2, laws_toValue_ro r3, laws_toOriginS_ro r4, spec_RestrictTable_ro r5, laws_toValue_ro r6, laws_toOriginS_ro r7, impl_RestrictTable_ro r8, laws_eqValue_ro r9, laws_toValue_ro r10, laws_eqValue_ro r11, laws_toOriginS_ro r12, laws_eqOriginS_ro r13, laws_markValue_ro r14, laws_markOriginS_ro r15, laws_eqValue_ro r16, laws_markValue_ro r17, laws_heldValue_ro r18, laws_toValue_ro r19, laws_toOriginS_ro r20, impl_RestrictTable_ro r21, laws_eqValue_ro r22, laws_heldValue_ro r23], []⟩ = some (.done (laws_FnExactRestrictTable_ro false) [AbsCalls Try.prog 24 (laws_szValue_as a0 1048576) (laws_szValue_ro r1), (decide ((r1 : Int) < 0)) = false, AbsCalls Try.prog 54 (laws_szOriginS_as a1 r1) (laws_szOriginS_ro r2), (decide ((r2 : Int) < 0)) = false, AbsCalls Try.prog 26 (laws_toValue_as a0) (laws_toValue_ro r3), AbsCalls Try.prog 56 (laws_toOriginS_as a1) (laws_toOriginS_ro r4), AbsCalls Try.prog 55 (spec_RestrictTable_as r3 r4) (spec_RestrictTable_ro r5), AbsCalls Try.prog 26 (laws_toValue_as a0) (laws_toValue_ro r6), AbsCalls Try.prog 56 (laws_toOriginS_as a1) (laws_toOriginS_ro r7), AbsCalls Try.prog 57 (impl_RestrictTable_as r6 r7) (impl_RestrictTable_ro r8), AbsCalls Try.prog 19 (laws_eqValue_as r8 r5) (laws_eqValue_ro r9), (!r9) = false, AbsCalls Try.prog 26 (laws_toValue_as a0) (laws_toValue_ro r10), AbsCalls Try.prog 19 (laws_eqValue_as r6 r10) (laws_eqValue_ro r11), (!r11) = false, AbsCalls Try.prog 56 (laws_toOriginS_as a1) (laws_toOriginS_ro r12), AbsCalls Try.prog 58 (laws_eqOriginS_as r7 r12) (laws_eqOriginS_ro r13), (!r13) = false, AbsCalls Try.prog 22 (laws_markValue_as r6 1) (laws_markValue_ro r14), List.length r14.2.1 = List.length (Val.list r6), List.length r14.2.2.1 = List.length (Val.columns r6), List.length r14.2.2.2 = List.length (Val.rows r6), AbsCalls Try.prog 59 (laws_markOriginS_as r7 r14.1) (laws_markOriginS_ro r15), List.length r15.2 = List.length r7, (decide ((r15.1 : Int) < 0)) = false, AbsCalls Try.prog 19 (laws_eqValue_as r8 r5) (laws_eqValue_ro r16), (!r16) = false, AbsCalls Try.prog 22 (laws_markValue_as r8 1) (laws_markValue_ro r17), List.length r17.2.1 = List.length (Val.list r8), List.length r17.2.2.1 = List.length (Val.columns r8), List.length r17.2.2.2 = List.length (Val.rows r8), AbsCalls Try.prog 23 (laws_heldValue_as (Val.mk (Val.kind r8) (Val.n r8) (Val.step r8) (Val.text r8) r17.2.1 r17.2.2.1 r17.2.2.2) 1) (laws_heldValue_ro r18), (decide ((r18 : Int) < 0)) = false, ((r18 : Int) != r17.1) = false, AbsCalls Try.prog 26 (laws_toValue_as a0) (laws_toValue_ro r19), AbsCalls Try.prog 56 (laws_toOriginS_as a1) (laws_toOriginS_ro r20), AbsCalls Try.prog 57 (impl_RestrictTable_as r19 r20) (impl_RestrictTable_ro r21), AbsCalls Try.prog 19 (laws_eqValue_as r21 r5) (laws_eqValue_ro r22), (!r22) = false, AbsCalls Try.prog 23 (laws_heldValue_as (Val.mk (Val.kind r8) (Val.n r8) (Val.step r8) (Val.text r8) r17.2.1 r17.2.2.1 r17.2.2.2) 1) (laws_heldValue_ro r23), (decide ((r23 : Int) < 0)) = true]) := by kernel_rfl
theorem p11_e_11 (a0 : Val) (a1 : List Org) (r1 : Int) (r2 : Int) (r3 : Val) (r4 : (List Org)) (r5 : Val) (r6 : Val) (r7 : (List Org)) (r8 : Val) (r9 : Bool) (r10 : Val) (r11 : Bool) (r12 : (List Org)) (r13 : Bool) (r14 : Int × (List Val) × (List Str) × (List Rowd)) (r15 : Int × (List Org)) (r16 : Bool) (r17 : Int × (List Val) × (List Str) × (List Rowd)) (r18 : Int) (r19 : Val) (r20 : (List Org)) (r21 : Val) (r22 : Bool) (r23 : Int) : run tt (AbsCalls Try.prog) I11 3000 false [.code I11.body] ⟨(entry 0 (laws_FnExactRestrictTable_as a0 a1)), [false, false, false, false, false, false, false, false, false, false, false, true], [laws_szValue_ro r1, laws_szOriginS_ro r2, laws_toValue_ro r3, laws_toOriginS_ro r4, spec_RestrictTable_ro r5, laws_toValue_ro r6, laws_toOriginS_ro r7, impl_RestrictTable_ro r8, laws_eqValue_ro r9, laws_toValue_ro r10, laws_eqValue_ro r11, laws_toOriginS_ro r12, laws_eqOriginS_ro r13, laws_markValue_ro r14, laws_markOriginS_ro r15, laws_eqValue_ro r16, laws_markValue_ro r17, laws_heldValue_ro r18, laws_toValue_ro r19, laws_toOriginS_ro r20, impl_RestrictTable_ro r21, laws_eqValue_ro r22, laws_heldValue_ro r23], []⟩ = some (.done (laws_FnExactRestrictTable_ro false) [AbsCalls Try.prog 24 (laws_szValue_as a0 1048576) (laws_szValue_ro r1), (decide ((r1 : Int) < 0)) = false, AbsCalls Try.prog 54 (laws_szOriginS_as a1 r1) (laws_szOriginS_ro r2), (decide ((r2 : Int) < 0)) = false, AbsCalls Try.prog 26 (laws_toValue_as a0) (laws_toValue_ro r3), AbsCalls Try.prog 56 (laws_toOriginS_as a1) (laws_toOriginS_ro r4), AbsCalls Try.prog 55 (spec_RestrictTable_as r3 r4) (spec_RestrictTable_ro r5), AbsCalls Try.prog 26 (laws_toValue_as a0) (laws_toValue_ro r6), AbsCalls Try.prog 56 (laws_toOriginS_as a1) (laws_toOriginS_ro r7), AbsCalls Try.prog 57 (impl_RestrictTable_as r6 r7) (impl_RestrictTable_ro r8), AbsCalls Try.prog 19 (laws_eqValue_as r8 r5) (laws_eqValue_ro r9), (!r9) = false, AbsCalls Try.prog 26 (laws_toValue_as a0) (laws_toValue_ro r10), AbsCalls Try.prog 19 (laws_eqValue_as r6 r10) (laws_eqValue_ro r11), (!r11) = false, AbsCalls Try.prog 56 (laws_toOriginS_as a1) (laws_toOriginS_ro r12), AbsCalls Try.prog 58 (laws_eqOriginS_as r7 r12) (laws_eqOriginS_ro r13), (!r13) = false, AbsCalls Try.prog 22 (laws_markValue_as r6 1) (laws_markValue_ro r14), List.length r14.2.1 = List.length (Val.list r6), List.length r14.2.2.1 = List.length (Val.columns r6), List.length r14.2.2.2 = List.length (Val.rows r6), AbsCalls Try.prog 59 (laws_markOriginS_as r7 r14.1) (laws_markOriginS_ro r15), List.length r15.2 = List.length r7, (decide ((r15.1 : Int) < 0)) = false, AbsCalls Try.prog 19 (laws_eqValue_as r8 r5) (laws_eqValue_ro r16), (!r16) = false, AbsCalls Try.prog 22 (laws_markValue_as r8 1) (laws_markValue_ro r17), List.length r17.2.1 = List.length (Val.list r8), List.length r17.2.2.1 = List.length (Val.columns r8), List.length r17.2.2.2 = List.length (Val.rows r8), AbsCalls Try.prog 23 (laws_heldValue_as (Val.mk (Val.kind r8) (Val.n r8) (Val.step r8) (Val.text r8) r17.2.1 r17.2.2.1 r17.2.2.2) 1) (laws_heldValue_ro r18), (decide ((r18 : Int) < 0)) = false, ((r18 : Int) != r17.1) = false, AbsCalls Try.prog 26 (laws_toValue_as a0) (laws_toValue_ro r19), AbsCalls Try.prog 56 (laws_toOriginS_as a1) (laws_toOriginS_ro r20), AbsCalls Try.prog 57 (impl_RestrictTable_as r19 r20) (impl_RestrictTable_ro r21), AbsCalls Try.prog 19 (laws_eqValue_as r21 r5) (laws_eqValue_ro r22), (!r22) = false, AbsCalls Try.prog 23 (laws_heldValue_as (Val.mk (Val.kind r8) (Val.n r8) (Val.step r8) (Val.text r8) r17.2.1 r17.2.2.1 r17.2.2.2) 1) (laws_heldValue_ro r23), (decide ((r23 : Int) < 0)) = false, ((r23 : Int) != r17.1) = true]) := by kernel_rfl
theorem p11_e_12 (a0 : Val) (a1 : List Org) (r1 : Int) (r2 : Int) (r3 : Val) (r4 : (List Org)) (r5 : Val) (r6 : Val) (r7 : (List Org)) (r8 : Val) (r9 : Bool) (r10 : Val) (r11 : Bool) (r12 : (List Org)) (r13 : Bool) (r14 : Int × (List Val) × (List Str) × (List Rowd)) (r15 : Int × (List Org)) (r16 : Bool) (r17 : Int × (List Val) × (List Str) × (List Rowd)) (r18 : Int) (r19 : Val) (r20 : (List Org)) (r21 : Val) (r22 : Bool) (r23 : Int) : run tt (AbsCalls Try.prog) I11 3000 false [.code I11.body] ⟨(entry 0 (laws_FnExactRestrictTable_as a0 a1)), [false, false, false, false, false, false, false, false, false, false, false, false], [laws_szValue_ro r1, laws_szOriginS_ro r2, laws_toValue_ro r3, laws_toOriginS_ro r4, spec_RestrictTable_ro r5, laws_toValue_ro r6, laws_toOriginS_ro r7, impl_RestrictTable_ro r8, laws_eqValue_ro r9, laws_toValue_ro r10, laws_eqValue_ro r11, laws_toOriginS_ro r12, laws_eqOriginS_ro r13, laws_markValue_ro r14, laws_markOriginS_ro r15, laws_eqValue_ro r16, laws_markValue_ro r17, laws_heldValue_ro r18, laws_toValue_ro r19, laws_toOriginS_ro r20, impl_RestrictTable_ro r21, laws_eqValue_ro r22, laws_heldValue_ro r23], []⟩ = some (.done (laws_FnExactRestrictTable_ro true) [AbsCalls Try.prog 24 (laws_szValue_as a0 1048576) (laws_szValue_ro r1), (decide ((r1 : Int) < 0)) = false, AbsCalls Try.prog 54 (laws_szOriginS_as a1 r1) (laws_szOriginS_ro r2), (decide ((r2 : Int) < 0)) = false, AbsCalls Try.prog 26 (laws_toValue_as a0) (laws_toValue_ro r3), AbsCalls Try.prog 56 (laws_toOriginS_as a1) (laws_toOriginS_ro r4), AbsCalls Try.prog 55 (spec_RestrictTable_as r3 r4) (spec_RestrictTable_ro r5), AbsCalls Try.prog 26 (laws_toValue_as a0) (laws_toValue_ro r6), AbsCalls Try.prog 56 (laws_toOriginS_as a1) (laws_toOriginS_ro r7), AbsCalls Try.prog 57 (impl_RestrictTable_as r6 r7) (impl_RestrictTable_ro r8), AbsCalls Try.prog 19 (laws_eqValue_as r8 r5) (laws_eqValue_ro r9), (!r9) = false, AbsCalls Try.prog 26 (laws_toValue_as a0) (laws_toValue_ro r10), AbsCalls Try.prog 19 (laws_eqValue_as r6 r10) (laws_eqValue_ro r11), (!r11) = false, AbsCalls Try.prog 56 (laws_toOriginS_as a1) (laws_toOriginS_ro r12), AbsCalls Try.prog 58 (laws_eqOriginS_as r7 r12) (laws_eqOriginS_ro r13), (!r13) = false, AbsCalls Try.prog 22 (laws_markValue_as r6 1) (laws_markValue_ro r14), List.length r14.2.1 = List.length (Val.list r6), List.length r14.2.2.1 = List.length (Val.columns r6), List.length r14.2.2.2 = List.length (Val.rows r6), AbsCalls Try.prog 59 (laws_markOriginS_as r7 r14.1) (laws_markOriginS_ro r15), List.length r15.2 = List.length r7, (decide ((r15.1 : Int) < 0)) = false, AbsCalls Try.prog 19 (laws_eqValue_as r8 r5) (laws_eqValue_ro r16), (!r16) = false, AbsCalls Try.prog 22 (laws_markValue_as r8 1) (laws_markValue_ro r17), List.length r17.2.1 = List.length (Val.list r8), List.length r17.2.2.1 = List.length (Val.columns r8), List.length r17.2.2.2 = List.length (Val.rows r8), AbsCalls Try.prog 23 (laws_heldValue_as (Val.mk (Val.kind r8) (Val.n r8) (Val.step r8) (Val.text r8) r17.2.1 r17.2.2.1 r17.2.2.2) 1) (laws_heldValue_ro r18), (decide ((r18 : Int) < 0)) = false, ((r18 : Int) != r17.1) = false, AbsCalls Try.prog 26 (laws_toValue_as a0) (laws_toValue_ro r19), AbsCalls Try.prog 56 (laws_toOriginS_as a1) (laws_toOriginS_ro r20), AbsCalls Try.prog 57 (impl_RestrictTable_as r19 r20) (impl_RestrictTable_ro r21), AbsCalls Try.prog 19 (laws_eqValue_as r21 r5) (laws_eqValue_ro r22), (!r22) = false, AbsCalls Try.prog 23 (laws_heldValue_as (Val.mk (Val.kind r8) (Val.n r8) (Val.step r8) (Val.text r8) r17.2.1 r17.2.2.1 r17.2.2.2) 1) (laws_heldValue_ro r23), (decide ((r23 : Int) < 0)) = false, ((r23 : Int) != r17.1) = false]) := by kernel_rfl
theorem c11_e {N : Nat} : ∀ a0 a1 r, laws_FnExactRestrictTable N a0 a1 = some r → Reach Try.prog Try.f11 I11 [.code I11.body] (entry 0 (laws_FnExactRestrictTable_as a0 a1)) (laws_FnExactRestrictTable_ro r) := by
  intro a0 a1 r h
  unfold laws_FnExactRestrictTable at h
  obtain ⟨r1, h0, h⟩ := bind_inv h
  rcases cond_inv h with ⟨h1, h⟩ | ⟨h1, h⟩
  · obtain rfl := Option.some.inj h
    exact Reach.done ttok mix fk11 (p11_e_0 a0 a1 r1) (obs_cons (laws_szValue_ok h0) (obs_cons h1 obs_nil))
  · obtain ⟨r2, h2, h⟩ := bind_inv h
    rcases cond_inv h with ⟨h3, h⟩ | ⟨h3, h⟩
    · obtain rfl := Option.some.inj h
      exact Reach.done ttok mix fk11 (p11_e_1 a0 a1 r1 r2) (obs_cons (laws_szValue_ok h0) (obs_cons h1 (obs_cons (laws_szOriginS_ok h2) (obs_cons h3 obs_nil))))
    · obtain ⟨r3, h4, h⟩ := bind_inv h
      obtain ⟨r4, h5, h⟩ := bind_inv h
      obtain ⟨r5, h6, h⟩ := bind_inv h
      obtain ⟨r6, h7, h⟩ := bind_inv h
      obtain ⟨r7, h8, h⟩ := bind_inv h
      obtain ⟨r8, h9, h⟩ := bind_inv h
      obtain ⟨r9, h10, h⟩ := bind_inv h
      rcases cond_inv h with ⟨h11, h⟩ | ⟨h11, h⟩
      · obtain rfl := Option.some.inj h
        exact Reach.done ttok mix fk11 (p11_e_2 a0 a1 r1 r2 r3 r4 r5 r6 r7 r8 r9) (obs_cons (laws_szValue_ok h0) (obs_cons h1 (obs_cons (laws_szOriginS_ok h2) (obs_cons h3 (obs_cons (laws_toValue_ok h4) (obs_cons (laws_toOriginS_ok h5) (obs_cons (spec_RestrictTable_ok h6) (obs_cons (laws_toValue_ok h7) (obs_cons (laws_toOriginS_ok h8) (obs_cons (impl_RestrictTable_ok h9) (obs_cons (laws_eqValue_ok h10) (obs_cons h11 obs_nil))))))))))))
      · obtain ⟨r10, h12, h⟩ := bind_inv h
        obtain ⟨r11, h13, h⟩ := bind_inv h
        rcases cond_inv h with ⟨h14, h⟩ | ⟨h14, h⟩
        · obtain rfl := Option.some.inj h
          exact Reach.done ttok mix fk11 (p11_e_3 a0 a1 r1 r2 r3 r4 r5 r6 r7 r8 r9 r10 r11) (obs_cons (laws_szValue_ok h0) (obs_cons h1 (obs_cons (laws_szOriginS_ok h2) (obs_cons h3 (obs_cons (laws_toValue_ok h4) (obs_cons (laws_toOriginS_ok h5) (obs_cons (spec_RestrictTable_ok h6) (obs_cons (laws_toValue_ok h7) (obs_cons (laws_toOriginS_ok h8) (obs_cons (impl_RestrictTable_ok h9) (obs_cons (laws_eqValue_ok h10) (obs_cons h11 (obs_cons (laws_toValue_ok h12) (obs_cons (laws_eqValue_ok h13) (obs_cons h14 obs_nil)))))))))))))))
        · obtain ⟨r12, h15, h⟩ := bind_inv h
          obtain ⟨r13, h16, h⟩ := bind_inv h
          rcases cond_inv h with ⟨h17, h⟩ | ⟨h17, h⟩
          · obtain rfl := Option.some.inj h
            exact Reach.done ttok mix fk11 (p11_e_4 a0 a1 r1 r2 r3 r4 r5 r6 r7 r8 r9 r10 r11 r12 r13) (obs_cons (laws_szValue_ok h0) (obs_cons h1 (obs_cons (laws_szOriginS_ok h2) (obs_cons h3 (obs_cons (laws_toValue_ok h4) (obs_cons (laws_toOriginS_ok h5) (obs_cons (spec_RestrictTable_ok h6) (obs_cons (laws_toValue_ok h7) (obs_cons (laws_toOriginS_ok h8) (obs_cons (impl_RestrictTable_ok h9) (obs_cons (laws_eqValue_ok h10) (obs_cons h11 (obs_cons (laws_toValue_ok h12) (obs_cons (laws_eqValue_ok h13) (obs_cons h14 (obs_cons (laws_toOriginS_ok h15) (obs_cons (laws_eqOriginS_ok h16) (obs_cons h17 obs_nil))))))))))))))))))
          · obtain ⟨r14, h18, h⟩ := bind_inv h
            obtain ⟨h19, h⟩ := ite_inv h
            obtain ⟨h20, h⟩ := ite_inv h
            obtain ⟨h21, h⟩ := ite_inv h
            obtain ⟨r15, h22, h⟩ := bind_inv h
            obtain ⟨h23, h⟩ := ite_inv h
            rcases cond_inv h with ⟨h24, h⟩ | ⟨h24, h⟩
            · obtain rfl := Option.some.inj h
              exact Reach.done ttok mix fk11 (p11_e_5 a0 a1 r1 r2 r3 r4 r5 r6 r7 r8 r9 r10 r11 r12 r13 r14 r15) (obs_cons (laws_szValue_ok h0) (obs_cons h1 (obs_cons (laws_szOriginS_ok h2) (obs_cons h3 (obs_cons (laws_toValue_ok h4) (obs_cons (laws_toOriginS_ok h5) (obs_cons (spec_RestrictTable_ok h6) (obs_cons (laws_toValue_ok h7) (obs_cons (laws_toOriginS_ok h8) (obs_cons (impl_RestrictTable_ok h9) (obs_cons (laws_eqValue_ok h10) (obs_cons h11 (obs_cons (laws_toValue_ok h12) (obs_cons (laws_eqValue_ok h13) (obs_cons h14 (obs_cons (laws_toOriginS_ok h15) (obs_cons (laws_eqOriginS_ok h16) (obs_cons h17 (obs_cons (laws_markValue_ok h18) (obs_cons h19 (obs_cons h20 (obs_cons h21 (obs_cons (laws_markOriginS_ok h22) (obs_cons h23 (obs_cons h24 (obs_cons rfl obs_nil))))))))))))))))))))))))))
            · obtain ⟨r16, h25, h⟩ := bind_inv h
              rcases cond_inv h with ⟨h26, h⟩ | ⟨h26, h⟩
              · obtain rfl := Option.some.inj h
                exact Reach.done ttok mix fk11 (p11_e_6 a0 a1 r1 r2 r3 r4 r5 r6 r7 r8 r9 r10 r11 r12 r13 r14 r15 r16) (obs_cons (laws_szValue_ok h0) (obs_cons h1 (obs_cons (laws_szOriginS_ok h2) (obs_cons h3 (obs_cons (laws_toValue_ok h4) (obs_cons (laws_toOriginS_ok h5) (obs_cons (spec_RestrictTable_ok h6) (obs_cons (laws_toValue_ok h7) (obs_cons (laws_toOriginS_ok h8) (obs_cons (impl_RestrictTable_ok h9) (obs_cons (laws_eqValue_ok h10) (obs_cons h11 (obs_cons (laws_toValue_ok h12) (obs_cons (laws_eqValue_ok h13) (obs_cons h14 (obs_cons (laws_toOriginS_ok h15) (obs_cons (laws_eqOriginS_ok h16) (obs_cons h17 (obs_cons (laws_markValue_ok h18) (obs_cons h19 (obs_cons h20 (obs_cons h21 (obs_cons (laws_markOriginS_ok h22) (obs_cons h23 (obs_cons h24 (obs_cons (laws_eqValue_ok h25) (obs_cons h26 obs_nil)))))))))))))))))))))))))))
              · obtain ⟨r17, h27, h⟩ := bind_inv h
                obtain ⟨h28, h⟩ := ite_inv h
                obtain ⟨h29, h⟩ := ite_inv h
                obtain ⟨h30, h⟩ := ite_inv h
                obtain ⟨r18, h31, h⟩ := bind_inv h
                rcases cond_inv h with ⟨h32, h⟩ | ⟨h32, h⟩
                · obtain rfl := Option.some.inj h
                  exact Reach.done ttok mix fk11 (p11_e_7 a0 a1 r1 r2 r3 r4 r5 r6 r7 r8 r9 r10 r11 r12 r13 r14 r15 r16 r17 r18) (obs_cons (laws_szValue_ok h0) (obs_cons h1 (obs_cons (laws_szOriginS_ok h2) (obs_cons h3 (obs_cons (laws_toValue_ok h4) (obs_cons (laws_toOriginS_ok h5) (obs_cons (spec_RestrictTable_ok h6) (obs_cons (laws_toValue_ok h7) (obs_cons (laws_toOriginS_ok h8) (obs_cons (impl_RestrictTable_ok h9) (obs_cons (laws_eqValue_ok h10) (obs_cons h11 (obs_cons (laws_toValue_ok h12) (obs_cons (laws_eqValue_ok h13) (obs_cons h14 (obs_cons (laws_toOriginS_ok h15) (obs_cons (laws_eqOriginS_ok h16) (obs_cons h17 (obs_cons (laws_markValue_ok h18) (obs_cons h19 (obs_cons h20 (obs_cons h21 (obs_cons (laws_markOriginS_ok h22) (obs_cons h23 (obs_cons h24 (obs_cons (laws_eqValue_ok h25) (obs_cons h26 (obs_cons (laws_markValue_ok h27) (obs_cons h28 (obs_cons h29 (obs_cons h30 (obs_cons (laws_heldValue_ok h31) (obs_cons h32 obs_nil)))))))))))))))))))))))))))))))))
                · rcases cond_inv h with ⟨h33, h⟩ | ⟨h33, h⟩
                  · obtain rfl := Option.some.inj h
                    exact Reach.done ttok mix fk11 (p11_e_8 a0 a1 r1 r2 r3 r4 r5 r6 r7 r8 r9 r10 r11 r12 r13 r14 r15 r16 r17 r18) (obs_cons (laws_szValue_ok h0) (obs_cons h1 (obs_cons (laws_szOriginS_ok h2) (obs_cons h3 (obs_cons (laws_toValue_ok h4) (obs_cons (laws_toOriginS_ok h5) (obs_cons (spec_RestrictTable_ok h6) (obs_cons (laws_toValue_ok h7) (obs_cons (laws_toOriginS_ok h8) (obs_cons (impl_RestrictTable_ok h9) (obs_cons (laws_eqValue_ok h10) (obs_cons h11 (obs_cons (laws_toValue_ok h12) (obs_cons (laws_eqValue_ok h13) (obs_cons h14 (obs_cons (laws_toOriginS_ok h15) (obs_cons (laws_eqOriginS_ok h16) (obs_cons h17 (obs_cons (laws_markValue_ok h18) (obs_cons h19 (obs_cons h20 (obs_cons h21 (obs_cons (laws_markOriginS_ok h22) (obs_cons h23 (obs_cons h24 (obs_cons (laws_eqValue_ok h25) (obs_cons h26 (obs_cons (laws_markValue_ok h27) (obs_cons h28 (obs_cons h29 (obs_cons h30 (obs_cons (laws_heldValue_ok h31) (obs_cons h32 (obs_cons h33 obs_nil))))))))))))))))))))))))))))))))))
                  · obtain ⟨r19, h34, h⟩ := bind_inv h
                    obtain ⟨r20, h35, h⟩ := bind_inv h
                    obtain ⟨r21, h36, h⟩ := bind_inv h
                    obtain ⟨r22, h37, h⟩ := bind_inv h
                    rcases cond_inv h with ⟨h38, h⟩ | ⟨h38, h⟩
                    · obtain rfl := Option.some.inj h
                      exact Reach.done ttok mix fk11 (p11_e_9 a0 a1 r1 r2 r3 r4 r5 r6 r7 r8 r9 r10 r11 r12 r13 r14 r15 r16 r17 r18 r19 r20 r21 r22) (obs_cons (laws_szValue_ok h0) (obs_cons h1 (obs_cons (laws_szOriginS_ok h2) (obs_cons h3 (obs_cons (laws_toValue_ok h4) (obs_cons (laws_toOriginS_ok h5) (obs_cons (spec_RestrictTable_ok h6) (obs_cons (laws_toValue_ok h7) (obs_cons (laws_toOriginS_ok h8) (obs_cons (impl_RestrictTable_ok h9) (obs_cons (laws_eqValue_ok h10) (obs_cons h11 (obs_cons (laws_toValue_ok h12) (obs_cons (laws_eqValue_ok h13) (obs_cons h14 (obs_cons (laws_toOriginS_ok h15) (obs_cons (laws_eqOriginS_ok h16) (obs_cons h17 (obs_cons (laws_markValue_ok h18) (obs_cons h19 (obs_cons h20 (obs_cons h21 (obs_cons (laws_markOriginS_ok h22) (obs_cons h23 (obs_cons h24 (obs_cons (laws_eqValue_ok h25) (obs_cons h26 (obs_cons (laws_markValue_ok h27) (obs_cons h28 (obs_cons h29 (obs_cons h30 (obs_cons (laws_heldValue_ok h31) (obs_cons h32 (obs_cons h33 (obs_cons (laws_toValue_ok h34) (obs_cons (laws_toOriginS_ok h35) (obs_cons (impl_RestrictTable_ok h36) (obs_cons (laws_eqValue_ok h37) (obs_cons h38 obs_nil)))))))))))))))))))))))))))))))))))))))
                    · obtain ⟨r23, h39, h⟩ := bind_inv h
                      rcases cond_inv h with ⟨h40, h⟩ | ⟨h40, h⟩
                      · obtain rfl := Option.some.inj h
                        exact Reach.done ttok mix fk11 (p11_e_10 a0 a1 r1 r2 r3 r4 r5 r6 r7 r8 r9 r10 r11 r12 r13 r14 r15 r16 r17 r18 r19 r20 r21 r22 r23) (obs_cons (laws_szValue_ok h0) (obs_cons h1 (obs_cons (laws_szOriginS_ok h2) (obs_cons h3 (obs_cons (laws_toValue_ok h4) (obs_cons (laws_toOriginS_ok h5) (obs_cons (spec_RestrictTable_ok h6) (obs_cons (laws_toValue_ok h7) (obs_cons (laws_toOriginS_ok h8) (obs_cons (impl_RestrictTable_ok h9) (obs_cons (laws_eqValue_ok h10) (obs_cons h11 (obs_cons (laws_toValue_ok h12) (obs_cons (laws_eqValue_ok h13) (obs_cons h14 (obs_cons (laws_toOriginS_ok h15) (obs_cons (laws_eqOriginS_ok h16) (obs_cons h17 (obs_cons (laws_markValue_ok h18) (obs_cons h19 (obs_cons h20 (obs_cons h21 (obs_cons (laws_markOriginS_ok h22) (obs_cons h23 (obs_cons h24 (obs_cons (laws_eqValue_ok h25) (obs_cons h26 (obs_cons (laws_markValue_ok h27) (obs_cons h28 (obs_cons h29 (obs_cons h30 (obs_cons (laws_heldValue_ok h31) (obs_cons h32 (obs_cons h33 (obs_cons (laws_toValue_ok h34) (obs_cons (laws_toOriginS_ok h35) (obs_cons (impl_RestrictTable_ok h36) (obs_cons (laws_eqValue_ok h37) (obs_cons h38 (obs_cons (laws_heldValue_ok h39) (obs_cons h40 obs_nil)))))))))))))))))))))))))))))))))))))))))
                      · rcases cond_inv h with ⟨h41, h⟩ | ⟨h41, h⟩
                        · obtain rfl := Option.some.inj h
                          exact Reach.done ttok mix fk11 (p11_e_11 a0 a1 r1 r2 r3 r4 r5 r6 r7 r8 r9 r10 r11 r12 r13 r14 r15 r16 r17 r18 r19 r20 r21 r22 r23) (obs_cons (laws_szValue_ok h0) (obs_cons h1 (obs_cons (laws_szOriginS_ok h2) (obs_cons h3 (obs_cons (laws_toValue_ok h4) (obs_cons (laws_toOriginS_ok h5) (obs_cons (spec_RestrictTable_ok h6) (obs_cons (laws_toValue_ok h7) (obs_cons (laws_toOriginS_ok h8) (obs_cons (impl_RestrictTable_ok h9) (obs_cons (laws_eqValue_ok h10) (obs_cons h11 (obs_cons (laws_toValue_ok h12) (obs_cons (laws_eqValue_ok h13) (obs_cons h14 (obs_cons (laws_toOriginS_ok h15) (obs_cons (laws_eqOriginS_ok h16) (obs_cons h17 (obs_cons (laws_markValue_ok h18) (obs_cons h19 (obs_cons h20 (obs_cons h21 (obs_cons (laws_markOriginS_ok h22) (obs_cons h23 (obs_cons h24 (obs_cons (laws_eqValue_ok h25) (obs_cons h26 (obs_cons (laws_markValue_ok h27) (obs_cons h28 (obs_cons h29 (obs_cons h30 (obs_cons (laws_heldValue_ok h31) (obs_cons h32 (obs_cons h33 (obs_cons (laws_toValue_ok h34) (obs_cons (laws_toOriginS_ok h35) (obs_cons (impl_RestrictTable_ok h36) (obs_cons (laws_eqValue_ok h37) (obs_cons h38 (obs_cons (laws_heldValue_ok h39) (obs_cons h40 (obs_cons h41 obs_nil))))))))))))))))))))))))))))))))))))))))))
                        · obtain rfl := Option.some.inj h
                          exact Reach.done ttok mix fk11 (p11_e_12 a0 a1 r1 r2 r3 r4 r5 r6 r7 r8 r9 r10 r11 r12 r13 r14 r15 r16 r17 r18 r19 r20 r21 r22 r23) (obs_cons (laws_szValue_ok h0) (obs_cons h1 (obs_cons (laws_szOriginS_ok h2) (obs_cons h3 (obs_cons (laws_toValue_ok h4) (obs_cons (laws_toOriginS_ok h5) (obs_cons (spec_RestrictTable_ok h6) (obs_cons (laws_toValue_ok h7) (obs_cons (laws_toOriginS_ok h8) (obs_cons (impl_RestrictTable_ok h9) (obs_cons (laws_eqValue_ok h10) (obs_cons h11 (obs_cons (laws_toValue_ok h12) (obs_cons (laws_eqValue_ok h13) (obs_cons h14 (obs_cons (laws_toOriginS_ok h15) (obs_cons (laws_eqOriginS_ok h16) (obs_cons h17 (obs_cons (laws_markValue_ok h18) (obs_cons h19 (obs_cons h20 (obs_cons h21 (obs_cons (laws_markOriginS_ok h22) (obs_cons h23 (obs_cons h24 (obs_cons (laws_eqValue_ok h25) (obs_cons h26 (obs_cons (laws_markValue_ok h27) (obs_cons h28 (obs_cons h29 (obs_cons h30 (obs_cons (laws_heldValue_ok h31) (obs_cons h32 (obs_cons h33 (obs_cons (laws_toValue_ok h34) (obs_cons (laws_toOriginS_ok h35) (obs_cons (impl_RestrictTable_ok h36) (obs_cons (laws_eqValue_ok h37) (obs_cons h38 (obs_cons (laws_heldValue_ok h39) (obs_cons h40 (obs_cons h41 obs_nil))))))))))))))))))))))))))))))))))))))))))
theorem laws_FnExactRestrictTable_ok {N : Nat} {a0 : Val} {a1 : List Org} {r : Bool} (h : laws_FnExactRestrictTable N  a0 a1 = some r) : AbsCalls Try.prog 11 (laws_FnExactRestrictTable_as a0 a1) (laws_FnExactRestrictTable_ro r) :=
 AbsCalls.of_reach fk11 rfl rfl (Nat.le_of_ble_eq_true rfl) (c11_e a0 a1 r h)
end Go.Ab.T
end
section
namespace Go.Ab
set_option linter.unusedVariables false
set_option linter.unusedSimpArgs false
theorem left_ge {s : Nat} {l : Int} (h : ¬ left s l < 0) : (s : Int) ≤ l := by unfold left at h; split at h <;> omega
end Go.Ab
end
section
namespace Go.Ab
set_option linter.unusedVariables false
set_option linter.unusedSimpArgs false
theorem spec_l3Row_eq {N K : Nat} {r : Rowd} (h : r.Fit K) (hK : K ≤ 137438953472) : spec_l3Row N r = some r := by
  have h1 : r.cells.length ≤ K := h.1.1
  have h2 : r.frm.length ≤ K := h.2.1
  unfold spec_l3Row
  rw [if_pos (by unfold Lim; omega), if_pos (by unfold Lim; omega)]; rfl
theorem impl_copyRow_eq {N K : Nat} {r : Rowd} (h : r.Fit K) (hK : K ≤ 137438953472) : impl_copyRow N r = some r := spec_l3Row_eq (N := N) h hK
theorem spec_copy_b7_eq {N K : Nat} {rc : Val → Option Val} {v z : Val} {k n s : Int} {t : Str} {l : List Val} {c : List Str} (h : LFit K (Rowd.Fit K) v.rows) (hK : K ≤ 137438953472) (hN : K < N) :
    spec_l3Copy_b7 N rc N 0 v z (Val.mk k n s t l c []) = some (Val.mk k n s t l c v.rows) := by
  have hl : v.rows.length ≤ K := h.1
  exact forList (L := fun m i q => spec_l3Copy_b7 N rc m i v z (Val.mk k n s t l c q)) v.rows (fun r q => Val.mk k n s t l c (q ++ r)) (fun i q => q.length = i) (fun m q hq => by simp [spec_l3Copy_b7])
    (fun i x r q hd hi hx hq => by
      have hq : q.length = i := hq
      have hi' : (i : Int) < (v.rows.length : Int) := by omega
      refine .inl ⟨q ++ [x], by simp [hq], by simp, fun m => ?_⟩
      simp only [spec_l3Copy_b7, decide_eq_true hi', cond_true, Int.toNat_natCast, getD_of hx, spec_l3Row_eq (h.2 x (List.mem_of_getElem? hx)) hK, Option.bind_some, wrap_succ hi (by omega : v.rows.length ≤ _), vk, vn, vs, vt, vl, vc, vr]
      rw [if_pos (by omega), if_pos (by simp only [List.length_cons, List.length_nil]; unfold Lim; omega)]) N 0 [] rfl (by omega) (by omega)
theorem spec_copy_step {N d K : Nat} {v : Val} (h : v.Fit K) (hK : K ≤ 137438953472) (hN : K < N) (hx : ∀ x ∈ v.list, spec_l3Copy_fix N d x = some x) : spec_l3Copy_body N (spec_l3Copy_fix N d) v = some v := by
  obtain ⟨h1, h2, h3, h4, h5, h6, h7⟩ := Val.fit_iff.1 h
  have hl : v.list.length ≤ K := h5.1
  have hc : v.columns.length ≤ K := h6.1
  unfold spec_l3Copy_body
  rw [if_pos (by unfold Lim; omega)]
  have key := forList (L := fun m i q => spec_l3Copy_b3 N (spec_l3Copy_fix N d) m i v (Val.mk 0 0 0 [] [] [] []) (Val.mk v.kind v.n v.step v.text q ([] ++ v.columns) [])) v.list (fun l q => Val.mk v.kind v.n v.step v.text (q ++ l) v.columns v.rows) (fun i q => q.length = i)
    (fun m q hq => by
      simp only [spec_l3Copy_b3, Int.lt_irrefl, decide_false, cond_false, List.append_nil, List.nil_append]
      exact spec_copy_b7_eq h7 hK hN)
    (fun i x l q hd hi hxi hq => by
      have hq : q.length = i := hq
      have hi' : (i : Int) < (v.list.length : Int) := by omega
      refine .inl ⟨q ++ [x], by simp [hq], by simp, fun m => ?_⟩
      simp only [spec_l3Copy_b3, decide_eq_true hi', cond_true, Int.toNat_natCast, getD_of hxi, hx x (List.mem_of_getElem? hxi), Option.bind_some, Val.re_eq, wrap_succ hi (by omega : v.list.length ≤ _), vk, vn, vs, vt, vl, vc, vr]
      rw [if_pos (by omega), if_pos (by simp only [List.length_cons, List.length_nil]; unfold Lim; omega)]) N 0 [] rfl (by omega) (by omega)
  rw [List.drop_zero, List.nil_append, List.nil_append, Val.eta] at key
  exact key
theorem spec_copy_big {K : Nat} (hK : K ≤ 137438953472) : ∀ v : Val, v.Fit K → Big2 fun N d => spec_l3Copy_fix N d v = some v := by
  refine Val.ind fun k n s t a c r ih h => ?_
  have h5 := (Val.fit_iff.1 h).2.2.2.2.1
  refine Big2.succ ?_
  exact ((Big2.list fun x hx => ih x hx (h5.2 x hx)).and (big_lt K).two).imp fun N d ⟨hx, hN⟩ => spec_copy_step h hK hN hx
theorem spec_copy_eq' {K : Nat} {v : Val} (h : v.Fit K) (hK : K ≤ 137438953472) : Big fun N => spec_l3Copy N v = some v := (spec_copy_big hK v h).diag
theorem impl_copy_b6_eq {N K : Nat} {rc : Val → Option Val} {rd : List Val → Option (List Val)} {z : Val} {k n s : Int} {t : Str} {l : List Val} {c : List Str} {rs : List Rowd} (h : LFit K (Rowd.Fit K) rs) (hK : K ≤ 137438953472) (hN : K < N) :
    impl_copyValue_b6 N rc rd N rs rs.length 0 z (Val.mk k n s t l c []) = some (Val.mk k n s t l c rs) := by
  have hl : rs.length ≤ K := h.1
  exact forList (L := fun m i q => impl_copyValue_b6 N rc rd m rs rs.length i z (Val.mk k n s t l c q)) rs (fun r q => Val.mk k n s t l c (q ++ r)) (fun i q => q.length = i) (fun m q hq => by simp [impl_copyValue_b6])
    (fun i x r q hd hi hx hq => by
      have hq : q.length = i := hq
      have hi' : (i : Int) < (rs.length : Int) := by omega
      refine .inl ⟨q ++ [x], by simp [hq], by simp, fun m => ?_⟩
      simp only [impl_copyValue_b6, decide_eq_true hi', cond_true, Int.toNat_natCast, getD_of hx, impl_copyRow_eq (h.2 x (List.mem_of_getElem? hx)) hK, Option.bind_some, wrap_succ hi (by omega : rs.length ≤ _), vk, vn, vs, vt, vl, vc, vr]
      rw [if_pos (by omega), if_pos (by simp only [List.length_cons, List.length_nil]; unfold Lim; omega)]) N 0 [] rfl (by omega) (by omega)
theorem impl_copies_step {N d : Nat} {a : List Val} (hl : a.length ≤ 137438953472) (hn : a.length < N) (hx : ∀ x ∈ a, (impl_copyValue_fix N d).c_impl_copyValue x = some x) : (impl_copyValue_fix N (d + 1)).c_impl_copyValues a = some a := by
  show impl_copyValues_body N (impl_copyValue_fix N d).c_impl_copyValue (impl_copyValue_fix N d).c_impl_copyValues a = _
  unfold impl_copyValues_body
  exact forList (L := fun m i q => impl_copyValues_b3 N (impl_copyValue_fix N d).c_impl_copyValue (impl_copyValue_fix N d).c_impl_copyValues m q a a.length i) a (fun l q => q ++ l) (fun i q => q.length = i) (fun m q hq => by simp [impl_copyValues_b3])
    (fun i x l q hd hi hxi hq => by
      have hq : q.length = i := hq
      have hi' : (i : Int) < (a.length : Int) := by omega
      refine .inl ⟨q ++ [x], by simp [hq], by simp, fun m => ?_⟩
      simp only [impl_copyValues_b3, decide_eq_true hi', cond_true, Int.toNat_natCast, getD_of hxi, hx x (List.mem_of_getElem? hxi), Option.bind_some, Val.re_eq, wrap_succ hi (by omega : a.length ≤ _)]
      rw [if_pos (by omega), if_pos (by simp only [List.length_cons, List.length_nil]; unfold Lim; omega)]) N 0 [] rfl (by omega) (by omega)
theorem impl_copy_step {N d K : Nat} {v : Val} (h : v.Fit K) (hK : K ≤ 137438953472) (hN : K < N) (hx : (impl_copyValue_fix N d).c_impl_copyValues v.list = some v.list) : (impl_copyValue_fix N (d + 1)).c_impl_copyValue v = some v := by
  obtain ⟨h1, h2, h3, h4, h5, h6, h7⟩ := Val.fit_iff.1 h
  have hc : v.columns.length ≤ K := h6.1
  show impl_copyValue_body N (impl_copyValue_fix N d).c_impl_copyValue (impl_copyValue_fix N d).c_impl_copyValues v = _
  unfold impl_copyValue_body
  rw [hx, Option.bind_some, if_pos (by unfold Lim; omega), impl_copy_b6_eq h7 hK hN, List.nil_append, Val.eta]
theorem impl_copy_big {K : Nat} (hK : K ≤ 137438953472) : ∀ v : Val, v.Fit K → Big2 fun N d => (impl_copyValue_fix N d).c_impl_copyValue v = some v := by
  refine Val.ind fun k n s t a c r ih h => ?_
  have h5 := (Val.fit_iff.1 h).2.2.2.2.1
  have hl : a.length ≤ K := h5.1
  refine Big2.succ (Big2.succ ?_)
  exact ((Big2.list fun x hx => ih x hx (h5.2 x hx)).and (big_lt K).two).imp fun N d ⟨hx, hN⟩ => impl_copy_step h hK hN (impl_copies_step (a := a) (by omega) (by omega) hx)
theorem impl_copy_eq' {K : Nat} {v : Val} (h : v.Fit K) (hK : K ≤ 137438953472) : Big fun N => impl_copyValue N v = some v := (impl_copy_big hK v h).diag
end Go.Ab
end
section
namespace Go.Ab
set_option linter.unusedVariables false
set_option linter.unusedSimpArgs false
theorem emp_nil {α : Type} {l : List α} (h : emp l = true) : l = [] := List.length_eq_zero_iff.1 (of_decide_eq_true h)
end Go.Ab
end
section
namespace Go.Ab
set_option linter.unusedVariables false
set_option linter.unusedSimpArgs false
theorem allLoopG {α ρ : Type} {L : Nat → Int → Option ρ} {x0 : List α} {p : α → Bool} {e b : Option ρ} (hend : ∀ n, L (n + 1) (x0.length : Nat) = e)
    (hcons : ∀ (i : Nat) x n, i < x0.length → x0[i]? = some x → x ∈ x0 → L (n + 1) (i : Nat) = bif p x then L n ((i + 1 : Nat) : Int) else b) {n : Nat} (hn : x0.length < n) :
    L n 0 = bif x0.all p then e else b := by
  have key : ∀ (m i : Nat), i ≤ x0.length → x0.length < m + i → L m (i : Nat) = bif (x0.drop i).all p then e else b := by
    intro m
    induction m with
    | zero => intro i h1 h2; omega
    | succ m ih =>
      intro i h1 h2
      cases hd : x0.drop i with
      | nil =>
        have := drop_nil hd
        obtain rfl : i = x0.length := by omega
        rw [hend]; rfl
      | cons x l =>
        obtain ⟨g1, g2, g3⟩ := drop_cons hd
        rw [hcons i x m g1 g2 (List.mem_of_getElem? g2), ih (i + 1) (by omega) (by omega), g3, List.all_cons]
        cases p x <;> rfl
  exact key n 0 (by omega) (by omega)
def hasO (keep : List Org) (o : Org) : Bool := !(keep.all fun x => !((x.cell == o.cell) && (x.row == o.row)))
theorem spec_l8Has_eq {N : Nat} {keep : List Org} {o : Org} (hl : keep.length ≤ 9223372036854775807) (hn : keep.length < N) : spec_l8Has N keep o = some (hasO keep o) := by
  have := allLoopG (L := fun m i => spec_l8Has_b2 N m keep i o) (x0 := keep) (p := fun x => !((x.cell == o.cell) && (x.row == o.row))) (e := some false) (b := some true) (n := N) (fun n => by simp [spec_l8Has_b2])
    (fun i x n hi hx hm => by
      have hi' : (i : Int) < (keep.length : Int) := by omega
      simp only [spec_l8Has_b2, decide_eq_true hi', cond_true, Int.toNat_natCast, getD_of hx, wrap_succ hi hl]
      rw [if_pos (by omega)]
      cases ((x.cell == o.cell) && (x.row == o.row)) <;> rfl) hn
  have this : spec_l8Has_b2 N N keep 0 o = _ := this
  show spec_l8Has_b2 N N keep 0 o = _
  rw [this, hasO]
  cases keep.all fun x => !((x.cell == o.cell) && (x.row == o.row)) <;> rfl
theorem impl_hasOrigin_eq {N : Nat} {keep : List Org} {o : Org} (hl : keep.length ≤ 9223372036854775807) (hn : keep.length < N) : impl_hasOrigin N keep o = some (hasO keep o) := by
  have := allLoopG (L := fun m i => impl_hasOrigin_b2 N m keep keep.length i o) (x0 := keep) (p := fun x => !((x.cell == o.cell) && (x.row == o.row))) (e := some false) (b := some true) (n := N) (fun n => by simp [impl_hasOrigin_b2])
    (fun i x n hi hx hm => by
      have hi' : (i : Int) < (keep.length : Int) := by omega
      simp only [impl_hasOrigin_b2, decide_eq_true hi', cond_true, Int.toNat_natCast, getD_of hx, wrap_succ hi hl]
      rw [if_pos (by omega)]
      cases ((x.cell == o.cell) && (x.row == o.row)) <;> rfl) hn
  have this : impl_hasOrigin_b2 N N keep keep.length 0 o = _ := this
  show impl_hasOrigin_b2 N N keep keep.length 0 o = _
  rw [this, hasO]
  cases keep.all fun x => !((x.cell == o.cell) && (x.row == o.row)) <;> rfl
def ben (keep : List Org) (r : Rowd) : Bool := r.frm.all (hasO keep)
theorem spec_l8Beneath_eq {N : Nat} {keep os : List Org} (hl : keep.length ≤ 9223372036854775807) (hn : keep.length < N) (hl2 : os.length ≤ 9223372036854775807) (hn2 : os.length < N) : spec_l8Beneath N os keep = some (os.all (hasO keep)) := by
  have := allLoopG (L := fun m i => spec_l8Beneath_b2 N m os keep i) (x0 := os) (p := hasO keep) (e := some true) (b := some false) (n := N) (fun n => by simp [spec_l8Beneath_b2])
    (fun i x n hi hx hm => by
      have hi' : (i : Int) < (os.length : Int) := by omega
      simp only [spec_l8Beneath_b2, decide_eq_true hi', cond_true, Int.toNat_natCast, getD_of hx, wrap_succ hi hl2, spec_l8Has_eq hl hn, Option.bind_some]
      rw [if_pos (by omega)]
      cases hasO keep x <;> rfl) hn2
  have this : spec_l8Beneath_b2 N N os keep 0 = _ := this
  show spec_l8Beneath_b2 N N os keep 0 = _
  rw [this]
  cases os.all (hasO keep) <;> rfl
def resG (v : Val) (keep : List Org) : Val := bif v.kind != 5 then v else bif !valOk v then v else .mk 5 0 0 [] [] v.columns (v.rows.filter (ben keep))
theorem filter_cons' {α : Type} {p : α → Bool} {x : α} {l : List α} : (x :: l).filter p = bif p x then x :: l.filter p else l.filter p := by
  rw [List.filter_cons]; cases p x <;> rfl
theorem spec_res_loop {N K : Nat} {keep : List Org} {v z : Val} (h : LFit K (Rowd.Fit K) v.rows) (hK : K ≤ 137438953472) (hN : K < N) (hk : keep.length ≤ K) :
    spec_RestrictTable_b5 N N keep 0 v z (.mk 5 0 0 [] [] v.columns []) = some (.mk 5 0 0 [] [] v.columns (v.rows.filter (ben keep))) := by
  have hl : v.rows.length ≤ K := h.1
  exact forList (L := fun m i q => spec_RestrictTable_b5 N m keep i v z (.mk 5 0 0 [] [] v.columns q)) v.rows (fun l q => Val.mk 5 0 0 [] [] v.columns (q ++ l.filter (ben keep))) (fun i q => q.length ≤ i) (fun m q _ => by simp [spec_RestrictTable_b5])
    (fun i x l q hd hi hx hq => by
      have hq : q.length ≤ i := hq
      have hi' : (i : Int) < (v.rows.length : Int) := by omega
      have hm := List.mem_of_getElem? hx
      have hf : x.frm.length ≤ K := (h.2 x hm).2.1
      have hb := spec_l8Beneath_eq (N := N) (keep := keep) (os := x.frm) (by omega) (by omega) (by omega) (by omega)
      cases h1 : x.frm.all (hasO keep)
      · have h1' : ben keep x = false := h1
        refine .inl ⟨q, by show q.length ≤ i + 1; omega, by rw [filter_cons', h1']; rfl, fun m => ?_⟩
        simp only [spec_RestrictTable_b5, decide_eq_true hi', cond_true, cond_false, Int.toNat_natCast, getD_of hx, hb, h1, Option.bind_some, wrap_succ hi (by omega : v.rows.length ≤ _)]
        rw [if_pos (by omega)]
      · have h1' : ben keep x = true := h1
        refine .inl ⟨q ++ [x], by show (q ++ [x]).length ≤ i + 1; simp; omega, by rw [filter_cons', h1']; simp, fun m => ?_⟩
        simp only [spec_RestrictTable_b5, decide_eq_true hi', cond_true, Int.toNat_natCast, getD_of hx, hb, h1, spec_l3Row_eq (h.2 x hm) hK, Option.bind_some, vk, vn, vs, vt, vl, vc, vr, wrap_succ hi (by omega : v.rows.length ≤ _)]
        rw [if_pos (by omega), if_pos (by simp only [List.length_cons, List.length_nil]; unfold Lim; omega)]) N 0 [] (by simp) (by omega) (by omega)
theorem impl_res_inner {N K : Nat} {keep : List Org} {k6 : List Org → List Rowd → Int → Int → Val → Val → Option Val} {x24 : List Rowd} {x25 x26 : Int} {b4 b5 : Val} {r : Rowd} (h : r.Fit K) (hK : K ≤ 137438953472) (hN : K < N) (hk : keep.length ≤ K) (hb : b5.rows.length ≤ K) :
    impl_RestrictTable_b10 N k6 N keep true x24 x25 x26 r.frm r.frm.length 0 b4 b5 r = bif ben keep r then k6 keep x24 x25 (IntKind.i64.wrap (x26 + 1)) b4 (.mk b5.kind b5.n b5.step b5.text b5.list b5.columns (b5.rows ++ [r])) else k6 keep x24 x25 (IntKind.i64.wrap (x26 + 1)) b4 b5 := by
  have hf : r.frm.length ≤ K := h.2.1
  have key : ∀ (m i : Nat) (t : Bool), i ≤ r.frm.length → r.frm.length < m + i → impl_RestrictTable_b10 N k6 m keep t x24 x25 x26 r.frm r.frm.length (i : Nat) b4 b5 r = bif t && (r.frm.drop i).all (hasO keep) then k6 keep x24 x25 (IntKind.i64.wrap (x26 + 1)) b4 (.mk b5.kind b5.n b5.step b5.text b5.list b5.columns (b5.rows ++ [r])) else k6 keep x24 x25 (IntKind.i64.wrap (x26 + 1)) b4 b5 := by
    intro m
    induction m with
    | zero => intro i t h1 h2; omega
    | succ m ih =>
      intro i t h1 h2
      cases hd : r.frm.drop i with
      | nil =>
        have := drop_nil hd
        obtain rfl : i = r.frm.length := by omega
        have hlim : b5.rows.length + [r].length ≤ Lim := by simp only [List.length_cons, List.length_nil]; unfold Lim; omega
        simp only [impl_RestrictTable_b10, Int.lt_irrefl, decide_false, cond_false, impl_copyRow_eq h hK, Option.bind_some, if_pos hlim, List.all_nil, Bool.and_true]
      | cons x l =>
        obtain ⟨g1, g2, g3⟩ := drop_cons hd
        have hi' : (i : Int) < (r.frm.length : Int) := by omega
        have hcd : (0 : Int) ≤ (i : Int) ∧ (i : Int) < (r.frm.length : Int) := by omega
        have ih' := fun t => ih (i + 1) t (by omega) (by omega)
        rw [g3] at ih'
        simp only [impl_RestrictTable_b10, decide_eq_true hi', cond_true, Int.toNat_natCast, getD_of g2, if_pos hcd, wrap_succ g1 (by omega : r.frm.length ≤ _), impl_hasOrigin_eq (N := N) (keep := keep) (by omega) (by omega), Option.bind_some, ih', List.all_cons]
        cases t <;> simp
  have := key N 0 true (by omega) (by omega)
  simpa [ben] using this
theorem impl_res_loop {N K : Nat} {keep : List Org} {v z : Val} {k n s : Int} {t : Str} {ll : List Val} {c : List Str} (h : LFit K (Rowd.Fit K) v.rows) (hK : K ≤ 137438953472) (hN : K < N) (hk : keep.length ≤ K) :
    impl_RestrictTable_b6 N N keep v.rows v.rows.length 0 z (.mk k n s t ll c []) = some (.mk k n s t ll c (v.rows.filter (ben keep))) := by
  have hl : v.rows.length ≤ K := h.1
  exact forList (L := fun m i q => impl_RestrictTable_b6 N m keep v.rows v.rows.length i z (.mk k n s t ll c q)) v.rows (fun l q => Val.mk k n s t ll c (q ++ l.filter (ben keep))) (fun i q => q.length ≤ i) (fun m q _ => by simp [impl_RestrictTable_b6])
    (fun i x l q hd hi hx hq => by
      have hq : q.length ≤ i := hq
      have hi' : (i : Int) < (v.rows.length : Int) := by omega
      have hm := List.mem_of_getElem? hx
      have base : ∀ m, impl_RestrictTable_b6 N (m + 1) keep v.rows v.rows.length i z (.mk k n s t ll c q) = bif ben keep x then impl_RestrictTable_b6 N m keep v.rows v.rows.length ((i + 1 : Nat) : Int) z (.mk k n s t ll c (q ++ [x])) else impl_RestrictTable_b6 N m keep v.rows v.rows.length ((i + 1 : Nat) : Int) z (.mk k n s t ll c q) := by
        intro m
        simp only [impl_RestrictTable_b6, decide_eq_true hi', cond_true, Int.toNat_natCast, getD_of hx, impl_res_inner (N := N) (b5 := .mk k n s t ll c q) (h.2 x hm) hK hN hk (by show q.length ≤ K; omega), vk, vn, vs, vt, vl, vc, vr, wrap_succ hi (by omega : v.rows.length ≤ _)]
        rw [if_pos (by omega)]
      cases h1 : ben keep x
      · exact .inl ⟨q, by show q.length ≤ i + 1; omega, by rw [filter_cons', h1]; rfl, fun m => by rw [base, h1]; rfl⟩
      · exact .inl ⟨q ++ [x], by show (q ++ [x]).length ≤ i + 1; simp; omega, by rw [filter_cons', h1]; simp, fun m => by rw [base, h1]; rfl⟩) N 0 [] (by simp) (by omega) (by omega)
theorem table_flat {v : Val} (hv : valOk v = true) (hk : (v.kind == 5) = true) : v.kind = 5 ∧ v.n = 0 ∧ v.step = 0 ∧ v.text = [] ∧ v.list = [] := by
  have hk := eq_of_beq hk
  rw [valOk_eq, hk] at hv
  simp only [show ((5 : Int) == 1) = false from rfl, show ((5 : Int) == 2) = false from rfl, show ((5 : Int) == 4) = false from rfl, show ((5 : Int) == 6) = false from rfl, show ((5 : Int) == 5) = true from rfl, cond_true, cond_false, Bool.and_eq_true] at hv
  obtain ⟨h1, h2, h3, h4, _⟩ := hv
  exact ⟨hk, eq_of_beq h2, eq_of_beq h3, eq_of_beq h4, emp_nil h1⟩
theorem res_eq {K : Nat} (hK : 24 ≤ K ∧ K ≤ 137438953472) {v : Val} {keep : List Org} (h : v.Fit K) (hk : keep.length ≤ K) : Big fun N => impl_RestrictTable N v keep = some (resG v keep) ∧ spec_RestrictTable N v keep = some (resG v keep) := by
  obtain ⟨_, _, _, _, _, h6, h7⟩ := Val.fit_iff.1 h
  have hc : v.columns.length ≤ K := h6.1
  have hlim : 0 + v.columns.length ≤ Lim := by unfold Lim; omega
  refine ((valid_eq (by omega) h).and ((impl_copy_eq' h (by omega)).and ((spec_copy_eq' h (by omega)).and (big_lt K)))).imp fun N ⟨⟨h1, h2⟩, h3, h4, hN⟩ => ?_
  have i1 := impl_res_loop (N := N) (z := Val.mk 0 0 0 [] [] [] []) (k := v.kind) (n := v.n) (s := v.step) (t := v.text) (ll := v.list) (c := v.columns) h7 hK.2 hN hk
  have i2 := spec_res_loop (N := N) (z := Val.mk 0 0 0 [] [] [] []) h7 hK.2 hN hk
  cases g1 : (v.kind == 5)
  · simp only [impl_RestrictTable, spec_RestrictTable, h3, h4, Option.bind_some, bne, g1, Bool.not_false, cond_true, resG, and_self]
  · cases g2 : valOk v
    · simp only [impl_RestrictTable, spec_RestrictTable, h1, h2, h3, h4, Option.bind_some, bne, g1, g2, Bool.not_false, Bool.not_true, cond_true, cond_false, resG, and_self]
    · obtain ⟨e1, e2, e3, e4, e5⟩ := table_flat g2 g1
      refine ⟨?_, ?_⟩
      · simp only [impl_RestrictTable, h1, h3, Option.bind_some, bne, g1, g2, Bool.not_true, cond_false, i1, resG]
        rw [e1, e2, e3, e4, e5]
      · simp only [spec_RestrictTable, h2, h4, Option.bind_some, bne, g1, g2, Bool.not_true, cond_false, if_pos hlim, List.nil_append, i2, resG]
theorem filter_cnt {p : Rowd → Bool} : ∀ {l : List Rowd}, ((l.filter p).map cRow).sum ≤ (l.map cRow).sum
  | [] => by simp
  | x :: l => by
    have := filter_cnt (p := p) (l := l)
    rw [filter_cons']
    cases p x <;> simp only [cond_true, cond_false, List.map_cons, List.sum_cons] <;> omega
theorem resG_good {v : Val} {keep : List Org} (h : v.Fit 1048576) : (resG v keep).Fit 1048576 ∧ (resG v keep).cnt ≤ v.cnt := by
  obtain ⟨_, _, _, _, _, h6, h7⟩ := Val.fit_iff.1 h
  unfold resG
  cases (v.kind != 5)
  · cases valOk v
    · exact ⟨h, Nat.le_refl _⟩
    · refine ⟨Val.fit_iff.2 ⟨i64_of (by show (-1000000 : Int) ≤ 5; omega) (by show (5 : Int) ≤ 1000000; omega), i64_of (by show (-1000000 : Int) ≤ 0; omega) (by show (0 : Int) ≤ 1000000; omega), i64_of (by show (-1000000 : Int) ≤ 0; omega) (by show (0 : Int) ≤ 1000000; omega), Nat.zero_le _, lfit_nil, h6, Nat.le_trans (List.length_filter_le _ _) h7.1, fun r hr => h7.2 r (List.mem_filter.1 hr).1⟩, ?_⟩
      have := filter_cnt (p := ben keep) (l := v.rows)
      show (Val.mk 5 0 0 [] [] v.columns (v.rows.filter (ben keep))).cnt ≤ _
      rw [valCnt, valCnt v, vl, vc, vr]
      simp only [List.map_nil, List.sum_nil]
      omega
  · exact ⟨h, Nat.le_refl _⟩
theorem orgs_of_cells {a0 : List Org} (f0 : ∀ z ∈ [CV.sl .ro .org a0], DFit z.toD) : a0.length ≤ 9223372036854775807 := (cell_sl (f0 _ List.mem_cons_self).dk).1
theorem laws_FnExactRestrictTable_true (a0 : Val) (a1 : List Org) (f0 : ∀ z ∈ [CV.int .i64 (Val.kind a0), .int .i64 (Val.n a0), .int .i64 (Val.step a0), .str (Val.text a0), .sl .ro .val (Val.list a0), .sl .ro .str (Val.columns a0), .sl .ro .row (Val.rows a0)], DFit z.toD)
    (f1 : ∀ z ∈ [CV.sl .ro .org a1], DFit z.toD) : ∃ N, laws_FnExactRestrictTable N a0 a1 = some true := by
  have hF := val_of_cells f0
  have hG := orgs_of_cells f1
  by_cases h : left a0.size 1048576 < 0
  · exact ((szValue_eq hF).imp fun N hs => by simp [laws_FnExactRestrictTable, hs 1048576 (by omega) (by omega), h]).get
  · have g0 := left_ge h
    rw [left_of g0] at h
    have hz2 : ∀ N, laws_szOriginS N a1 (1048576 - (a0.size : Int)) = some (left a1.length (1048576 - (a0.size : Int))) := fun N => szOriginS_eq hG (by omega) (by omega)
    by_cases h' : left a1.length (1048576 - (a0.size : Int)) < 0
    · refine ((szValue_eq hF).imp fun N hs => ?_).get
      have e1 := hs 1048576 (by omega) (by omega)
      rw [left_of g0] at e1
      simp only [laws_FnExactRestrictTable, e1, Option.bind_some, decide_eq_false h, cond_false, hz2, decide_eq_true h', cond_true]
    · have g1 := left_ge h'
      have s0 := Val.fit_size (K := 1048576) a0 hF (by omega)
      have c0 := Val.cnt_le a0
      obtain ⟨hff, hfc⟩ := resG_good (keep := a1) s0
      have hl : a1.length ≤ 1048576 := by omega
      refine (((szValue_eq hF).and ((toValue_eq s0).and (eqValue_self s0 (by omega)))).and
        (((res_eq (by omega) s0 hl).and (eqValue_self hff (by omega))).and ((markValue_at (by omega) s0).and ((markValue_held (by omega) hff (by omega)).and (big_lt 274877906944)))))
        |>.imp (fun N ⟨⟨z0, t0, q0⟩, ⟨⟨k4, k5⟩, k6⟩, m0, m3, hN⟩ => ?_) |>.get
      obtain ⟨k0, xa0, xb0, xc0, u0, u1, p01, p02, p03, p04, _⟩ := m0 1 (by omega) (by omega)
      have ho := cOrg_sum a1
      obtain ⟨ys, o1, o2, _⟩ := markOriginS_held hN (xs := a1) (k := k0) (by omega) (by omega)
      obtain ⟨k', ya, yb, yc, r0, r1, r2, r3, r4, r5⟩ := m3
      have e1 := z0 1048576 (by omega) (by omega)
      rw [left_of g0] at e1
      have t1 : laws_toOriginS N a1 = some a1 := toOriginS_eq hl (by omega)
      have q1 : laws_eqOriginS N a1 a1 = some true := eqOriginS_self (by omega) (by omega)
      generalize resG a0 a1 = r at *
      simp only [laws_FnExactRestrictTable, e1, hz2, t0, q0, k4, k5, k6, t1, q1, Option.bind_some, decide_eq_false h, decide_eq_false h', cond_false, Bool.not_true, p04, if_pos p01, if_pos p02, if_pos p03, o2, if_pos o1,
        decide_eq_false (by omega : ¬ (k0 + (((a1.map cOrg).sum : Nat) : Int)) < 0), r4, if_pos r1, if_pos r2, if_pos r3, r5, decide_eq_false (by omega : ¬ k' < 0), bne_self_eq_false]
end Go.Ab
end
section
namespace Go.Proofs.Ytkbojckenecnbaa
open Go.Ab Go.ChangeShapes Go.WideShapes Go.ChangeAt Go.RowKit
set_option linter.unusedVariables false
theorem own : ownKnob Try.prog.godebug = none := by kernel_rfl
theorem laidOut : laidOutB Try.prog = true := by kernel_rfl
theorem ktok_fnExactRestrictTable : ktChk Try.prog [(3, .int), (9, .str), (40, .val), (137, .org), (148, .row)] = true := by kernel_rfl
set_option maxRecDepth 100000 in
theorem fnExactRestrictTable_lifted (os : Os) (started : os.Started) (H : Type) (enc : TypeId × Value → H) :
    ReturnsInHanded {} Try.checked os 11 .any (Rows.fnExactRestrictTableSpec.pre6 enc Try.prog Try.f11 Rows.fnExactRestrictTableRow.domain false) (Rows.fnExactRestrictTableSpec.post enc Try.prog Try.f11 false true false false) := by
  refine returnsInHanded_of_change (C := Try.checked) own started (by kernel_rfl) Try.func11
    (ChangeSpec.witness6 (enc := enc) (C := Try.checked) false ⟨#[], #[.agg #[.int .i64 0, .int .i64 0, .int .i64 0, .string ByteArray.empty, .slice none 0 0, .slice none 0 0, .slice none 0 0], .slice none 0 0], []⟩ 8 (by kernel_rfl) (by kernel_rfl) (by kernel_rfl) (by kernel_rfl)) ?_
  intro W base args ds gs before hval0 hW hcnd _
  have hval : ∀ (j : Nat) t v, Try.f11.params[j]? = some t → args[j]? = some v → Value.okWide Try.prog W .any base t v := hval0
  have hW' := hW
  obtain ⟨p, q, hA0, hV, rfl, hfz, hnd⟩ := hW
  have hA : DataW.TrodAll enc Try.prog W 0 (fun _ => true) true Try.f11.params.toList args.toList ds p := hA0
  rw [Try.params11] at hA hval
  obtain ⟨v0, vs0, d0, ds0, p0, q0, hargs, rfl, rfl, h0, r0⟩ := trodAll_cons hA
  obtain ⟨v1, vs1, d1, ds1, p1, q1, rfl, rfl, rfl, h1, r1⟩ := trodAll_cons r0
  obtain ⟨rfl, rfl, rfl⟩ := trodAll_nil r1
  obtain rfl : args = #[v0, v1] := by cases args; simp_all
  obtain ⟨rfl, rfl⟩ := trodVars_none hV
  have lt0 : ∀ x ∈ p0, x.block < W.heap.size := by obtain ⟨m, hm⟩ := h0; exact DataW.trod_lt m _ _ _ hm
  have lt1 : ∀ x ∈ p1, x.block < W.heap.size := by obtain ⟨m, hm⟩ := h1; exact DataW.trod_lt m _ _ _ hm
  obtain ⟨z0, e0, f0, vr0⟩ := vr_of ktok_fnExactRestrictTable (g := true) (t := 40) (ns := [.inl (.int .i64), .inl (.int .i64), .inl (.int .i64), .inl .str, .inr .val, .inr .str, .inr .row]) (by kernel_rfl) (hval 0 40 v0 rfl rfl) h0
  obtain ⟨x0_0, _, rfl, e0_0⟩ := AreOf.int_inv e0
  obtain ⟨x0_1, _, rfl, e0_1⟩ := AreOf.int_inv e0_0
  obtain ⟨x0_2, _, rfl, e0_2⟩ := AreOf.int_inv e0_1
  obtain ⟨x0_3, _, rfl, e0_3⟩ := AreOf.str_inv e0_2
  obtain ⟨x0_4, _, rfl, e0_4⟩ := AreOf.sl_inv e0_3
  obtain ⟨x0_5, _, rfl, e0_5⟩ := AreOf.sl_inv e0_4
  obtain ⟨x0_6, _, rfl, e0_6⟩ := AreOf.sl_inv e0_5
  obtain rfl := e0_6.nil_inv
  obtain ⟨z1, e1, f1, vr1⟩ := vr_of ktok_fnExactRestrictTable (g := false) (t := 80) (ns := [.inr .org]) (by kernel_rfl) (hval 1 80 v1 rfl rfl) h1
  obtain ⟨x1_0, _, rfl, e1_0⟩ := AreOf.sl_inv e1
  obtain rfl := e1_0.nil_inv
  obtain ⟨N, hF⟩ := laws_FnExactRestrictTable_true (Val.mk x0_0 x0_1 x0_2 x0_3 x0_4 x0_5 x0_6) x1_0 f0 f1
  clear hA0 hval0
  refine (calls_of T.fk11 (T.laws_FnExactRestrictTable_ok hF) (W := W) (args := #[v0, v1]) ⟨vr0 _, vr1 _, trivial⟩).mono fun e W' ⟨he, bel⟩ => ?_
  subst he
  exact ⟨_, rfl, _, _, _, [], _, [], hW', trodAll_mk1 (shut_bool Try.underlying4 _), (trodAll_cons_mk (Below.trod laidOut (by kernel_rfl) (of_decide_eq_true (by kernel_rfl)) h0 bel lt0) (trodAll_cons_mk (Below.trod laidOut (by kernel_rfl) (of_decide_eq_true (by kernel_rfl)) h1 bel lt1) trodAll_mk0)), rfl, bel.frame _, fun h => by cases h⟩
theorem fnExactRestrictTable_proved : Rows.FnExactRestrictTableSaid :=
  OpenClaim.holds_of_wide 11 Try.f11 rfl rfl rfl rfl rfl rfl rfl ⟨rfl, rfl, rfl, rfl, rfl⟩ rfl rfl rfl rfl rfl (by kernel_rfl) Try.func11 (by kernel_rfl)
    (of_decide_eq_true (by kernel_rfl)) (by unfold Func.isWrapper; first | (rw [if_pos (by decide +kernel)]; kernel_rfl) | (rw [if_neg (by decide +kernel)]; exact ⟨rfl, rfl⟩))
    (fun os started H enc _ => fnExactRestrictTable_lifted os started H enc)
end Go.Proofs.Ytkbojckenecnbaa
end
