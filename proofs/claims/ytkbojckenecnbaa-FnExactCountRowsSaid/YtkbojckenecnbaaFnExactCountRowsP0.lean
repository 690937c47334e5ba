/- The statement FnExactCountRows holds: plain functions, certificates, laws. Conditions: none. -/
import Derived.Test.YtkbojckenecnbaaChecked
import Derived.Test.YtkbojckenecnbaaProg
import Derived.Test.YtkbojckenecnbaaRows
import Derived.Test.YtkbojckenecnbaaK2
set_option linter.all false
section
namespace Go.Ab
set_option linter.unusedVariables false
def laws_markValueS_E_as (a0 : List Val) (a1 : Int) : List Arg := [.val (.v false [.sl .ro .val []]), .val (.v false [.int .i64 a1])]
def laws_markValueS_E_ro (r : Int) : CallO := ⟨.v false [.int .i64 r], [], []⟩
def laws_markValueS_E_b2 (N : Nat) : Nat → Int → Int → Option (Int)
  | 0, _, _ => none
  | n + 1, x1, x5 =>
    bif (decide ((x5 : Int) < (0 : Int))) then (
      if (0 : Int) ≤ x5 ∧ x5 < (0) then
      none
      else none
    ) else (
      some x1
    )
def laws_markValueS_E (N : Nat) (a0 : List Val) (a1 : Int) : Option (Int) :=
  (laws_markValueS_E_b2 N N a1 0)
def laws_markStringS_E_as (a0 : List Str) (a1 : Int) : List Arg := [.val (.v false [.sl .ro .str []]), .val (.v false [.int .i64 a1])]
def laws_markStringS_E_ro (r : Int) : CallO := ⟨.v false [.int .i64 r], [], []⟩
def laws_markStringS_E_b2 (N : Nat) : Nat → Int → Int → Option (Int)
  | 0, _, _ => none
  | n + 1, x1, x5 =>
    bif (decide ((x5 : Int) < (0 : Int))) then (
      Option.bind (laws_markText N x1) fun r1 =>
      if (0 : Int) ≤ x5 ∧ x5 < (0) then
      none
      else none
    ) else (
      some x1
    )
def laws_markStringS_E (N : Nat) (a0 : List Str) (a1 : Int) : Option (Int) :=
  (laws_markStringS_E_b2 N N a1 0)
def laws_markRowS_E_as (a0 : List Rowd) (a1 : Int) : List Arg := [.val (.v false [.sl .ro .row []]), .val (.v false [.int .i64 a1])]
def laws_markRowS_E_ro (r : Int) : CallO := ⟨.v false [.int .i64 r], [], []⟩
def laws_markRowS_E_b2 (N : Nat) : Nat → Int → Int → Option (Int)
  | 0, _, _ => none
  | n + 1, x1, x5 =>
    bif (decide ((x5 : Int) < (0 : Int))) then (
      if (0 : Int) ≤ x5 ∧ x5 < (0) then
      none
      else none
    ) else (
      some x1
    )
def laws_markRowS_E (N : Nat) (a0 : List Rowd) (a1 : Int) : Option (Int) :=
  (laws_markRowS_E_b2 N N a1 0)
def laws_markValue_E_as (a0 : Val) (a1 : Int) : List Arg := [.val (.v true [.int .i64 (Val.kind a0), .int .i64 (Val.n a0), .int .i64 (Val.step a0), .str (Val.text a0), .sl .ro .val [], .sl .ro .str [], .sl .ro .row []]), .val (.v false [.int .i64 a1])]
def laws_markValue_E_ro (r : Int) : CallO := ⟨.v false [.int .i64 r], [], []⟩
def laws_markValue_E (N : Nat) (a0 : Val) (a1 : Int) : Option (Int) :=
  Option.bind (laws_markValueS_E N [] a1) fun r1 =>
  Option.bind (laws_markStringS_E N [] r1) fun r2 =>
  Option.bind (laws_markRowS_E N [] r2) fun r3 =>
  some r3
def spec_NumberValue_as (a0 : Int) : List Arg := [.val (.v false [.int .i64 a0])]
def spec_NumberValue_ro (r : Val) : CallO := ⟨.v true [.int .i64 (Val.kind r), .int .i64 (Val.n r), .int .i64 (Val.step r), .str (Val.text r), .sl .own .val (Val.list r), .sl .own .str (Val.columns r), .sl .own .row (Val.rows r)], [], []⟩
def spec_NumberValue (N : Nat) (a0 : Int) : Option (Val) :=
  some (Val.mk 1 a0 0 [] [] [] [])
def impl_NumberValue_as (a0 : Int) : List Arg := [.val (.v false [.int .i64 a0])]
def impl_NumberValue_ro (r : Val) : CallO := ⟨.v true [.int .i64 (Val.kind r), .int .i64 (Val.n r), .int .i64 (Val.step r), .str (Val.text r), .sl .own .val (Val.list r), .sl .own .str (Val.columns r), .sl .own .row (Val.rows r)], [], []⟩
def impl_NumberValue (N : Nat) (a0 : Int) : Option (Val) :=
  some (Val.mk 1 a0 0 [] [] [] [])
def spec_l5First_as (a0 : List Val) : List Arg := [.val (.v false [.sl .ro .val a0])]
def spec_l5First_ro (r : Val × Bool) : CallO := ⟨.tup [(true, [.int .i64 (Val.kind r.1), .int .i64 (Val.n r.1), .int .i64 (Val.step r.1), .str (Val.text r.1), .sl .own .val (Val.list r.1), .sl .own .str (Val.columns r.1), .sl .own .row (Val.rows r.1)]), (false, [.bool r.2])], [], []⟩
def spec_l5First_b2 (N : Nat) : Nat → (List Val) → Int → Val → Option (Val × Bool)
  | 0, _, _, _ => none
  | n + 1, x0, x4, b2 =>
    bif (decide ((x4 : Int) < (List.length x0 : Int))) then (
      if (0 : Int) ≤ x4 ∧ x4 < (List.length x0) then
      Option.bind (spec_IsValidValue N (List.getD x0 (Int.toNat x4) Ty.val.dflt)) fun r1 =>
      bif (!r1) then (
        Option.bind (spec_ErrorValue N 4) fun r2 =>
        some (r2, true)
      ) else (
        bif (((Val.kind (List.getD x0 (Int.toNat x4) Ty.val.dflt)) : Int) == 6) then (
          Option.bind (spec_ErrorValue N (Val.n (List.getD x0 (Int.toNat x4) Ty.val.dflt))) fun r2 =>
          some (r2, true)
        ) else (
          (spec_l5First_b2 N n x0 (IntKind.i64.wrap (x4 + 1)) b2)
        )
      )
      else none
    ) else (
      some ((Val.mk 0 0 0 [] [] [] []), false)
    )
def spec_l5First (N : Nat) (a0 : List Val) : Option (Val × Bool) :=
  (spec_l5First_b2 N N a0 0 (Val.mk 0 0 0 [] [] [] []))
def spec_l7Check_as (a0 : List Val) (a1 : List Int) : List Arg := [.val (.v false [.sl .ro .val a0]), .val (.v false [.sl .ro .int a1])]
def spec_l7Check_ro (r : Val × Bool) : CallO := ⟨.tup [(true, [.int .i64 (Val.kind r.1), .int .i64 (Val.n r.1), .int .i64 (Val.step r.1), .str (Val.text r.1), .sl .own .val (Val.list r.1), .sl .own .str (Val.columns r.1), .sl .own .row (Val.rows r.1)]), (false, [.bool r.2])], [], []⟩
def spec_l7Check_b5 (N : Nat) : Nat → (List Val) → (List Int) → Int → Val → Option (Val × Bool)
  | 0, _, _, _, _ => none
  | n + 1, x0, x1, x8, b4 =>
    bif (decide ((x8 : Int) < (List.length x0 : Int))) then (
      if (0 : Int) ≤ x8 ∧ x8 < (List.length x0) then
      if (0 : Int) ≤ x8 ∧ x8 < (List.length x1) then
      bif (((Val.kind (List.getD x0 (Int.toNat x8) Ty.val.dflt)) : Int) != (List.getD x1 (Int.toNat x8) Ty.int.dflt)) then (
        Option.bind (spec_ErrorValue N 4) fun r1 =>
        some (r1, true)
      ) else (
        (spec_l7Check_b5 N n x0 x1 (IntKind.i64.wrap (x8 + 1)) b4)
      )
      else none
      else none
    ) else (
      some ((Val.mk 0 0 0 [] [] [] []), false)
    )
def spec_l7Check (N : Nat) (a0 : List Val) (a1 : List Int) : Option (Val × Bool) :=
  Option.bind (spec_l5First N a0) fun r1 =>
  bif r1.2 then (
    some (r1.1, true)
  ) else (
    (spec_l7Check_b5 N N a0 a1 0 (Val.mk 0 0 0 [] [] [] []))
  )
def spec_CountRows_as (a0 : Val) : List Arg := [.val (.v true [.int .i64 (Val.kind a0), .int .i64 (Val.n a0), .int .i64 (Val.step a0), .str (Val.text a0), .sl .ro .val (Val.list a0), .sl .ro .str (Val.columns a0), .sl .ro .row (Val.rows a0)])]
def spec_CountRows_ro (r : Val) : CallO := ⟨.v true [.int .i64 (Val.kind r), .int .i64 (Val.n r), .int .i64 (Val.step r), .str (Val.text r), .sl .own .val (Val.list r), .sl .own .str (Val.columns r), .sl .own .row (Val.rows r)], [], []⟩
def spec_CountRows (N : Nat) (a0 : Val) : Option (Val) :=
  Option.bind (spec_l7Check N [(Val.re a0)] [5]) fun r1 =>
  bif r1.2 then (
    some r1.1
  ) else (
    Option.bind (spec_NumberValue N (List.length (Val.rows a0) : Int)) fun r2 =>
    some r2
  )
def impl_operandError_as (a0 : List Val) : List Arg := [.val (.v false [.sl .ro .val a0])]
def impl_operandError_roR (r : Val × Bool × Bool) : CallO := ⟨.tup [(true, [.int .i64 (Val.kind r.1), .int .i64 (Val.n r.1), .int .i64 (Val.step r.1), .str (Val.text r.1), .sl .ro .val (Val.list r.1), .sl .ro .str (Val.columns r.1), .sl .ro .row (Val.rows r.1)]), (false, [.bool r.2.1])], [], []⟩
def impl_operandError_roO (r : Val × Bool × Bool) : CallO := ⟨.tup [(true, [.int .i64 (Val.kind r.1), .int .i64 (Val.n r.1), .int .i64 (Val.step r.1), .str (Val.text r.1), .sl .own .val (Val.list r.1), .sl .own .str (Val.columns r.1), .sl .own .row (Val.rows r.1)]), (false, [.bool r.2.1])], [], []⟩
def impl_operandError_ro (r : Val × Bool × Bool) : CallO := bif r.2.2 then impl_operandError_roR r else impl_operandError_roO r
def impl_operandError_b2 (N : Nat) : Nat → (List Val) → Int → Int → Val → Option (Val × Bool × Bool)
  | 0, _, _, _, _ => none
  | n + 1, x6, x7, x8, b2 =>
    bif (decide ((x8 : Int) < x7)) then (
      if (0 : Int) ≤ x8 ∧ x8 < (List.length x6) then
      Option.bind (impl_IsValidValue N (List.getD x6 (Int.toNat x8) Ty.val.dflt)) fun r1 =>
      bif (!r1) then (
        Option.bind (impl_ErrorValue N 4) fun r2 =>
        some (r2, true, false)
      ) else (
        bif (((Val.kind (List.getD x6 (Int.toNat x8) Ty.val.dflt)) : Int) == 6) then (
          some ((List.getD x6 (Int.toNat x8) Ty.val.dflt), true, true)
        ) else (
          (impl_operandError_b2 N n x6 x7 (IntKind.i64.wrap (x8 + 1)) b2)
        )
      )
      else none
    ) else (
      some ((Val.mk 0 0 0 [] [] [] []), false, false)
    )
def impl_operandError (N : Nat) (a0 : List Val) : Option (Val × Bool × Bool) :=
  (impl_operandError_b2 N N a0 (List.length a0 : Int) 0 (Val.mk 0 0 0 [] [] [] []))
def impl_kindError_as (a0 : List Int) (a1 : List Val) : List Arg := [.val (.v false [.sl .ro .int a0]), .val (.v false [.sl .ro .val a1])]
def impl_kindError_roR (r : Val × Bool × Bool) : CallO := ⟨.tup [(true, [.int .i64 (Val.kind r.1), .int .i64 (Val.n r.1), .int .i64 (Val.step r.1), .str (Val.text r.1), .sl .ro .val (Val.list r.1), .sl .ro .str (Val.columns r.1), .sl .ro .row (Val.rows r.1)]), (false, [.bool r.2.1])], [], []⟩
def impl_kindError_roO (r : Val × Bool × Bool) : CallO := ⟨.tup [(true, [.int .i64 (Val.kind r.1), .int .i64 (Val.n r.1), .int .i64 (Val.step r.1), .str (Val.text r.1), .sl .own .val (Val.list r.1), .sl .own .str (Val.columns r.1), .sl .own .row (Val.rows r.1)]), (false, [.bool r.2.1])], [], []⟩
def impl_kindError_roE (r : Val × Bool × Bool) : CallO := ⟨.tup [(true, [.int .i64 (Val.kind r.1), .int .i64 (Val.n r.1), .int .i64 (Val.step r.1), .str (Val.text r.1), .sl .ro .val [], .sl .ro .str [], .sl .ro .row []]), (false, [.bool r.2.1])], [], []⟩
def impl_kindError_ro (r : Val × Bool × Bool) : CallO := bif r.2.2 then impl_kindError_roR r else impl_kindError_roO r
def impl_kindError_b5 (N : Nat) : Nat → (List Int) → (List Val) → Int → Int → Val → Option (Val × Bool × Bool)
  | 0, _, _, _, _, _ => none
  | n + 1, x0, x17, x18, x19, b4 =>
    bif (decide ((x19 : Int) < x18)) then (
      if (0 : Int) ≤ x19 ∧ x19 < (List.length x17) then
      if (0 : Int) ≤ x19 ∧ x19 < (List.length x0) then
      bif (((Val.kind (List.getD x17 (Int.toNat x19) Ty.val.dflt)) : Int) != (List.getD x0 (Int.toNat x19) Ty.int.dflt)) then (
        Option.bind (impl_ErrorValue N 4) fun r1 =>
        some (r1, true, false)
      ) else (
        (impl_kindError_b5 N n x0 x17 x18 (IntKind.i64.wrap (x19 + 1)) b4)
      )
      else none
      else none
    ) else (
      some ((Val.mk 0 0 0 [] [] [] []), false, false)
    )
def impl_kindError (N : Nat) (a0 : List Int) (a1 : List Val) : Option (Val × Bool × Bool) :=
  Option.bind (impl_operandError N a1) fun r1 =>
  bif r1.2.2 then (
    bif r1.2.1 then (
      some (r1.1, true, true)
    ) else (
      (impl_kindError_b5 N N a0 a1 (List.length a1 : Int) 0 (Val.mk 0 0 0 [] [] [] []))
    )
  ) else (
    bif r1.2.1 then (
      some (r1.1, true, false)
    ) else (
      (impl_kindError_b5 N N a0 a1 (List.length a1 : Int) 0 (Val.mk 0 0 0 [] [] [] []))
    )
  )
def impl_CountRows_as (a0 : Val) : List Arg := [.val (.v true [.int .i64 (Val.kind a0), .int .i64 (Val.n a0), .int .i64 (Val.step a0), .str (Val.text a0), .sl .ro .val (Val.list a0), .sl .ro .str (Val.columns a0), .sl .ro .row (Val.rows a0)])]
def impl_CountRows_roR (r : Val × Bool) : CallO := ⟨.v true [.int .i64 (Val.kind r.1), .int .i64 (Val.n r.1), .int .i64 (Val.step r.1), .str (Val.text r.1), .sl .ro .val (Val.list r.1), .sl .ro .str (Val.columns r.1), .sl .ro .row (Val.rows r.1)], [], []⟩
def impl_CountRows_roO (r : Val × Bool) : CallO := ⟨.v true [.int .i64 (Val.kind r.1), .int .i64 (Val.n r.1), .int .i64 (Val.step r.1), .str (Val.text r.1), .sl .own .val (Val.list r.1), .sl .own .str (Val.columns r.1), .sl .own .row (Val.rows r.1)], [], []⟩
def impl_CountRows_roE (r : Val × Bool) : CallO := ⟨.v true [.int .i64 (Val.kind r.1), .int .i64 (Val.n r.1), .int .i64 (Val.step r.1), .str (Val.text r.1), .sl .ro .val [], .sl .ro .str [], .sl .ro .row []], [], []⟩
def impl_CountRows_ro (r : Val × Bool) : CallO := bif r.2 then impl_CountRows_roR r else impl_CountRows_roO r
def impl_CountRows (N : Nat) (a0 : Val) : Option (Val × Bool) :=
  Option.bind (impl_kindError N [5] [(Val.re a0)]) fun r1 =>
  bif r1.2.2 then (
    if List.isEmpty (Val.list r1.1) = true then
    if List.isEmpty (Val.columns r1.1) = true then
    if List.isEmpty (Val.rows r1.1) = true then
    bif r1.2.1 then (
      some ((Val.mk (Val.kind r1.1) (Val.n r1.1) (Val.step r1.1) (Val.text r1.1) [] [] []), true)
    ) else (
      Option.bind (impl_NumberValue N (List.length (Val.rows a0) : Int)) fun r2 =>
      some (r2, false)
    )
    else none
    else none
    else none
  ) else (
    bif r1.2.1 then (
      some (r1.1, false)
    ) else (
      Option.bind (impl_NumberValue N (List.length (Val.rows a0) : Int)) fun r2 =>
      some (r2, false)
    )
  )
def laws_FnExactCountRows_as (a0 : Val) : List Arg := [.val (.v true [.int .i64 (Val.kind a0), .int .i64 (Val.n a0), .int .i64 (Val.step a0), .str (Val.text a0), .sl .ro .val (Val.list a0), .sl .ro .str (Val.columns a0), .sl .ro .row (Val.rows a0)])]
def laws_FnExactCountRows_ro (r : Bool) : CallO := ⟨.v false [.bool r], [], []⟩
def laws_FnExactCountRows (N : Nat) (a0 : Val) : Option (Bool) :=
  Option.bind (laws_szValue N a0 1048576) fun r1 =>
  bif (decide ((r1 : Int) < 0)) then (
    some true
  ) else (
    Option.bind (laws_toValue N a0) fun r2 =>
    Option.bind (spec_CountRows N r2) fun r3 =>
    Option.bind (laws_toValue N a0) fun r4 =>
    Option.bind (impl_CountRows N r4) fun r5 =>
    bif r5.2 then (
      if List.isEmpty (Val.list r5.1) = true then
      if List.isEmpty (Val.columns r5.1) = true then
      if List.isEmpty (Val.rows r5.1) = true then
      Option.bind (laws_eqValue N (Val.mk (Val.kind r5.1) (Val.n r5.1) (Val.step r5.1) (Val.text r5.1) [] [] []) r3) fun r6 =>
      bif (!r6) then (
        some false
      ) else (
        Option.bind (laws_toValue N a0) fun r7 =>
        Option.bind (laws_eqValue N r4 r7) fun r8 =>
        bif (!r8) then (
          some false
        ) else (
          Option.bind (laws_markValue N r4 1) fun r9 =>
          if List.length r9.2.1 = List.length (Val.list r4) then
          if List.length r9.2.2.1 = List.length (Val.columns r4) then
          if List.length r9.2.2.2 = List.length (Val.rows r4) then
          bif (decide ((r9.1 : Int) < 0)) then (
            some false
          ) else (
            Option.bind (laws_eqValue N (Val.mk (Val.kind r5.1) (Val.n r5.1) (Val.step r5.1) (Val.text r5.1) [] [] []) r3) fun r10 =>
            bif (!r10) then (
              some false
            ) else (
              Option.bind (laws_markValue_E N (Val.mk (Val.kind r5.1) (Val.n r5.1) (Val.step r5.1) (Val.text r5.1) [] [] []) 1) fun r11 =>
              Option.bind (laws_heldValue N (Val.mk (Val.kind r5.1) (Val.n r5.1) (Val.step r5.1) (Val.text r5.1) [] [] []) 1) fun r12 =>
              bif (decide ((r12 : Int) < 0)) then (
                some false
              ) else (
                bif ((r12 : Int) != r11) then (
                  some false
                ) else (
                  Option.bind (laws_toValue N a0) fun r13 =>
                  Option.bind (impl_CountRows N r13) fun r14 =>
                  bif r14.2 then (
                    if List.isEmpty (Val.list r14.1) = true then
                    if List.isEmpty (Val.columns r14.1) = true then
                    if List.isEmpty (Val.rows r14.1) = true then
                    Option.bind (laws_eqValue N (Val.mk (Val.kind r14.1) (Val.n r14.1) (Val.step r14.1) (Val.text r14.1) [] [] []) r3) fun r15 =>
                    bif (!r15) then (
                      some false
                    ) else (
                      Option.bind (laws_heldValue N (Val.mk (Val.kind r5.1) (Val.n r5.1) (Val.step r5.1) (Val.text r5.1) [] [] []) 1) fun r16 =>
                      bif (decide ((r16 : Int) < 0)) then (
                        some false
                      ) else (
                        bif ((r16 : Int) != r11) then (
                          some false
                        ) else (
                          some true
                        )
                      )
                    )
                    else none
                    else none
                    else none
                  ) else (
                    Option.bind (laws_eqValue N r14.1 r3) fun r15 =>
                    bif (!r15) then (
                      some false
                    ) else (
                      Option.bind (laws_heldValue N (Val.mk (Val.kind r5.1) (Val.n r5.1) (Val.step r5.1) (Val.text r5.1) [] [] []) 1) fun r16 =>
                      bif (decide ((r16 : Int) < 0)) then (
                        some false
                      ) else (
                        bif ((r16 : Int) != r11) then (
                          some false
                        ) else (
                          some true
                        )
                      )
                    )
                  )
                )
              )
            )
          )
          else none
          else none
          else none
        )
      )
      else none
      else none
      else none
    ) else (
      Option.bind (laws_eqValue N r5.1 r3) fun r6 =>
      bif (!r6) then (
        some false
      ) else (
        Option.bind (laws_toValue N a0) fun r7 =>
        Option.bind (laws_eqValue N r4 r7) fun r8 =>
        bif (!r8) then (
          some false
        ) else (
          Option.bind (laws_markValue N r4 1) fun r9 =>
          if List.length r9.2.1 = List.length (Val.list r4) then
          if List.length r9.2.2.1 = List.length (Val.columns r4) then
          if List.length r9.2.2.2 = List.length (Val.rows r4) then
          bif (decide ((r9.1 : Int) < 0)) then (
            some false
          ) else (
            Option.bind (laws_eqValue N r5.1 r3) fun r10 =>
            bif (!r10) then (
              some false
            ) else (
              Option.bind (laws_markValue N r5.1 1) fun r11 =>
              if List.length r11.2.1 = List.length (Val.list r5.1) then
              if List.length r11.2.2.1 = List.length (Val.columns r5.1) then
              if List.length r11.2.2.2 = List.length (Val.rows r5.1) then
              Option.bind (laws_heldValue N (Val.mk (Val.kind r5.1) (Val.n r5.1) (Val.step r5.1) (Val.text r5.1) r11.2.1 r11.2.2.1 r11.2.2.2) 1) fun r12 =>
              bif (decide ((r12 : Int) < 0)) then (
                some false
              ) else (
                bif ((r12 : Int) != r11.1) then (
                  some false
                ) else (
                  Option.bind (laws_toValue N a0) fun r13 =>
                  Option.bind (impl_CountRows N r13) fun r14 =>
                  bif r14.2 then (
                    if List.isEmpty (Val.list r14.1) = true then
                    if List.isEmpty (Val.columns r14.1) = true then
                    if List.isEmpty (Val.rows r14.1) = true then
                    Option.bind (laws_eqValue N (Val.mk (Val.kind r14.1) (Val.n r14.1) (Val.step r14.1) (Val.text r14.1) [] [] []) r3) fun r15 =>
                    bif (!r15) then (
                      some false
                    ) else (
                      Option.bind (laws_heldValue N (Val.mk (Val.kind r5.1) (Val.n r5.1) (Val.step r5.1) (Val.text r5.1) r11.2.1 r11.2.2.1 r11.2.2.2) 1) fun r16 =>
                      bif (decide ((r16 : Int) < 0)) then (
                        some false
                      ) else (
                        bif ((r16 : Int) != r11.1) then (
                          some false
                        ) else (
                          some true
                        )
                      )
                    )
                    else none
                    else none
                    else none
                  ) else (
                    Option.bind (laws_eqValue N r14.1 r3) fun r15 =>
                    bif (!r15) then (
                      some false
                    ) else (
                      Option.bind (laws_heldValue N (Val.mk (Val.kind r5.1) (Val.n r5.1) (Val.step r5.1) (Val.text r5.1) r11.2.1 r11.2.2.1 r11.2.2.2) 1) fun r16 =>
                      bif (decide ((r16 : Int) < 0)) then (
                        some false
                      ) else (
                        bif ((r16 : Int) != r11.1) then (
                          some false
                        ) else (
                          some true
                        )
                      )
                    )
                  )
                )
              )
              else none
              else none
              else none
            )
          )
          else none
          else none
          else none
        )
      )
    )
  )
end Go.Ab
end
section
open Go.Proofs
namespace Go.Ab.T
set_option linter.unusedVariables false
set_option maxRecDepth 100000
noncomputable def I1000067 : Info := { body := (Try.f67.body).getD .skip, nt := 63, results := [.tmp 4], keep := [0, 2, 8, 10, 18], live := [(2, [0, 2, 10])], modes := [], ext := [], lnt := [], casts := [], fcast := [] }
theorem fk1000067 : FnOk Try.prog 67 Try.f67 I1000067 := ⟨Try.func67, by kernel_rfl, by kernel_rfl, by kernel_rfl, by kernel_rfl⟩
def S1000067_2 (x1 : Int) (x5 : Int) : St := [(0, .v false [.sl .ro .val []]), (2, .v false [.int .i64 x1]), (10, .v false [.int .i64 x5])]
theorem p1000067_2_0 (x1 : Int) (x5 : Int) : run tt (AbsCalls Try.prog) I1000067 3000 true (stkAt 2 I1000067.body) ⟨(S1000067_2 x1 x5), [false], [], []⟩ = some (.done (laws_markValueS_E_ro x1) [(decide ((x5 : Int) < (0 : Int))) = false]) := by kernel_rfl
theorem p1000067_e_1 (a0 : List Val) (a1 : Int) : run tt (AbsCalls Try.prog) I1000067 3000 false [.code I1000067.body] ⟨(entry 0 (laws_markValueS_E_as a0 a1)), [], [], []⟩ = some (.stop (stkAt 2 I1000067.body) (S1000067_2 a1 0) []) := by kernel_rfl
theorem c1000067_2 {N : Nat} : ∀ n x1 x5 r, laws_markValueS_E_b2 N n x1 x5 = some r → Reach Try.prog Try.f67 I1000067 (stkAt 2 I1000067.body) (S1000067_2 x1 x5) (laws_markValueS_E_ro r) := by
  intro n
  induction n with
  | zero => intro x1 x5 r h; have h' : (none : Option (Int)) = some r := h; cases h'
  | succ n ih =>
    intro x1 x5 r h
    rw [laws_markValueS_E_b2] at h
    rcases cond_inv h with ⟨h0, h⟩ | ⟨h0, h⟩
    · obtain ⟨h1, h⟩ := ite_inv h
      cases h
    · obtain rfl := Option.some.inj h
      exact Reach.done ttok mix fk1000067 (p1000067_2_0 x1 x5) (obs_cons h0 obs_nil)
theorem c1000067_e {N : Nat} : ∀ a0 a1 r, laws_markValueS_E N a0 a1 = some r → Reach Try.prog Try.f67 I1000067 [.code I1000067.body] (entry 0 (laws_markValueS_E_as a0 a1)) (laws_markValueS_E_ro r) := by
  intro a0 a1 r h
  unfold laws_markValueS_E at h
  exact Reach.stop ttok mix fk1000067 (p1000067_e_1 a0 a1) obs_nil (c1000067_2   _ _ _ _ h)
theorem laws_markValueS_E_ok {N : Nat} {a0 : List Val} {a1 : Int} {r : Int} (h : laws_markValueS_E N  a0 a1 = some r) : AbsCalls Try.prog 67 (laws_markValueS_E_as a0 a1) (laws_markValueS_E_ro r) :=
 AbsCalls.of_reach fk1000067 rfl rfl (Nat.le_of_ble_eq_true rfl) (c1000067_e a0 a1 r h)
noncomputable def I1000080 : Info := { body := (Try.f80.body).getD .skip, nt := 20, results := [.tmp 4], keep := [0, 2, 8, 10, 18], live := [(2, [0, 2, 10])], modes := [], ext := [], lnt := [], casts := [], fcast := [] }
theorem fk1000080 : FnOk Try.prog 80 Try.f80 I1000080 := ⟨Try.func80, by kernel_rfl, by kernel_rfl, by kernel_rfl, by kernel_rfl⟩
def S1000080_2 (x1 : Int) (x5 : Int) : St := [(0, .v false [.sl .ro .str []]), (2, .v false [.int .i64 x1]), (10, .v false [.int .i64 x5])]
theorem p1000080_2_0 (x1 : Int) (x5 : Int) : run tt (AbsCalls Try.prog) I1000080 3000 true (stkAt 2 I1000080.body) ⟨(S1000080_2 x1 x5), [false], [], []⟩ = some (.done (laws_markStringS_E_ro x1) [(decide ((x5 : Int) < (0 : Int))) = false]) := by kernel_rfl
theorem p1000080_e_1 (a0 : List Str) (a1 : Int) : run tt (AbsCalls Try.prog) I1000080 3000 false [.code I1000080.body] ⟨(entry 0 (laws_markStringS_E_as a0 a1)), [], [], []⟩ = some (.stop (stkAt 2 I1000080.body) (S1000080_2 a1 0) []) := by kernel_rfl
theorem c1000080_2 {N : Nat} : ∀ n x1 x5 r, laws_markStringS_E_b2 N n x1 x5 = some r → Reach Try.prog Try.f80 I1000080 (stkAt 2 I1000080.body) (S1000080_2 x1 x5) (laws_markStringS_E_ro r) := by
  intro n
  induction n with
  | zero => intro x1 x5 r h; have h' : (none : Option (Int)) = some r := h; cases h'
  | succ n ih =>
    intro x1 x5 r h
    rw [laws_markStringS_E_b2] at h
    rcases cond_inv h with ⟨h0, h⟩ | ⟨h0, h⟩
    · obtain ⟨r1, h1, h⟩ := bind_inv h
      obtain ⟨h2, h⟩ := ite_inv h
      cases h
    · obtain rfl := Option.some.inj h
      exact Reach.done ttok mix fk1000080 (p1000080_2_0 x1 x5) (obs_cons h0 obs_nil)
theorem c1000080_e {N : Nat} : ∀ a0 a1 r, laws_markStringS_E N a0 a1 = some r → Reach Try.prog Try.f80 I1000080 [.code I1000080.body] (entry 0 (laws_markStringS_E_as a0 a1)) (laws_markStringS_E_ro r) := by
  intro a0 a1 r h
  unfold laws_markStringS_E at h
  exact Reach.stop ttok mix fk1000080 (p1000080_e_1 a0 a1) obs_nil (c1000080_2   _ _ _ _ h)
theorem laws_markStringS_E_ok {N : Nat} {a0 : List Str} {a1 : Int} {r : Int} (h : laws_markStringS_E N  a0 a1 = some r) : AbsCalls Try.prog 80 (laws_markStringS_E_as a0 a1) (laws_markStringS_E_ro r) :=
 AbsCalls.of_reach fk1000080 rfl rfl (Nat.le_of_ble_eq_true rfl) (c1000080_e a0 a1 r h)
end Go.Ab.T
end
section
open Go.Proofs
namespace Go.Ab.T
set_option linter.unusedVariables false
set_option maxRecDepth 100000
noncomputable def I1000081 : Info := { body := (Try.f81.body).getD .skip, nt := 27, results := [.tmp 4], keep := [0, 2, 8, 10, 18], live := [(2, [0, 2, 10])], modes := [], ext := [], lnt := [], casts := [], fcast := [] }
theorem fk1000081 : FnOk Try.prog 81 Try.f81 I1000081 := ⟨Try.func81, by kernel_rfl, by kernel_rfl, by kernel_rfl, by kernel_rfl⟩
def S1000081_2 (x1 : Int) (x5 : Int) : St := [(0, .v false [.sl .ro .row []]), (2, .v false [.int .i64 x1]), (10, .v false [.int .i64 x5])]
theorem p1000081_2_0 (x1 : Int) (x5 : Int) : run tt (AbsCalls Try.prog) I1000081 3000 true (stkAt 2 I1000081.body) ⟨(S1000081_2 x1 x5), [false], [], []⟩ = some (.done (laws_markRowS_E_ro x1) [(decide ((x5 : Int) < (0 : Int))) = false]) := by kernel_rfl
theorem p1000081_e_1 (a0 : List Rowd) (a1 : Int) : run tt (AbsCalls Try.prog) I1000081 3000 false [.code I1000081.body] ⟨(entry 0 (laws_markRowS_E_as a0 a1)), [], [], []⟩ = some (.stop (stkAt 2 I1000081.body) (S1000081_2 a1 0) []) := by kernel_rfl
theorem c1000081_2 {N : Nat} : ∀ n x1 x5 r, laws_markRowS_E_b2 N n x1 x5 = some r → Reach Try.prog Try.f81 I1000081 (stkAt 2 I1000081.body) (S1000081_2 x1 x5) (laws_markRowS_E_ro r) := by
  intro n
  induction n with
  | zero => intro x1 x5 r h; have h' : (none : Option (Int)) = some r := h; cases h'
  | succ n ih =>
    intro x1 x5 r h
    rw [laws_markRowS_E_b2] at h
    rcases cond_inv h with ⟨h0, h⟩ | ⟨h0, h⟩
    · obtain ⟨h1, h⟩ := ite_inv h
      cases h
    · obtain rfl := Option.some.inj h
      exact Reach.done ttok mix fk1000081 (p1000081_2_0 x1 x5) (obs_cons h0 obs_nil)
theorem c1000081_e {N : Nat} : ∀ a0 a1 r, laws_markRowS_E N a0 a1 = some r → Reach Try.prog Try.f81 I1000081 [.code I1000081.body] (entry 0 (laws_markRowS_E_as a0 a1)) (laws_markRowS_E_ro r) := by
  intro a0 a1 r h
  unfold laws_markRowS_E at h
  exact Reach.stop ttok mix fk1000081 (p1000081_e_1 a0 a1) obs_nil (c1000081_2   _ _ _ _ h)
theorem laws_markRowS_E_ok {N : Nat} {a0 : List Rowd} {a1 : Int} {r : Int} (h : laws_markRowS_E N  a0 a1 = some r) : AbsCalls Try.prog 81 (laws_markRowS_E_as a0 a1) (laws_markRowS_E_ro r) :=
 AbsCalls.of_reach fk1000081 rfl rfl (Nat.le_of_ble_eq_true rfl) (c1000081_e a0 a1 r h)
noncomputable def I1000022 : Info := { body := (Try.f22.body).getD .skip, nt := 18, results := [.tmp 4], keep := [0, 2, 4, 8, 5], live := [], modes := [], ext := [], lnt := [], casts := [], fcast := [] }
theorem fk1000022 : FnOk Try.prog 22 Try.f22 I1000022 := ⟨Try.func22, by kernel_rfl, by kernel_rfl, by kernel_rfl, by kernel_rfl⟩
theorem p1000022_e_0 (a0 : Val) (a1 : Int) (r1 : Int) (r2 : Int) (r3 : Int) : run tt (AbsCalls Try.prog) I1000022 3000 false [.code I1000022.body] ⟨(entry 0 (laws_markValue_E_as a0 a1)), [], [laws_markValueS_E_ro r1, laws_markStringS_E_ro r2, laws_markRowS_E_ro r3], []⟩ = some (.done (laws_markValue_E_ro r3) [AbsCalls Try.prog 67 (laws_markValueS_E_as [] a1) (laws_markValueS_E_ro r1), AbsCalls Try.prog 80 (laws_markStringS_E_as [] r1) (laws_markStringS_E_ro r2), AbsCalls Try.prog 81 (laws_markRowS_E_as [] r2) (laws_markRowS_E_ro r3)]) := by kernel_rfl
theorem c1000022_e {N : Nat} : ∀ a0 a1 r, laws_markValue_E N a0 a1 = some r → Reach Try.prog Try.f22 I1000022 [.code I1000022.body] (entry 0 (laws_markValue_E_as a0 a1)) (laws_markValue_E_ro r) := by
  intro a0 a1 r h
  unfold laws_markValue_E at h
  obtain ⟨r1, h0, h⟩ := bind_inv h
  obtain ⟨r2, h1, h⟩ := bind_inv h
  obtain ⟨r3, h2, h⟩ := bind_inv h
  obtain rfl := Option.some.inj h
  exact Reach.done ttok mix fk1000022 (p1000022_e_0 a0 a1 r1 r2 r3) (obs_cons (laws_markValueS_E_ok h0) (obs_cons (laws_markStringS_E_ok h1) (obs_cons (laws_markRowS_E_ok h2) obs_nil)))
theorem laws_markValue_E_ok {N : Nat} {a0 : Val} {a1 : Int} {r : Int} (h : laws_markValue_E N  a0 a1 = some r) : AbsCalls Try.prog 22 (laws_markValue_E_as a0 a1) (laws_markValue_E_ro r) :=
 AbsCalls.of_reach fk1000022 rfl rfl (Nat.le_of_ble_eq_true rfl) (c1000022_e a0 a1 r h)
end Go.Ab.T
end
section
open Go.Proofs
namespace Go.Ab.T
set_option linter.unusedVariables false
set_option maxRecDepth 100000
noncomputable def I96 : Info := { body := (Try.f96.body).getD .skip, nt := 5, results := [.cell 2 28], keep := [0, 4, 5], live := [], modes := [], ext := [], lnt := [], casts := [], fcast := [] }
theorem fk96 : FnOk Try.prog 96 Try.f96 I96 := ⟨Try.func96, by kernel_rfl, by kernel_rfl, by kernel_rfl, by kernel_rfl⟩
theorem p96_e_0 (a0 : Int) : run tt (AbsCalls Try.prog) I96 3000 false [.code I96.body] ⟨(entry 0 (spec_NumberValue_as a0)), [], [], []⟩ = some (.done (spec_NumberValue_ro (Val.mk 1 a0 0 [] [] [] [])) []) := by kernel_rfl
theorem c96_e {N : Nat} : ∀ a0 r, spec_NumberValue N a0 = some r → Reach Try.prog Try.f96 I96 [.code I96.body] (entry 0 (spec_NumberValue_as a0)) (spec_NumberValue_ro r) := by
  intro a0 r h
  unfold spec_NumberValue at h
  obtain rfl := Option.some.inj h
  exact Reach.done ttok mix fk96 (p96_e_0 a0) obs_nil
theorem spec_NumberValue_ok {N : Nat} {a0 : Int} {r : Val} (h : spec_NumberValue N  a0 = some r) : AbsCalls Try.prog 96 (spec_NumberValue_as a0) (spec_NumberValue_ro r) :=
 AbsCalls.of_reach fk96 rfl rfl (Nat.le_of_ble_eq_true rfl) (c96_e a0 r h)
noncomputable def I105 : Info := { body := (Try.f105.body).getD .skip, nt := 5, results := [.cell 2 28], keep := [0, 4, 5], live := [], modes := [], ext := [], lnt := [], casts := [], fcast := [] }
theorem fk105 : FnOk Try.prog 105 Try.f105 I105 := ⟨Try.func105, by kernel_rfl, by kernel_rfl, by kernel_rfl, by kernel_rfl⟩
theorem p105_e_0 (a0 : Int) : run tt (AbsCalls Try.prog) I105 3000 false [.code I105.body] ⟨(entry 0 (impl_NumberValue_as a0)), [], [], []⟩ = some (.done (impl_NumberValue_ro (Val.mk 1 a0 0 [] [] [] [])) []) := by kernel_rfl
theorem c105_e {N : Nat} : ∀ a0 r, impl_NumberValue N a0 = some r → Reach Try.prog Try.f105 I105 [.code I105.body] (entry 0 (impl_NumberValue_as a0)) (impl_NumberValue_ro r) := by
  intro a0 r h
  unfold impl_NumberValue at h
  obtain rfl := Option.some.inj h
  exact Reach.done ttok mix fk105 (p105_e_0 a0) obs_nil
theorem impl_NumberValue_ok {N : Nat} {a0 : Int} {r : Val} (h : impl_NumberValue N  a0 = some r) : AbsCalls Try.prog 105 (impl_NumberValue_as a0) (impl_NumberValue_ro r) :=
 AbsCalls.of_reach fk105 rfl rfl (Nat.le_of_ble_eq_true rfl) (c105_e a0 r h)
end Go.Ab.T
end
section
open Go.Proofs
namespace Go.Ab.T
set_option linter.unusedVariables false
set_option maxRecDepth 100000
noncomputable def I112 : Info := { body := (Try.f112.body).getD .skip, nt := 31, results := [.cell 2 28, .tmp 3], keep := [0, 4, 6, 8, 16, 32, 46, 5], live := [(2, [0, 4, 8, 5])], modes := [], ext := [], lnt := [], casts := [], fcast := [] }
theorem fk112 : FnOk Try.prog 112 Try.f112 I112 := ⟨Try.func112, by kernel_rfl, by kernel_rfl, by kernel_rfl, by kernel_rfl⟩
def S112_2 (x0 : List Val) (x4 : Int) (b2 : Val) : St := [(0, .v false [.sl .ro .val x0]), (4, .v false [.ptr 2 0]), (8, .v false [.int .i64 x4]), (5, .v true [.int .i64 (Val.kind b2), .int .i64 (Val.n b2), .int .i64 (Val.step b2), .str (Val.text b2), .sl .own .val (Val.list b2), .sl .own .str (Val.columns b2), .sl .own .row (Val.rows b2)])]
theorem p112_2_0 (x0 : List Val) (x4 : Int) (b2 : Val) (r1 : Bool) (r2 : Val) : run tt (AbsCalls Try.prog) I112 3000 true (stkAt 2 I112.body) ⟨(S112_2 x0 x4 b2), [true, true], [spec_IsValidValue_ro r1, spec_ErrorValue_ro r2], []⟩ = some (.done (spec_l5First_ro (r2, true)) [(decide ((x4 : Int) < (List.length x0 : Int))) = true, (0 : Int) ≤ x4 ∧ x4 < (List.length x0), AbsCalls Try.prog 108 (spec_IsValidValue_as (List.getD x0 (Int.toNat x4) Ty.val.dflt)) (spec_IsValidValue_ro r1), (!r1) = true, AbsCalls Try.prog 72 (spec_ErrorValue_as 4) (spec_ErrorValue_ro r2)]) := by kernel_rfl
theorem p112_2_1 (x0 : List Val) (x4 : Int) (b2 : Val) (r1 : Bool) (r2 : Val) : run tt (AbsCalls Try.prog) I112 3000 true (stkAt 2 I112.body) ⟨(S112_2 x0 x4 b2), [true, false, true], [spec_IsValidValue_ro r1, spec_ErrorValue_ro r2], []⟩ = some (.done (spec_l5First_ro (r2, true)) [(decide ((x4 : Int) < (List.length x0 : Int))) = true, (0 : Int) ≤ x4 ∧ x4 < (List.length x0), AbsCalls Try.prog 108 (spec_IsValidValue_as (List.getD x0 (Int.toNat x4) Ty.val.dflt)) (spec_IsValidValue_ro r1), (!r1) = false, (0 : Int) ≤ x4 ∧ x4 < (List.length x0), (((Val.kind (List.getD x0 (Int.toNat x4) Ty.val.dflt)) : Int) == 6) = true, (0 : Int) ≤ x4 ∧ x4 < (List.length x0), AbsCalls Try.prog 72 (spec_ErrorValue_as (Val.n (List.getD x0 (Int.toNat x4) Ty.val.dflt))) (spec_ErrorValue_ro r2)]) := by kernel_rfl
theorem p112_2_2 (x0 : List Val) (x4 : Int) (b2 : Val) (r1 : Bool) : run tt (AbsCalls Try.prog) I112 3000 true (stkAt 2 I112.body) ⟨(S112_2 x0 x4 b2), [true, false, false], [spec_IsValidValue_ro r1], []⟩ = some (.stop (stkAt 2 I112.body) (S112_2 x0 (IntKind.i64.wrap (x4 + 1)) b2) [(decide ((x4 : Int) < (List.length x0 : Int))) = true, (0 : Int) ≤ x4 ∧ x4 < (List.length x0), AbsCalls Try.prog 108 (spec_IsValidValue_as (List.getD x0 (Int.toNat x4) Ty.val.dflt)) (spec_IsValidValue_ro r1), (!r1) = false, (0 : Int) ≤ x4 ∧ x4 < (List.length x0), (((Val.kind (List.getD x0 (Int.toNat x4) Ty.val.dflt)) : Int) == 6) = false]) := by kernel_rfl
theorem p112_2_3 (x0 : List Val) (x4 : Int) (b2 : Val) : run tt (AbsCalls Try.prog) I112 3000 true (stkAt 2 I112.body) ⟨(S112_2 x0 x4 b2), [false], [], []⟩ = some (.done (spec_l5First_ro ((Val.mk 0 0 0 [] [] [] []), false)) [(decide ((x4 : Int) < (List.length x0 : Int))) = false]) := by kernel_rfl
theorem p112_e_4 (a0 : List Val) : run tt (AbsCalls Try.prog) I112 3000 false [.code I112.body] ⟨(entry 0 (spec_l5First_as a0)), [], [], []⟩ = some (.stop (stkAt 2 I112.body) (S112_2 a0 0 (Val.mk 0 0 0 [] [] [] [])) []) := by kernel_rfl
theorem c112_2 {N : Nat} : ∀ n x0 x4 b2 r, spec_l5First_b2 N n x0 x4 b2 = some r → Reach Try.prog Try.f112 I112 (stkAt 2 I112.body) (S112_2 x0 x4 b2) (spec_l5First_ro r) := by
  intro n
  induction n with
  | zero => intro x0 x4 b2 r h; have h' : (none : Option (Val × Bool)) = some r := h; cases h'
  | succ n ih =>
    intro x0 x4 b2 r h
    rw [spec_l5First_b2] at h
    rcases cond_inv h with ⟨h0, h⟩ | ⟨h0, h⟩
    · obtain ⟨h1, h⟩ := ite_inv h
      obtain ⟨r1, h2, h⟩ := bind_inv h
      rcases cond_inv h with ⟨h3, h⟩ | ⟨h3, h⟩
      · obtain ⟨r2, h4, h⟩ := bind_inv h
        obtain rfl := Option.some.inj h
        exact Reach.done ttok mix fk112 (p112_2_0 x0 x4 b2 r1 r2) (obs_cons h0 (obs_cons h1 (obs_cons (spec_IsValidValue_ok h2) (obs_cons h3 (obs_cons (spec_ErrorValue_ok h4) obs_nil)))))
      · rcases cond_inv h with ⟨h5, h⟩ | ⟨h5, h⟩
        · obtain ⟨r2, h7, h⟩ := bind_inv h
          obtain rfl := Option.some.inj h
          exact Reach.done ttok mix fk112 (p112_2_1 x0 x4 b2 r1 r2) (obs_cons h0 (obs_cons h1 (obs_cons (spec_IsValidValue_ok h2) (obs_cons h3 (obs_cons h1 (obs_cons h5 (obs_cons h1 (obs_cons (spec_ErrorValue_ok h7) obs_nil))))))))
        · exact Reach.stop ttok mix fk112 (p112_2_2 x0 x4 b2 r1) (obs_cons h0 (obs_cons h1 (obs_cons (spec_IsValidValue_ok h2) (obs_cons h3 (obs_cons h1 (obs_cons h5 obs_nil)))))) (ih _ _ _ _ h)
    · obtain rfl := Option.some.inj h
      exact Reach.done ttok mix fk112 (p112_2_3 x0 x4 b2) (obs_cons h0 obs_nil)
theorem c112_e {N : Nat} : ∀ a0 r, spec_l5First N a0 = some r → Reach Try.prog Try.f112 I112 [.code I112.body] (entry 0 (spec_l5First_as a0)) (spec_l5First_ro r) := by
  intro a0 r h
  unfold spec_l5First at h
  exact Reach.stop ttok mix fk112 (p112_e_4 a0) obs_nil (c112_2   _ _ _ _ _ h)
theorem spec_l5First_ok {N : Nat} {a0 : List Val} {r : Val × Bool} (h : spec_l5First N  a0 = some r) : AbsCalls Try.prog 112 (spec_l5First_as a0) (spec_l5First_ro r) :=
 AbsCalls.of_reach fk112 rfl rfl (Nat.le_of_ble_eq_true rfl) (c112_e a0 r h)
noncomputable def I110 : Info := { body := (Try.f110.body).getD .skip, nt := 34, results := [.cell 4 28, .tmp 5], keep := [0, 2, 8, 10, 12, 14, 16, 28, 38, 62, 9, 13], live := [(5, [0, 2, 8, 16, 9])], modes := [(1, [(2, .take, false)]), (2, [(0, .take, false)]), (3, [(0, .take, false)])], ext := [], lnt := [], casts := [], fcast := [] }
theorem fk110 : FnOk Try.prog 110 Try.f110 I110 := ⟨Try.func110, by kernel_rfl, by kernel_rfl, by kernel_rfl, by kernel_rfl⟩
def S110_5 (x0 : List Val) (x1 : List Int) (x8 : Int) (b4 : Val) : St := [(0, .v false [.sl .ro .val x0]), (2, .v false [.sl .ro .int x1]), (8, .v false [.ptr 4 0]), (16, .v false [.int .i64 x8]), (9, .v true [.int .i64 (Val.kind b4), .int .i64 (Val.n b4), .int .i64 (Val.step b4), .str (Val.text b4), .sl .own .val (Val.list b4), .sl .own .str (Val.columns b4), .sl .own .row (Val.rows b4)])]
theorem p110_5_0 (x0 : List Val) (x1 : List Int) (x8 : Int) (b4 : Val) (r1 : Val) : run tt (AbsCalls Try.prog) I110 3000 true (stkAt 5 I110.body) ⟨(S110_5 x0 x1 x8 b4), [true, true], [spec_ErrorValue_ro r1], []⟩ = some (.done (spec_l7Check_ro (r1, true)) [(decide ((x8 : Int) < (List.length x0 : Int))) = true, (0 : Int) ≤ x8 ∧ x8 < (List.length x0), (0 : Int) ≤ x8 ∧ x8 < (List.length x1), (((Val.kind (List.getD x0 (Int.toNat x8) Ty.val.dflt)) : Int) != (List.getD x1 (Int.toNat x8) Ty.int.dflt)) = true, AbsCalls Try.prog 72 (spec_ErrorValue_as 4) (spec_ErrorValue_ro r1)]) := by kernel_rfl
theorem p110_5_1 (x0 : List Val) (x1 : List Int) (x8 : Int) (b4 : Val) : run tt (AbsCalls Try.prog) I110 3000 true (stkAt 5 I110.body) ⟨(S110_5 x0 x1 x8 b4), [true, false], [], []⟩ = some (.stop (stkAt 5 I110.body) (S110_5 x0 x1 (IntKind.i64.wrap (x8 + 1)) b4) [(decide ((x8 : Int) < (List.length x0 : Int))) = true, (0 : Int) ≤ x8 ∧ x8 < (List.length x0), (0 : Int) ≤ x8 ∧ x8 < (List.length x1), (((Val.kind (List.getD x0 (Int.toNat x8) Ty.val.dflt)) : Int) != (List.getD x1 (Int.toNat x8) Ty.int.dflt)) = false]) := by kernel_rfl
theorem p110_5_2 (x0 : List Val) (x1 : List Int) (x8 : Int) (b4 : Val) : run tt (AbsCalls Try.prog) I110 3000 true (stkAt 5 I110.body) ⟨(S110_5 x0 x1 x8 b4), [false], [], []⟩ = some (.done (spec_l7Check_ro ((Val.mk 0 0 0 [] [] [] []), false)) [(decide ((x8 : Int) < (List.length x0 : Int))) = false]) := by kernel_rfl
theorem p110_e_3 (a0 : List Val) (a1 : List Int) (r1 : Val × Bool) : run tt (AbsCalls Try.prog) I110 3000 false [.code I110.body] ⟨(entry 0 (spec_l7Check_as a0 a1)), [true], [spec_l5First_ro r1], []⟩ = some (.done (spec_l7Check_ro (r1.1, true)) [AbsCalls Try.prog 112 (spec_l5First_as a0) (spec_l5First_ro r1), r1.2 = true]) := by kernel_rfl
theorem p110_e_4 (a0 : List Val) (a1 : List Int) (r1 : Val × Bool) : run tt (AbsCalls Try.prog) I110 3000 false [.code I110.body] ⟨(entry 0 (spec_l7Check_as a0 a1)), [false], [spec_l5First_ro r1], []⟩ = some (.stop (stkAt 5 I110.body) (S110_5 a0 a1 0 (Val.mk 0 0 0 [] [] [] [])) [AbsCalls Try.prog 112 (spec_l5First_as a0) (spec_l5First_ro r1), r1.2 = false]) := by kernel_rfl
theorem c110_5 {N : Nat} : ∀ n x0 x1 x8 b4 r, spec_l7Check_b5 N n x0 x1 x8 b4 = some r → Reach Try.prog Try.f110 I110 (stkAt 5 I110.body) (S110_5 x0 x1 x8 b4) (spec_l7Check_ro r) := by
  intro n
  induction n with
  | zero => intro x0 x1 x8 b4 r h; have h' : (none : Option (Val × Bool)) = some r := h; cases h'
  | succ n ih =>
    intro x0 x1 x8 b4 r h
    rw [spec_l7Check_b5] at h
    rcases cond_inv h with ⟨h0, h⟩ | ⟨h0, h⟩
    · obtain ⟨h1, h⟩ := ite_inv h
      obtain ⟨h2, h⟩ := ite_inv h
      rcases cond_inv h with ⟨h3, h⟩ | ⟨h3, h⟩
      · obtain ⟨r1, h4, h⟩ := bind_inv h
        obtain rfl := Option.some.inj h
        exact Reach.done ttok mix fk110 (p110_5_0 x0 x1 x8 b4 r1) (obs_cons h0 (obs_cons h1 (obs_cons h2 (obs_cons h3 (obs_cons (spec_ErrorValue_ok h4) obs_nil)))))
      · exact Reach.stop ttok mix fk110 (p110_5_1 x0 x1 x8 b4) (obs_cons h0 (obs_cons h1 (obs_cons h2 (obs_cons h3 obs_nil)))) (ih _ _ _ _ _ h)
    · obtain rfl := Option.some.inj h
      exact Reach.done ttok mix fk110 (p110_5_2 x0 x1 x8 b4) (obs_cons h0 obs_nil)
theorem c110_e {N : Nat} : ∀ a0 a1 r, spec_l7Check N a0 a1 = some r → Reach Try.prog Try.f110 I110 [.code I110.body] (entry 0 (spec_l7Check_as a0 a1)) (spec_l7Check_ro r) := by
  intro a0 a1 r h
  unfold spec_l7Check at h
  obtain ⟨r1, h0, h⟩ := bind_inv h
  rcases cond_inv h with ⟨h1, h⟩ | ⟨h1, h⟩
  · obtain rfl := Option.some.inj h
    exact Reach.done ttok mix fk110 (p110_e_3 a0 a1 r1) (obs_cons (spec_l5First_ok h0) (obs_cons h1 obs_nil))
  · exact Reach.stop ttok mix fk110 (p110_e_4 a0 a1 r1) (obs_cons (spec_l5First_ok h0) (obs_cons h1 obs_nil)) (c110_5   _ _ _ _ _ _ h)
theorem spec_l7Check_ok {N : Nat} {a0 : List Val} {a1 : List Int} {r : Val × Bool} (h : spec_l7Check N  a0 a1 = some r) : AbsCalls Try.prog 110 (spec_l7Check_as a0 a1) (spec_l7Check_ro r) :=
 AbsCalls.of_reach fk110 rfl rfl (Nat.le_of_ble_eq_true rfl) (c110_e a0 a1 r h)
noncomputable def I50 : Info := { body := (Try.f50.body).getD .skip, nt := 18, results := [.cell 2 28], keep := [0, 2, 4, 6, 8, 24, 3, 5, 7], live := [], modes := [(1, [(4, .take, false)]), (2, [(0, .take, false)]), (3, [(0, .take, false)])], ext := [], lnt := [], casts := [], fcast := [] }
theorem fk50 : FnOk Try.prog 50 Try.f50 I50 := ⟨Try.func50, by kernel_rfl, by kernel_rfl, by kernel_rfl, by kernel_rfl⟩
theorem p50_e_0 (a0 : Val) (r1 : Val × Bool) : run tt (AbsCalls Try.prog) I50 3000 false [.code I50.body] ⟨(entry 0 (spec_CountRows_as a0)), [true], [spec_l7Check_ro r1], []⟩ = some (.done (spec_CountRows_ro r1.1) [AbsCalls Try.prog 110 (spec_l7Check_as [(Val.re a0)] [5]) (spec_l7Check_ro r1), r1.2 = true]) := by kernel_rfl
theorem p50_e_1 (a0 : Val) (r1 : Val × Bool) (r2 : Val) : run tt (AbsCalls Try.prog) I50 3000 false [.code I50.body] ⟨(entry 0 (spec_CountRows_as a0)), [false], [spec_l7Check_ro r1, spec_NumberValue_ro r2], []⟩ = some (.done (spec_CountRows_ro r2) [AbsCalls Try.prog 110 (spec_l7Check_as [(Val.re a0)] [5]) (spec_l7Check_ro r1), r1.2 = false, AbsCalls Try.prog 96 (spec_NumberValue_as (List.length (Val.rows a0) : Int)) (spec_NumberValue_ro r2)]) := by kernel_rfl
theorem c50_e {N : Nat} : ∀ a0 r, spec_CountRows N a0 = some r → Reach Try.prog Try.f50 I50 [.code I50.body] (entry 0 (spec_CountRows_as a0)) (spec_CountRows_ro r) := by
  intro a0 r h
  unfold spec_CountRows at h
  obtain ⟨r1, h0, h⟩ := bind_inv h
  rcases cond_inv h with ⟨h1, h⟩ | ⟨h1, h⟩
  · obtain rfl := Option.some.inj h
    exact Reach.done ttok mix fk50 (p50_e_0 a0 r1) (obs_cons (spec_l7Check_ok h0) (obs_cons h1 obs_nil))
  · obtain ⟨r2, h2, h⟩ := bind_inv h
    obtain rfl := Option.some.inj h
    exact Reach.done ttok mix fk50 (p50_e_1 a0 r1 r2) (obs_cons (spec_l7Check_ok h0) (obs_cons h1 (obs_cons (spec_NumberValue_ok h2) obs_nil)))
theorem spec_CountRows_ok {N : Nat} {a0 : Val} {r : Val} (h : spec_CountRows N  a0 = some r) : AbsCalls Try.prog 50 (spec_CountRows_as a0) (spec_CountRows_ro r) :=
 AbsCalls.of_reach fk50 rfl rfl (Nat.le_of_ble_eq_true rfl) (c50_e a0 r h)
theorem impl_operandError_toR {P : Program} {f : FuncId} {ags : List Arg} {r : Val × Bool × Bool} (h : AbsCalls P f ags (impl_operandError_ro r)) (ht : r.2.2 = true) : AbsCalls P f ags (impl_operandError_roR r) := by
  unfold impl_operandError_ro at h; rw [ht] at h; exact h
theorem impl_operandError_toO {P : Program} {f : FuncId} {ags : List Arg} {r : Val × Bool × Bool} (h : AbsCalls P f ags (impl_operandError_ro r)) (ht : r.2.2 = false) : AbsCalls P f ags (impl_operandError_roO r) := by
  unfold impl_operandError_ro at h; rw [ht] at h; exact h
noncomputable def I114 : Info := { body := (Try.f114.body).getD .skip, nt := 22, results := [.cell 2 28, .tmp 3], keep := [0, 4, 6, 10, 12, 14, 16, 18, 28, 36, 5, 11], live := [(2, [4, 12, 14, 16, 5])], modes := [(8, [(1, .take, false)])], ext := [], lnt := [], casts := [], fcast := [] }
theorem fk114 : FnOk Try.prog 114 Try.f114 I114 := ⟨Try.func114, by kernel_rfl, by kernel_rfl, by kernel_rfl, by kernel_rfl⟩
def S114_2 (x6 : List Val) (x7 : Int) (x8 : Int) (b2 : Val) : St := [(4, .v false [.ptr 2 0]), (12, .v false [.sl .ro .val x6]), (14, .v false [.int .i64 x7]), (16, .v false [.int .i64 x8]), (5, .v true [.int .i64 (Val.kind b2), .int .i64 (Val.n b2), .int .i64 (Val.step b2), .str (Val.text b2), .sl .own .val (Val.list b2), .sl .own .str (Val.columns b2), .sl .own .row (Val.rows b2)])]
theorem p114_2_0 (x6 : List Val) (x7 : Int) (x8 : Int) (b2 : Val) (r1 : Bool) (r2 : Val) : run tt (AbsCalls Try.prog) I114 3000 true (stkAt 2 I114.body) ⟨(S114_2 x6 x7 x8 b2), [true, true], [impl_IsValidValue_ro r1, impl_ErrorValue_ro r2], []⟩ = some (.done (impl_operandError_ro (r2, true, false)) [(decide ((x8 : Int) < x7)) = true, (0 : Int) ≤ x8 ∧ x8 < (List.length x6), AbsCalls Try.prog 109 (impl_IsValidValue_as (List.getD x6 (Int.toNat x8) Ty.val.dflt)) (impl_IsValidValue_ro r1), (!r1) = true, AbsCalls Try.prog 75 (impl_ErrorValue_as 4) (impl_ErrorValue_ro r2)]) := by kernel_rfl
theorem p114_2_1 (x6 : List Val) (x7 : Int) (x8 : Int) (b2 : Val) (r1 : Bool) : run tt (AbsCalls Try.prog) I114 3000 true (stkAt 2 I114.body) ⟨(S114_2 x6 x7 x8 b2), [true, false, true], [impl_IsValidValue_ro r1], []⟩ = some (.done (impl_operandError_ro ((List.getD x6 (Int.toNat x8) Ty.val.dflt), true, true)) [(decide ((x8 : Int) < x7)) = true, (0 : Int) ≤ x8 ∧ x8 < (List.length x6), AbsCalls Try.prog 109 (impl_IsValidValue_as (List.getD x6 (Int.toNat x8) Ty.val.dflt)) (impl_IsValidValue_ro r1), (!r1) = false, (((Val.kind (List.getD x6 (Int.toNat x8) Ty.val.dflt)) : Int) == 6) = true]) := by kernel_rfl
theorem p114_2_2 (x6 : List Val) (x7 : Int) (x8 : Int) (b2 : Val) (r1 : Bool) : run tt (AbsCalls Try.prog) I114 3000 true (stkAt 2 I114.body) ⟨(S114_2 x6 x7 x8 b2), [true, false, false], [impl_IsValidValue_ro r1], []⟩ = some (.stop (stkAt 2 I114.body) (S114_2 x6 x7 (IntKind.i64.wrap (x8 + 1)) b2) [(decide ((x8 : Int) < x7)) = true, (0 : Int) ≤ x8 ∧ x8 < (List.length x6), AbsCalls Try.prog 109 (impl_IsValidValue_as (List.getD x6 (Int.toNat x8) Ty.val.dflt)) (impl_IsValidValue_ro r1), (!r1) = false, (((Val.kind (List.getD x6 (Int.toNat x8) Ty.val.dflt)) : Int) == 6) = false]) := by kernel_rfl
theorem p114_2_3 (x6 : List Val) (x7 : Int) (x8 : Int) (b2 : Val) : run tt (AbsCalls Try.prog) I114 3000 true (stkAt 2 I114.body) ⟨(S114_2 x6 x7 x8 b2), [false], [], []⟩ = some (.done (impl_operandError_ro ((Val.mk 0 0 0 [] [] [] []), false, false)) [(decide ((x8 : Int) < x7)) = false]) := by kernel_rfl
theorem p114_e_4 (a0 : List Val) : run tt (AbsCalls Try.prog) I114 3000 false [.code I114.body] ⟨(entry 0 (impl_operandError_as a0)), [], [], []⟩ = some (.stop (stkAt 2 I114.body) (S114_2 a0 (List.length a0 : Int) 0 (Val.mk 0 0 0 [] [] [] [])) []) := by kernel_rfl
theorem c114_2 {N : Nat} : ∀ n x6 x7 x8 b2 r, impl_operandError_b2 N n x6 x7 x8 b2 = some r → Reach Try.prog Try.f114 I114 (stkAt 2 I114.body) (S114_2 x6 x7 x8 b2) (impl_operandError_ro r) := by
  intro n
  induction n with
  | zero => intro x6 x7 x8 b2 r h; have h' : (none : Option (Val × Bool × Bool)) = some r := h; cases h'
  | succ n ih =>
    intro x6 x7 x8 b2 r h
    rw [impl_operandError_b2] at h
    rcases cond_inv h with ⟨h0, h⟩ | ⟨h0, h⟩
    · obtain ⟨h1, h⟩ := ite_inv h
      obtain ⟨r1, h2, h⟩ := bind_inv h
      rcases cond_inv h with ⟨h3, h⟩ | ⟨h3, h⟩
      · obtain ⟨r2, h4, h⟩ := bind_inv h
        obtain rfl := Option.some.inj h
        exact Reach.done ttok mix fk114 (p114_2_0 x6 x7 x8 b2 r1 r2) (obs_cons h0 (obs_cons h1 (obs_cons (impl_IsValidValue_ok h2) (obs_cons h3 (obs_cons (impl_ErrorValue_ok h4) obs_nil)))))
      · rcases cond_inv h with ⟨h4, h⟩ | ⟨h4, h⟩
        · obtain rfl := Option.some.inj h
          exact Reach.done ttok mix fk114 (p114_2_1 x6 x7 x8 b2 r1) (obs_cons h0 (obs_cons h1 (obs_cons (impl_IsValidValue_ok h2) (obs_cons h3 (obs_cons h4 obs_nil)))))
        · exact Reach.stop ttok mix fk114 (p114_2_2 x6 x7 x8 b2 r1) (obs_cons h0 (obs_cons h1 (obs_cons (impl_IsValidValue_ok h2) (obs_cons h3 (obs_cons h4 obs_nil))))) (ih _ _ _ _ _ h)
    · obtain rfl := Option.some.inj h
      exact Reach.done ttok mix fk114 (p114_2_3 x6 x7 x8 b2) (obs_cons h0 obs_nil)
theorem c114_e {N : Nat} : ∀ a0 r, impl_operandError N a0 = some r → Reach Try.prog Try.f114 I114 [.code I114.body] (entry 0 (impl_operandError_as a0)) (impl_operandError_ro r) := by
  intro a0 r h
  unfold impl_operandError at h
  exact Reach.stop ttok mix fk114 (p114_e_4 a0) obs_nil (c114_2   _ _ _ _ _ _ h)
theorem impl_operandError_ok {N : Nat} {a0 : List Val} {r : Val × Bool × Bool} (h : impl_operandError N  a0 = some r) : AbsCalls Try.prog 114 (impl_operandError_as a0) (impl_operandError_ro r) :=
 AbsCalls.of_reach fk114 rfl rfl (Nat.le_of_ble_eq_true rfl) (c114_e a0 r h)
theorem impl_kindError_toR {P : Program} {f : FuncId} {ags : List Arg} {r : Val × Bool × Bool} (h : AbsCalls P f ags (impl_kindError_ro r)) (ht : r.2.2 = true) : AbsCalls P f ags (impl_kindError_roR r) := by
  unfold impl_kindError_ro at h; rw [ht] at h; exact h
theorem impl_kindError_toO {P : Program} {f : FuncId} {ags : List Arg} {r : Val × Bool × Bool} (h : AbsCalls P f ags (impl_kindError_ro r)) (ht : r.2.2 = false) : AbsCalls P f ags (impl_kindError_roO r) := by
  unfold impl_kindError_ro at h; rw [ht] at h; exact h
theorem impl_kindError_toE {P : Program} {f : FuncId} {ags : List Arg} {r : Val × Bool × Bool} (h : AbsCalls P f ags (impl_kindError_ro r)) (ht : r.2.2 = true) (e0 : List.isEmpty (Val.list r.1) = true) (e1 : List.isEmpty (Val.columns r.1) = true) (e2 : List.isEmpty (Val.rows r.1) = true) : AbsCalls P f ags (impl_kindError_roE r) := by
  have h := impl_kindError_toR h ht
  unfold impl_kindError_roR at h; rw [List.isEmpty_iff.1 e0, List.isEmpty_iff.1 e1, List.isEmpty_iff.1 e2] at h; exact h
noncomputable def I111 : Info := { body := (Try.f111.body).getD .skip, nt := 34, results := [.cell 4 28, .tmp 5], keep := [0, 2, 8, 10, 12, 14, 16, 18, 30, 34, 36, 38, 40, 60, 9, 13, 19], live := [(5, [0, 8, 34, 36, 38, 9])], modes := [(1, [(2, .take, false)]), (2, [(0, .take, false)]), (3, [(0, .take, false)]), (7, [(3, .take, false)]), (9, [(1, .take, false)])], ext := [], lnt := [], casts := [], fcast := [] }
theorem fk111 : FnOk Try.prog 111 Try.f111 I111 := ⟨Try.func111, by kernel_rfl, by kernel_rfl, by kernel_rfl, by kernel_rfl⟩
def S111_5 (x0 : List Int) (x17 : List Val) (x18 : Int) (x19 : Int) (b4 : Val) : St := [(0, .v false [.sl .ro .int x0]), (8, .v false [.ptr 4 0]), (34, .v false [.sl .ro .val x17]), (36, .v false [.int .i64 x18]), (38, .v false [.int .i64 x19]), (9, .v true [.int .i64 (Val.kind b4), .int .i64 (Val.n b4), .int .i64 (Val.step b4), .str (Val.text b4), .sl .own .val (Val.list b4), .sl .own .str (Val.columns b4), .sl .own .row (Val.rows b4)])]
theorem p111_5_0 (x0 : List Int) (x17 : List Val) (x18 : Int) (x19 : Int) (b4 : Val) (r1 : Val) : run tt (AbsCalls Try.prog) I111 3000 true (stkAt 5 I111.body) ⟨(S111_5 x0 x17 x18 x19 b4), [true, true], [impl_ErrorValue_ro r1], []⟩ = some (.done (impl_kindError_ro (r1, true, false)) [(decide ((x19 : Int) < x18)) = true, (0 : Int) ≤ x19 ∧ x19 < (List.length x17), (0 : Int) ≤ x19 ∧ x19 < (List.length x0), (((Val.kind (List.getD x17 (Int.toNat x19) Ty.val.dflt)) : Int) != (List.getD x0 (Int.toNat x19) Ty.int.dflt)) = true, AbsCalls Try.prog 75 (impl_ErrorValue_as 4) (impl_ErrorValue_ro r1)]) := by kernel_rfl
theorem p111_5_1 (x0 : List Int) (x17 : List Val) (x18 : Int) (x19 : Int) (b4 : Val) : run tt (AbsCalls Try.prog) I111 3000 true (stkAt 5 I111.body) ⟨(S111_5 x0 x17 x18 x19 b4), [true, false], [], []⟩ = some (.stop (stkAt 5 I111.body) (S111_5 x0 x17 x18 (IntKind.i64.wrap (x19 + 1)) b4) [(decide ((x19 : Int) < x18)) = true, (0 : Int) ≤ x19 ∧ x19 < (List.length x17), (0 : Int) ≤ x19 ∧ x19 < (List.length x0), (((Val.kind (List.getD x17 (Int.toNat x19) Ty.val.dflt)) : Int) != (List.getD x0 (Int.toNat x19) Ty.int.dflt)) = false]) := by kernel_rfl
theorem p111_5_2 (x0 : List Int) (x17 : List Val) (x18 : Int) (x19 : Int) (b4 : Val) : run tt (AbsCalls Try.prog) I111 3000 true (stkAt 5 I111.body) ⟨(S111_5 x0 x17 x18 x19 b4), [false], [], []⟩ = some (.done (impl_kindError_ro ((Val.mk 0 0 0 [] [] [] []), false, false)) [(decide ((x19 : Int) < x18)) = false]) := by kernel_rfl
theorem p111_e_3 (a0 : List Int) (a1 : List Val) (r1 : Val × Bool × Bool) : run tt (AbsCalls Try.prog) I111 3000 false [.code I111.body] ⟨(entry 0 (impl_kindError_as a0 a1)), [true], [impl_operandError_roR r1], []⟩ = some (.done (impl_kindError_ro (r1.1, true, true)) [AbsCalls Try.prog 114 (impl_operandError_as a1) (impl_operandError_roR r1), r1.2.1 = true]) := by kernel_rfl
theorem p111_e_4 (a0 : List Int) (a1 : List Val) (r1 : Val × Bool × Bool) : run tt (AbsCalls Try.prog) I111 3000 false [.code I111.body] ⟨(entry 0 (impl_kindError_as a0 a1)), [false], [impl_operandError_roR r1], []⟩ = some (.stop (stkAt 5 I111.body) (S111_5 a0 a1 (List.length a1 : Int) 0 (Val.mk 0 0 0 [] [] [] [])) [AbsCalls Try.prog 114 (impl_operandError_as a1) (impl_operandError_roR r1), r1.2.1 = false]) := by kernel_rfl
theorem p111_e_5 (a0 : List Int) (a1 : List Val) (r1 : Val × Bool × Bool) : run tt (AbsCalls Try.prog) I111 3000 false [.code I111.body] ⟨(entry 0 (impl_kindError_as a0 a1)), [true], [impl_operandError_roO r1], []⟩ = some (.done (impl_kindError_ro (r1.1, true, false)) [AbsCalls Try.prog 114 (impl_operandError_as a1) (impl_operandError_roO r1), r1.2.1 = true]) := by kernel_rfl
theorem p111_e_6 (a0 : List Int) (a1 : List Val) (r1 : Val × Bool × Bool) : run tt (AbsCalls Try.prog) I111 3000 false [.code I111.body] ⟨(entry 0 (impl_kindError_as a0 a1)), [false], [impl_operandError_roO r1], []⟩ = some (.stop (stkAt 5 I111.body) (S111_5 a0 a1 (List.length a1 : Int) 0 (Val.mk 0 0 0 [] [] [] [])) [AbsCalls Try.prog 114 (impl_operandError_as a1) (impl_operandError_roO r1), r1.2.1 = false]) := by kernel_rfl
theorem c111_5 {N : Nat} : ∀ n x0 x17 x18 x19 b4 r, impl_kindError_b5 N n x0 x17 x18 x19 b4 = some r → Reach Try.prog Try.f111 I111 (stkAt 5 I111.body) (S111_5 x0 x17 x18 x19 b4) (impl_kindError_ro r) := by
  intro n
  induction n with
  | zero => intro x0 x17 x18 x19 b4 r h; have h' : (none : Option (Val × Bool × Bool)) = some r := h; cases h'
  | succ n ih =>
    intro x0 x17 x18 x19 b4 r h
    rw [impl_kindError_b5] at h
    rcases cond_inv h with ⟨h0, h⟩ | ⟨h0, h⟩
    · obtain ⟨h1, h⟩ := ite_inv h
      obtain ⟨h2, h⟩ := ite_inv h
      rcases cond_inv h with ⟨h3, h⟩ | ⟨h3, h⟩
      · obtain ⟨r1, h4, h⟩ := bind_inv h
        obtain rfl := Option.some.inj h
        exact Reach.done ttok mix fk111 (p111_5_0 x0 x17 x18 x19 b4 r1) (obs_cons h0 (obs_cons h1 (obs_cons h2 (obs_cons h3 (obs_cons (impl_ErrorValue_ok h4) obs_nil)))))
      · exact Reach.stop ttok mix fk111 (p111_5_1 x0 x17 x18 x19 b4) (obs_cons h0 (obs_cons h1 (obs_cons h2 (obs_cons h3 obs_nil)))) (ih _ _ _ _ _ _ h)
    · obtain rfl := Option.some.inj h
      exact Reach.done ttok mix fk111 (p111_5_2 x0 x17 x18 x19 b4) (obs_cons h0 obs_nil)
theorem c111_e {N : Nat} : ∀ a0 a1 r, impl_kindError N a0 a1 = some r → Reach Try.prog Try.f111 I111 [.code I111.body] (entry 0 (impl_kindError_as a0 a1)) (impl_kindError_ro r) := by
  intro a0 a1 r h
  unfold impl_kindError at h
  obtain ⟨r1, h0, h⟩ := bind_inv h
  rcases cond_inv h with ⟨h1, h⟩ | ⟨h1, h⟩
  · rcases cond_inv h with ⟨h2, h⟩ | ⟨h2, h⟩
    · obtain rfl := Option.some.inj h
      exact Reach.done ttok mix fk111 (p111_e_3 a0 a1 r1) (obs_cons (impl_operandError_toR (impl_operandError_ok h0) h1) (obs_cons h2 obs_nil))
    · exact Reach.stop ttok mix fk111 (p111_e_4 a0 a1 r1) (obs_cons (impl_operandError_toR (impl_operandError_ok h0) h1) (obs_cons h2 obs_nil)) (c111_5   _ _ _ _ _ _ _ h)
  · rcases cond_inv h with ⟨h2, h⟩ | ⟨h2, h⟩
    · obtain rfl := Option.some.inj h
      exact Reach.done ttok mix fk111 (p111_e_5 a0 a1 r1) (obs_cons (impl_operandError_toO (impl_operandError_ok h0) h1) (obs_cons h2 obs_nil))
    · exact Reach.stop ttok mix fk111 (p111_e_6 a0 a1 r1) (obs_cons (impl_operandError_toO (impl_operandError_ok h0) h1) (obs_cons h2 obs_nil)) (c111_5   _ _ _ _ _ _ _ h)
theorem impl_kindError_ok {N : Nat} {a0 : List Int} {a1 : List Val} {r : Val × Bool × Bool} (h : impl_kindError N  a0 a1 = some r) : AbsCalls Try.prog 111 (impl_kindError_as a0 a1) (impl_kindError_ro r) :=
 AbsCalls.of_reach fk111 rfl rfl (Nat.le_of_ble_eq_true rfl) (c111_e a0 a1 r h)
theorem impl_CountRows_toR {P : Program} {f : FuncId} {ags : List Arg} {r : Val × Bool} (h : AbsCalls P f ags (impl_CountRows_ro r)) (ht : r.2 = true) : AbsCalls P f ags (impl_CountRows_roR r) := by
  unfold impl_CountRows_ro at h; rw [ht] at h; exact h
theorem impl_CountRows_toO {P : Program} {f : FuncId} {ags : List Arg} {r : Val × Bool} (h : AbsCalls P f ags (impl_CountRows_ro r)) (ht : r.2 = false) : AbsCalls P f ags (impl_CountRows_roO r) := by
  unfold impl_CountRows_ro at h; rw [ht] at h; exact h
theorem impl_CountRows_toE {P : Program} {f : FuncId} {ags : List Arg} {r : Val × Bool} (h : AbsCalls P f ags (impl_CountRows_ro r)) (ht : r.2 = true) (e0 : List.isEmpty (Val.list r.1) = true) (e1 : List.isEmpty (Val.columns r.1) = true) (e2 : List.isEmpty (Val.rows r.1) = true) : AbsCalls P f ags (impl_CountRows_roE r) := by
  have h := impl_CountRows_toR h ht
  unfold impl_CountRows_roR at h; rw [List.isEmpty_iff.1 e0, List.isEmpty_iff.1 e1, List.isEmpty_iff.1 e2] at h; exact h
noncomputable def I51 : Info := { body := (Try.f51.body).getD .skip, nt := 18, results := [.cell 2 28], keep := [0, 2, 4, 6, 8, 24, 3, 5, 7], live := [], modes := [(1, [(3, .take, true), (4, .take, false)]), (2, [(0, .take, false)]), (3, [(0, .take, false)])], ext := [], lnt := [], casts := [], fcast := [] }
theorem fk51 : FnOk Try.prog 51 Try.f51 I51 := ⟨Try.func51, by kernel_rfl, by kernel_rfl, by kernel_rfl, by kernel_rfl⟩
theorem p51_e_0 (a0 : Val) (r1 : Val × Bool × Bool) : run tt (AbsCalls Try.prog) I51 3000 false [.code I51.body] ⟨(entry 0 (impl_CountRows_as a0)), [true], [impl_kindError_roE r1], []⟩ = some (.done (impl_CountRows_ro ((Val.mk (Val.kind r1.1) (Val.n r1.1) (Val.step r1.1) (Val.text r1.1) [] [] []), true)) [AbsCalls Try.prog 111 (impl_kindError_as [5] [(Val.re a0)]) (impl_kindError_roE r1), r1.2.1 = true]) := by kernel_rfl
theorem p51_e_1 (a0 : Val) (r1 : Val × Bool × Bool) (r2 : Val) : run tt (AbsCalls Try.prog) I51 3000 false [.code I51.body] ⟨(entry 0 (impl_CountRows_as a0)), [false], [impl_kindError_roE r1, impl_NumberValue_ro r2], []⟩ = some (.done (impl_CountRows_ro (r2, false)) [AbsCalls Try.prog 111 (impl_kindError_as [5] [(Val.re a0)]) (impl_kindError_roE r1), r1.2.1 = false, AbsCalls Try.prog 105 (impl_NumberValue_as (List.length (Val.rows a0) : Int)) (impl_NumberValue_ro r2)]) := by kernel_rfl
theorem p51_e_2 (a0 : Val) (r1 : Val × Bool × Bool) : run tt (AbsCalls Try.prog) I51 3000 false [.code I51.body] ⟨(entry 0 (impl_CountRows_as a0)), [true], [impl_kindError_roO r1], []⟩ = some (.done (impl_CountRows_ro (r1.1, false)) [AbsCalls Try.prog 111 (impl_kindError_as [5] [(Val.re a0)]) (impl_kindError_roO r1), r1.2.1 = true]) := by kernel_rfl
theorem p51_e_3 (a0 : Val) (r1 : Val × Bool × Bool) (r2 : Val) : run tt (AbsCalls Try.prog) I51 3000 false [.code I51.body] ⟨(entry 0 (impl_CountRows_as a0)), [false], [impl_kindError_roO r1, impl_NumberValue_ro r2], []⟩ = some (.done (impl_CountRows_ro (r2, false)) [AbsCalls Try.prog 111 (impl_kindError_as [5] [(Val.re a0)]) (impl_kindError_roO r1), r1.2.1 = false, AbsCalls Try.prog 105 (impl_NumberValue_as (List.length (Val.rows a0) : Int)) (impl_NumberValue_ro r2)]) := by kernel_rfl
theorem c51_e {N : Nat} : ∀ a0 r, impl_CountRows N a0 = some r → Reach Try.prog Try.f51 I51 [.code I51.body] (entry 0 (impl_CountRows_as a0)) (impl_CountRows_ro r) := by
  intro a0 r h
  unfold impl_CountRows at h
  obtain ⟨r1, h0, h⟩ := bind_inv h
  rcases cond_inv h with ⟨h1, h⟩ | ⟨h1, h⟩
  · obtain ⟨h2, h⟩ := ite_inv h
    obtain ⟨h3, h⟩ := ite_inv h
    obtain ⟨h4, h⟩ := ite_inv h
    rcases cond_inv h with ⟨h5, h⟩ | ⟨h5, h⟩
    · obtain rfl := Option.some.inj h
      exact Reach.done ttok mix fk51 (p51_e_0 a0 r1) (obs_cons (impl_kindError_toE (impl_kindError_ok h0) h1 h2 h3 h4) (obs_cons h5 obs_nil))
    · obtain ⟨r2, h6, h⟩ := bind_inv h
      obtain rfl := Option.some.inj h
      exact Reach.done ttok mix fk51 (p51_e_1 a0 r1 r2) (obs_cons (impl_kindError_toE (impl_kindError_ok h0) h1 h2 h3 h4) (obs_cons h5 (obs_cons (impl_NumberValue_ok h6) obs_nil)))
  · rcases cond_inv h with ⟨h2, h⟩ | ⟨h2, h⟩
    · obtain rfl := Option.some.inj h
      exact Reach.done ttok mix fk51 (p51_e_2 a0 r1) (obs_cons (impl_kindError_toO (impl_kindError_ok h0) h1) (obs_cons h2 obs_nil))
    · obtain ⟨r2, h3, h⟩ := bind_inv h
      obtain rfl := Option.some.inj h
      exact Reach.done ttok mix fk51 (p51_e_3 a0 r1 r2) (obs_cons (impl_kindError_toO (impl_kindError_ok h0) h1) (obs_cons h2 (obs_cons (impl_NumberValue_ok h3) obs_nil)))
theorem impl_CountRows_ok {N : Nat} {a0 : Val} {r : Val × Bool} (h : impl_CountRows N  a0 = some r) : AbsCalls Try.prog 51 (impl_CountRows_as a0) (impl_CountRows_ro r) :=
 AbsCalls.of_reach fk51 rfl rfl (Nat.le_of_ble_eq_true rfl) (c51_e a0 r h)
end Go.Ab.T
end
section
open Go.Proofs
namespace Go.Ab.T
set_option linter.unusedVariables false
set_option maxRecDepth 100000
noncomputable def I9 : Info := { body := (Try.f9.body).getD .skip, nt := 69, results := [.tmp 2], keep := [0, 2, 4, 6, 8, 10, 12, 14, 16, 18, 20, 30, 52, 62, 84, 100, 106, 120, 130, 136, 3, 9, 11, 13, 21], live := [], modes := [(7, [(1, .take, true)]), (13, [(0, .ref, false), (2, .ref, false)]), (14, [(2, .take, false)]), (17, [(0, .ref, false), (2, .ref, false)]), (24, [(2, .take, true)])], ext := [], lnt := [], casts := [], fcast := [] }
theorem fk9 : FnOk Try.prog 9 Try.f9 I9 := ⟨Try.func9, by kernel_rfl, by kernel_rfl, by kernel_rfl, by kernel_rfl⟩
theorem p9_e_0 (a0 : Val) (r1 : Int) : run tt (AbsCalls Try.prog) I9 3000 false [.code I9.body] ⟨(entry 0 (laws_FnExactCountRows_as a0)), [true], [laws_szValue_ro r1], []⟩ = some (.done (laws_FnExactCountRows_ro true) [AbsCalls Try.prog 24 (laws_szValue_as a0 1048576) (laws_szValue_ro r1), (decide ((r1 : Int) < 0)) = true]) := by kernel_rfl
theorem p9_e_1 (a0 : Val) (r1 : Int) (r2 : Val) (r3 : Val) (r4 : Val) (r5 : Val × Bool) (r6 : Bool) : run tt (AbsCalls Try.prog) I9 3000 false [.code I9.body] ⟨(entry 0 (laws_FnExactCountRows_as a0)), [false, true], [laws_szValue_ro r1, laws_toValue_ro r2, spec_CountRows_ro r3, laws_toValue_ro r4, impl_CountRows_roE r5, laws_eqValue_ro r6], []⟩ = some (.done (laws_FnExactCountRows_ro false) [AbsCalls Try.prog 24 (laws_szValue_as a0 1048576) (laws_szValue_ro r1), (decide ((r1 : Int) < 0)) = false, AbsCalls Try.prog 26 (laws_toValue_as a0) (laws_toValue_ro r2), AbsCalls Try.prog 50 (spec_CountRows_as r2) (spec_CountRows_ro r3), AbsCalls Try.prog 26 (laws_toValue_as a0) (laws_toValue_ro r4), AbsCalls Try.prog 51 (impl_CountRows_as r4) (impl_CountRows_roE r5), AbsCalls Try.prog 19 (laws_eqValue_as (Val.mk (Val.kind r5.1) (Val.n r5.1) (Val.step r5.1) (Val.text r5.1) [] [] []) r3) (laws_eqValue_ro r6), (!r6) = true]) := by kernel_rfl
theorem p9_e_2 (a0 : Val) (r1 : Int) (r2 : Val) (r3 : Val) (r4 : Val) (r5 : Val × Bool) (r6 : Bool) (r7 : Val) (r8 : Bool) : run tt (AbsCalls Try.prog) I9 3000 false [.code I9.body] ⟨(entry 0 (laws_FnExactCountRows_as a0)), [false, false, true], [laws_szValue_ro r1, laws_toValue_ro r2, spec_CountRows_ro r3, laws_toValue_ro r4, impl_CountRows_roE r5, laws_eqValue_ro r6, laws_toValue_ro r7, laws_eqValue_ro r8], []⟩ = some (.done (laws_FnExactCountRows_ro false) [AbsCalls Try.prog 24 (laws_szValue_as a0 1048576) (laws_szValue_ro r1), (decide ((r1 : Int) < 0)) = false, AbsCalls Try.prog 26 (laws_toValue_as a0) (laws_toValue_ro r2), AbsCalls Try.prog 50 (spec_CountRows_as r2) (spec_CountRows_ro r3), AbsCalls Try.prog 26 (laws_toValue_as a0) (laws_toValue_ro r4), AbsCalls Try.prog 51 (impl_CountRows_as r4) (impl_CountRows_roE r5), AbsCalls Try.prog 19 (laws_eqValue_as (Val.mk (Val.kind r5.1) (Val.n r5.1) (Val.step r5.1) (Val.text r5.1) [] [] []) r3) (laws_eqValue_ro r6), (!r6) = false, AbsCalls Try.prog 26 (laws_toValue_as a0) (laws_toValue_ro r7), AbsCalls Try.prog 19 (laws_eqValue_as r4 r7) (laws_eqValue_ro r8), (!r8) = true]) := by kernel_rfl
theorem p9_e_3 (a0 : Val) (r1 : Int) (r2 : Val) (r3 : Val) (r4 : Val) (r5 : Val × Bool) (r6 : Bool) (r7 : Val) (r8 : Bool) (r9 : Int × (List Val) × (List Str) × (List Rowd)) : run tt (AbsCalls Try.prog) I9 3000 false [.code I9.body] ⟨(entry 0 (laws_FnExactCountRows_as a0)), [false, false, false, true, true], [laws_szValue_ro r1, laws_toValue_ro r2, spec_CountRows_ro r3, laws_toValue_ro r4, impl_CountRows_roE r5, laws_eqValue_ro r6, laws_toValue_ro r7, laws_eqValue_ro r8, laws_markValue_ro r9], []⟩ = some (.done (laws_FnExactCountRows_ro false) [AbsCalls Try.prog 24 (laws_szValue_as a0 1048576) (laws_szValue_ro r1), (decide ((r1 : Int) < 0)) = false, AbsCalls Try.prog 26 (laws_toValue_as a0) (laws_toValue_ro r2), AbsCalls Try.prog 50 (spec_CountRows_as r2) (spec_CountRows_ro r3), AbsCalls Try.prog 26 (laws_toValue_as a0) (laws_toValue_ro r4), AbsCalls Try.prog 51 (impl_CountRows_as r4) (impl_CountRows_roE r5), AbsCalls Try.prog 19 (laws_eqValue_as (Val.mk (Val.kind r5.1) (Val.n r5.1) (Val.step r5.1) (Val.text r5.1) [] [] []) r3) (laws_eqValue_ro r6), (!r6) = false, AbsCalls Try.prog 26 (laws_toValue_as a0) (laws_toValue_ro r7), AbsCalls Try.prog 19 (laws_eqValue_as r4 r7) (laws_eqValue_ro r8), (!r8) = false, AbsCalls Try.prog 22 (laws_markValue_as r4 1) (laws_markValue_ro r9), List.length r9.2.1 = List.length (Val.list r4), List.length r9.2.2.1 = List.length (Val.columns r4), List.length r9.2.2.2 = List.length (Val.rows r4), (decide ((r9.1 : Int) < 0)) = true, true = true]) := by kernel_rfl
theorem p9_e_4 (a0 : Val) (r1 : Int) (r2 : Val) (r3 : Val) (r4 : Val) (r5 : Val × Bool) (r6 : Bool) (r7 : Val) (r8 : Bool) (r9 : Int × (List Val) × (List Str) × (List Rowd)) (r10 : Bool) : run tt (AbsCalls Try.prog) I9 3000 false [.code I9.body] ⟨(entry 0 (laws_FnExactCountRows_as a0)), [false, false, false, false, true], [laws_szValue_ro r1, laws_toValue_ro r2, spec_CountRows_ro r3, laws_toValue_ro r4, impl_CountRows_roE r5, laws_eqValue_ro r6, laws_toValue_ro r7, laws_eqValue_ro r8, laws_markValue_ro r9, laws_eqValue_ro r10], []⟩ = some (.done (laws_FnExactCountRows_ro false) [AbsCalls Try.prog 24 (laws_szValue_as a0 1048576) (laws_szValue_ro r1), (decide ((r1 : Int) < 0)) = false, AbsCalls Try.prog 26 (laws_toValue_as a0) (laws_toValue_ro r2), AbsCalls Try.prog 50 (spec_CountRows_as r2) (spec_CountRows_ro r3), AbsCalls Try.prog 26 (laws_toValue_as a0) (laws_toValue_ro r4), AbsCalls Try.prog 51 (impl_CountRows_as r4) (impl_CountRows_roE r5), AbsCalls Try.prog 19 (laws_eqValue_as (Val.mk (Val.kind r5.1) (Val.n r5.1) (Val.step r5.1) (Val.text r5.1) [] [] []) r3) (laws_eqValue_ro r6), (!r6) = false, AbsCalls Try.prog 26 (laws_toValue_as a0) (laws_toValue_ro r7), AbsCalls Try.prog 19 (laws_eqValue_as r4 r7) (laws_eqValue_ro r8), (!r8) = false, AbsCalls Try.prog 22 (laws_markValue_as r4 1) (laws_markValue_ro r9), List.length r9.2.1 = List.length (Val.list r4), List.length r9.2.2.1 = List.length (Val.columns r4), List.length r9.2.2.2 = List.length (Val.rows r4), (decide ((r9.1 : Int) < 0)) = false, AbsCalls Try.prog 19 (laws_eqValue_as (Val.mk (Val.kind r5.1) (Val.n r5.1) (Val.step r5.1) (Val.text r5.1) [] [] []) r3) (laws_eqValue_ro r10), (!r10) = true]) := by kernel_rfl
theorem p9_e_5 (a0 : Val) (r1 : Int) (r2 : Val) (r3 : Val) (r4 : Val) (r5 : Val × Bool) (r6 : Bool) (r7 : Val) (r8 : Bool) (r9 : Int × (List Val) × (List Str) × (List Rowd)) (r10 : Bool) (r11 : Int) (r12 : Int) : run tt (AbsCalls Try.prog) I9 3000 false [.code I9.body] ⟨(entry 0 (laws_FnExactCountRows_as a0)), [false, false, false, false, false, true], [laws_szValue_ro r1, laws_toValue_ro r2, spec_CountRows_ro r3, laws_toValue_ro r4, impl_CountRows_roE r5, laws_eqValue_ro r6, laws_toValue_ro r7, laws_eqValue_ro r8, laws_markValue_ro r9, laws_eqValue_ro r10, laws_markValue_E_ro r11, laws_heldValue_ro r12], []⟩ = some (.done (laws_FnExactCountRows_ro false) [AbsCalls Try.prog 24 (laws_szValue_as a0 1048576) (laws_szValue_ro r1), (decide ((r1 : Int) < 0)) = false, AbsCalls Try.prog 26 (laws_toValue_as a0) (laws_toValue_ro r2), AbsCalls Try.prog 50 (spec_CountRows_as r2) (spec_CountRows_ro r3), AbsCalls Try.prog 26 (laws_toValue_as a0) (laws_toValue_ro r4), AbsCalls Try.prog 51 (impl_CountRows_as r4) (impl_CountRows_roE r5), AbsCalls Try.prog 19 (laws_eqValue_as (Val.mk (Val.kind r5.1) (Val.n r5.1) (Val.step r5.1) (Val.text r5.1) [] [] []) r3) (laws_eqValue_ro r6), (!r6) = false, AbsCalls Try.prog 26 (laws_toValue_as a0) (laws_toValue_ro r7), AbsCalls Try.prog 19 (laws_eqValue_as r4 r7) (laws_eqValue_ro r8), (!r8) = false, AbsCalls Try.prog 22 (laws_markValue_as r4 1) (laws_markValue_ro r9), List.length r9.2.1 = List.length (Val.list r4), List.length r9.2.2.1 = List.length (Val.columns r4), List.length r9.2.2.2 = List.length (Val.rows r4), (decide ((r9.1 : Int) < 0)) = false, AbsCalls Try.prog 19 (laws_eqValue_as (Val.mk (Val.kind r5.1) (Val.n r5.1) (Val.step r5.1) (Val.text r5.1) [] [] []) r3) (laws_eqValue_ro r10), (!r10) = false, AbsCalls Try.prog 22 (laws_markValue_E_as (Val.mk (Val.kind r5.1) (Val.n r5.1) (Val.step r5.1) (Val.text r5.1) [] [] []) 1) (laws_markValue_E_ro r11), AbsCalls Try.prog 23 (laws_heldValue_as (Val.mk (Val.kind r5.1) (Val.n r5.1) (Val.step r5.1) (Val.text r5.1) [] [] []) 1) (laws_heldValue_ro r12), (decide ((r12 : Int) < 0)) = true]) := by kernel_rfl
theorem p9_e_6 (a0 : Val) (r1 : Int) (r2 : Val) (r3 : Val) (r4 : Val) (r5 : Val × Bool) (r6 : Bool) (r7 : Val) (r8 : Bool) (r9 : Int × (List Val) × (List Str) × (List Rowd)) (r10 : Bool) (r11 : Int) (r12 : Int) : run tt (AbsCalls Try.prog) I9 3000 false [.code I9.body] ⟨(entry 0 (laws_FnExactCountRows_as a0)), [false, false, false, false, false, false, true], [laws_szValue_ro r1, laws_toValue_ro r2, spec_CountRows_ro r3, laws_toValue_ro r4, impl_CountRows_roE r5, laws_eqValue_ro r6, laws_toValue_ro r7, laws_eqValue_ro r8, laws_markValue_ro r9, laws_eqValue_ro r10, laws_markValue_E_ro r11, laws_heldValue_ro r12], []⟩ = some (.done (laws_FnExactCountRows_ro false) [AbsCalls Try.prog 24 (laws_szValue_as a0 1048576) (laws_szValue_ro r1), (decide ((r1 : Int) < 0)) = false, AbsCalls Try.prog 26 (laws_toValue_as a0) (laws_toValue_ro r2), AbsCalls Try.prog 50 (spec_CountRows_as r2) (spec_CountRows_ro r3), AbsCalls Try.prog 26 (laws_toValue_as a0) (laws_toValue_ro r4), AbsCalls Try.prog 51 (impl_CountRows_as r4) (impl_CountRows_roE r5), AbsCalls Try.prog 19 (laws_eqValue_as (Val.mk (Val.kind r5.1) (Val.n r5.1) (Val.step r5.1) (Val.text r5.1) [] [] []) r3) (laws_eqValue_ro r6), (!r6) = false, AbsCalls Try.prog 26 (laws_toValue_as a0) (laws_toValue_ro r7), AbsCalls Try.prog 19 (laws_eqValue_as r4 r7) (laws_eqValue_ro r8), (!r8) = false, AbsCalls Try.prog 22 (laws_markValue_as r4 1) (laws_markValue_ro r9), List.length r9.2.1 = List.length (Val.list r4), List.length r9.2.2.1 = List.length (Val.columns r4), List.length r9.2.2.2 = List.length (Val.rows r4), (decide ((r9.1 : Int) < 0)) = false, AbsCalls Try.prog 19 (laws_eqValue_as (Val.mk (Val.kind r5.1) (Val.n r5.1) (Val.step r5.1) (Val.text r5.1) [] [] []) r3) (laws_eqValue_ro r10), (!r10) = false, AbsCalls Try.prog 22 (laws_markValue_E_as (Val.mk (Val.kind r5.1) (Val.n r5.1) (Val.step r5.1) (Val.text r5.1) [] [] []) 1) (laws_markValue_E_ro r11), AbsCalls Try.prog 23 (laws_heldValue_as (Val.mk (Val.kind r5.1) (Val.n r5.1) (Val.step r5.1) (Val.text r5.1) [] [] []) 1) (laws_heldValue_ro r12), (decide ((r12 : Int) < 0)) = false, ((r12 : Int) != r11) = true]) := by kernel_rfl
theorem p9_e_7 (a0 : Val) (r1 : Int) (r2 : Val) (r3 : Val) (r4 : Val) (r5 : Val × Bool) (r6 : Bool) (r7 : Val) (r8 : Bool) (r9 : Int × (List Val) × (List Str) × (List Rowd)) (r10 : Bool) (r11 : Int) (r12 : Int) (r13 : Val) (r14 : Val × Bool) (r15 : Bool) : run tt (AbsCalls Try.prog) I9 3000 false [.code I9.body] ⟨(entry 0 (laws_FnExactCountRows_as a0)), [false, false, false, false, false, false, false, true], [laws_szValue_ro r1, laws_toValue_ro r2, spec_CountRows_ro r3, laws_toValue_ro r4, impl_CountRows_roE r5, laws_eqValue_ro r6, laws_toValue_ro r7, laws_eqValue_ro r8, laws_markValue_ro r9, laws_eqValue_ro r10, laws_markValue_E_ro r11, laws_heldValue_ro r12, laws_toValue_ro r13, impl_CountRows_roE r14, laws_eqValue_ro r15], []⟩ = some (.done (laws_FnExactCountRows_ro false) [AbsCalls Try.prog 24 (laws_szValue_as a0 1048576) (laws_szValue_ro r1), (decide ((r1 : Int) < 0)) = false, AbsCalls Try.prog 26 (laws_toValue_as a0) (laws_toValue_ro r2), AbsCalls Try.prog 50 (spec_CountRows_as r2) (spec_CountRows_ro r3), AbsCalls Try.prog 26 (laws_toValue_as a0) (laws_toValue_ro r4), AbsCalls Try.prog 51 (impl_CountRows_as r4) (impl_CountRows_roE r5), AbsCalls Try.prog 19 (laws_eqValue_as (Val.mk (Val.kind r5.1) (Val.n r5.1) (Val.step r5.1) (Val.text r5.1) [] [] []) r3) (laws_eqValue_ro r6), (!r6) = false, AbsCalls Try.prog 26 (laws_toValue_as a0) (laws_toValue_ro r7), AbsCalls Try.prog 19 (laws_eqValue_as r4 r7) (laws_eqValue_ro r8), (!r8) = false, AbsCalls Try.prog 22 (laws_markValue_as r4 1) (laws_markValue_ro r9), List.length r9.2.1 = List.length (Val.list r4), List.length r9.2.2.1 = List.length (Val.columns r4), List.length r9.2.2.2 = List.length (Val.rows r4), (decide ((r9.1 : Int) < 0)) = false, AbsCalls Try.prog 19 (laws_eqValue_as (Val.mk (Val.kind r5.1) (Val.n r5.1) (Val.step r5.1) (Val.text r5.1) [] [] []) r3) (laws_eqValue_ro r10), (!r10) = false, AbsCalls Try.prog 22 (laws_markValue_E_as (Val.mk (Val.kind r5.1) (Val.n r5.1) (Val.step r5.1) (Val.text r5.1) [] [] []) 1) (laws_markValue_E_ro r11), AbsCalls Try.prog 23 (laws_heldValue_as (Val.mk (Val.kind r5.1) (Val.n r5.1) (Val.step r5.1) (Val.text r5.1) [] [] []) 1) (laws_heldValue_ro r12), (decide ((r12 : Int) < 0)) = false, ((r12 : Int) != r11) = false, AbsCalls Try.prog 26 (laws_toValue_as a0) (laws_toValue_ro r13), AbsCalls Try.prog 51 (impl_CountRows_as r13) (impl_CountRows_roE r14), AbsCalls Try.prog 19 (laws_eqValue_as (Val.mk (Val.kind r14.1) (Val.n r14.1) (Val.step r14.1) (Val.text r14.1) [] [] []) r3) (laws_eqValue_ro r15), (!r15) = true]) := by kernel_rfl
theorem p9_e_8 (a0 : Val) (r1 : Int) (r2 : Val) (r3 : Val) (r4 : Val) (r5 : Val × Bool) (r6 : Bool) (r7 : Val) (r8 : Bool) (r9 : Int × (List Val) × (List Str) × (List Rowd)) (r10 : Bool) (r11 : Int) (r12 : Int) (r13 : Val) (r14 : Val × Bool) (r15 : Bool) (r16 : Int) : run tt (AbsCalls Try.prog) I9 3000 false [.code I9.body] ⟨(entry 0 (laws_FnExactCountRows_as a0)), [false, false, false, false, false, false, false, false, true], [laws_szValue_ro r1, laws_toValue_ro r2, spec_CountRows_ro r3, laws_toValue_ro r4, impl_CountRows_roE r5, laws_eqValue_ro r6, laws_toValue_ro r7, laws_eqValue_ro r8, laws_markValue_ro r9, laws_eqValue_ro r10, laws_markValue_E_ro r11, laws_heldValue_ro r12, laws_toValue_ro r13, impl_CountRows_roE r14, laws_eqValue_ro r15, laws_heldValue_ro r16], []⟩ = some (.done (laws_FnExactCountRows_ro false) [AbsCalls Try.prog 24 (laws_szValue_as a0 1048576) (laws_szValue_ro r1), (decide ((r1 : Int) < 0)) = false, AbsCalls Try.prog 26 (laws_toValue_as a0) (laws_toValue_ro r2), AbsCalls Try.prog 50 (spec_CountRows_as r2) (spec_CountRows_ro r3), AbsCalls Try.prog 26 (laws_toValue_as a0) (laws_toValue_ro r4), AbsCalls Try.prog 51 (impl_CountRows_as r4) (impl_CountRows_roE r5), AbsCalls Try.prog 19 (laws_eqValue_as (Val.mk (Val.kind r5.1) (Val.n r5.1) (Val.step r5.1) (Val.text r5.1) [] [] []) r3) (laws_eqValue_ro r6), (!r6) = false, AbsCalls Try.prog 26 (laws_toValue_as a0) (laws_toValue_ro r7), AbsCalls Try.prog 19 (laws_eqValue_as r4 r7) (laws_eqValue_ro r8), (!r8) = false, AbsCalls Try.prog 22 (laws_markValue_as r4 1) (laws_markValue_ro r9), List.length r9.2.1 = List.length (Val.list r4), List.length r9.2.2.1 = List.length (Val.columns r4), List.length r9.2.2.2 = List.length (Val.rows r4), (decide ((r9.1 : Int) < 0)) = false, AbsCalls Try.prog 19 (laws_eqValue_as (Val.mk (Val.kind r5.1) (Val.n r5.1) (Val.step r5.1) (Val.text r5.1) [] [] []) r3) (laws_eqValue_ro r10), (!r10) = false, AbsCalls Try.prog 22 (laws_markValue_E_as (Val.mk (Val.kind r5.1) (Val.n r5.1) (Val.step r5.1) (Val.text r5.1) [] [] []) 1) (laws_markValue_E_ro r11), AbsCalls Try.prog 23 (laws_heldValue_as (Val.mk (Val.kind r5.1) (Val.n r5.1) (Val.step r5.1) (Val.text r5.1) [] [] []) 1) (laws_heldValue_ro r12), (decide ((r12 : Int) < 0)) = false, ((r12 : Int) != r11) = false, AbsCalls Try.prog 26 (laws_toValue_as a0) (laws_toValue_ro r13), AbsCalls Try.prog 51 (impl_CountRows_as r13) (impl_CountRows_roE r14), AbsCalls Try.prog 19 (laws_eqValue_as (Val.mk (Val.kind r14.1) (Val.n r14.1) (Val.step r14.1) (Val.text r14.1) [] [] []) r3) (laws_eqValue_ro r15), (!r15) = false, AbsCalls Try.prog 23 (laws_heldValue_as (Val.mk (Val.kind r5.1) (Val.n r5.1) (Val.step r5.1) (Val.text r5.1) [] [] []) 1) (laws_heldValue_ro r16), (decide ((r16 : Int) < 0)) = true]) := by kernel_rfl
theorem p9_e_9 (a0 : Val) (r1 : Int) (r2 : Val) (r3 : Val) (r4 : Val) (r5 : Val × Bool) (r6 : Bool) (r7 : Val) (r8 : Bool) (r9 : Int × (List Val) × (List Str) × (List Rowd)) (r10 : Bool) (r11 : Int) (r12 : Int) (r13 : Val) (r14 : Val × Bool) (r15 : Bool) (r16 : Int) : run tt (AbsCalls Try.prog) I9 3000 false [.code I9.body] ⟨(entry 0 (laws_FnExactCountRows_as a0)), [false, false, false, false, false, false, false, false, false, true], [laws_szValue_ro r1, laws_toValue_ro r2, spec_CountRows_ro r3, laws_toValue_ro r4, impl_CountRows_roE r5, laws_eqValue_ro r6, laws_toValue_ro r7, laws_eqValue_ro r8, laws_markValue_ro r9, laws_eqValue_ro r10, laws_markValue_E_ro r11, laws_heldValue_ro r12, laws_toValue_ro r13, impl_CountRows_roE r14, laws_eqValue_ro r15, laws_heldValue_ro r16], []⟩ = some (.done (laws_FnExactCountRows_ro false) [AbsCalls Try.prog 24 (laws_szValue_as a0 1048576) (laws_szValue_ro r1), (decide ((r1 : Int) < 0)) = false, AbsCalls Try.prog 26 (laws_toValue_as a0) (laws_toValue_ro r2), AbsCalls Try.prog 50 (spec_CountRows_as r2) (spec_CountRows_ro r3), AbsCalls Try.prog 26 (laws_toValue_as a0) (laws_toValue_ro r4), AbsCalls Try.prog 51 (impl_CountRows_as r4) (impl_CountRows_roE r5), AbsCalls Try.prog 19 (laws_eqValue_as (Val.mk (Val.kind r5.1) (Val.n r5.1) (Val.step r5.1) (Val.text r5.1) [] [] []) r3) (laws_eqValue_ro r6), (!r6) = false, AbsCalls Try.prog 26 (laws_toValue_as a0) (laws_toValue_ro r7), AbsCalls Try.prog 19 (laws_eqValue_as r4 r7) (laws_eqValue_ro r8), (!r8) = false, AbsCalls Try.prog 22 (laws_markValue_as r4 1) (laws_markValue_ro r9), List.length r9.2.1 = List.length (Val.list r4), List.length r9.2.2.1 = List.length (Val.columns r4), List.length r9.2.2.2 = List.length (Val.rows r4), (decide ((r9.1 : Int) < 0)) = false, AbsCalls Try.prog 19 (laws_eqValue_as (Val.mk (Val.kind r5.1) (Val.n r5.1) (Val.step r5.1) (Val.text r5.1) [] [] []) r3) (laws_eqValue_ro r10), (!r10) = false, AbsCalls Try.prog 22 (laws_markValue_E_as (Val.mk (Val.kind r5.1) (Val.n r5.1) (Val.step r5.1) (Val.text r5.1) [] [] []) 1) (laws_markValue_E_ro r11), AbsCalls Try.prog 23 (laws_heldValue_as (Val.mk (Val.kind r5.1) (Val.n r5.1) (Val.step r5.1) (Val.text r5.1) [] [] []) 1) (laws_heldValue_ro r12), (decide ((r12 : Int) < 0)) = false, ((r12 : Int) != r11) = false, AbsCalls Try.prog 26 (laws_toValue_as a0) (laws_toValue_ro r13), AbsCalls Try.prog 51 (impl_CountRows_as r13) (impl_CountRows_roE r14), AbsCalls Try.prog 19 (laws_eqValue_as (Val.mk (Val.kind r14.1) (Val.n r14.1) (Val.step r14.1) (Val.text r14.1) [] [] []) r3) (laws_eqValue_ro r15), (!r15) = false, AbsCalls Try.prog 23 (laws_heldValue_as (Val.mk (Val.kind r5.1) (Val.n r5.1) (Val.step r5.1) (Val.text r5.1) [] [] []) 1) (laws_heldValue_ro r16), (decide ((r16 : Int) < 0)) = false, ((r16 : Int) != r11) = true]) := by kernel_rfl
theorem p9_e_10 (a0 : Val) (r1 : Int) (r2 : Val) (r3 : Val) (r4 : Val) (r5 : Val × Bool) (r6 : Bool) (r7 : Val) (r8 : Bool) (r9 : Int × (List Val) × (List Str) × (List Rowd)) (r10 : Bool) (r11 : Int) (r12 : Int) (r13 : Val) (r14 : Val × Bool) (r15 : Bool) (r16 : Int) : run tt (AbsCalls Try.prog) I9 3000 false [.code I9.body] ⟨(entry 0 (laws_FnExactCountRows_as a0)), [false, false, false, false, false, false, false, false, false, false], [laws_szValue_ro r1, laws_toValue_ro r2, spec_CountRows_ro r3, laws_toValue_ro r4, impl_CountRows_roE r5, laws_eqValue_ro r6, laws_toValue_ro r7, laws_eqValue_ro r8, laws_markValue_ro r9, laws_eqValue_ro r10, laws_markValue_E_ro r11, laws_heldValue_ro r12, laws_toValue_ro r13, impl_CountRows_roE r14, laws_eqValue_ro r15, laws_heldValue_ro r16], []⟩ = some (.done (laws_FnExactCountRows_ro true) [AbsCalls Try.prog 24 (laws_szValue_as a0 1048576) (laws_szValue_ro r1), (decide ((r1 : Int) < 0)) = false, AbsCalls Try.prog 26 (laws_toValue_as a0) (laws_toValue_ro r2), AbsCalls Try.prog 50 (spec_CountRows_as r2) (spec_CountRows_ro r3), AbsCalls Try.prog 26 (laws_toValue_as a0) (laws_toValue_ro r4), AbsCalls Try.prog 51 (impl_CountRows_as r4) (impl_CountRows_roE r5), AbsCalls Try.prog 19 (laws_eqValue_as (Val.mk (Val.kind r5.1) (Val.n r5.1) (Val.step r5.1) (Val.text r5.1) [] [] []) r3) (laws_eqValue_ro r6), (!r6) = false, AbsCalls Try.prog 26 (laws_toValue_as a0) (laws_toValue_ro r7), AbsCalls Try.prog 19 (laws_eqValue_as r4 r7) (laws_eqValue_ro r8), (!r8) = false, AbsCalls Try.prog 22 (laws_markValue_as r4 1) (laws_markValue_ro r9), List.length r9.2.1 = List.length (Val.list r4), List.length r9.2.2.1 = List.length (Val.columns r4), List.length r9.2.2.2 = List.length (Val.rows r4), (decide ((r9.1 : Int) < 0)) = false, AbsCalls Try.prog 19 (laws_eqValue_as (Val.mk (Val.kind r5.1) (Val.n r5.1) (Val.step r5.1) (Val.text r5.1) [] [] []) r3) (laws_eqValue_ro r10), (!r10) = false, AbsCalls Try.prog 22 (laws_markValue_E_as (Val.mk (Val.kind r5.1) (Val.n r5.1) (Val.step r5.1) (Val.text r5.1) [] [] []) 1) (laws_markValue_E_ro r11), AbsCalls Try.prog 23 (laws_heldValue_as (Val.mk (Val.kind r5.1) (Val.n r5.1) (Val.step r5.1) (Val.text r5.1) [] [] []) 1) (laws_heldValue_ro r12), (decide ((r12 : Int) < 0)) = false, ((r12 : Int) != r11) = false, AbsCalls Try.prog 26 (laws_toValue_as a0) (laws_toValue_ro r13), AbsCalls Try.prog 51 (impl_CountRows_as r13) (impl_CountRows_roE r14), AbsCalls Try.prog 19 (laws_eqValue_as (Val.mk (Val.kind r14.1) (Val.n r14.1) (Val.step r14.1) (Val.text r14.1) [] [] []) r3) (laws_eqValue_ro r15), (!r15) = false, AbsCalls Try.prog 23 (laws_heldValue_as (Val.mk (Val.kind r5.1) (Val.n r5.1) (Val.step r5.1) (Val.text r5.1) [] [] []) 1) (laws_heldValue_ro r16), (decide ((r16 : Int) < 0)) = false, ((r16 : Int) != r11) = false]) := by kernel_rfl
theorem p9_e_11 (a0 : Val) (r1 : Int) (r2 : Val) (r3 : Val) (r4 : Val) (r5 : Val × Bool) (r6 : Bool) (r7 : Val) (r8 : Bool) (r9 : Int × (List Val) × (List Str) × (List Rowd)) (r10 : Bool) (r11 : Int) (r12 : Int) (r13 : Val) (r14 : Val × Bool) (r15 : Bool) : run tt (AbsCalls Try.prog) I9 3000 false [.code I9.body] ⟨(entry 0 (laws_FnExactCountRows_as a0)), [false, false, false, false, false, false, false, true], [laws_szValue_ro r1, laws_toValue_ro r2, spec_CountRows_ro r3, laws_toValue_ro r4, impl_CountRows_roE r5, laws_eqValue_ro r6, laws_toValue_ro r7, laws_eqValue_ro r8, laws_markValue_ro r9, laws_eqValue_ro r10, laws_markValue_E_ro r11, laws_heldValue_ro r12, laws_toValue_ro r13, impl_CountRows_roO r14, laws_eqValue_ro r15], []⟩ = some (.done (laws_FnExactCountRows_ro false) [AbsCalls Try.prog 24 (laws_szValue_as a0 1048576) (laws_szValue_ro r1), (decide ((r1 : Int) < 0)) = false, AbsCalls Try.prog 26 (laws_toValue_as a0) (laws_toValue_ro r2), AbsCalls Try.prog 50 (spec_CountRows_as r2) (spec_CountRows_ro r3), AbsCalls Try.prog 26 (laws_toValue_as a0) (laws_toValue_ro r4), AbsCalls Try.prog 51 (impl_CountRows_as r4) (impl_CountRows_roE r5), AbsCalls Try.prog 19 (laws_eqValue_as (Val.mk (Val.kind r5.1) (Val.n r5.1) (Val.step r5.1) (Val.text r5.1) [] [] []) r3) (laws_eqValue_ro r6), (!r6) = false, AbsCalls Try.prog 26 (laws_toValue_as a0) (laws_toValue_ro r7), AbsCalls Try.prog 19 (laws_eqValue_as r4 r7) (laws_eqValue_ro r8), (!r8) = false, AbsCalls Try.prog 22 (laws_markValue_as r4 1) (laws_markValue_ro r9), List.length r9.2.1 = List.length (Val.list r4), List.length r9.2.2.1 = List.length (Val.columns r4), List.length r9.2.2.2 = List.length (Val.rows r4), (decide ((r9.1 : Int) < 0)) = false, AbsCalls Try.prog 19 (laws_eqValue_as (Val.mk (Val.kind r5.1) (Val.n r5.1) (Val.step r5.1) (Val.text r5.1) [] [] []) r3) (laws_eqValue_ro r10), (!r10) = false, AbsCalls Try.prog 22 (laws_markValue_E_as (Val.mk (Val.kind r5.1) (Val.n r5.1) (Val.step r5.1) (Val.text r5.1) [] [] []) 1) (laws_markValue_E_ro r11), AbsCalls Try.prog 23 (laws_heldValue_as (Val.mk (Val.kind r5.1) (Val.n r5.1) (Val.step r5.1) (Val.text r5.1) [] [] []) 1) (laws_heldValue_ro r12), (decide ((r12 : Int) < 0)) = false, ((r12 : Int) != r11) = false, AbsCalls Try.prog 26 (laws_toValue_as a0) (laws_toValue_ro r13), AbsCalls Try.prog 51 (impl_CountRows_as r13) (impl_CountRows_roO r14), AbsCalls Try.prog 19 (laws_eqValue_as r14.1 r3) (laws_eqValue_ro r15), (!r15) = true]) := by kernel_rfl
theorem p9_e_12 (a0 : Val) (r1 : Int) (r2 : Val) (r3 : Val) (r4 : Val) (r5 : Val × Bool) (r6 : Bool) (r7 : Val) (r8 : Bool) (r9 : Int × (List Val) × (List Str) × (List Rowd)) (r10 : Bool) (r11 : Int) (r12 : Int) (r13 : Val) (r14 : Val × Bool) (r15 : Bool) (r16 : Int) : run tt (AbsCalls Try.prog) I9 3000 false [.code I9.body] ⟨(entry 0 (laws_FnExactCountRows_as a0)), [false, false, false, false, false, false, false, false, true], [laws_szValue_ro r1, laws_toValue_ro r2, spec_CountRows_ro r3, laws_toValue_ro r4, impl_CountRows_roE r5, laws_eqValue_ro r6, laws_toValue_ro r7, laws_eqValue_ro r8, laws_markValue_ro r9, laws_eqValue_ro r10, laws_markValue_E_ro r11, laws_heldValue_ro r12, laws_toValue_ro r13, impl_CountRows_roO r14, laws_eqValue_ro r15, laws_heldValue_ro r16], []⟩ = some (.done (laws_FnExactCountRows_ro false) [AbsCalls Try.prog 24 (laws_szValue_as a0 1048576) (laws_szValue_ro r1), (decide ((r1 : Int) < 0)) = false, AbsCalls Try.prog 26 (laws_toValue_as a0) (laws_toValue_ro r2), AbsCalls Try.prog 50 (spec_CountRows_as r2) (spec_CountRows_ro r3), AbsCalls Try.prog 26 (laws_toValue_as a0) (laws_toValue_ro r4), AbsCalls Try.prog 51 (impl_CountRows_as r4) (impl_CountRows_roE r5), AbsCalls Try.prog 19 (laws_eqValue_as (Val.mk (Val.kind r5.1) (Val.n r5.1) (Val.step r5.1) (Val.text r5.1) [] [] []) r3) (laws_eqValue_ro r6), (!r6) = false, AbsCalls Try.prog 26 (laws_toValue_as a0) (laws_toValue_ro r7), AbsCalls Try.prog 19 (laws_eqValue_as r4 r7) (laws_eqValue_ro r8), (!r8) = false, AbsCalls Try.prog 22 (laws_markValue_as r4 1) (laws_markValue_ro r9), List.length r9.2.1 = List.length (Val.list r4), List.length r9.2.2.1 = List.length (Val.columns r4), List.length r9.2.2.2 = List.length (Val.rows r4), (decide ((r9.1 : Int) < 0)) = false, AbsCalls Try.prog 19 (laws_eqValue_as (Val.mk (Val.kind r5.1) (Val.n r5.1) (Val.step r5.1) (Val.text r5.1) [] [] []) r3) (laws_eqValue_ro r10), (!r10) = false, AbsCalls Try.prog 22 (laws_markValue_E_as (Val.mk (Val.kind r5.1) (Val.n r5.1) (Val.step r5.1) (Val.text r5.1) [] [] []) 1) (laws_markValue_E_ro r11), AbsCalls Try.prog 23 (laws_heldValue_as (Val.mk (Val.kind r5.1) (Val.n r5.1) (Val.step r5.1) (Val.text r5.1) [] [] []) 1) (laws_heldValue_ro r12), (decide ((r12 : Int) < 0)) = false, ((r12 : Int) != r11) = false, AbsCalls Try.prog 26 (laws_toValue_as a0) (laws_toValue_ro r13), AbsCalls Try.prog 51 (impl_CountRows_as r13) (impl_CountRows_roO r14), AbsCalls Try.prog 19 (laws_eqValue_as r14.1 r3) (laws_eqValue_ro r15), (!r15) = false, AbsCalls Try.prog 23 (laws_heldValue_as (Val.mk (Val.kind r5.1) (Val.n r5.1) (Val.step r5.1) (Val.text r5.1) [] [] []) 1) (laws_heldValue_ro r16), (decide ((r16 : Int) < 0)) = true]) := by kernel_rfl
theorem p9_e_13 (a0 : Val) (r1 : Int) (r2 : Val) (r3 : Val) (r4 : Val) (r5 : Val × Bool) (r6 : Bool) (r7 : Val) (r8 : Bool) (r9 : Int × (List Val) × (List Str) × (List Rowd)) (r10 : Bool) (r11 : Int) (r12 : Int) (r13 : Val) (r14 : Val × Bool) (r15 : Bool) (r16 : Int) : run tt (AbsCalls Try.prog) I9 3000 false [.code I9.body] ⟨(entry 0 (laws_FnExactCountRows_as a0)), [false, false, false, false, false, false, false, false, false, true], [laws_szValue_ro r1, laws_toValue_ro r2, spec_CountRows_ro r3, laws_toValue_ro r4, impl_CountRows_roE r5, laws_eqValue_ro r6, laws_toValue_ro r7, laws_eqValue_ro r8, laws_markValue_ro r9, laws_eqValue_ro r10, laws_markValue_E_ro r11, laws_heldValue_ro r12, laws_toValue_ro r13, impl_CountRows_roO r14, laws_eqValue_ro r15, laws_heldValue_ro r16], []⟩ = some (.done (laws_FnExactCountRows_ro false) [AbsCalls Try.prog 24 (laws_szValue_as a0 1048576) (laws_szValue_ro r1), (decide ((r1 : Int) < 0)) = false, AbsCalls Try.prog 26 (laws_toValue_as a0) (laws_toValue_ro r2), AbsCalls Try.prog 50 (spec_CountRows_as r2) (spec_CountRows_ro r3), AbsCalls Try.prog 26 (laws_toValue_as a0) (laws_toValue_ro r4), AbsCalls Try.prog 51 (impl_CountRows_as r4) (impl_CountRows_roE r5), AbsCalls Try.prog 19 (laws_eqValue_as (Val.mk (Val.kind r5.1) (Val.n r5.1) (Val.step r5.1) (Val.text r5.1) [] [] []) r3) (laws_eqValue_ro r6), (!r6) = false, AbsCalls Try.prog 26 (laws_toValue_as a0) (laws_toValue_ro r7), AbsCalls Try.prog 19 (laws_eqValue_as r4 r7) (laws_eqValue_ro r8), (!r8) = false, AbsCalls Try.prog 22 (laws_markValue_as r4 1) (laws_markValue_ro r9), List.length r9.2.1 = List.length (Val.list r4), List.length r9.2.2.1 = List.length (Val.columns r4), List.length r9.2.2.2 = List.length (Val.rows r4), (decide ((r9.1 : Int) < 0)) = false, AbsCalls Try.prog 19 (laws_eqValue_as (Val.mk (Val.kind r5.1) (Val.n r5.1) (Val.step r5.1) (Val.text r5.1) [] [] []) r3) (laws_eqValue_ro r10), (!r10) = false, AbsCalls Try.prog 22 (laws_markValue_E_as (Val.mk (Val.kind r5.1) (Val.n r5.1) (Val.step r5.1) (Val.text r5.1) [] [] []) 1) (laws_markValue_E_ro r11), AbsCalls Try.prog 23 (laws_heldValue_as (Val.mk (Val.kind r5.1) (Val.n r5.1) (Val.step r5.1) (Val.text r5.1) [] [] []) 1) (laws_heldValue_ro r12), (decide ((r12 : Int) < 0)) = false, ((r12 : Int) != r11) = false, AbsCalls Try.prog 26 (laws_toValue_as a0) (laws_toValue_ro r13), AbsCalls Try.prog 51 (impl_CountRows_as r13) (impl_CountRows_roO r14), AbsCalls Try.prog 19 (laws_eqValue_as r14.1 r3) (laws_eqValue_ro r15), (!r15) = false, AbsCalls Try.prog 23 (laws_heldValue_as (Val.mk (Val.kind r5.1) (Val.n r5.1) (Val.step r5.1) (Val.text r5.1) [] [] []) 1) (laws_heldValue_ro r16), (decide ((r16 : Int) < 0)) = false, ((r16 : Int) != r11) = true]) := by kernel_rfl
theorem p9_e_14 (a0 : Val) (r1 : Int) (r2 : Val) (r3 : Val) (r4 : Val) (r5 : Val × Bool) (r6 : Bool) (r7 : Val) (r8 : Bool) (r9 : Int × (List Val) × (List Str) × (List Rowd)) (r10 : Bool) (r11 : Int) (r12 : Int) (r13 : Val) (r14 : Val × Bool) (r15 : Bool) (r16 : Int) : run tt (AbsCalls Try.prog) I9 3000 false [.code I9.body] ⟨(entry 0 (laws_FnExactCountRows_as a0)), [false, false, false, false, false, false, false, false, false, false], [laws_szValue_ro r1, laws_toValue_ro r2, spec_CountRows_ro r3, laws_toValue_ro r4, impl_CountRows_roE r5, laws_eqValue_ro r6, laws_toValue_ro r7, laws_eqValue_ro r8, laws_markValue_ro r9, laws_eqValue_ro r10, laws_markValue_E_ro r11, laws_heldValue_ro r12, laws_toValue_ro r13, impl_CountRows_roO r14, laws_eqValue_ro r15, laws_heldValue_ro r16], []⟩ = some (.done (laws_FnExactCountRows_ro true) [AbsCalls Try.prog 24 (laws_szValue_as a0 1048576) (laws_szValue_ro r1), (decide ((r1 : Int) < 0)) = false, AbsCalls Try.prog 26 (laws_toValue_as a0) (laws_toValue_ro r2), AbsCalls Try.prog 50 (spec_CountRows_as r2) (spec_CountRows_ro r3), AbsCalls Try.prog 26 (laws_toValue_as a0) (laws_toValue_ro r4), AbsCalls Try.prog 51 (impl_CountRows_as r4) (impl_CountRows_roE r5), AbsCalls Try.prog 19 (laws_eqValue_as (Val.mk (Val.kind r5.1) (Val.n r5.1) (Val.step r5.1) (Val.text r5.1) [] [] []) r3) (laws_eqValue_ro r6), (!r6) = false, AbsCalls Try.prog 26 (laws_toValue_as a0) (laws_toValue_ro r7), AbsCalls Try.prog 19 (laws_eqValue_as r4 r7) (laws_eqValue_ro r8), (!r8) = false, AbsCalls Try.prog 22 (laws_markValue_as r4 1) (laws_markValue_ro r9), List.length r9.2.1 = List.length (Val.list r4), List.length r9.2.2.1 = List.length (Val.columns r4), List.length r9.2.2.2 = List.length (Val.rows r4), (decide ((r9.1 : Int) < 0)) = false, AbsCalls Try.prog 19 (laws_eqValue_as (Val.mk (Val.kind r5.1) (Val.n r5.1) (Val.step r5.1) (Val.text r5.1) [] [] []) r3) (laws_eqValue_ro r10), (!r10) = false, AbsCalls Try.prog 22 (laws_markValue_E_as (Val.mk (Val.kind r5.1) (Val.n r5.1) (Val.step r5.1) (Val.text r5.1) [] [] []) 1) (laws_markValue_E_ro r11), AbsCalls Try.prog 23 (laws_heldValue_as (Val.mk (Val.kind r5.1) (Val.n r5.1) (Val.step r5.1) (Val.text r5.1) [] [] []) 1) (laws_heldValue_ro r12), (decide ((r12 : Int) < 0)) = false, ((r12 : Int) != r11) = false, AbsCalls Try.prog 26 (laws_toValue_as a0) (laws_toValue_ro r13), AbsCalls Try.prog 51 (impl_CountRows_as r13) (impl_CountRows_roO r14), AbsCalls Try.prog 19 (laws_eqValue_as r14.1 r3) (laws_eqValue_ro r15), (!r15) = false, AbsCalls Try.prog 23 (laws_heldValue_as (Val.mk (Val.kind r5.1) (Val.n r5.1) (Val.step r5.1) (Val.text r5.1) [] [] []) 1) (laws_heldValue_ro r16), (decide ((r16 : Int) < 0)) = false, ((r16 : Int) != r11) = false]) := by kernel_rfl
theorem p9_e_15 (a0 : Val) (r1 : Int) (r2 : Val) (r3 : Val) (r4 : Val) (r5 : Val × Bool) (r6 : Bool) : run tt (AbsCalls Try.prog) I9 3000 false [.code I9.body] ⟨(entry 0 (laws_FnExactCountRows_as a0)), [false, true], [laws_szValue_ro r1, laws_toValue_ro r2, spec_CountRows_ro r3, laws_toValue_ro r4, impl_CountRows_roO r5, laws_eqValue_ro r6], []⟩ = some (.done (laws_FnExactCountRows_ro false) [AbsCalls Try.prog 24 (laws_szValue_as a0 1048576) (laws_szValue_ro r1), (decide ((r1 : Int) < 0)) = false, AbsCalls Try.prog 26 (laws_toValue_as a0) (laws_toValue_ro r2), AbsCalls Try.prog 50 (spec_CountRows_as r2) (spec_CountRows_ro r3), AbsCalls Try.prog 26 (laws_toValue_as a0) (laws_toValue_ro r4), AbsCalls Try.prog 51 (impl_CountRows_as r4) (impl_CountRows_roO r5), AbsCalls Try.prog 19 (laws_eqValue_as r5.1 r3) (laws_eqValue_ro r6), (!r6) = true]) := by kernel_rfl
theorem p9_e_16 (a0 : Val) (r1 : Int) (r2 : Val) (r3 : Val) (r4 : Val) (r5 : Val × Bool) (r6 : Bool) (r7 : Val) (r8 : Bool) : run tt (AbsCalls Try.prog) I9 3000 false [.code I9.body] ⟨(entry 0 (laws_FnExactCountRows_as a0)), [false, false, true], [laws_szValue_ro r1, laws_toValue_ro r2, spec_CountRows_ro r3, laws_toValue_ro r4, impl_CountRows_roO r5, laws_eqValue_ro r6, laws_toValue_ro r7, laws_eqValue_ro r8], []⟩ = some (.done (laws_FnExactCountRows_ro false) [AbsCalls Try.prog 24 (laws_szValue_as a0 1048576) (laws_szValue_ro r1), (decide ((r1 : Int) < 0)) = false, AbsCalls Try.prog 26 (laws_toValue_as a0) (laws_toValue_ro r2), AbsCalls Try.prog 50 (spec_CountRows_as r2) (spec_CountRows_ro r3), AbsCalls Try.prog 26 (laws_toValue_as a0) (laws_toValue_ro r4), AbsCalls Try.prog 51 (impl_CountRows_as r4) (impl_CountRows_roO r5), AbsCalls Try.prog 19 (laws_eqValue_as r5.1 r3) (laws_eqValue_ro r6), (!r6) = false, AbsCalls Try.prog 26 (laws_toValue_as a0) (laws_toValue_ro r7), AbsCalls Try.prog 19 (laws_eqValue_as r4 r7) (laws_eqValue_ro r8), (!r8) = true]) := by kernel_rfl
theorem p9_e_17 (a0 : Val) (r1 : Int) (r2 : Val) (r3 : Val) (r4 : Val) (r5 : Val × Bool) (r6 : Bool) (r7 : Val) (r8 : Bool) (r9 : Int × (List Val) × (List Str) × (List Rowd)) : run tt (AbsCalls Try.prog) I9 3000 false [.code I9.body] ⟨(entry 0 (laws_FnExactCountRows_as a0)), [false, false, false, true, true], [laws_szValue_ro r1, laws_toValue_ro r2, spec_CountRows_ro r3, laws_toValue_ro r4, impl_CountRows_roO r5, laws_eqValue_ro r6, laws_toValue_ro r7, laws_eqValue_ro r8, laws_markValue_ro r9], []⟩ = some (.done (laws_FnExactCountRows_ro false) [AbsCalls Try.prog 24 (laws_szValue_as a0 1048576) (laws_szValue_ro r1), (decide ((r1 : Int) < 0)) = false, AbsCalls Try.prog 26 (laws_toValue_as a0) (laws_toValue_ro r2), AbsCalls Try.prog 50 (spec_CountRows_as r2) (spec_CountRows_ro r3), AbsCalls Try.prog 26 (laws_toValue_as a0) (laws_toValue_ro r4), AbsCalls Try.prog 51 (impl_CountRows_as r4) (impl_CountRows_roO r5), AbsCalls Try.prog 19 (laws_eqValue_as r5.1 r3) (laws_eqValue_ro r6), (!r6) = false, AbsCalls Try.prog 26 (laws_toValue_as a0) (laws_toValue_ro r7), AbsCalls Try.prog 19 (laws_eqValue_as r4 r7) (laws_eqValue_ro r8), (!r8) = false, AbsCalls Try.prog 22 (laws_markValue_as r4 1) (laws_markValue_ro r9), List.length r9.2.1 = List.length (Val.list r4), List.length r9.2.2.1 = List.length (Val.columns r4), List.length r9.2.2.2 = List.length (Val.rows r4), (decide ((r9.1 : Int) < 0)) = true, true = true]) := by kernel_rfl
theorem p9_e_18 (a0 : Val) (r1 : Int) (r2 : Val) (r3 : Val) (r4 : Val) (r5 : Val × Bool) (r6 : Bool) (r7 : Val) (r8 : Bool) (r9 : Int × (List Val) × (List Str) × (List Rowd)) (r10 : Bool) : run tt (AbsCalls Try.prog) I9 3000 false [.code I9.body] ⟨(entry 0 (laws_FnExactCountRows_as a0)), [false, false, false, false, true], [laws_szValue_ro r1, laws_toValue_ro r2, spec_CountRows_ro r3, laws_toValue_ro r4, impl_CountRows_roO r5, laws_eqValue_ro r6, laws_toValue_ro r7, laws_eqValue_ro r8, laws_markValue_ro r9, laws_eqValue_ro r10], []⟩ = some (.done (laws_FnExactCountRows_ro false) [AbsCalls Try.prog 24 (laws_szValue_as a0 1048576) (laws_szValue_ro r1), (decide ((r1 : Int) < 0)) = false, AbsCalls Try.prog 26 (laws_toValue_as a0) (laws_toValue_ro r2), AbsCalls Try.prog 50 (spec_CountRows_as r2) (spec_CountRows_ro r3), AbsCalls Try.prog 26 (laws_toValue_as a0) (laws_toValue_ro r4), AbsCalls Try.prog 51 (impl_CountRows_as r4) (impl_CountRows_roO r5), AbsCalls Try.prog 19 (laws_eqValue_as r5.1 r3) (laws_eqValue_ro r6), (!r6) = false, AbsCalls Try.prog 26 (laws_toValue_as a0) (laws_toValue_ro r7), AbsCalls Try.prog 19 (laws_eqValue_as r4 r7) (laws_eqValue_ro r8), (!r8) = false, AbsCalls Try.prog 22 (laws_markValue_as r4 1) (laws_markValue_ro r9), List.length r9.2.1 = List.length (Val.list r4), List.length r9.2.2.1 = List.length (Val.columns r4), List.length r9.2.2.2 = List.length (Val.rows r4), (decide ((r9.1 : Int) < 0)) = false, AbsCalls Try.prog 19 (laws_eqValue_as r5.1 r3) (laws_eqValue_ro r10), (!r10) = true]) := by kernel_rfl
theorem p9_e_19 (a0 : Val) (r1 : Int) (r2 : Val) (r3 : Val) (r4 : Val) (r5 : Val × Bool) (r6 : Bool) (r7 : Val) (r8 : Bool) (r9 : Int × (List Val) × (List Str) × (List Rowd)) (r10 : Bool) (r11 : Int × (List Val) × (List Str) × (List Rowd)) (r12 : Int) : run tt (AbsCalls Try.prog) I9 3000 false [.code I9.body] ⟨(entry 0 (laws_FnExactCountRows_as a0)), [false, false, false, false, false, true], [laws_szValue_ro r1, laws_toValue_ro r2, spec_CountRows_ro r3, laws_toValue_ro r4, impl_CountRows_roO r5, laws_eqValue_ro r6, laws_toValue_ro r7, laws_eqValue_ro r8, laws_markValue_ro r9, laws_eqValue_ro r10, laws_markValue_ro r11, laws_heldValue_ro r12], []⟩ = some (.done (laws_FnExactCountRows_ro false) [AbsCalls Try.prog 24 (laws_szValue_as a0 1048576) (laws_szValue_ro r1), (decide ((r1 : Int) < 0)) = false, AbsCalls Try.prog 26 (laws_toValue_as a0) (laws_toValue_ro r2), AbsCalls Try.prog 50 (spec_CountRows_as r2) (spec_CountRows_ro r3), AbsCalls Try.prog 26 (laws_toValue_as a0) (laws_toValue_ro r4), AbsCalls Try.prog 51 (impl_CountRows_as r4) (impl_CountRows_roO r5), AbsCalls Try.prog 19 (laws_eqValue_as r5.1 r3) (laws_eqValue_ro r6), (!r6) = false, AbsCalls Try.prog 26 (laws_toValue_as a0) (laws_toValue_ro r7), AbsCalls Try.prog 19 (laws_eqValue_as r4 r7) (laws_eqValue_ro r8), (!r8) = false, AbsCalls Try.prog 22 (laws_markValue_as r4 1) (laws_markValue_ro r9), List.length r9.2.1 = List.length (Val.list r4), List.length r9.2.2.1 = List.length (Val.columns r4), List.length r9.2.2.2 = List.length (Val.rows r4), (decide ((r9.1 : Int) < 0)) = false, AbsCalls Try.prog 19 (laws_eqValue_as r5.1 r3) (laws_eqValue_ro r10), (!r10) = false, AbsCalls Try.prog 22 (laws_markValue_as r5.1 1) (laws_markValue_ro r11), List.length r11.2.1 = List.length (Val.list r5.1), List.length r11.2.2.1 = List.length (Val.columns r5.1), List.length r11.2.2.2 = List.length (Val.rows r5.1), AbsCalls Try.prog 23 (laws_heldValue_as (Val.mk (Val.kind r5.1) (Val.n r5.1) (Val.step r5.1) (Val.text r5.1) r11.2.1 r11.2.2.1 r11.2.2.2) 1) (laws_heldValue_ro r12), (decide ((r12 : Int) < 0)) = true]) := by kernel_rfl
theorem p9_e_20 (a0 : Val) (r1 : Int) (r2 : Val) (r3 : Val) (r4 : Val) (r5 : Val × Bool) (r6 : Bool) (r7 : Val) (r8 : Bool) (r9 : Int × (List Val) × (List Str) × (List Rowd)) (r10 : Bool) (r11 : Int × (List Val) × (List Str) × (List Rowd)) (r12 : Int) : run tt (AbsCalls Try.prog) I9 3000 false [.code I9.body] ⟨(entry 0 (laws_FnExactCountRows_as a0)), [false, false, false, false, false, false, true], [laws_szValue_ro r1, laws_toValue_ro r2, spec_CountRows_ro r3, laws_toValue_ro r4, impl_CountRows_roO r5, laws_eqValue_ro r6, laws_toValue_ro r7, laws_eqValue_ro r8, laws_markValue_ro r9, laws_eqValue_ro r10, laws_markValue_ro r11, laws_heldValue_ro r12], []⟩ = some (.done (laws_FnExactCountRows_ro false) [AbsCalls Try.prog 24 (laws_szValue_as a0 1048576) (laws_szValue_ro r1), (decide ((r1 : Int) < 0)) = false, AbsCalls Try.prog 26 (laws_toValue_as a0) (laws_toValue_ro r2), AbsCalls Try.prog 50 (spec_CountRows_as r2) (spec_CountRows_ro r3), AbsCalls Try.prog 26 (laws_toValue_as a0) (laws_toValue_ro r4), AbsCalls Try.prog 51 (impl_CountRows_as r4) (impl_CountRows_roO r5), AbsCalls Try.prog 19 (laws_eqValue_as r5.1 r3) (laws_eqValue_ro r6), (!r6) = false, AbsCalls Try.prog 26 (laws_toValue_as a0) (laws_toValue_ro r7), AbsCalls Try.prog 19 (laws_eqValue_as r4 r7) (laws_eqValue_ro r8), (!r8) = false, AbsCalls Try.prog 22 (laws_markValue_as r4 1) (laws_markValue_ro r9), List.length r9.2.1 = List.length (Val.list r4), List.length r9.2.2.1 = List.length (Val.columns r4), List.length r9.2.2.2 = List.length (Val.rows r4), (decide ((r9.1 : Int) < 0)) = false, AbsCalls Try.prog 19 (laws_eqValue_as r5.1 r3) (laws_eqValue_ro r10), (!r10) = false, AbsCalls Try.prog 22 (laws_markValue_as r5.1 1) (laws_markValue_ro r11), List.length r11.2.1 = List.length (Val.list r5.1), List.length r11.2.2.1 = List.length (Val.columns r5.1), List.length r11.2.2.2 = List.length (Val.rows r5.1), AbsCalls Try.prog 23 (laws_heldValue_as (Val.mk (Val.kind r5.1) (Val.n r5.1) (Val.step r5.1) (Val.text r5.1) r11.2.1 r11.2.2.1 r11.2.2.2) 1) (laws_heldValue_ro r12), (decide ((r12 : Int) < 0)) = false, ((r12 : Int) != r11.1) = true]) := by kernel_rfl
theorem p9_e_21 (a0 : Val) (r1 : Int) (r2 : Val) (r3 : Val) (r4 : Val) (r5 : Val × Bool) (r6 : Bool) (r7 : Val) (r8 : Bool) (r9 : Int × (List Val) × (List Str) × (List Rowd)) (r10 : Bool) (r11 : Int × (List Val) × (List Str) × (List Rowd)) (r12 : Int) (r13 : Val) (r14 : Val × Bool) (r15 : Bool) : run tt (AbsCalls Try.prog) I9 3000 false [.code I9.body] ⟨(entry 0 (laws_FnExactCountRows_as a0)), [false, false, false, false, false, false, false, true], [laws_szValue_ro r1, laws_toValue_ro r2, spec_CountRows_ro r3, laws_toValue_ro r4, impl_CountRows_roO r5, laws_eqValue_ro r6, laws_toValue_ro r7, laws_eqValue_ro r8, laws_markValue_ro r9, laws_eqValue_ro r10, laws_markValue_ro r11, laws_heldValue_ro r12, laws_toValue_ro r13, impl_CountRows_roE r14, laws_eqValue_ro r15], []⟩ = some (.done (laws_FnExactCountRows_ro false) [AbsCalls Try.prog 24 (laws_szValue_as a0 1048576) (laws_szValue_ro r1), (decide ((r1 : Int) < 0)) = false, AbsCalls Try.prog 26 (laws_toValue_as a0) (laws_toValue_ro r2), AbsCalls Try.prog 50 (spec_CountRows_as r2) (spec_CountRows_ro r3), AbsCalls Try.prog 26 (laws_toValue_as a0) (laws_toValue_ro r4), AbsCalls Try.prog 51 (impl_CountRows_as r4) (impl_CountRows_roO r5), AbsCalls Try.prog 19 (laws_eqValue_as r5.1 r3) (laws_eqValue_ro r6), (!r6) = false, AbsCalls Try.prog 26 (laws_toValue_as a0) (laws_toValue_ro r7), AbsCalls Try.prog 19 (laws_eqValue_as r4 r7) (laws_eqValue_ro r8), (!r8) = false, AbsCalls Try.prog 22 (laws_markValue_as r4 1) (laws_markValue_ro r9), List.length r9.2.1 = List.length (Val.list r4), List.length r9.2.2.1 = List.length (Val.columns r4), List.length r9.2.2.2 = List.length (Val.rows r4), (decide ((r9.1 : Int) < 0)) = false, AbsCalls Try.prog 19 (laws_eqValue_as r5.1 r3) (laws_eqValue_ro r10), (!r10) = false, AbsCalls Try.prog 22 (laws_markValue_as r5.1 1) (laws_markValue_ro r11), List.length r11.2.1 = List.length (Val.list r5.1), List.length r11.2.2.1 = List.length (Val.columns r5.1), List.length r11.2.2.2 = List.length (Val.rows r5.1), AbsCalls Try.prog 23 (laws_heldValue_as (Val.mk (Val.kind r5.1) (Val.n r5.1) (Val.step r5.1) (Val.text r5.1) r11.2.1 r11.2.2.1 r11.2.2.2) 1) (laws_heldValue_ro r12), (decide ((r12 : Int) < 0)) = false, ((r12 : Int) != r11.1) = false, AbsCalls Try.prog 26 (laws_toValue_as a0) (laws_toValue_ro r13), AbsCalls Try.prog 51 (impl_CountRows_as r13) (impl_CountRows_roE r14), AbsCalls Try.prog 19 (laws_eqValue_as (Val.mk (Val.kind r14.1) (Val.n r14.1) (Val.step r14.1) (Val.text r14.1) [] [] []) r3) (laws_eqValue_ro r15), (!r15) = true]) := by kernel_rfl
theorem p9_e_22 (a0 : Val) (r1 : Int) (r2 : Val) (r3 : Val) (r4 : Val) (r5 : Val × Bool) (r6 : Bool) (r7 : Val) (r8 : Bool) (r9 : Int × (List Val) × (List Str) × (List Rowd)) (r10 : Bool) (r11 : Int × (List Val) × (List Str) × (List Rowd)) (r12 : Int) (r13 : Val) (r14 : Val × Bool) (r15 : Bool) (r16 : Int) : run tt (AbsCalls Try.prog) I9 3000 false [.code I9.body] ⟨(entry 0 (laws_FnExactCountRows_as a0)), [false, false, false, false, false, false, false, false, true], [laws_szValue_ro r1, laws_toValue_ro r2, spec_CountRows_ro r3, laws_toValue_ro r4, impl_CountRows_roO r5, laws_eqValue_ro r6, laws_toValue_ro r7, laws_eqValue_ro r8, laws_markValue_ro r9, laws_eqValue_ro r10, laws_markValue_ro r11, laws_heldValue_ro r12, laws_toValue_ro r13, impl_CountRows_roE r14, laws_eqValue_ro r15, laws_heldValue_ro r16], []⟩ = some (.done (laws_FnExactCountRows_ro false) [AbsCalls Try.prog 24 (laws_szValue_as a0 1048576) (laws_szValue_ro r1), (decide ((r1 : Int) < 0)) = false, AbsCalls Try.prog 26 (laws_toValue_as a0) (laws_toValue_ro r2), AbsCalls Try.prog 50 (spec_CountRows_as r2) (spec_CountRows_ro r3), AbsCalls Try.prog 26 (laws_toValue_as a0) (laws_toValue_ro r4), AbsCalls Try.prog 51 (impl_CountRows_as r4) (impl_CountRows_roO r5), AbsCalls Try.prog 19 (laws_eqValue_as r5.1 r3) (laws_eqValue_ro r6), (!r6) = false, AbsCalls Try.prog 26 (laws_toValue_as a0) (laws_toValue_ro r7), AbsCalls Try.prog 19 (laws_eqValue_as r4 r7) (laws_eqValue_ro r8), (!r8) = false, AbsCalls Try.prog 22 (laws_markValue_as r4 1) (laws_markValue_ro r9), List.length r9.2.1 = List.length (Val.list r4), List.length r9.2.2.1 = List.length (Val.columns r4), List.length r9.2.2.2 = List.length (Val.rows r4), (decide ((r9.1 : Int) < 0)) = false, AbsCalls Try.prog 19 (laws_eqValue_as r5.1 r3) (laws_eqValue_ro r10), (!r10) = false, AbsCalls Try.prog 22 (laws_markValue_as r5.1 1) (laws_markValue_ro r11), List.length r11.2.1 = List.length (Val.list r5.1), List.length r11.2.2.1 = List.length (Val.columns r5.1), List.length r11.2.2.2 = List.length (Val.rows r5.1), AbsCalls Try.prog 23 (laws_heldValue_as (Val.mk (Val.kind r5.1) (Val.n r5.1) (Val.step r5.1) (Val.text r5.1) r11.2.1 r11.2.2.1 r11.2.2.2) 1) (laws_heldValue_ro r12), (decide ((r12 : Int) < 0)) = false, ((r12 : Int) != r11.1) = false, AbsCalls Try.prog 26 (laws_toValue_as a0) (laws_toValue_ro r13), AbsCalls Try.prog 51 (impl_CountRows_as r13) (impl_CountRows_roE r14), AbsCalls Try.prog 19 (laws_eqValue_as (Val.mk (Val.kind r14.1) (Val.n r14.1) (Val.step r14.1) (Val.text r14.1) [] [] []) r3) (laws_eqValue_ro r15), (!r15) = false, AbsCalls Try.prog 23 (laws_heldValue_as (Val.mk (Val.kind r5.1) (Val.n r5.1) (Val.step r5.1) (Val.text r5.1) r11.2.1 r11.2.2.1 r11.2.2.2) 1) (laws_heldValue_ro r16), (decide ((r16 : Int) < 0)) = true]) := by kernel_rfl
theorem p9_e_23 (a0 : Val) (r1 : Int) (r2 : Val) (r3 : Val) (r4 : Val) (r5 : Val × Bool) (r6 : Bool) (r7 : Val) (r8 : Bool) (r9 : Int × (List Val) × (List Str) × (List Rowd)) (r10 : Bool) (r11 : Int × (List Val) × (List Str) × (List Rowd)) (r12 : Int) (r13 : Val) (r14 : Val × Bool) (r15 : Bool) (r16 : Int) : run tt (AbsCalls Try.prog) I9 3000 false [.code I9.body] ⟨(entry 0 (laws_FnExactCountRows_as a0)), [false, false, false, false, false, false, false, false, false, true], [laws_szValue_ro r1, laws_toValue_ro r2, spec_CountRows_ro r3, laws_toValue_ro r4, impl_CountRows_roO r5, laws_eqValue_ro r6, laws_toValue_ro r7, laws_eqValue_ro r8, laws_markValue_ro r9, laws_eqValue_ro r10, laws_markValue_ro r11, laws_heldValue_ro r12, laws_toValue_ro r13, impl_CountRows_roE r14, laws_eqValue_ro r15, laws_heldValue_ro r16], []⟩ = some (.done (laws_FnExactCountRows_ro false) [AbsCalls Try.prog 24 (laws_szValue_as a0 1048576) (laws_szValue_ro r1), (decide ((r1 : Int) < 0)) = false, AbsCalls Try.prog 26 (laws_toValue_as a0) (laws_toValue_ro r2), AbsCalls Try.prog 50 (spec_CountRows_as r2) (spec_CountRows_ro r3), AbsCalls Try.prog 26 (laws_toValue_as a0) (laws_toValue_ro r4), AbsCalls Try.prog 51 (impl_CountRows_as r4) (impl_CountRows_roO r5), AbsCalls Try.prog 19 (laws_eqValue_as r5.1 r3) (laws_eqValue_ro r6), (!r6) = false, AbsCalls Try.prog 26 (laws_toValue_as a0) (laws_toValue_ro r7), AbsCalls Try.prog 19 (laws_eqValue_as r4 r7) (laws_eqValue_ro r8), (!r8) = false, AbsCalls Try.prog 22 (laws_markValue_as r4 1) (laws_markValue_ro r9), List.length r9.2.1 = List.length (Val.list r4), List.length r9.2.2.1 = List.length (Val.columns r4), List.length r9.2.2.2 = List.length (Val.rows r4), (decide ((r9.1 : Int) < 0)) = false, AbsCalls Try.prog 19 (laws_eqValue_as r5.1 r3) (laws_eqValue_ro r10), (!r10) = false, AbsCalls Try.prog 22 (laws_markValue_as r5.1 1) (laws_markValue_ro r11), List.length r11.2.1 = List.length (Val.list r5.1), List.length r11.2.2.1 = List.length (Val.columns r5.1), List.length r11.2.2.2 = List.length (Val.rows r5.1), AbsCalls Try.prog 23 (laws_heldValue_as (Val.mk (Val.kind r5.1) (Val.n r5.1) (Val.step r5.1) (Val.text r5.1) r11.2.1 r11.2.2.1 r11.2.2.2) 1) (laws_heldValue_ro r12), (decide ((r12 : Int) < 0)) = false, ((r12 : Int) != r11.1) = false, AbsCalls Try.prog 26 (laws_toValue_as a0) (laws_toValue_ro r13), AbsCalls Try.prog 51 (impl_CountRows_as r13) (impl_CountRows_roE r14), AbsCalls Try.prog 19 (laws_eqValue_as (Val.mk (Val.kind r14.1) (Val.n r14.1) (Val.step r14.1) (Val.text r14.1) [] [] []) r3) (laws_eqValue_ro r15), (!r15) = false, AbsCalls Try.prog 23 (laws_heldValue_as (Val.mk (Val.kind r5.1) (Val.n r5.1) (Val.step r5.1) (Val.text r5.1) r11.2.1 r11.2.2.1 r11.2.2.2) 1) (laws_heldValue_ro r16), (decide ((r16 : Int) < 0)) = false, ((r16 : Int) != r11.1) = true]) := by kernel_rfl
theorem p9_e_24 (a0 : Val) (r1 : Int) (r2 : Val) (r3 : Val) (r4 : Val) (r5 : Val × Bool) (r6 : Bool) (r7 : Val) (r8 : Bool) (r9 : Int × (List Val) × (List Str) × (List Rowd)) (r10 : Bool) (r11 : Int × (List Val) × (List Str) × (List Rowd)) (r12 : Int) (r13 : Val) (r14 : Val × Bool) (r15 : Bool) (r16 : Int) : run tt (AbsCalls Try.prog) I9 3000 false [.code I9.body] ⟨(entry 0 (laws_FnExactCountRows_as a0)), [false, false, false, false, false, false, false, false, false, false], [laws_szValue_ro r1, laws_toValue_ro r2, spec_CountRows_ro r3, laws_toValue_ro r4, impl_CountRows_roO r5, laws_eqValue_ro r6, laws_toValue_ro r7, laws_eqValue_ro r8, laws_markValue_ro r9, laws_eqValue_ro r10, laws_markValue_ro r11, laws_heldValue_ro r12, laws_toValue_ro r13, impl_CountRows_roE r14, laws_eqValue_ro r15, laws_heldValue_ro r16], []⟩ = some (.done (laws_FnExactCountRows_ro true) [AbsCalls Try.prog 24 (laws_szValue_as a0 1048576) (laws_szValue_ro r1), (decide ((r1 : Int) < 0)) = false, AbsCalls Try.prog 26 (laws_toValue_as a0) (laws_toValue_ro r2), AbsCalls Try.prog 50 (spec_CountRows_as r2) (spec_CountRows_ro r3), AbsCalls Try.prog 26 (laws_toValue_as a0) (laws_toValue_ro r4), AbsCalls Try.prog 51 (impl_CountRows_as r4) (impl_CountRows_roO r5), AbsCalls Try.prog 19 (laws_eqValue_as r5.1 r3) (laws_eqValue_ro r6), (!r6) = false, AbsCalls Try.prog 26 (laws_toValue_as a0) (laws_toValue_ro r7), AbsCalls Try.prog 19 (laws_eqValue_as r4 r7) (laws_eqValue_ro r8), (!r8) = false, AbsCalls Try.prog 22 (laws_markValue_as r4 1) (laws_markValue_ro r9), List.length r9.2.1 = List.length (Val.list r4), List.length r9.2.2.1 = List.length (Val.columns r4), List.length r9.2.2.2 = List.length (Val.rows r4), (decide ((r9.1 : Int) < 0)) = false, AbsCalls Try.prog 19 (laws_eqValue_as r5.1 r3) (laws_eqValue_ro r10), (!r10) = false, AbsCalls Try.prog 22 (laws_markValue_as r5.1 1) (laws_markValue_ro r11), List.length r11.2.1 = List.length (Val.list r5.1), List.length r11.2.2.1 = List.length (Val.columns r5.1), List.length r11.2.2.2 = List.length (Val.rows r5.1), AbsCalls Try.prog 23 (laws_heldValue_as (Val.mk (Val.kind r5.1) (Val.n r5.1) (Val.step r5.1) (Val.text r5.1) r11.2.1 r11.2.2.1 r11.2.2.2) 1) (laws_heldValue_ro r12), (decide ((r12 : Int) < 0)) = false, ((r12 : Int) != r11.1) = false, AbsCalls Try.prog 26 (laws_toValue_as a0) (laws_toValue_ro r13), AbsCalls Try.prog 51 (impl_CountRows_as r13) (impl_CountRows_roE r14), AbsCalls Try.prog 19 (laws_eqValue_as (Val.mk (Val.kind r14.1) (Val.n r14.1) (Val.step r14.1) (Val.text r14.1) [] [] []) r3) (laws_eqValue_ro r15), (!r15) = false, AbsCalls Try.prog 23 (laws_heldValue_as (Val.mk (Val.kind r5.1) (Val.n r5.1) (Val.step r5.1) (Val.text r5.1) r11.2.1 r11.2.2.1 r11.2.2.2) 1) (laws_heldValue_ro r16), (decide ((r16 : Int) < 0)) = false, ((r16 : Int) != r11.1) = false]) := by kernel_rfl
theorem p9_e_25 (a0 : Val) (r1 : Int) (r2 : Val) (r3 : Val) (r4 : Val) (r5 : Val × Bool) (r6 : Bool) (r7 : Val) (r8 : Bool) (r9 : Int × (List Val) × (List Str) × (List Rowd)) (r10 : Bool) (r11 : Int × (List Val) × (List Str) × (List Rowd)) (r12 : Int) (r13 : Val) (r14 : Val × Bool) (r15 : Bool) : run tt (AbsCalls Try.prog) I9 3000 false [.code I9.body] ⟨(entry 0 (laws_FnExactCountRows_as a0)), [false, false, false, false, false, false, false, true], [laws_szValue_ro r1, laws_toValue_ro r2, spec_CountRows_ro r3, laws_toValue_ro r4, impl_CountRows_roO r5, laws_eqValue_ro r6, laws_toValue_ro r7, laws_eqValue_ro r8, laws_markValue_ro r9, laws_eqValue_ro r10, laws_markValue_ro r11, laws_heldValue_ro r12, laws_toValue_ro r13, impl_CountRows_roO r14, laws_eqValue_ro r15], []⟩ = some (.done (laws_FnExactCountRows_ro false) [AbsCalls Try.prog 24 (laws_szValue_as a0 1048576) (laws_szValue_ro r1), (decide ((r1 : Int) < 0)) = false, AbsCalls Try.prog 26 (laws_toValue_as a0) (laws_toValue_ro r2), AbsCalls Try.prog 50 (spec_CountRows_as r2) (spec_CountRows_ro r3), AbsCalls Try.prog 26 (laws_toValue_as a0) (laws_toValue_ro r4), AbsCalls Try.prog 51 (impl_CountRows_as r4) (impl_CountRows_roO r5), AbsCalls Try.prog 19 (laws_eqValue_as r5.1 r3) (laws_eqValue_ro r6), (!r6) = false, AbsCalls Try.prog 26 (laws_toValue_as a0) (laws_toValue_ro r7), AbsCalls Try.prog 19 (laws_eqValue_as r4 r7) (laws_eqValue_ro r8), (!r8) = false, AbsCalls Try.prog 22 (laws_markValue_as r4 1) (laws_markValue_ro r9), List.length r9.2.1 = List.length (Val.list r4), List.length r9.2.2.1 = List.length (Val.columns r4), List.length r9.2.2.2 = List.length (Val.rows r4), (decide ((r9.1 : Int) < 0)) = false, AbsCalls Try.prog 19 (laws_eqValue_as r5.1 r3) (laws_eqValue_ro r10), (!r10) = false, AbsCalls Try.prog 22 (laws_markValue_as r5.1 1) (laws_markValue_ro r11), List.length r11.2.1 = List.length (Val.list r5.1), List.length r11.2.2.1 = List.length (Val.columns r5.1), List.length r11.2.2.2 = List.length (Val.rows r5.1), AbsCalls Try.prog 23 (laws_heldValue_as (Val.mk (Val.kind r5.1) (Val.n r5.1) (Val.step r5.1) (Val.text r5.1) r11.2.1 r11.2.2.1 r11.2.2.2) 1) (laws_heldValue_ro r12), (decide ((r12 : Int) < 0)) = false, ((r12 : Int) != r11.1) = false, AbsCalls Try.prog 26 (laws_toValue_as a0) (laws_toValue_ro r13), AbsCalls Try.prog 51 (impl_CountRows_as r13) (impl_CountRows_roO r14), AbsCalls Try.prog 19 (laws_eqValue_as r14.1 r3) (laws_eqValue_ro r15), (!r15) = true]) := by kernel_rfl
theorem p9_e_26 (a0 : Val) (r1 : Int) (r2 : Val) (r3 : Val) (r4 : Val) (r5 : Val × Bool) (r6 : Bool) (r7 : Val) (r8 : Bool) (r9 : Int × (List Val) × (List Str) × (List Rowd)) (r10 : Bool) (r11 : Int × (List Val) × (List Str) × (List Rowd)) (r12 : Int) (r13 : Val) (r14 : Val × Bool) (r15 : Bool) (r16 : Int) : run tt (AbsCalls Try.prog) I9 3000 false [.code I9.body] ⟨(entry 0 (laws_FnExactCountRows_as a0)), [false, false, false, false, false, false, false, false, true], [laws_szValue_ro r1, laws_toValue_ro r2, spec_CountRows_ro r3, laws_toValue_ro r4, impl_CountRows_roO r5, laws_eqValue_ro r6, laws_toValue_ro r7, laws_eqValue_ro r8, laws_markValue_ro r9, laws_eqValue_ro r10, laws_markValue_ro r11, laws_heldValue_ro r12, laws_toValue_ro r13, impl_CountRows_roO r14, laws_eqValue_ro r15, laws_heldValue_ro r16], []⟩ = some (.done (laws_FnExactCountRows_ro false) [AbsCalls Try.prog 24 (laws_szValue_as a0 1048576) (laws_szValue_ro r1), (decide ((r1 : Int) < 0)) = false, AbsCalls Try.prog 26 (laws_toValue_as a0) (laws_toValue_ro r2), AbsCalls Try.prog 50 (spec_CountRows_as r2) (spec_CountRows_ro r3), AbsCalls Try.prog 26 (laws_toValue_as a0) (laws_toValue_ro r4), AbsCalls Try.prog 51 (impl_CountRows_as r4) (impl_CountRows_roO r5), AbsCalls Try.prog 19 (laws_eqValue_as r5.1 r3) (laws_eqValue_ro r6), (!r6) = false, AbsCalls Try.prog 26 (laws_toValue_as a0) (laws_toValue_ro r7), AbsCalls Try.prog 19 (laws_eqValue_as r4 r7) (laws_eqValue_ro r8), (!r8) = false, AbsCalls Try.prog 22 (laws_markValue_as r4 1) (laws_markValue_ro r9), List.length r9.2.1 = List.length (Val.list r4), List.length r9.2.2.1 = List.length (Val.columns r4), List.length r9.2.2.2 = List.length (Val.rows r4), (decide ((r9.1 : Int) < 0)) = false, AbsCalls Try.prog 19 (laws_eqValue_as r5.1 r3) (laws_eqValue_ro r10), (!r10) = false, AbsCalls Try.prog 22 (laws_markValue_as r5.1 1) (laws_markValue_ro r11), List.length r11.2.1 = List.length (Val.list r5.1), List.length r11.2.2.1 = List.length (Val.columns r5.1), List.length r11.2.2.2 = List.length (Val.rows r5.1), AbsCalls Try.prog 23 (laws_heldValue_as (Val.mk (Val.kind r5.1) (Val.n r5.1) (Val.step r5.1) (Val.text r5.1) r11.2.1 r11.2.2.1 r11.2.2.2) 1) (laws_heldValue_ro r12), (decide ((r12 : Int) < 0)) = false, ((r12 : Int) != r11.1) = false, AbsCalls Try.prog 26 (laws_toValue_as a0) (laws_toValue_ro r13), AbsCalls Try.prog 51 (impl_CountRows_as r13) (impl_CountRows_roO r14), AbsCalls Try.prog 19 (laws_eqValue_as r14.1 r3) (laws_eqValue_ro r15), (!r15) = false, AbsCalls Try.prog 23 (laws_heldValue_as (Val.mk (Val.kind r5.1) (Val.n r5.1) (Val.step r5.1) (Val.text r5.1) r11.2.1 r11.2.2.1 r11.2.2.2) 1) (laws_heldValue_ro r16), (decide ((r16 : Int) < 0)) = true]) := by kernel_rfl
theorem p9_e_27 (a0 : Val) (r1 : Int) (r2 : Val) (r3 : Val) (r4 : Val) (r5 : Val × Bool) (r6 : Bool) (r7 : Val) (r8 : Bool) (r9 : Int × (List Val) × (List Str) × (List Rowd)) (r10 : Bool) (r11 : Int × (List Val) × (List Str) × (List Rowd)) (r12 : Int) (r13 : Val) (r14 : Val × Bool) (r15 : Bool) (r16 : Int) : run tt (AbsCalls Try.prog) I9 3000 false [.code I9.body] ⟨(entry 0 (laws_FnExactCountRows_as a0)), [false, false, false, false, false, false, false, false, false, true], [laws_szValue_ro r1, laws_toValue_ro r2, spec_CountRows_ro r3, laws_toValue_ro r4, impl_CountRows_roO r5, laws_eqValue_ro r6, laws_toValue_ro r7, laws_eqValue_ro r8, laws_markValue_ro r9, laws_eqValue_ro r10, laws_markValue_ro r11, laws_heldValue_ro r12, laws_toValue_ro r13, impl_CountRows_roO r14, laws_eqValue_ro r15, laws_heldValue_ro r16], []⟩ = some (.done (laws_FnExactCountRows_ro false) [AbsCalls Try.prog 24 (laws_szValue_as a0 1048576) (laws_szValue_ro r1), (decide ((r1 : Int) < 0)) = false, AbsCalls Try.prog 26 (laws_toValue_as a0) (laws_toValue_ro r2), AbsCalls Try.prog 50 (spec_CountRows_as r2) (spec_CountRows_ro r3), AbsCalls Try.prog 26 (laws_toValue_as a0) (laws_toValue_ro r4), AbsCalls Try.prog 51 (impl_CountRows_as r4) (impl_CountRows_roO r5), AbsCalls Try.prog 19 (laws_eqValue_as r5.1 r3) (laws_eqValue_ro r6), (!r6) = false, AbsCalls Try.prog 26 (laws_toValue_as a0) (laws_toValue_ro r7), AbsCalls Try.prog 19 (laws_eqValue_as r4 r7) (laws_eqValue_ro r8), (!r8) = false, AbsCalls Try.prog 22 (laws_markValue_as r4 1) (laws_markValue_ro r9), List.length r9.2.1 = List.length (Val.list r4), List.length r9.2.2.1 = List.length (Val.columns r4), List.length r9.2.2.2 = List.length (Val.rows r4), (decide ((r9.1 : Int) < 0)) = false, AbsCalls Try.prog 19 (laws_eqValue_as r5.1 r3) (laws_eqValue_ro r10), (!r10) = false, AbsCalls Try.prog 22 (laws_markValue_as r5.1 1) (laws_markValue_ro r11), List.length r11.2.1 = List.length (Val.list r5.1), List.length r11.2.2.1 = List.length (Val.columns r5.1), List.length r11.2.2.2 = List.length (Val.rows r5.1), AbsCalls Try.prog 23 (laws_heldValue_as (Val.mk (Val.kind r5.1) (Val.n r5.1) (Val.step r5.1) (Val.text r5.1) r11.2.1 r11.2.2.1 r11.2.2.2) 1) (laws_heldValue_ro r12), (decide ((r12 : Int) < 0)) = false, ((r12 : Int) != r11.1) = false, AbsCalls Try.prog 26 (laws_toValue_as a0) (laws_toValue_ro r13), AbsCalls Try.prog 51 (impl_CountRows_as r13) (impl_CountRows_roO r14), AbsCalls Try.prog 19 (laws_eqValue_as r14.1 r3) (laws_eqValue_ro r15), (!r15) = false, AbsCalls Try.prog 23 (laws_heldValue_as (Val.mk (Val.kind r5.1) (Val.n r5.1) (Val.step r5.1) (Val.text r5.1) r11.2.1 r11.2.2.1 r11.2.2.2) 1) (laws_heldValue_ro r16), (decide ((r16 : Int) < 0)) = false, ((r16 : Int) != r11.1) = true]) := by kernel_rfl
theorem p9_e_28 (a0 : Val) (r1 : Int) (r2 : Val) (r3 : Val) (r4 : Val) (r5 : Val × Bool) (r6 : Bool) (r7 : Val) (r8 : Bool) (r9 : Int × (List Val) × (List Str) × (List Rowd)) (r10 : Bool) (r11 : Int × (List Val) × (List Str) × (List Rowd)) (r12 : Int) (r13 : Val) (r14 : Val × Bool) (r15 : Bool) (r16 : Int) : run tt (AbsCalls Try.prog) I9 3000 false [.code I9.body] ⟨(entry 0 (laws_FnExactCountRows_as a0)), [false, false, false, false, false, false, false, false, false, false], [laws_szValue_ro r1, laws_toValue_ro r2, spec_CountRows_ro r3, laws_toValue_ro r4, impl_CountRows_roO r5, laws_eqValue_ro r6, laws_toValue_ro r7, laws_eqValue_ro r8, laws_markValue_ro r9, laws_eqValue_ro r10, laws_markValue_ro r11, laws_heldValue_ro r12, laws_toValue_ro r13, impl_CountRows_roO r14, laws_eqValue_ro r15, laws_heldValue_ro r16], []⟩ = some (.done (laws_FnExactCountRows_ro true) [AbsCalls Try.prog 24 (laws_szValue_as a0 1048576) (laws_szValue_ro r1), (decide ((r1 : Int) < 0)) = false, AbsCalls Try.prog 26 (laws_toValue_as a0) (laws_toValue_ro r2), AbsCalls Try.prog 50 (spec_CountRows_as r2) (spec_CountRows_ro r3), AbsCalls Try.prog 26 (laws_toValue_as a0) (laws_toValue_ro r4), AbsCalls Try.prog 51 (impl_CountRows_as r4) (impl_CountRows_roO r5), AbsCalls Try.prog 19 (laws_eqValue_as r5.1 r3) (laws_eqValue_ro r6), (!r6) = false, AbsCalls Try.prog 26 (laws_toValue_as a0) (laws_toValue_ro r7), AbsCalls Try.prog 19 (laws_eqValue_as r4 r7) (laws_eqValue_ro r8), (!r8) = false, AbsCalls Try.prog 22 (laws_markValue_as r4 1) (laws_markValue_ro r9), List.length r9.2.1 = List.length (Val.list r4), List.length r9.2.2.1 = List.length (Val.columns r4), List.length r9.2.2.2 = List.length (Val.rows r4), (decide ((r9.1 : Int) < 0)) = false, AbsCalls Try.prog 19 (laws_eqValue_as r5.1 r3) (laws_eqValue_ro r10), (!r10) = false, AbsCalls Try.prog 22 (laws_markValue_as r5.1 1) (laws_markValue_ro r11), List.length r11.2.1 = List.length (Val.list r5.1), List.length r11.2.2.1 = List.length (Val.columns r5.1), List.length r11.2.2.2 = List.length (Val.rows r5.1), AbsCalls Try.prog 23 (laws_heldValue_as (Val.mk (Val.kind r5.1) (Val.n r5.1) (Val.step r5.1) (Val.text r5.1) r11.2.1 r11.2.2.1 r11.2.2.2) 1) (laws_heldValue_ro r12), (decide ((r12 : Int) < 0)) = false, ((r12 : Int) != r11.1) = false, AbsCalls Try.prog 26 (laws_toValue_as a0) (laws_toValue_ro r13), AbsCalls Try.prog 51 (impl_CountRows_as r13) (impl_CountRows_roO r14), AbsCalls Try.prog 19 (laws_eqValue_as r14.1 r3) (laws_eqValue_ro r15), (!r15) = false, AbsCalls Try.prog 23 (laws_heldValue_as (Val.mk (Val.kind r5.1) (Val.n r5.1) (Val.step r5.1) (Val.text r5.1) r11.2.1 r11.2.2.1 r11.2.2.2) 1) (laws_heldValue_ro r16), (decide ((r16 : Int) < 0)) = false, ((r16 : Int) != r11.1) = false]) := by kernel_rfl
theorem c9_e {N : Nat} : ∀ a0 r, laws_FnExactCountRows N a0 = some r → Reach Try.prog Try.f9 I9 [.code I9.body] (entry 0 (laws_FnExactCountRows_as a0)) (laws_FnExactCountRows_ro r) := by
  intro a0 r h
  unfold laws_FnExactCountRows at h
  obtain ⟨r1, h0, h⟩ := bind_inv h
  rcases cond_inv h with ⟨h1, h⟩ | ⟨h1, h⟩
  · obtain rfl := Option.some.inj h
    exact Reach.done ttok mix fk9 (p9_e_0 a0 r1) (obs_cons (laws_szValue_ok h0) (obs_cons h1 obs_nil))
  · obtain ⟨r2, h2, h⟩ := bind_inv h
    obtain ⟨r3, h3, h⟩ := bind_inv h
    obtain ⟨r4, h4, h⟩ := bind_inv h
    obtain ⟨r5, h5, h⟩ := bind_inv h
    rcases cond_inv h with ⟨h6, h⟩ | ⟨h6, h⟩
    · obtain ⟨h7, h⟩ := ite_inv h
      obtain ⟨h8, h⟩ := ite_inv h
      obtain ⟨h9, h⟩ := ite_inv h
      obtain ⟨r6, h10, h⟩ := bind_inv h
      rcases cond_inv h with ⟨h11, h⟩ | ⟨h11, h⟩
      · obtain rfl := Option.some.inj h
        exact Reach.done ttok mix fk9 (p9_e_1 a0 r1 r2 r3 r4 r5 r6) (obs_cons (laws_szValue_ok h0) (obs_cons h1 (obs_cons (laws_toValue_ok h2) (obs_cons (spec_CountRows_ok h3) (obs_cons (laws_toValue_ok h4) (obs_cons (impl_CountRows_toE (impl_CountRows_ok h5) h6 h7 h8 h9) (obs_cons (laws_eqValue_ok h10) (obs_cons h11 obs_nil))))))))
      · obtain ⟨r7, h12, h⟩ := bind_inv h
        obtain ⟨r8, h13, h⟩ := bind_inv h
        rcases cond_inv h with ⟨h14, h⟩ | ⟨h14, h⟩
        · obtain rfl := Option.some.inj h
          exact Reach.done ttok mix fk9 (p9_e_2 a0 r1 r2 r3 r4 r5 r6 r7 r8) (obs_cons (laws_szValue_ok h0) (obs_cons h1 (obs_cons (laws_toValue_ok h2) (obs_cons (spec_CountRows_ok h3) (obs_cons (laws_toValue_ok h4) (obs_cons (impl_CountRows_toE (impl_CountRows_ok h5) h6 h7 h8 h9) (obs_cons (laws_eqValue_ok h10) (obs_cons h11 (obs_cons (laws_toValue_ok h12) (obs_cons (laws_eqValue_ok h13) (obs_cons h14 obs_nil)))))))))))
        · obtain ⟨r9, h15, h⟩ := bind_inv h
          obtain ⟨h16, h⟩ := ite_inv h
          obtain ⟨h17, h⟩ := ite_inv h
          obtain ⟨h18, h⟩ := ite_inv h
          rcases cond_inv h with ⟨h19, h⟩ | ⟨h19, h⟩
          · obtain rfl := Option.some.inj h
            exact Reach.done ttok mix fk9 (p9_e_3 a0 r1 r2 r3 r4 r5 r6 r7 r8 r9) (obs_cons (laws_szValue_ok h0) (obs_cons h1 (obs_cons (laws_toValue_ok h2) (obs_cons (spec_CountRows_ok h3) (obs_cons (laws_toValue_ok h4) (obs_cons (impl_CountRows_toE (impl_CountRows_ok h5) h6 h7 h8 h9) (obs_cons (laws_eqValue_ok h10) (obs_cons h11 (obs_cons (laws_toValue_ok h12) (obs_cons (laws_eqValue_ok h13) (obs_cons h14 (obs_cons (laws_markValue_ok h15) (obs_cons h16 (obs_cons h17 (obs_cons h18 (obs_cons h19 (obs_cons rfl obs_nil)))))))))))))))))
          · obtain ⟨r10, h20, h⟩ := bind_inv h
            rcases cond_inv h with ⟨h21, h⟩ | ⟨h21, h⟩
            · obtain rfl := Option.some.inj h
              exact Reach.done ttok mix fk9 (p9_e_4 a0 r1 r2 r3 r4 r5 r6 r7 r8 r9 r10) (obs_cons (laws_szValue_ok h0) (obs_cons h1 (obs_cons (laws_toValue_ok h2) (obs_cons (spec_CountRows_ok h3) (obs_cons (laws_toValue_ok h4) (obs_cons (impl_CountRows_toE (impl_CountRows_ok h5) h6 h7 h8 h9) (obs_cons (laws_eqValue_ok h10) (obs_cons h11 (obs_cons (laws_toValue_ok h12) (obs_cons (laws_eqValue_ok h13) (obs_cons h14 (obs_cons (laws_markValue_ok h15) (obs_cons h16 (obs_cons h17 (obs_cons h18 (obs_cons h19 (obs_cons (laws_eqValue_ok h20) (obs_cons h21 obs_nil))))))))))))))))))
            · obtain ⟨r11, h22, h⟩ := bind_inv h
              obtain ⟨r12, h23, h⟩ := bind_inv h
              rcases cond_inv h with ⟨h24, h⟩ | ⟨h24, h⟩
              · obtain rfl := Option.some.inj h
                exact Reach.done ttok mix fk9 (p9_e_5 a0 r1 r2 r3 r4 r5 r6 r7 r8 r9 r10 r11 r12) (obs_cons (laws_szValue_ok h0) (obs_cons h1 (obs_cons (laws_toValue_ok h2) (obs_cons (spec_CountRows_ok h3) (obs_cons (laws_toValue_ok h4) (obs_cons (impl_CountRows_toE (impl_CountRows_ok h5) h6 h7 h8 h9) (obs_cons (laws_eqValue_ok h10) (obs_cons h11 (obs_cons (laws_toValue_ok h12) (obs_cons (laws_eqValue_ok h13) (obs_cons h14 (obs_cons (laws_markValue_ok h15) (obs_cons h16 (obs_cons h17 (obs_cons h18 (obs_cons h19 (obs_cons (laws_eqValue_ok h20) (obs_cons h21 (obs_cons (laws_markValue_E_ok h22) (obs_cons (laws_heldValue_ok h23) (obs_cons h24 obs_nil)))))))))))))))))))))
              · rcases cond_inv h with ⟨h25, h⟩ | ⟨h25, h⟩
                · obtain rfl := Option.some.inj h
                  exact Reach.done ttok mix fk9 (p9_e_6 a0 r1 r2 r3 r4 r5 r6 r7 r8 r9 r10 r11 r12) (obs_cons (laws_szValue_ok h0) (obs_cons h1 (obs_cons (laws_toValue_ok h2) (obs_cons (spec_CountRows_ok h3) (obs_cons (laws_toValue_ok h4) (obs_cons (impl_CountRows_toE (impl_CountRows_ok h5) h6 h7 h8 h9) (obs_cons (laws_eqValue_ok h10) (obs_cons h11 (obs_cons (laws_toValue_ok h12) (obs_cons (laws_eqValue_ok h13) (obs_cons h14 (obs_cons (laws_markValue_ok h15) (obs_cons h16 (obs_cons h17 (obs_cons h18 (obs_cons h19 (obs_cons (laws_eqValue_ok h20) (obs_cons h21 (obs_cons (laws_markValue_E_ok h22) (obs_cons (laws_heldValue_ok h23) (obs_cons h24 (obs_cons h25 obs_nil))))))))))))))))))))))
                · obtain ⟨r13, h26, h⟩ := bind_inv h
                  obtain ⟨r14, h27, h⟩ := bind_inv h
                  rcases cond_inv h with ⟨h28, h⟩ | ⟨h28, h⟩
                  · obtain ⟨h29, h⟩ := ite_inv h
                    obtain ⟨h30, h⟩ := ite_inv h
                    obtain ⟨h31, h⟩ := ite_inv h
                    obtain ⟨r15, h32, h⟩ := bind_inv h
                    rcases cond_inv h with ⟨h33, h⟩ | ⟨h33, h⟩
                    · obtain rfl := Option.some.inj h
                      exact Reach.done ttok mix fk9 (p9_e_7 a0 r1 r2 r3 r4 r5 r6 r7 r8 r9 r10 r11 r12 r13 r14 r15) (obs_cons (laws_szValue_ok h0) (obs_cons h1 (obs_cons (laws_toValue_ok h2) (obs_cons (spec_CountRows_ok h3) (obs_cons (laws_toValue_ok h4) (obs_cons (impl_CountRows_toE (impl_CountRows_ok h5) h6 h7 h8 h9) (obs_cons (laws_eqValue_ok h10) (obs_cons h11 (obs_cons (laws_toValue_ok h12) (obs_cons (laws_eqValue_ok h13) (obs_cons h14 (obs_cons (laws_markValue_ok h15) (obs_cons h16 (obs_cons h17 (obs_cons h18 (obs_cons h19 (obs_cons (laws_eqValue_ok h20) (obs_cons h21 (obs_cons (laws_markValue_E_ok h22) (obs_cons (laws_heldValue_ok h23) (obs_cons h24 (obs_cons h25 (obs_cons (laws_toValue_ok h26) (obs_cons (impl_CountRows_toE (impl_CountRows_ok h27) h28 h29 h30 h31) (obs_cons (laws_eqValue_ok h32) (obs_cons h33 obs_nil))))))))))))))))))))))))))
                    · obtain ⟨r16, h34, h⟩ := bind_inv h
                      rcases cond_inv h with ⟨h35, h⟩ | ⟨h35, h⟩
                      · obtain rfl := Option.some.inj h
                        exact Reach.done ttok mix fk9 (p9_e_8 a0 r1 r2 r3 r4 r5 r6 r7 r8 r9 r10 r11 r12 r13 r14 r15 r16) (obs_cons (laws_szValue_ok h0) (obs_cons h1 (obs_cons (laws_toValue_ok h2) (obs_cons (spec_CountRows_ok h3) (obs_cons (laws_toValue_ok h4) (obs_cons (impl_CountRows_toE (impl_CountRows_ok h5) h6 h7 h8 h9) (obs_cons (laws_eqValue_ok h10) (obs_cons h11 (obs_cons (laws_toValue_ok h12) (obs_cons (laws_eqValue_ok h13) (obs_cons h14 (obs_cons (laws_markValue_ok h15) (obs_cons h16 (obs_cons h17 (obs_cons h18 (obs_cons h19 (obs_cons (laws_eqValue_ok h20) (obs_cons h21 (obs_cons (laws_markValue_E_ok h22) (obs_cons (laws_heldValue_ok h23) (obs_cons h24 (obs_cons h25 (obs_cons (laws_toValue_ok h26) (obs_cons (impl_CountRows_toE (impl_CountRows_ok h27) h28 h29 h30 h31) (obs_cons (laws_eqValue_ok h32) (obs_cons h33 (obs_cons (laws_heldValue_ok h34) (obs_cons h35 obs_nil))))))))))))))))))))))))))))
                      · rcases cond_inv h with ⟨h36, h⟩ | ⟨h36, h⟩
                        · obtain rfl := Option.some.inj h
                          exact Reach.done ttok mix fk9 (p9_e_9 a0 r1 r2 r3 r4 r5 r6 r7 r8 r9 r10 r11 r12 r13 r14 r15 r16) (obs_cons (laws_szValue_ok h0) (obs_cons h1 (obs_cons (laws_toValue_ok h2) (obs_cons (spec_CountRows_ok h3) (obs_cons (laws_toValue_ok h4) (obs_cons (impl_CountRows_toE (impl_CountRows_ok h5) h6 h7 h8 h9) (obs_cons (laws_eqValue_ok h10) (obs_cons h11 (obs_cons (laws_toValue_ok h12) (obs_cons (laws_eqValue_ok h13) (obs_cons h14 (obs_cons (laws_markValue_ok h15) (obs_cons h16 (obs_cons h17 (obs_cons h18 (obs_cons h19 (obs_cons (laws_eqValue_ok h20) (obs_cons h21 (obs_cons (laws_markValue_E_ok h22) (obs_cons (laws_heldValue_ok h23) (obs_cons h24 (obs_cons h25 (obs_cons (laws_toValue_ok h26) (obs_cons (impl_CountRows_toE (impl_CountRows_ok h27) h28 h29 h30 h31) (obs_cons (laws_eqValue_ok h32) (obs_cons h33 (obs_cons (laws_heldValue_ok h34) (obs_cons h35 (obs_cons h36 obs_nil)))))))))))))))))))))))))))))
                        · obtain rfl := Option.some.inj h
                          exact Reach.done ttok mix fk9 (p9_e_10 a0 r1 r2 r3 r4 r5 r6 r7 r8 r9 r10 r11 r12 r13 r14 r15 r16) (obs_cons (laws_szValue_ok h0) (obs_cons h1 (obs_cons (laws_toValue_ok h2) (obs_cons (spec_CountRows_ok h3) (obs_cons (laws_toValue_ok h4) (obs_cons (impl_CountRows_toE (impl_CountRows_ok h5) h6 h7 h8 h9) (obs_cons (laws_eqValue_ok h10) (obs_cons h11 (obs_cons (laws_toValue_ok h12) (obs_cons (laws_eqValue_ok h13) (obs_cons h14 (obs_cons (laws_markValue_ok h15) (obs_cons h16 (obs_cons h17 (obs_cons h18 (obs_cons h19 (obs_cons (laws_eqValue_ok h20) (obs_cons h21 (obs_cons (laws_markValue_E_ok h22) (obs_cons (laws_heldValue_ok h23) (obs_cons h24 (obs_cons h25 (obs_cons (laws_toValue_ok h26) (obs_cons (impl_CountRows_toE (impl_CountRows_ok h27) h28 h29 h30 h31) (obs_cons (laws_eqValue_ok h32) (obs_cons h33 (obs_cons (laws_heldValue_ok h34) (obs_cons h35 (obs_cons h36 obs_nil)))))))))))))))))))))))))))))
                  · obtain ⟨r15, h29, h⟩ := bind_inv h
                    rcases cond_inv h with ⟨h30, h⟩ | ⟨h30, h⟩
                    · obtain rfl := Option.some.inj h
                      exact Reach.done ttok mix fk9 (p9_e_11 a0 r1 r2 r3 r4 r5 r6 r7 r8 r9 r10 r11 r12 r13 r14 r15) (obs_cons (laws_szValue_ok h0) (obs_cons h1 (obs_cons (laws_toValue_ok h2) (obs_cons (spec_CountRows_ok h3) (obs_cons (laws_toValue_ok h4) (obs_cons (impl_CountRows_toE (impl_CountRows_ok h5) h6 h7 h8 h9) (obs_cons (laws_eqValue_ok h10) (obs_cons h11 (obs_cons (laws_toValue_ok h12) (obs_cons (laws_eqValue_ok h13) (obs_cons h14 (obs_cons (laws_markValue_ok h15) (obs_cons h16 (obs_cons h17 (obs_cons h18 (obs_cons h19 (obs_cons (laws_eqValue_ok h20) (obs_cons h21 (obs_cons (laws_markValue_E_ok h22) (obs_cons (laws_heldValue_ok h23) (obs_cons h24 (obs_cons h25 (obs_cons (laws_toValue_ok h26) (obs_cons (impl_CountRows_toO (impl_CountRows_ok h27) h28) (obs_cons (laws_eqValue_ok h29) (obs_cons h30 obs_nil))))))))))))))))))))))))))
                    · obtain ⟨r16, h31, h⟩ := bind_inv h
                      rcases cond_inv h with ⟨h32, h⟩ | ⟨h32, h⟩
                      · obtain rfl := Option.some.inj h
                        exact Reach.done ttok mix fk9 (p9_e_12 a0 r1 r2 r3 r4 r5 r6 r7 r8 r9 r10 r11 r12 r13 r14 r15 r16) (obs_cons (laws_szValue_ok h0) (obs_cons h1 (obs_cons (laws_toValue_ok h2) (obs_cons (spec_CountRows_ok h3) (obs_cons (laws_toValue_ok h4) (obs_cons (impl_CountRows_toE (impl_CountRows_ok h5) h6 h7 h8 h9) (obs_cons (laws_eqValue_ok h10) (obs_cons h11 (obs_cons (laws_toValue_ok h12) (obs_cons (laws_eqValue_ok h13) (obs_cons h14 (obs_cons (laws_markValue_ok h15) (obs_cons h16 (obs_cons h17 (obs_cons h18 (obs_cons h19 (obs_cons (laws_eqValue_ok h20) (obs_cons h21 (obs_cons (laws_markValue_E_ok h22) (obs_cons (laws_heldValue_ok h23) (obs_cons h24 (obs_cons h25 (obs_cons (laws_toValue_ok h26) (obs_cons (impl_CountRows_toO (impl_CountRows_ok h27) h28) (obs_cons (laws_eqValue_ok h29) (obs_cons h30 (obs_cons (laws_heldValue_ok h31) (obs_cons h32 obs_nil))))))))))))))))))))))))))))
                      · rcases cond_inv h with ⟨h33, h⟩ | ⟨h33, h⟩
                        · obtain rfl := Option.some.inj h
                          exact Reach.done ttok mix fk9 (p9_e_13 a0 r1 r2 r3 r4 r5 r6 r7 r8 r9 r10 r11 r12 r13 r14 r15 r16) (obs_cons (laws_szValue_ok h0) (obs_cons h1 (obs_cons (laws_toValue_ok h2) (obs_cons (spec_CountRows_ok h3) (obs_cons (laws_toValue_ok h4) (obs_cons (impl_CountRows_toE (impl_CountRows_ok h5) h6 h7 h8 h9) (obs_cons (laws_eqValue_ok h10) (obs_cons h11 (obs_cons (laws_toValue_ok h12) (obs_cons (laws_eqValue_ok h13) (obs_cons h14 (obs_cons (laws_markValue_ok h15) (obs_cons h16 (obs_cons h17 (obs_cons h18 (obs_cons h19 (obs_cons (laws_eqValue_ok h20) (obs_cons h21 (obs_cons (laws_markValue_E_ok h22) (obs_cons (laws_heldValue_ok h23) (obs_cons h24 (obs_cons h25 (obs_cons (laws_toValue_ok h26) (obs_cons (impl_CountRows_toO (impl_CountRows_ok h27) h28) (obs_cons (laws_eqValue_ok h29) (obs_cons h30 (obs_cons (laws_heldValue_ok h31) (obs_cons h32 (obs_cons h33 obs_nil)))))))))))))))))))))))))))))
                        · obtain rfl := Option.some.inj h
                          exact Reach.done ttok mix fk9 (p9_e_14 a0 r1 r2 r3 r4 r5 r6 r7 r8 r9 r10 r11 r12 r13 r14 r15 r16) (obs_cons (laws_szValue_ok h0) (obs_cons h1 (obs_cons (laws_toValue_ok h2) (obs_cons (spec_CountRows_ok h3) (obs_cons (laws_toValue_ok h4) (obs_cons (impl_CountRows_toE (impl_CountRows_ok h5) h6 h7 h8 h9) (obs_cons (laws_eqValue_ok h10) (obs_cons h11 (obs_cons (laws_toValue_ok h12) (obs_cons (laws_eqValue_ok h13) (obs_cons h14 (obs_cons (laws_markValue_ok h15) (obs_cons h16 (obs_cons h17 (obs_cons h18 (obs_cons h19 (obs_cons (laws_eqValue_ok h20) (obs_cons h21 (obs_cons (laws_markValue_E_ok h22) (obs_cons (laws_heldValue_ok h23) (obs_cons h24 (obs_cons h25 (obs_cons (laws_toValue_ok h26) (obs_cons (impl_CountRows_toO (impl_CountRows_ok h27) h28) (obs_cons (laws_eqValue_ok h29) (obs_cons h30 (obs_cons (laws_heldValue_ok h31) (obs_cons h32 (obs_cons h33 obs_nil)))))))))))))))))))))))))))))
    · obtain ⟨r6, h7, h⟩ := bind_inv h
      rcases cond_inv h with ⟨h8, h⟩ | ⟨h8, h⟩
      · obtain rfl := Option.some.inj h
        exact Reach.done ttok mix fk9 (p9_e_15 a0 r1 r2 r3 r4 r5 r6) (obs_cons (laws_szValue_ok h0) (obs_cons h1 (obs_cons (laws_toValue_ok h2) (obs_cons (spec_CountRows_ok h3) (obs_cons (laws_toValue_ok h4) (obs_cons (impl_CountRows_toO (impl_CountRows_ok h5) h6) (obs_cons (laws_eqValue_ok h7) (obs_cons h8 obs_nil))))))))
      · obtain ⟨r7, h9, h⟩ := bind_inv h
        obtain ⟨r8, h10, h⟩ := bind_inv h
        rcases cond_inv h with ⟨h11, h⟩ | ⟨h11, h⟩
        · obtain rfl := Option.some.inj h
          exact Reach.done ttok mix fk9 (p9_e_16 a0 r1 r2 r3 r4 r5 r6 r7 r8) (obs_cons (laws_szValue_ok h0) (obs_cons h1 (obs_cons (laws_toValue_ok h2) (obs_cons (spec_CountRows_ok h3) (obs_cons (laws_toValue_ok h4) (obs_cons (impl_CountRows_toO (impl_CountRows_ok h5) h6) (obs_cons (laws_eqValue_ok h7) (obs_cons h8 (obs_cons (laws_toValue_ok h9) (obs_cons (laws_eqValue_ok h10) (obs_cons h11 obs_nil)))))))))))
        · obtain ⟨r9, h12, h⟩ := bind_inv h
          obtain ⟨h13, h⟩ := ite_inv h
          obtain ⟨h14, h⟩ := ite_inv h
          obtain ⟨h15, h⟩ := ite_inv h
          rcases cond_inv h with ⟨h16, h⟩ | ⟨h16, h⟩
          · obtain rfl := Option.some.inj h
            exact Reach.done ttok mix fk9 (p9_e_17 a0 r1 r2 r3 r4 r5 r6 r7 r8 r9) (obs_cons (laws_szValue_ok h0) (obs_cons h1 (obs_cons (laws_toValue_ok h2) (obs_cons (spec_CountRows_ok h3) (obs_cons (laws_toValue_ok h4) (obs_cons (impl_CountRows_toO (impl_CountRows_ok h5) h6) (obs_cons (laws_eqValue_ok h7) (obs_cons h8 (obs_cons (laws_toValue_ok h9) (obs_cons (laws_eqValue_ok h10) (obs_cons h11 (obs_cons (laws_markValue_ok h12) (obs_cons h13 (obs_cons h14 (obs_cons h15 (obs_cons h16 (obs_cons rfl obs_nil)))))))))))))))))
          · obtain ⟨r10, h17, h⟩ := bind_inv h
            rcases cond_inv h with ⟨h18, h⟩ | ⟨h18, h⟩
            · obtain rfl := Option.some.inj h
              exact Reach.done ttok mix fk9 (p9_e_18 a0 r1 r2 r3 r4 r5 r6 r7 r8 r9 r10) (obs_cons (laws_szValue_ok h0) (obs_cons h1 (obs_cons (laws_toValue_ok h2) (obs_cons (spec_CountRows_ok h3) (obs_cons (laws_toValue_ok h4) (obs_cons (impl_CountRows_toO (impl_CountRows_ok h5) h6) (obs_cons (laws_eqValue_ok h7) (obs_cons h8 (obs_cons (laws_toValue_ok h9) (obs_cons (laws_eqValue_ok h10) (obs_cons h11 (obs_cons (laws_markValue_ok h12) (obs_cons h13 (obs_cons h14 (obs_cons h15 (obs_cons h16 (obs_cons (laws_eqValue_ok h17) (obs_cons h18 obs_nil))))))))))))))))))
            · obtain ⟨r11, h19, h⟩ := bind_inv h
              obtain ⟨h20, h⟩ := ite_inv h
              obtain ⟨h21, h⟩ := ite_inv h
              obtain ⟨h22, h⟩ := ite_inv h
              obtain ⟨r12, h23, h⟩ := bind_inv h
              rcases cond_inv h with ⟨h24, h⟩ | ⟨h24, h⟩
              · obtain rfl := Option.some.inj h
                exact Reach.done ttok mix fk9 (p9_e_19 a0 r1 r2 r3 r4 r5 r6 r7 r8 r9 r10 r11 r12) (obs_cons (laws_szValue_ok h0) (obs_cons h1 (obs_cons (laws_toValue_ok h2) (obs_cons (spec_CountRows_ok h3) (obs_cons (laws_toValue_ok h4) (obs_cons (impl_CountRows_toO (impl_CountRows_ok h5) h6) (obs_cons (laws_eqValue_ok h7) (obs_cons h8 (obs_cons (laws_toValue_ok h9) (obs_cons (laws_eqValue_ok h10) (obs_cons h11 (obs_cons (laws_markValue_ok h12) (obs_cons h13 (obs_cons h14 (obs_cons h15 (obs_cons h16 (obs_cons (laws_eqValue_ok h17) (obs_cons h18 (obs_cons (laws_markValue_ok h19) (obs_cons h20 (obs_cons h21 (obs_cons h22 (obs_cons (laws_heldValue_ok h23) (obs_cons h24 obs_nil))))))))))))))))))))))))
              · rcases cond_inv h with ⟨h25, h⟩ | ⟨h25, h⟩
                · obtain rfl := Option.some.inj h
                  exact Reach.done ttok mix fk9 (p9_e_20 a0 r1 r2 r3 r4 r5 r6 r7 r8 r9 r10 r11 r12) (obs_cons (laws_szValue_ok h0) (obs_cons h1 (obs_cons (laws_toValue_ok h2) (obs_cons (spec_CountRows_ok h3) (obs_cons (laws_toValue_ok h4) (obs_cons (impl_CountRows_toO (impl_CountRows_ok h5) h6) (obs_cons (laws_eqValue_ok h7) (obs_cons h8 (obs_cons (laws_toValue_ok h9) (obs_cons (laws_eqValue_ok h10) (obs_cons h11 (obs_cons (laws_markValue_ok h12) (obs_cons h13 (obs_cons h14 (obs_cons h15 (obs_cons h16 (obs_cons (laws_eqValue_ok h17) (obs_cons h18 (obs_cons (laws_markValue_ok h19) (obs_cons h20 (obs_cons h21 (obs_cons h22 (obs_cons (laws_heldValue_ok h23) (obs_cons h24 (obs_cons h25 obs_nil)))))))))))))))))))))))))
                · obtain ⟨r13, h26, h⟩ := bind_inv h
                  obtain ⟨r14, h27, h⟩ := bind_inv h
                  rcases cond_inv h with ⟨h28, h⟩ | ⟨h28, h⟩
                  · obtain ⟨h29, h⟩ := ite_inv h
                    obtain ⟨h30, h⟩ := ite_inv h
                    obtain ⟨h31, h⟩ := ite_inv h
                    obtain ⟨r15, h32, h⟩ := bind_inv h
                    rcases cond_inv h with ⟨h33, h⟩ | ⟨h33, h⟩
                    · obtain rfl := Option.some.inj h
                      exact Reach.done ttok mix fk9 (p9_e_21 a0 r1 r2 r3 r4 r5 r6 r7 r8 r9 r10 r11 r12 r13 r14 r15) (obs_cons (laws_szValue_ok h0) (obs_cons h1 (obs_cons (laws_toValue_ok h2) (obs_cons (spec_CountRows_ok h3) (obs_cons (laws_toValue_ok h4) (obs_cons (impl_CountRows_toO (impl_CountRows_ok h5) h6) (obs_cons (laws_eqValue_ok h7) (obs_cons h8 (obs_cons (laws_toValue_ok h9) (obs_cons (laws_eqValue_ok h10) (obs_cons h11 (obs_cons (laws_markValue_ok h12) (obs_cons h13 (obs_cons h14 (obs_cons h15 (obs_cons h16 (obs_cons (laws_eqValue_ok h17) (obs_cons h18 (obs_cons (laws_markValue_ok h19) (obs_cons h20 (obs_cons h21 (obs_cons h22 (obs_cons (laws_heldValue_ok h23) (obs_cons h24 (obs_cons h25 (obs_cons (laws_toValue_ok h26) (obs_cons (impl_CountRows_toE (impl_CountRows_ok h27) h28 h29 h30 h31) (obs_cons (laws_eqValue_ok h32) (obs_cons h33 obs_nil)))))))))))))))))))))))))))))
                    · obtain ⟨r16, h34, h⟩ := bind_inv h
                      rcases cond_inv h with ⟨h35, h⟩ | ⟨h35, h⟩
                      · obtain rfl := Option.some.inj h
                        exact Reach.done ttok mix fk9 (p9_e_22 a0 r1 r2 r3 r4 r5 r6 r7 r8 r9 r10 r11 r12 r13 r14 r15 r16) (obs_cons (laws_szValue_ok h0) (obs_cons h1 (obs_cons (laws_toValue_ok h2) (obs_cons (spec_CountRows_ok h3) (obs_cons (laws_toValue_ok h4) (obs_cons (impl_CountRows_toO (impl_CountRows_ok h5) h6) (obs_cons (laws_eqValue_ok h7) (obs_cons h8 (obs_cons (laws_toValue_ok h9) (obs_cons (laws_eqValue_ok h10) (obs_cons h11 (obs_cons (laws_markValue_ok h12) (obs_cons h13 (obs_cons h14 (obs_cons h15 (obs_cons h16 (obs_cons (laws_eqValue_ok h17) (obs_cons h18 (obs_cons (laws_markValue_ok h19) (obs_cons h20 (obs_cons h21 (obs_cons h22 (obs_cons (laws_heldValue_ok h23) (obs_cons h24 (obs_cons h25 (obs_cons (laws_toValue_ok h26) (obs_cons (impl_CountRows_toE (impl_CountRows_ok h27) h28 h29 h30 h31) (obs_cons (laws_eqValue_ok h32) (obs_cons h33 (obs_cons (laws_heldValue_ok h34) (obs_cons h35 obs_nil)))))))))))))))))))))))))))))))
                      · rcases cond_inv h with ⟨h36, h⟩ | ⟨h36, h⟩
                        · obtain rfl := Option.some.inj h
                          exact Reach.done ttok mix fk9 (p9_e_23 a0 r1 r2 r3 r4 r5 r6 r7 r8 r9 r10 r11 r12 r13 r14 r15 r16) (obs_cons (laws_szValue_ok h0) (obs_cons h1 (obs_cons (laws_toValue_ok h2) (obs_cons (spec_CountRows_ok h3) (obs_cons (laws_toValue_ok h4) (obs_cons (impl_CountRows_toO (impl_CountRows_ok h5) h6) (obs_cons (laws_eqValue_ok h7) (obs_cons h8 (obs_cons (laws_toValue_ok h9) (obs_cons (laws_eqValue_ok h10) (obs_cons h11 (obs_cons (laws_markValue_ok h12) (obs_cons h13 (obs_cons h14 (obs_cons h15 (obs_cons h16 (obs_cons (laws_eqValue_ok h17) (obs_cons h18 (obs_cons (laws_markValue_ok h19) (obs_cons h20 (obs_cons h21 (obs_cons h22 (obs_cons (laws_heldValue_ok h23) (obs_cons h24 (obs_cons h25 (obs_cons (laws_toValue_ok h26) (obs_cons (impl_CountRows_toE (impl_CountRows_ok h27) h28 h29 h30 h31) (obs_cons (laws_eqValue_ok h32) (obs_cons h33 (obs_cons (laws_heldValue_ok h34) (obs_cons h35 (obs_cons h36 obs_nil))))))))))))))))))))))))))))))))
                        · obtain rfl := Option.some.inj h
                          exact Reach.done ttok mix fk9 (p9_e_24 a0 r1 r2 r3 r4 r5 r6 r7 r8 r9 r10 r11 r12 r13 r14 r15 r16) (obs_cons (laws_szValue_ok h0) (obs_cons h1 (obs_cons (laws_toValue_ok h2) (obs_cons (spec_CountRows_ok h3) (obs_cons (laws_toValue_ok h4) (obs_cons (impl_CountRows_toO (impl_CountRows_ok h5) h6) (obs_cons (laws_eqValue_ok h7) (obs_cons h8 (obs_cons (laws_toValue_ok h9) (obs_cons (laws_eqValue_ok h10) (obs_cons h11 (obs_cons (laws_markValue_ok h12) (obs_cons h13 (obs_cons h14 (obs_cons h15 (obs_cons h16 (obs_cons (laws_eqValue_ok h17) (obs_cons h18 (obs_cons (laws_markValue_ok h19) (obs_cons h20 (obs_cons h21 (obs_cons h22 (obs_cons (laws_heldValue_ok h23) (obs_cons h24 (obs_cons h25 (obs_cons (laws_toValue_ok h26) (obs_cons (impl_CountRows_toE (impl_CountRows_ok h27) h28 h29 h30 h31) (obs_cons (laws_eqValue_ok h32) (obs_cons h33 (obs_cons (laws_heldValue_ok h34) (obs_cons h35 (obs_cons h36 obs_nil))))))))))))))))))))))))))))))))
                  · obtain ⟨r15, h29, h⟩ := bind_inv h
                    rcases cond_inv h with ⟨h30, h⟩ | ⟨h30, h⟩
                    · obtain rfl := Option.some.inj h
                      exact Reach.done ttok mix fk9 (p9_e_25 a0 r1 r2 r3 r4 r5 r6 r7 r8 r9 r10 r11 r12 r13 r14 r15) (obs_cons (laws_szValue_ok h0) (obs_cons h1 (obs_cons (laws_toValue_ok h2) (obs_cons (spec_CountRows_ok h3) (obs_cons (laws_toValue_ok h4) (obs_cons (impl_CountRows_toO (impl_CountRows_ok h5) h6) (obs_cons (laws_eqValue_ok h7) (obs_cons h8 (obs_cons (laws_toValue_ok h9) (obs_cons (laws_eqValue_ok h10) (obs_cons h11 (obs_cons (laws_markValue_ok h12) (obs_cons h13 (obs_cons h14 (obs_cons h15 (obs_cons h16 (obs_cons (laws_eqValue_ok h17) (obs_cons h18 (obs_cons (laws_markValue_ok h19) (obs_cons h20 (obs_cons h21 (obs_cons h22 (obs_cons (laws_heldValue_ok h23) (obs_cons h24 (obs_cons h25 (obs_cons (laws_toValue_ok h26) (obs_cons (impl_CountRows_toO (impl_CountRows_ok h27) h28) (obs_cons (laws_eqValue_ok h29) (obs_cons h30 obs_nil)))))))))))))))))))))))))))))
                    · obtain ⟨r16, h31, h⟩ := bind_inv h
                      rcases cond_inv h with ⟨h32, h⟩ | ⟨h32, h⟩
                      · obtain rfl := Option.some.inj h
                        exact Reach.done ttok mix fk9 (p9_e_26 a0 r1 r2 r3 r4 r5 r6 r7 r8 r9 r10 r11 r12 r13 r14 r15 r16) (obs_cons (laws_szValue_ok h0) (obs_cons h1 (obs_cons (laws_toValue_ok h2) (obs_cons (spec_CountRows_ok h3) (obs_cons (laws_toValue_ok h4) (obs_cons (impl_CountRows_toO (impl_CountRows_ok h5) h6) (obs_cons (laws_eqValue_ok h7) (obs_cons h8 (obs_cons (laws_toValue_ok h9) (obs_cons (laws_eqValue_ok h10) (obs_cons h11 (obs_cons (laws_markValue_ok h12) (obs_cons h13 (obs_cons h14 (obs_cons h15 (obs_cons h16 (obs_cons (laws_eqValue_ok h17) (obs_cons h18 (obs_cons (laws_markValue_ok h19) (obs_cons h20 (obs_cons h21 (obs_cons h22 (obs_cons (laws_heldValue_ok h23) (obs_cons h24 (obs_cons h25 (obs_cons (laws_toValue_ok h26) (obs_cons (impl_CountRows_toO (impl_CountRows_ok h27) h28) (obs_cons (laws_eqValue_ok h29) (obs_cons h30 (obs_cons (laws_heldValue_ok h31) (obs_cons h32 obs_nil)))))))))))))))))))))))))))))))
                      · rcases cond_inv h with ⟨h33, h⟩ | ⟨h33, h⟩
                        · obtain rfl := Option.some.inj h
                          exact Reach.done ttok mix fk9 (p9_e_27 a0 r1 r2 r3 r4 r5 r6 r7 r8 r9 r10 r11 r12 r13 r14 r15 r16) (obs_cons (laws_szValue_ok h0) (obs_cons h1 (obs_cons (laws_toValue_ok h2) (obs_cons (spec_CountRows_ok h3) (obs_cons (laws_toValue_ok h4) (obs_cons (impl_CountRows_toO (impl_CountRows_ok h5) h6) (obs_cons (laws_eqValue_ok h7) (obs_cons h8 (obs_cons (laws_toValue_ok h9) (obs_cons (laws_eqValue_ok h10) (obs_cons h11 (obs_cons (laws_markValue_ok h12) (obs_cons h13 (obs_cons h14 (obs_cons h15 (obs_cons h16 (obs_cons (laws_eqValue_ok h17) (obs_cons h18 (obs_cons (laws_markValue_ok h19) (obs_cons h20 (obs_cons h21 (obs_cons h22 (obs_cons (laws_heldValue_ok h23) (obs_cons h24 (obs_cons h25 (obs_cons (laws_toValue_ok h26) (obs_cons (impl_CountRows_toO (impl_CountRows_ok h27) h28) (obs_cons (laws_eqValue_ok h29) (obs_cons h30 (obs_cons (laws_heldValue_ok h31) (obs_cons h32 (obs_cons h33 obs_nil))))))))))))))))))))))))))))))))
                        · obtain rfl := Option.some.inj h
                          exact Reach.done ttok mix fk9 (p9_e_28 a0 r1 r2 r3 r4 r5 r6 r7 r8 r9 r10 r11 r12 r13 r14 r15 r16) (obs_cons (laws_szValue_ok h0) (obs_cons h1 (obs_cons (laws_toValue_ok h2) (obs_cons (spec_CountRows_ok h3) (obs_cons (laws_toValue_ok h4) (obs_cons (impl_CountRows_toO (impl_CountRows_ok h5) h6) (obs_cons (laws_eqValue_ok h7) (obs_cons h8 (obs_cons (laws_toValue_ok h9) (obs_cons (laws_eqValue_ok h10) (obs_cons h11 (obs_cons (laws_markValue_ok h12) (obs_cons h13 (obs_cons h14 (obs_cons h15 (obs_cons h16 (obs_cons (laws_eqValue_ok h17) (obs_cons h18 (obs_cons (laws_markValue_ok h19) (obs_cons h20 (obs_cons h21 (obs_cons h22 (obs_cons (laws_heldValue_ok h23) (obs_cons h24 (obs_cons h25 (obs_cons (laws_toValue_ok h26) (obs_cons (impl_CountRows_toO (impl_CountRows_ok h27) h28) (obs_cons (laws_eqValue_ok h29) (obs_cons h30 (obs_cons (laws_heldValue_ok h31) (obs_cons h32 (obs_cons h33 obs_nil))))))))))))))))))))))))))))))))
theorem laws_FnExactCountRows_ok {N : Nat} {a0 : Val} {r : Bool} (h : laws_FnExactCountRows N  a0 = some r) : AbsCalls Try.prog 9 (laws_FnExactCountRows_as a0) (laws_FnExactCountRows_ro r) :=
 AbsCalls.of_reach fk9 rfl rfl (Nat.le_of_ble_eq_true rfl) (c9_e a0 r h)
end Go.Ab.T
end
section
namespace Go.Ab
set_option linter.unusedVariables false
set_option linter.unusedSimpArgs false
def numV (c : Int) : Val := .mk 1 c 0 [] [] [] []
def nilV : Val := .mk 0 0 0 [] [] [] []
def opG : List Val → Val × Bool × Bool
  | [] => (nilV, false, false)
  | v :: r => bif !valOk v then (errV 4, true, false) else bif v.kind == 6 then (v, true, true) else opG r
theorem emp_nil {α : Type} {l : List α} (h : emp l = true) : l = [] := List.length_eq_zero_iff.1 (of_decide_eq_true h)
theorem err_eta {v : Val} (h : valOk v = true) (hk : (v.kind == 6) = true) : v = errV v.n := by
  rw [valOk_eq] at h
  have hk' := eq_of_beq hk
  rw [hk'] at h
  simp only [show ((6 : Int) == 1) = false from rfl, show ((6 : Int) == 2) = false from rfl, show ((6 : Int) == 4) = false from rfl, show ((6 : Int) == 6) = true from rfl, cond_true, cond_false, Bool.and_eq_true] at h
  obtain ⟨h1, h2, h3, h4, h5, _⟩ := h
  have e := Val.eta v
  rw [emp_nil h1, emp_nil h2, emp_nil h3, eq_of_beq h4, eq_of_beq h5, hk'] at e
  exact e.symm
theorem opG_flat : ∀ {l : List Val}, (opG l).1.list = [] ∧ (opG l).1.columns = [] ∧ (opG l).1.rows = [] ∧ (opG l).1.text = [] ∧ (opG l).1.step = 0
  | [] => ⟨rfl, rfl, rfl, rfl, rfl⟩
  | v :: r => by
    simp only [opG]
    cases hv : valOk v
    · exact ⟨rfl, rfl, rfl, rfl, rfl⟩
    · cases hk : (v.kind == 6)
      · exact opG_flat (l := r)
      · simp only [Bool.not_true, cond_false, cond_true]
        rw [err_eta hv hk]
        exact ⟨rfl, rfl, rfl, rfl, rfl⟩
theorem opG_i64 {K : Nat} : ∀ {l : List Val}, (∀ x ∈ l, x.Fit K) → I64 (opG l).1.kind ∧ I64 (opG l).1.n
  | [], _ => ⟨i64_of (by show (-1000000 : Int) ≤ 0; omega) (by show (0 : Int) ≤ 1000000; omega), i64_of (by show (-1000000 : Int) ≤ 0; omega) (by show (0 : Int) ≤ 1000000; omega)⟩
  | v :: r, h => by
    simp only [opG]
    cases hv : valOk v
    · exact ⟨i64_of (by show (-1000000 : Int) ≤ 6; omega) (by show (6 : Int) ≤ 1000000; omega), i64_of (by show (-1000000 : Int) ≤ 4; omega) (by show (4 : Int) ≤ 1000000; omega)⟩
    · cases hk : (v.kind == 6)
      · exact opG_i64 fun x hx => h x (List.mem_cons_of_mem _ hx)
      · have := Val.fit_iff.1 (h v List.mem_cons_self)
        exact ⟨this.1, this.2.1⟩
theorem flat_eta {v : Val} (h1 : v.list = []) (h2 : v.columns = []) (h3 : v.rows = []) : Val.mk v.kind v.n v.step v.text [] [] [] = v := by
  have e := Val.eta v
  rw [h1, h2, h3] at e
  exact e
theorem operandError_eq {K : Nat} (hK : 24 ≤ K ∧ K ≤ 4611686018427387903) {l : List Val} (h : ∀ x ∈ l, x.Fit K) (hl : l.length ≤ K) : Big fun N => impl_operandError N l = some (opG l) ∧ spec_l5First N l = some ((opG l).1, (opG l).2.1) := by
  refine ((Big.list fun x hx => valid_eq hK (h x hx)).and (big_lt K)).imp fun N ⟨hv, hN⟩ => ⟨?_, ?_⟩
  · exact forList (σ := Unit) (L := fun m i _ => impl_operandError_b2 N m l l.length i (Val.mk 0 0 0 [] [] [] [])) l (fun r _ => opG r) (fun _ _ => True) (fun m _ _ => by simp only [impl_operandError_b2, Int.lt_irrefl, decide_false, cond_false]; rfl)
      (fun i x r _ hd hi hx _ => by
        have hi' : (i : Int) < (l.length : Int) := by omega
        have hm := List.mem_of_getElem? hx
        cases h1 : valOk x
        · refine .inr fun m => ?_
          simp only [impl_operandError_b2, decide_eq_true hi', cond_true, Int.toNat_natCast, getD_of hx, (hv x hm).1, h1, Option.bind_some, Bool.not_false, impl_ErrorValue, opG]
          rw [if_pos (by omega)]; rfl
        · cases h2 : (x.kind == 6)
          · refine .inl ⟨(), trivial, by simp only [opG, h1, h2, Bool.not_true, cond_false], fun m => ?_⟩
            simp only [impl_operandError_b2, decide_eq_true hi', cond_true, Int.toNat_natCast, getD_of hx, (hv x hm).1, h1, h2, Option.bind_some, Bool.not_true, cond_false, wrap_succ hi (by omega : l.length ≤ _)]
            rw [if_pos (by omega)]
          · refine .inr fun m => ?_
            simp only [impl_operandError_b2, decide_eq_true hi', cond_true, Int.toNat_natCast, getD_of hx, (hv x hm).1, h1, h2, Option.bind_some, Bool.not_true, cond_false, opG]
            rw [if_pos (by omega)]) N 0 () trivial (by omega) (by omega)
  · exact forList (σ := Unit) (L := fun m i _ => spec_l5First_b2 N m l i (Val.mk 0 0 0 [] [] [] [])) l (fun r _ => ((opG r).1, (opG r).2.1)) (fun _ _ => True) (fun m _ _ => by simp only [spec_l5First_b2, Int.lt_irrefl, decide_false, cond_false]; rfl)
      (fun i x r _ hd hi hx _ => by
        have hi' : (i : Int) < (l.length : Int) := by omega
        have hm := List.mem_of_getElem? hx
        cases h1 : valOk x
        · refine .inr fun m => ?_
          simp only [spec_l5First_b2, decide_eq_true hi', cond_true, Int.toNat_natCast, getD_of hx, (hv x hm).2, h1, Option.bind_some, Bool.not_false, spec_ErrorValue, opG]
          rw [if_pos (by omega)]; rfl
        · cases h2 : (x.kind == 6)
          · refine .inl ⟨(), trivial, by simp only [opG, h1, h2, Bool.not_true, cond_false], fun m => ?_⟩
            simp only [spec_l5First_b2, decide_eq_true hi', cond_true, Int.toNat_natCast, getD_of hx, (hv x hm).2, h1, h2, Option.bind_some, Bool.not_true, cond_false, wrap_succ hi (by omega : l.length ≤ _)]
            rw [if_pos (by omega)]
          · refine .inr fun m => ?_
            simp only [spec_l5First_b2, decide_eq_true hi', cond_true, Int.toNat_natCast, getD_of hx, (hv x hm).2, h1, h2, Option.bind_some, Bool.not_true, cond_false, opG, spec_ErrorValue]
            rw [if_pos (by omega), err_eta h1 h2]; rfl) N 0 () trivial (by omega) (by omega)
theorem flat_opG {K : Nat} {l : List Val} (h : ∀ x ∈ l, x.Fit K) : Flat (opG l).1 := by
  obtain ⟨h1, h2, h3, h4, h5⟩ := opG_flat (l := l)
  obtain ⟨i1, i2⟩ := opG_i64 h
  exact ⟨h1, h2, h3, h4, i1, i2, by rw [h5]; exact i64_of (by omega) (by omega)⟩
theorem flat_num {c : Int} (h : I64 c) : Flat (numV c) := flat_mk (i64_of (by omega) (by omega)) h (i64_of (by omega) (by omega))
theorem markE_eq {N : Nat} (hN : 274877906944 < N) {v : Val} (k : Int) : laws_markValue_E N v k = some k := by
  obtain ⟨n, rfl⟩ : ∃ n, N = n + 1 := ⟨N - 1, by omega⟩
  simp [laws_markValue_E, laws_markValueS_E, laws_markStringS_E, laws_markRowS_E, laws_markValueS_E_b2, laws_markStringS_E_b2, laws_markRowS_E_b2]
theorem heldFlat_eq {N : Nat} (hN : 274877906944 < N) {a b c : Int} {t : Str} {k : Int} (hk : 0 ≤ k) : laws_heldValue N (.mk a b c t [] [] []) k = some k := by
  obtain ⟨n, rfl⟩ : ∃ n, N = n + 1 := ⟨N - 1, by omega⟩
  have h : ¬ k < 0 := by omega
  simp [laws_heldValue, vl, vc, vr, laws_heldValueS, laws_heldValueS_fix, laws_heldValueS_body, laws_heldValueS_b2, laws_heldStringS, laws_heldStringS_b2, laws_heldRowS, laws_heldRowS_b2, decide_eq_false h]
theorem opG_tag : ∀ {l : List Val}, (opG l).2.1 = false → (opG l).2.2 = false
  | [], _ => rfl
  | v :: r, h => by
    simp only [opG] at h ⊢
    cases hv : valOk v
    · rfl
    · cases hk : (v.kind == 6)
      · rw [hv, hk] at h
        exact opG_tag (l := r) h
      · rw [hv, hk] at h; cases h
end Go.Ab
end
section
namespace Go.Ab
set_option linter.unusedVariables false
set_option linter.unusedSimpArgs false
def kb : List Val → List Int → Bool
  | [], _ => false
  | _ :: _, [] => false
  | x :: r, k :: ks => (x.kind != k) || kb r ks
def kindG (ks : List Int) (vs : List Val) : Val × Bool × Bool := bif (opG vs).2.1 then opG vs else bif kb vs ks then (errV 4, true, false) else (nilV, false, false)
theorem flat_nil : Flat nilV := flat_mk (i64_of (by omega) (by omega)) (i64_of (by omega) (by omega)) (i64_of (by omega) (by omega))
theorem flat_kindG {K : Nat} {ks : List Int} {l : List Val} (h : ∀ x ∈ l, x.Fit K) : Flat (kindG ks l).1 := by
  unfold kindG
  cases (opG l).2.1
  · cases kb l ks
    · exact flat_nil
    · exact flat_err (i64_of (by omega) (by omega))
  · exact flat_opG h
theorem kindError_eq {K : Nat} (hK : 24 ≤ K ∧ K ≤ 4611686018427387903) {vs : List Val} {ks : List Int} (h : ∀ x ∈ vs, x.Fit K) (hl : vs.length ≤ K) (hks : ks.length = vs.length) : Big fun N => impl_kindError N ks vs = some (kindG ks vs) ∧ spec_l7Check N vs ks = some ((kindG ks vs).1, (kindG ks vs).2.1) := by
  refine ((operandError_eq hK h hl).and (big_lt K)).imp fun N ⟨⟨ho1, ho2⟩, hN⟩ => ?_
  have i1 : impl_kindError_b5 N N ks vs vs.length 0 (Val.mk 0 0 0 [] [] [] []) = some (bif kb vs ks then (errV 4, true, false) else (nilV, false, false)) :=
    forList (L := fun m i q => impl_kindError_b5 N m ks vs vs.length i (Val.mk 0 0 0 [] [] [] [])) vs (fun r q => bif kb r (ks.drop q) then (errV 4, true, false) else (nilV, false, false)) (fun i q => q = i) (fun m q _ => by simp only [impl_kindError_b5, Int.lt_irrefl, decide_false, cond_false]; rfl)
      (fun i x r q hd hi hx hq => by
        have hq : q = i := hq
        subst hq
        have hi' : (q : Int) < (vs.length : Int) := by omega
        have hk : ks[q]? = some ks[q] := by simp [hks, hi]
        have hdk : ks.drop q = ks[q] :: ks.drop (q + 1) := List.drop_eq_getElem_cons (by omega)
        cases h1 : (x.kind != ks[q])
        · refine .inl ⟨q + 1, rfl, by rw [hdk]; simp only [kb, h1, Bool.false_or], fun m => ?_⟩
          simp only [impl_kindError_b5, decide_eq_true hi', cond_true, cond_false, Int.toNat_natCast, getD_of hx, getD_of hk, h1, wrap_succ hi (by omega : vs.length ≤ _)]
          rw [if_pos (by omega), if_pos (by omega)]
        · refine .inr fun m => ?_
          rw [hdk]
          simp only [impl_kindError_b5, decide_eq_true hi', cond_true, Int.toNat_natCast, getD_of hx, getD_of hk, h1, impl_ErrorValue, Option.bind_some, kb, Bool.true_or]
          rw [if_pos (by omega), if_pos (by omega)]; rfl) N 0 0 rfl (by omega) (by omega)
  have i2 : spec_l7Check_b5 N N vs ks 0 (Val.mk 0 0 0 [] [] [] []) = some (bif kb vs ks then (errV 4, true) else (nilV, false)) :=
    forList (L := fun m i q => spec_l7Check_b5 N m vs ks i (Val.mk 0 0 0 [] [] [] [])) vs (fun r q => bif kb r (ks.drop q) then (errV 4, true) else (nilV, false)) (fun i q => q = i) (fun m q _ => by simp only [spec_l7Check_b5, Int.lt_irrefl, decide_false, cond_false]; rfl)
      (fun i x r q hd hi hx hq => by
        have hq : q = i := hq
        subst hq
        have hi' : (q : Int) < (vs.length : Int) := by omega
        have hk : ks[q]? = some ks[q] := by simp [hks, hi]
        have hdk : ks.drop q = ks[q] :: ks.drop (q + 1) := List.drop_eq_getElem_cons (by omega)
        cases h1 : (x.kind != ks[q])
        · refine .inl ⟨q + 1, rfl, by rw [hdk]; simp only [kb, h1, Bool.false_or], fun m => ?_⟩
          simp only [spec_l7Check_b5, decide_eq_true hi', cond_true, cond_false, Int.toNat_natCast, getD_of hx, getD_of hk, h1, wrap_succ hi (by omega : vs.length ≤ _)]
          rw [if_pos (by omega), if_pos (by omega)]
        · refine .inr fun m => ?_
          rw [hdk]
          simp only [spec_l7Check_b5, decide_eq_true hi', cond_true, Int.toNat_natCast, getD_of hx, getD_of hk, h1, spec_ErrorValue, Option.bind_some, kb, Bool.true_or]
          rw [if_pos (by omega), if_pos (by omega)]; rfl) N 0 0 rfl (by omega) (by omega)
  refine ⟨?_, ?_⟩
  · simp only [impl_kindError, ho1, Option.bind_some, i1, kindG]
    cases h1 : (opG vs).2.1
    · rw [opG_tag h1]; rfl
    · have e : opG vs = ((opG vs).1, true, (opG vs).2.2) := by rw [← h1]
      cases h2 : (opG vs).2.2
      · rw [h2] at e; simp only [cond_true, cond_false]; rw [← e]
      · rw [h2] at e; simp only [cond_true]; rw [← e]
  · simp only [spec_l7Check, ho2, Option.bind_some, i2, kindG]
    cases h1 : (opG vs).2.1
    · cases kb vs ks <;> rfl
    · simp [h1]
def cntG (v : Val) : Val × Bool := bif (kindG [5] [v]).2.1 then ((kindG [5] [v]).1, (kindG [5] [v]).2.2) else (numV v.rows.length, false)
theorem kindG_tag {ks : List Int} {l : List Val} (h : (kindG ks l).2.1 = false) : (kindG ks l).2.2 = false := by
  unfold kindG at h ⊢
  cases h1 : (opG l).2.1
  · rw [h1] at h
    cases h2 : kb l ks
    · rfl
    · rfl
  · rw [h1] at h; simp only [cond_true] at h; rw [h1] at h; cases h
theorem one_fit {K : Nat} {v : Val} (h : v.Fit K) : ∀ x ∈ [v], x.Fit K := fun x hx => by rw [List.mem_singleton] at hx; subst hx; exact h
theorem cnt_eq {K : Nat} (hK : 24 ≤ K ∧ K ≤ 4611686018427387903) {v : Val} (h : v.Fit K) : Big fun N => impl_CountRows N v = some (cntG v) ∧ spec_CountRows N v = some (cntG v).1 := by
  refine (kindError_eq hK (vs := [v]) (ks := [5]) (one_fit h) (by simp; omega) rfl).imp fun N ⟨h1, h2⟩ => ?_
  obtain ⟨e1, e2, e3, _⟩ := flat_kindG (ks := [5]) (one_fit h)
  have hz : ∀ n : Int, Val.mk 1 n 0 [] [] [] [] = numV n := fun _ => rfl
  refine ⟨?_, ?_⟩
  · simp only [impl_CountRows, Val.re_eq, h1, Option.bind_some, e1, e2, e3, List.isEmpty_nil, if_true, flat_eta e1 e2 e3, impl_NumberValue, hz, cntG]
    cases g1 : (kindG [5] [v]).2.1
    · rw [kindG_tag g1]; rfl
    · cases (kindG [5] [v]).2.2 <;> rfl
  · simp only [spec_CountRows, Val.re_eq, h2, Option.bind_some, spec_NumberValue, hz, cntG]
    cases g1 : (kindG [5] [v]).2.1 <;> rfl
theorem cntG_flat {K : Nat} (hK : K ≤ 4611686018427387903) {v : Val} (h : v.Fit K) : Flat (cntG v).1 := by
  have hr : v.rows.length ≤ K := (Val.fit_iff.1 h).2.2.2.2.2.2.1
  unfold cntG
  cases (kindG [5] [v]).2.1
  · exact flat_num ⟨by omega, by omega⟩
  · exact flat_kindG (one_fit h)
theorem laws_FnExactCountRows_true (a0 : Val) (f0 : ∀ z ∈ [CV.int .i64 (Val.kind a0), .int .i64 (Val.n a0), .int .i64 (Val.step a0), .str (Val.text a0), .sl .ro .val (Val.list a0), .sl .ro .str (Val.columns a0), .sl .ro .row (Val.rows a0)], DFit z.toD) : ∃ N, laws_FnExactCountRows N a0 = some true := by
  have hF := val_of_cells f0
  by_cases h : left a0.size 1048576 < 0
  · exact ((szValue_eq hF).imp fun N hs => by simp [laws_FnExactCountRows, hs 1048576 (by omega) (by omega), h]).get
  · have hs := Val.fit_size a0 hF (guard h)
    have hg := guard h
    have hc := Val.cnt_le a0
    have hfl := cntG_flat (by omega) hs
    have hff := hfl.fit 1048576
    have hfc := hfl.cnt
    refine (((szValue_eq hF).and ((toValue_eq hs).and (eqValue_self hs (by omega)))).and (((cnt_eq (by omega) hs).and (eqValue_self hff (by omega))).and ((markValue_held (by omega) hs (by omega)).and ((markValue_held (by omega) hff (by omega)).and (big_lt 274877906944))))).imp (fun N ⟨⟨k1, k2, k3⟩, ⟨⟨k4, k5⟩, k6⟩, k7, k8, hN⟩ => ?_) |>.get
    obtain ⟨k, xa, xb, xc, p0, p1, p2, p3, p4, p5⟩ := k7
    obtain ⟨k', ya, yb, yc, q0, q1, q2, q3, q4, q5⟩ := k8
    generalize cntG a0 = r at *
    obtain ⟨e1, e2, e3, _⟩ := hfl
    simp only [laws_FnExactCountRows, k1 1048576 (by omega) (by omega), k2, k3, k4, k5, k6, Option.bind_some, decide_eq_false h, cond_false, e1, e2, e3, List.isEmpty_nil, if_true, flat_eta e1 e2 e3, Bool.not_true, p4, if_pos p1, if_pos p2, if_pos p3, decide_eq_false (by omega : ¬ k < 0), markE_eq hN]
    have hh : laws_heldValue N r.1 1 = some 1 := by rw [← flat_eta e1 e2 e3]; exact heldFlat_eq hN (by omega)
    obtain rfl : ya = [] := List.length_eq_zero_iff.1 (by rw [q1, e1]; rfl)
    obtain rfl : yb = [] := List.length_eq_zero_iff.1 (by rw [q2, e2]; rfl)
    obtain rfl : yc = [] := List.length_eq_zero_iff.1 (by rw [q3, e3]; rfl)
    cases r.2
    · simp [q4, q5, decide_eq_false (by omega : ¬ k' < 0)]
    · simp [hh]
end Go.Ab
end
section
namespace Go.Proofs.Ytkbojckenecnbaa
open Go.Ab Go.ChangeShapes Go.WideShapes Go.ChangeAt Go.RowKit
set_option linter.unusedVariables false
theorem own : ownKnob Try.prog.godebug = none := by kernel_rfl
theorem laidOut : laidOutB Try.prog = true := by kernel_rfl
theorem ktok_fnExactCountRows : ktChk Try.prog [(3, .int), (9, .str), (40, .val), (137, .org), (148, .row)] = true := by kernel_rfl
set_option maxRecDepth 100000 in
theorem fnExactCountRows_lifted (os : Os) (started : os.Started) (H : Type) (enc : TypeId × Value → H) :
    ReturnsInHanded {} Try.checked os 9 .any (Rows.fnExactCountRowsSpec.pre6 enc Try.prog Try.f9 Rows.fnExactCountRowsRow.domain false) (Rows.fnExactCountRowsSpec.post enc Try.prog Try.f9 false true false false) := by
  refine returnsInHanded_of_change (C := Try.checked) own started (by kernel_rfl) Try.func9
    (ChangeSpec.witness6 (enc := enc) (C := Try.checked) false ⟨#[], #[.agg #[.int .i64 0, .int .i64 0, .int .i64 0, .string ByteArray.empty, .slice none 0 0, .slice none 0 0, .slice none 0 0]], []⟩ 8 (by kernel_rfl) (by kernel_rfl) (by kernel_rfl) (by kernel_rfl)) ?_
  intro W base args ds gs before hval0 hW hcnd _
  have hval : ∀ (j : Nat) t v, Try.f9.params[j]? = some t → args[j]? = some v → Value.okWide Try.prog W .any base t v := hval0
  have hW' := hW
  obtain ⟨p, q, hA0, hV, rfl, hfz, hnd⟩ := hW
  have hA : DataW.TrodAll enc Try.prog W 0 (fun _ => true) true Try.f9.params.toList args.toList ds p := hA0
  rw [Try.params9] at hA hval
  obtain ⟨v0, vs0, d0, ds0, p0, q0, hargs, rfl, rfl, h0, r0⟩ := trodAll_cons hA
  obtain ⟨rfl, rfl, rfl⟩ := trodAll_nil r0
  obtain rfl : args = #[v0] := by cases args; simp_all
  obtain ⟨rfl, rfl⟩ := trodVars_none hV
  have lt0 : ∀ x ∈ p0, x.block < W.heap.size := by obtain ⟨m, hm⟩ := h0; exact DataW.trod_lt m _ _ _ hm
  obtain ⟨z0, e0, f0, vr0⟩ := vr_of ktok_fnExactCountRows (g := true) (t := 40) (ns := [.inl (.int .i64), .inl (.int .i64), .inl (.int .i64), .inl .str, .inr .val, .inr .str, .inr .row]) (by kernel_rfl) (hval 0 40 v0 rfl rfl) h0
  obtain ⟨x0_0, _, rfl, e0_0⟩ := AreOf.int_inv e0
  obtain ⟨x0_1, _, rfl, e0_1⟩ := AreOf.int_inv e0_0
  obtain ⟨x0_2, _, rfl, e0_2⟩ := AreOf.int_inv e0_1
  obtain ⟨x0_3, _, rfl, e0_3⟩ := AreOf.str_inv e0_2
  obtain ⟨x0_4, _, rfl, e0_4⟩ := AreOf.sl_inv e0_3
  obtain ⟨x0_5, _, rfl, e0_5⟩ := AreOf.sl_inv e0_4
  obtain ⟨x0_6, _, rfl, e0_6⟩ := AreOf.sl_inv e0_5
  obtain rfl := e0_6.nil_inv
  obtain ⟨N, hF⟩ := laws_FnExactCountRows_true (Val.mk x0_0 x0_1 x0_2 x0_3 x0_4 x0_5 x0_6) f0
  clear hA0 hval0
  refine (calls_of T.fk9 (T.laws_FnExactCountRows_ok hF) (W := W) (args := #[v0]) ⟨vr0 _, trivial⟩).mono fun e W' ⟨he, bel⟩ => ?_
  subst he
  exact ⟨_, rfl, _, _, _, [], _, [], hW', trodAll_mk1 (shut_bool Try.underlying4 _), (trodAll_cons_mk (Below.trod laidOut (by kernel_rfl) (of_decide_eq_true (by kernel_rfl)) h0 bel lt0) trodAll_mk0), rfl, bel.frame _, fun h => by cases h⟩
theorem fnExactCountRows_proved : Rows.FnExactCountRowsSaid :=
  OpenClaim.holds_of_wide 9 Try.f9 rfl rfl rfl rfl rfl rfl rfl ⟨rfl, rfl, rfl, rfl, rfl⟩ rfl rfl rfl rfl rfl (by kernel_rfl) Try.func9 (by kernel_rfl)
    (of_decide_eq_true (by kernel_rfl)) (by unfold Func.isWrapper; first | (rw [if_pos (by decide +kernel)]; kernel_rfl) | (rw [if_neg (by decide +kernel)]; exact ⟨rfl, rfl⟩))
    (fun os started H enc _ => fnExactCountRows_lifted os started H enc)
end Go.Proofs.Ytkbojckenecnbaa
end
