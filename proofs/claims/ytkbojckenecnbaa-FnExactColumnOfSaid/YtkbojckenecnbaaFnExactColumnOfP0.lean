/- The statement FnExactColumnOf holds: plain functions, certificates, laws. Conditions: none. -/
import Derived.Test.YtkbojckenecnbaaChecked
import Derived.Test.YtkbojckenecnbaaProg
import Derived.Test.YtkbojckenecnbaaRows
import Derived.Test.YtkbojckenecnbaaK2
set_option linter.all false
section
namespace Go.Ab
set_option linter.unusedVariables false
def xAY (a0 : List Val) (a1 : Int) : List Arg := [.val (.v false [.sl .ro .val []]), .val (.v false [.int .i64 a1])]
def xAH (r : Int) : CallO := ⟨.v false [.int .i64 r], [], []⟩
def xAZ (N : Nat) : Nat → Int → Int → Option (Int)
  | 0, _, _ => none
  | n + 1, x1, x5 =>
    bif (decide ((x5 : Int) < (0 : Int))) then (
      if (0 : Int) ≤ x5 ∧ x5 < (0) then
      none
      else none
    ) else (
      some x1
    )
def xA0 (N : Nat) (a0 : List Val) (a1 : Int) : Option (Int) :=
  (xAZ N N a1 0)
def xBm (N : Nat) (a0 : Val) (a1 : Int) : Option (Int) := (yBf N N).c_laws_szValue a0 a1
def xAC (N : Nat) (a0 : Val) : Option (Val) := (yAv N N).c_laws_toValue a0
def xAV (a0 : List Str) (a1 : Int) : List Arg := [.val (.v false [.sl .ro .str []]), .val (.v false [.int .i64 a1])]
def xAE (r : Int) : CallO := ⟨.v false [.int .i64 r], [], []⟩
def xAW (N : Nat) : Nat → Int → Int → Option (Int)
  | 0, _, _ => none
  | n + 1, x1, x5 =>
    bif (decide ((x5 : Int) < (0 : Int))) then (
      Option.bind (yCo N x1) fun r1 =>
      if (0 : Int) ≤ x5 ∧ x5 < (0) then
      none
      else none
    ) else (
      some x1
    )
def xAU (N : Nat) (a0 : List Str) (a1 : Int) : Option (Int) :=
  (xAW N N a1 0)
def xA8 (a0 : List Rowd) (a1 : Int) : List Arg := [.val (.v false [.sl .ro .row []]), .val (.v false [.int .i64 a1])]
def xAN (r : Int) : CallO := ⟨.v false [.int .i64 r], [], []⟩
def xA9 (N : Nat) : Nat → Int → Int → Option (Int)
  | 0, _, _ => none
  | n + 1, x1, x5 =>
    bif (decide ((x5 : Int) < (0 : Int))) then (
      if (0 : Int) ≤ x5 ∧ x5 < (0) then
      none
      else none
    ) else (
      some x1
    )
def xBa (N : Nat) (a0 : List Rowd) (a1 : Int) : Option (Int) :=
  (xA9 N N a1 0)
def xAp (a0 : Val) (a1 : Int) : List Arg := [.val (.v true [.int .i64 (Val.kind a0), .int .i64 (Val.n a0), .int .i64 (Val.step a0), .str (Val.text a0), .sl .ro .val [], .sl .ro .str [], .sl .ro .row []]), .val (.v false [.int .i64 a1])]
def xAl (r : Int) : CallO := ⟨.v false [.int .i64 r], [], []⟩
def xAS (N : Nat) (a0 : Val) (a1 : Int) : Option (Int) :=
  Option.bind (xA0 N [] a1) fun r1 =>
  Option.bind (xAU N [] r1) fun r2 =>
  Option.bind (xBa N [] r2) fun r3 =>
  some r3
def xA2 (a0 : Int) : List Arg := [.val (.v false [.int .i64 a0])]
def xAR (r : Val) : CallO := ⟨.v true [.int .i64 (Val.kind r), .int .i64 (Val.n r), .int .i64 (Val.step r), .str (Val.text r), .sl .own .val (Val.list r), .sl .own .str (Val.columns r), .sl .own .row (Val.rows r)], [], []⟩
def xA4 (N : Nat) (a0 : Int) : Option (Val) :=
  some (Val.mk 1 a0 0 [] [] [] [])
def xA1 (a0 : Int) : List Arg := [.val (.v false [.int .i64 a0])]
def xAP (r : Val) : CallO := ⟨.v true [.int .i64 (Val.kind r), .int .i64 (Val.n r), .int .i64 (Val.step r), .str (Val.text r), .sl .own .val (Val.list r), .sl .own .str (Val.columns r), .sl .own .row (Val.rows r)], [], []⟩
def xA3 (N : Nat) (a0 : Int) : Option (Val) :=
  some (Val.mk 1 a0 0 [] [] [] [])
def xAM (a0 : List Val) (a1 : List Int) : List Arg := [.val (.v false [.sl .ro .val a0]), .val (.v false [.sl .ro .int a1])]
def xAt (r : Val × Bool) : CallO := ⟨.tup [(true, [.int .i64 (Val.kind r.1), .int .i64 (Val.n r.1), .int .i64 (Val.step r.1), .str (Val.text r.1), .sl .own .val (Val.list r.1), .sl .own .str (Val.columns r.1), .sl .own .row (Val.rows r.1)]), (false, [.bool r.2])], [], []⟩
def xAG (N : Nat) : Nat → (List Val) → (List Int) → Int → Val → Option (Val × Bool)
  | 0, _, _, _, _ => none
  | n + 1, x0, x1, x8, b4 =>
    bif (decide ((x8 : Int) < (List.length x0 : Int))) then (
      if (0 : Int) ≤ x8 ∧ x8 < (List.length x0) then
      if (0 : Int) ≤ x8 ∧ x8 < (List.length x1) then
      bif (((Val.kind (List.getD x0 (Int.toNat x8) Ty.val.dflt)) : Int) != (List.getD x1 (Int.toNat x8) Ty.int.dflt)) then (
        Option.bind (yCH N 4) fun r1 =>
        some (r1, true)
      ) else (
        (xAG N n x0 x1 (IntKind.i64.wrap (x8 + 1)) b4)
      )
      else none
      else none
    ) else (
      some ((Val.mk 0 0 0 [] [] [] []), false)
    )
def xBc (N : Nat) (a0 : List Val) (a1 : List Int) : Option (Val × Bool) :=
  Option.bind (yFh N a0) fun r1 =>
  bif r1.2 then (
    some (r1.1, true)
  ) else (
    (xAG N N a0 a1 0 (Val.mk 0 0 0 [] [] [] []))
  )
def xAq (a0 : List Int) (a1 : List Val) : List Arg := [.val (.v false [.sl .ro .int a0]), .val (.v false [.sl .ro .val a1])]
def xBd (r : Val × Bool × Bool) : CallO := ⟨.tup [(true, [.int .i64 (Val.kind r.1), .int .i64 (Val.n r.1), .int .i64 (Val.step r.1), .str (Val.text r.1), .sl .ro .val (Val.list r.1), .sl .ro .str (Val.columns r.1), .sl .ro .row (Val.rows r.1)]), (false, [.bool r.2.1])], [], []⟩
def xAv (r : Val × Bool × Bool) : CallO := ⟨.tup [(true, [.int .i64 (Val.kind r.1), .int .i64 (Val.n r.1), .int .i64 (Val.step r.1), .str (Val.text r.1), .sl .own .val (Val.list r.1), .sl .own .str (Val.columns r.1), .sl .own .row (Val.rows r.1)]), (false, [.bool r.2.1])], [], []⟩
def xAz (r : Val × Bool × Bool) : CallO := ⟨.tup [(true, [.int .i64 (Val.kind r.1), .int .i64 (Val.n r.1), .int .i64 (Val.step r.1), .str (Val.text r.1), .sl .ro .val [], .sl .ro .str [], .sl .ro .row []]), (false, [.bool r.2.1])], [], []⟩
def xAs (r : Val × Bool × Bool) : CallO := bif r.2.2 then xBd r else xAv r
def xAy (N : Nat) : Nat → (List Int) → (List Val) → Int → Int → Val → Option (Val × Bool × Bool)
  | 0, _, _, _, _, _ => none
  | n + 1, x0, x17, x18, x19, b4 =>
    bif (decide ((x19 : Int) < x18)) then (
      if (0 : Int) ≤ x19 ∧ x19 < (List.length x17) then
      if (0 : Int) ≤ x19 ∧ x19 < (List.length x0) then
      bif (((Val.kind (List.getD x17 (Int.toNat x19) Ty.val.dflt)) : Int) != (List.getD x0 (Int.toNat x19) Ty.int.dflt)) then (
        Option.bind (yDN N 4) fun r1 =>
        some (r1, true, false)
      ) else (
        (xAy N n x0 x17 x18 (IntKind.i64.wrap (x19 + 1)) b4)
      )
      else none
      else none
    ) else (
      some ((Val.mk 0 0 0 [] [] [] []), false, false)
    )
def xA5 (N : Nat) (a0 : List Int) (a1 : List Val) : Option (Val × Bool × Bool) :=
  Option.bind (yDT N a1) fun r1 =>
  bif r1.2.2 then (
    bif r1.2.1 then (
      some (r1.1, true, true)
    ) else (
      (xAy N N a0 a1 (List.length a1 : Int) 0 (Val.mk 0 0 0 [] [] [] []))
    )
  ) else (
    bif r1.2.1 then (
      some (r1.1, true, false)
    ) else (
      (xAy N N a0 a1 (List.length a1 : Int) 0 (Val.mk 0 0 0 [] [] [] []))
    )
  )
def xBe (a0 : List Str) (a1 : Str) : List Arg := [.val (.v false [.sl .ro .str a0]), .val (.v false [.str a1])]
def xAQ (r : Int) : CallO := ⟨.v false [.int .i64 r], [], []⟩
def xAL (N : Nat) : Nat → (List Str) → Str → Int → Option (Int)
  | 0, _, _, _ => none
  | n + 1, x0, x1, x5 =>
    bif (decide ((x5 : Int) < (List.length x0 : Int))) then (
      if (0 : Int) ≤ x5 ∧ x5 < (List.length x0) then
      bif (((List.getD x0 (Int.toNat x5) Ty.str.dflt) : Str) == x1) then (
        some x5
      ) else (
        (xAL N n x0 x1 (IntKind.i64.wrap (x5 + 1)))
      )
      else none
    ) else (
      some (-1)
    )
def xBk (N : Nat) (a0 : List Str) (a1 : Str) : Option (Int) :=
  (xAL N N a0 a1 0)
def xAJ (a0 : Val) (a1 : Str) : List Arg := [.val (.v true [.int .i64 (Val.kind a0), .int .i64 (Val.n a0), .int .i64 (Val.step a0), .str (Val.text a0), .sl .ro .val (Val.list a0), .sl .ro .str (Val.columns a0), .sl .ro .row (Val.rows a0)]), .val (.v false [.str a1])]
def xAx (r : Int) : CallO := ⟨.v false [.int .i64 r], [], []⟩
def xAT (N : Nat) (a0 : Val) (a1 : Str) : Option (Int) :=
  Option.bind (xBk N (Val.columns a0) a1) fun r1 =>
  some r1
def xAj (a0 : Val) (a1 : Val) : List Arg := [.val (.v true [.int .i64 (Val.kind a0), .int .i64 (Val.n a0), .int .i64 (Val.step a0), .str (Val.text a0), .sl .ro .val (Val.list a0), .sl .ro .str (Val.columns a0), .sl .ro .row (Val.rows a0)]), .val (.v true [.int .i64 (Val.kind a1), .int .i64 (Val.n a1), .int .i64 (Val.step a1), .str (Val.text a1), .sl .ro .val (Val.list a1), .sl .ro .str (Val.columns a1), .sl .ro .row (Val.rows a1)])]
def xAb (r : Val) : CallO := ⟨.v true [.int .i64 (Val.kind r), .int .i64 (Val.n r), .int .i64 (Val.step r), .str (Val.text r), .sl .own .val (Val.list r), .sl .own .str (Val.columns r), .sl .own .row (Val.rows r)], [], []⟩
def xAF (N : Nat) : Nat → Int → Int → Val → Val → Val → Option (Val)
  | 0, _, _, _, _, _ => none
  | n + 1, x7, x9, b3, b4, b8 =>
    bif (decide ((x9 : Int) < (List.length (Val.rows b3) : Int))) then (
      if (0 : Int) ≤ x9 ∧ x9 < (List.length (Val.rows b3)) then
      if (0 : Int) ≤ x7 ∧ x7 < (List.length (Rowd.cells (List.getD (Val.rows b3) (Int.toNat x9) Ty.row.dflt))) then
      Option.bind (xA4 N (List.getD (Rowd.cells (List.getD (Val.rows b3) (Int.toNat x9) Ty.row.dflt)) (Int.toNat x7) Ty.int.dflt)) fun r1 =>
      if List.length (Val.list b8) + List.length [(Val.re r1)] ≤ Lim then
      (xAF N n x7 (IntKind.i64.wrap (x9 + 1)) b3 b4 (Val.mk (Val.kind b8) (Val.n b8) (Val.step b8) (Val.text b8) ((Val.list b8) ++ [(Val.re r1)]) (Val.columns b8) (Val.rows b8)))
      else none
      else none
      else none
    ) else (
      some b8
    )
def xAX (N : Nat) (a0 : Val) (a1 : Val) : Option (Val) :=
  Option.bind (xBc N [(Val.re a0), (Val.re a1)] [2, 5]) fun r1 =>
  bif r1.2 then (
    some r1.1
  ) else (
    Option.bind (xAT N a1 (Val.text a0)) fun r2 =>
    bif (decide ((r2 : Int) < 0)) then (
      Option.bind (yCH N 7) fun r3 =>
      some r3
    ) else (
      bif (decide (((List.length (Val.rows a1) : Int) : Int) > 8)) then (
        Option.bind (yCH N 6) fun r3 =>
        some r3
      ) else (
        (xAF N N r2 0 a1 (Val.mk 0 0 0 [] [] [] []) (Val.mk 3 0 0 [] [] [] []))
      )
    )
  )
def xAw (a0 : Val) (a1 : Str) : List Arg := [.val (.v true [.int .i64 (Val.kind a0), .int .i64 (Val.n a0), .int .i64 (Val.step a0), .str (Val.text a0), .sl .ro .val (Val.list a0), .sl .ro .str (Val.columns a0), .sl .ro .row (Val.rows a0)]), .val (.v false [.str a1])]
def xAo (r : Int) : CallO := ⟨.v false [.int .i64 r], [], []⟩
def xAO (N : Nat) (a0 : Val) (a1 : Str) : Option (Int) :=
  Option.bind (yEK N (Val.columns a0) a1) fun r1 =>
  some r1
def xAd (a0 : Val) (a1 : Val) : List Arg := [.val (.v true [.int .i64 (Val.kind a0), .int .i64 (Val.n a0), .int .i64 (Val.step a0), .str (Val.text a0), .sl .ro .val (Val.list a0), .sl .ro .str (Val.columns a0), .sl .ro .row (Val.rows a0)]), .val (.v true [.int .i64 (Val.kind a1), .int .i64 (Val.n a1), .int .i64 (Val.step a1), .str (Val.text a1), .sl .ro .val (Val.list a1), .sl .ro .str (Val.columns a1), .sl .ro .row (Val.rows a1)])]
def xBg (r : Val × Bool) : CallO := ⟨.v true [.int .i64 (Val.kind r.1), .int .i64 (Val.n r.1), .int .i64 (Val.step r.1), .str (Val.text r.1), .sl .ro .val (Val.list r.1), .sl .ro .str (Val.columns r.1), .sl .ro .row (Val.rows r.1)], [], []⟩
def xAg (r : Val × Bool) : CallO := ⟨.v true [.int .i64 (Val.kind r.1), .int .i64 (Val.n r.1), .int .i64 (Val.step r.1), .str (Val.text r.1), .sl .own .val (Val.list r.1), .sl .own .str (Val.columns r.1), .sl .own .row (Val.rows r.1)], [], []⟩
def xAh (r : Val × Bool) : CallO := ⟨.v true [.int .i64 (Val.kind r.1), .int .i64 (Val.n r.1), .int .i64 (Val.step r.1), .str (Val.text r.1), .sl .ro .val [], .sl .ro .str [], .sl .ro .row []], [], []⟩
def xAr (r : Val × Bool) : CallO := bif r.2 then xBg r else xAg r
def xAA (N : Nat) : Nat → Int → (List Rowd) → Int → Int → Val → Val → Option (Val × Bool)
  | 0, _, _, _, _, _, _ => none
  | n + 1, x7, x35, x36, x37, b4, b8 =>
    bif (decide ((x37 : Int) < x36)) then (
      if (0 : Int) ≤ x37 ∧ x37 < (List.length x35) then
      if (0 : Int) ≤ x7 ∧ x7 < (List.length (Rowd.cells (List.getD x35 (Int.toNat x37) Ty.row.dflt))) then
      Option.bind (xA3 N (List.getD (Rowd.cells (List.getD x35 (Int.toNat x37) Ty.row.dflt)) (Int.toNat x7) Ty.int.dflt)) fun r1 =>
      if List.length (Val.list b8) + List.length [(Val.re r1)] ≤ Lim then
      (xAA N n x7 x35 x36 (IntKind.i64.wrap (x37 + 1)) b4 (Val.mk (Val.kind b8) (Val.n b8) (Val.step b8) (Val.text b8) ((Val.list b8) ++ [(Val.re r1)]) (Val.columns b8) (Val.rows b8)))
      else none
      else none
      else none
    ) else (
      some (b8, false)
    )
def xAK (N : Nat) (a0 : Val) (a1 : Val) : Option (Val × Bool) :=
  Option.bind (xA5 N [2, 5] [(Val.re a0), (Val.re a1)]) fun r1 =>
  bif r1.2.2 then (
    if List.isEmpty (Val.list r1.1) = true then
    if List.isEmpty (Val.columns r1.1) = true then
    if List.isEmpty (Val.rows r1.1) = true then
    bif r1.2.1 then (
      some ((Val.mk (Val.kind r1.1) (Val.n r1.1) (Val.step r1.1) (Val.text r1.1) [] [] []), true)
    ) else (
      Option.bind (xAO N a1 (Val.text a0)) fun r2 =>
      bif (decide ((r2 : Int) < 0)) then (
        Option.bind (yDN N 7) fun r3 =>
        some (r3, false)
      ) else (
        bif (decide (((List.length (Val.rows a1) : Int) : Int) > 8)) then (
          Option.bind (yDN N 6) fun r3 =>
          some (r3, false)
        ) else (
          (xAA N N r2 (Val.rows a1) (List.length (Val.rows a1) : Int) 0 (Val.mk 0 0 0 [] [] [] []) (Val.mk 3 0 0 [] [] [] []))
        )
      )
    )
    else none
    else none
    else none
  ) else (
    bif r1.2.1 then (
      some (r1.1, false)
    ) else (
      Option.bind (xAO N a1 (Val.text a0)) fun r2 =>
      bif (decide ((r2 : Int) < 0)) then (
        Option.bind (yDN N 7) fun r3 =>
        some (r3, false)
      ) else (
        bif (decide (((List.length (Val.rows a1) : Int) : Int) > 8)) then (
          Option.bind (yDN N 6) fun r3 =>
          some (r3, false)
        ) else (
          (xAA N N r2 (Val.rows a1) (List.length (Val.rows a1) : Int) 0 (Val.mk 0 0 0 [] [] [] []) (Val.mk 3 0 0 [] [] [] []))
        )
      )
    )
  )
def xAe (a0 : Val) (a1 : Val) : List Arg := [.val (.v true [.int .i64 (Val.kind a0), .int .i64 (Val.n a0), .int .i64 (Val.step a0), .str (Val.text a0), .sl .ro .val (Val.list a0), .sl .ro .str (Val.columns a0), .sl .ro .row (Val.rows a0)]), .val (.v true [.int .i64 (Val.kind a1), .int .i64 (Val.n a1), .int .i64 (Val.step a1), .str (Val.text a1), .sl .ro .val (Val.list a1), .sl .ro .str (Val.columns a1), .sl .ro .row (Val.rows a1)])]
def xAf (r : Bool) : CallO := ⟨.v false [.bool r], [], []⟩
def xAB (N : Nat) (a0 : Val) (a1 : Val) : Option (Bool) :=
  Option.bind (xBm N a0 1048576) fun r1 =>
  bif (decide ((r1 : Int) < 0)) then (
    some true
  ) else (
    Option.bind (xBm N a1 r1) fun r2 =>
    bif (decide ((r2 : Int) < 0)) then (
      some true
    ) else (
      Option.bind (xAC N a0) fun r3 =>
      Option.bind (xAC N a1) fun r4 =>
      Option.bind (xAX N r3 r4) fun r5 =>
      Option.bind (xAC N a0) fun r6 =>
      Option.bind (xAC N a1) fun r7 =>
      Option.bind (xAK N r6 r7) fun r8 =>
      bif r8.2 then (
        if List.isEmpty (Val.list r8.1) = true then
        if List.isEmpty (Val.columns r8.1) = true then
        if List.isEmpty (Val.rows r8.1) = true then
        Option.bind (laws_eqValue N (Val.mk (Val.kind r8.1) (Val.n r8.1) (Val.step r8.1) (Val.text r8.1) [] [] []) r5) fun r9 =>
        bif (!r9) then (
          some false
        ) else (
          Option.bind (xAC N a0) fun r10 =>
          Option.bind (laws_eqValue N r6 r10) fun r11 =>
          bif (!r11) then (
            some false
          ) else (
            Option.bind (xAC N a1) fun r12 =>
            Option.bind (laws_eqValue N r7 r12) fun r13 =>
            bif (!r13) then (
              some false
            ) else (
              Option.bind (yDC N r6 1) fun r14 =>
              if List.length r14.2.1 = List.length (Val.list r6) then
              if List.length r14.2.2.1 = List.length (Val.columns r6) then
              if List.length r14.2.2.2 = List.length (Val.rows r6) then
              Option.bind (yDC N r7 r14.1) fun r15 =>
              if List.length r15.2.1 = List.length (Val.list r7) then
              if List.length r15.2.2.1 = List.length (Val.columns r7) then
              if List.length r15.2.2.2 = List.length (Val.rows r7) then
              bif (decide ((r15.1 : Int) < 0)) then (
                some false
              ) else (
                Option.bind (laws_eqValue N (Val.mk (Val.kind r8.1) (Val.n r8.1) (Val.step r8.1) (Val.text r8.1) [] [] []) r5) fun r16 =>
                bif (!r16) then (
                  some false
                ) else (
                  Option.bind (xAS N (Val.mk (Val.kind r8.1) (Val.n r8.1) (Val.step r8.1) (Val.text r8.1) [] [] []) 1) fun r17 =>
                  Option.bind (yDB N (Val.mk (Val.kind r8.1) (Val.n r8.1) (Val.step r8.1) (Val.text r8.1) [] [] []) 1) fun r18 =>
                  bif (decide ((r18 : Int) < 0)) then (
                    some false
                  ) else (
                    bif ((r18 : Int) != r17) then (
                      some false
                    ) else (
                      Option.bind (xAC N a0) fun r19 =>
                      Option.bind (xAC N a1) fun r20 =>
                      Option.bind (xAK N r19 r20) fun r21 =>
                      bif r21.2 then (
                        if List.isEmpty (Val.list r21.1) = true then
                        if List.isEmpty (Val.columns r21.1) = true then
                        if List.isEmpty (Val.rows r21.1) = true then
                        Option.bind (laws_eqValue N (Val.mk (Val.kind r21.1) (Val.n r21.1) (Val.step r21.1) (Val.text r21.1) [] [] []) r5) fun r22 =>
                        bif (!r22) then (
                          some false
                        ) else (
                          Option.bind (yDB N (Val.mk (Val.kind r8.1) (Val.n r8.1) (Val.step r8.1) (Val.text r8.1) [] [] []) 1) fun r23 =>
                          bif (decide ((r23 : Int) < 0)) then (
                            some false
                          ) else (
                            bif ((r23 : Int) != r17) then (
                              some false
                            ) else (
                              some true
                            )
                          )
                        )
                        else none
                        else none
                        else none
                      ) else (
                        Option.bind (laws_eqValue N r21.1 r5) fun r22 =>
                        bif (!r22) then (
                          some false
                        ) else (
                          Option.bind (yDB N (Val.mk (Val.kind r8.1) (Val.n r8.1) (Val.step r8.1) (Val.text r8.1) [] [] []) 1) fun r23 =>
                          bif (decide ((r23 : Int) < 0)) then (
                            some false
                          ) else (
                            bif ((r23 : Int) != r17) then (
                              some false
                            ) else (
                              some true
                            )
                          )
                        )
                      )
                    )
                  )
                )
              )
              else none
              else none
              else none
              else none
              else none
              else none
            )
          )
        )
        else none
        else none
        else none
      ) else (
        Option.bind (laws_eqValue N r8.1 r5) fun r9 =>
        bif (!r9) then (
          some false
        ) else (
          Option.bind (xAC N a0) fun r10 =>
          Option.bind (laws_eqValue N r6 r10) fun r11 =>
          bif (!r11) then (
            some false
          ) else (
            Option.bind (xAC N a1) fun r12 =>
            Option.bind (laws_eqValue N r7 r12) fun r13 =>
            bif (!r13) then (
              some false
            ) else (
              Option.bind (yDC N r6 1) fun r14 =>
              if List.length r14.2.1 = List.length (Val.list r6) then
              if List.length r14.2.2.1 = List.length (Val.columns r6) then
              if List.length r14.2.2.2 = List.length (Val.rows r6) then
              Option.bind (yDC N r7 r14.1) fun r15 =>
              if List.length r15.2.1 = List.length (Val.list r7) then
              if List.length r15.2.2.1 = List.length (Val.columns r7) then
              if List.length r15.2.2.2 = List.length (Val.rows r7) then
              bif (decide ((r15.1 : Int) < 0)) then (
                some false
              ) else (
                Option.bind (laws_eqValue N r8.1 r5) fun r16 =>
                bif (!r16) then (
                  some false
                ) else (
                  Option.bind (yDC N r8.1 1) fun r17 =>
                  if List.length r17.2.1 = List.length (Val.list r8.1) then
                  if List.length r17.2.2.1 = List.length (Val.columns r8.1) then
                  if List.length r17.2.2.2 = List.length (Val.rows r8.1) then
                  Option.bind (yDB N (Val.mk (Val.kind r8.1) (Val.n r8.1) (Val.step r8.1) (Val.text r8.1) r17.2.1 r17.2.2.1 r17.2.2.2) 1) fun r18 =>
                  bif (decide ((r18 : Int) < 0)) then (
                    some false
                  ) else (
                    bif ((r18 : Int) != r17.1) then (
                      some false
                    ) else (
                      Option.bind (xAC N a0) fun r19 =>
                      Option.bind (xAC N a1) fun r20 =>
                      Option.bind (xAK N r19 r20) fun r21 =>
                      bif r21.2 then (
                        if List.isEmpty (Val.list r21.1) = true then
                        if List.isEmpty (Val.columns r21.1) = true then
                        if List.isEmpty (Val.rows r21.1) = true then
                        Option.bind (laws_eqValue N (Val.mk (Val.kind r21.1) (Val.n r21.1) (Val.step r21.1) (Val.text r21.1) [] [] []) r5) fun r22 =>
                        bif (!r22) then (
                          some false
                        ) else (
                          Option.bind (yDB N (Val.mk (Val.kind r8.1) (Val.n r8.1) (Val.step r8.1) (Val.text r8.1) r17.2.1 r17.2.2.1 r17.2.2.2) 1) fun r23 =>
                          bif (decide ((r23 : Int) < 0)) then (
                            some false
                          ) else (
                            bif ((r23 : Int) != r17.1) then (
                              some false
                            ) else (
                              some true
                            )
                          )
                        )
                        else none
                        else none
                        else none
                      ) else (
                        Option.bind (laws_eqValue N r21.1 r5) fun r22 =>
                        bif (!r22) then (
                          some false
                        ) else (
                          Option.bind (yDB N (Val.mk (Val.kind r8.1) (Val.n r8.1) (Val.step r8.1) (Val.text r8.1) r17.2.1 r17.2.2.1 r17.2.2.2) 1) fun r23 =>
                          bif (decide ((r23 : Int) < 0)) then (
                            some false
                          ) else (
                            bif ((r23 : Int) != r17.1) then (
                              some false
                            ) else (
                              some true
                            )
                          )
                        )
                      )
                    )
                  )
                  else none
                  else none
                  else none
                )
              )
              else none
              else none
              else none
              else none
              else none
              else none
            )
          )
        )
      )
    )
  )
end Go.Ab
end
section
open Go.Proofs
namespace Go.Ab.T
set_option linter.unusedVariables false
set_option maxRecDepth 100000
noncomputable def xBh : Info := { body := (Try.f67.body).getD .skip, nt := 63, results := [.tmp 4], keep := [0, 2, 8, 10, 18], live := [(2, [0, 2, 10])], modes := [], ext := [], lnt := [], casts := [], fcast := [] }
theorem fk1000067 : FnOk Try.prog 67 Try.f67 xBh := ⟨Try.func67, by kernel_rfl, by kernel_rfl, by kernel_rfl, by kernel_rfl⟩
def S1000067_2 (x1 x5 : Int) : St := [(0, .v false [.sl .ro .val []]), (2, .v false [.int .i64 x1]), (10, .v false [.int .i64 x5])]
theorem p1000067_2_0 (x1 x5 : Int) : run tt (AbsCalls Try.prog) xBh 3000 true (stkAt 2 xBh.body) ⟨(S1000067_2 x1 x5), [false], [], []⟩ = some (.done (xAH x1) [(decide ((x5 : Int) < (0 : Int))) = false]) := by kernel_rfl
theorem p1000067_e_1 (a0 : List Val) (a1 : Int) : run tt (AbsCalls Try.prog) xBh 3000 false [.code xBh.body] ⟨(zBg 0 (xAY a0 a1)), [], [], []⟩ = some (.stop (stkAt 2 xBh.body) (S1000067_2 a1 0) []) := by kernel_rfl
theorem c1000067_2 {N : Nat} : ∀ n x1 x5 r, xAZ N n x1 x5 = some r → Reach Try.prog Try.f67 xBh (stkAt 2 xBh.body) (S1000067_2 x1 x5) (xAH r) := by
 intro n
 induction n with
 | zero => intro x1 x5 r h; have h' : (none : Option (Int)) = some r := h; cases h'
 | succ n ih =>
  intro x1 x5 r h
  rw [xAZ] at h
  rcases cond_inv h with ⟨h0, h⟩ | ⟨h0, h⟩
  ·obtain ⟨h1, h⟩ := ite_inv h
   cases h
  ·obtain rfl := Option.some.inj h
   exact Reach.done ttok mix fk1000067 (p1000067_2_0 x1 x5) (obs_cons h0 obs_nil)
theorem c1000067_e {N : Nat} : ∀ a0 a1 r, xA0 N a0 a1 = some r → Reach Try.prog Try.f67 xBh [.code xBh.body] (zBg 0 (xAY a0 a1)) (xAH r) := by
 intro a0 a1 r h
 unfold xA0 at h
 exact Reach.stop ttok mix fk1000067 (p1000067_e_1 a0 a1) obs_nil (c1000067_2   _ _ _ _ h)
theorem xBr {N : Nat} {a0 : List Val} {a1 : Int} {r : Int} (h : xA0 N  a0 a1 = some r) : AbC 67 (xAY a0 a1) (xAH r) :=
 AbsCalls.of_reach fk1000067 rfl rfl (Nat.le_of_ble_eq_true rfl) (c1000067_e a0 a1 r h)
theorem xAc {N : Nat} {a0 : Val} {a1 : Int} {r : Int} (h : xBm N a0 a1 = some r) : AbC 24 (yAG a0 a1) (yAw r) := (laws_szValue_fix_ok N).1 _ _ r h
theorem xAa {N : Nat} {a0 : Val} {r : Val} (h : xAC N a0 = some r) : AbC 26 (yBl a0) (yBb r) := (laws_toValue_fix_ok N).1 _ r h
noncomputable def xBi : Info := { body := (Try.f80.body).getD .skip, nt := 20, results := [.tmp 4], keep := [0, 2, 8, 10, 18], live := [(2, [0, 2, 10])], modes := [], ext := [], lnt := [], casts := [], fcast := [] }
theorem fk1000080 : FnOk Try.prog 80 Try.f80 xBi := ⟨Try.func80, by kernel_rfl, by kernel_rfl, by kernel_rfl, by kernel_rfl⟩
def S1000080_2 (x1 x5 : Int) : St := [(0, .v false [.sl .ro .str []]), (2, .v false [.int .i64 x1]), (10, .v false [.int .i64 x5])]
theorem p1000080_2_0 (x1 x5 : Int) : run tt (AbsCalls Try.prog) xBi 3000 true (stkAt 2 xBi.body) ⟨(S1000080_2 x1 x5), [false], [], []⟩ = some (.done (xAE x1) [(decide ((x5 : Int) < (0 : Int))) = false]) := by kernel_rfl
theorem p1000080_e_1 (a0 : List Str) (a1 : Int) : run tt (AbsCalls Try.prog) xBi 3000 false [.code xBi.body] ⟨(zBg 0 (xAV a0 a1)), [], [], []⟩ = some (.stop (stkAt 2 xBi.body) (S1000080_2 a1 0) []) := by kernel_rfl
theorem c1000080_2 {N : Nat} : ∀ n x1 x5 r, xAW N n x1 x5 = some r → Reach Try.prog Try.f80 xBi (stkAt 2 xBi.body) (S1000080_2 x1 x5) (xAE r) := by
 intro n
 induction n with
 | zero => intro x1 x5 r h; have h' : (none : Option (Int)) = some r := h; cases h'
 | succ n ih =>
  intro x1 x5 r h
  rw [xAW] at h
  rcases cond_inv h with ⟨h0, h⟩ | ⟨h0, h⟩
  ·obtain ⟨r1, h1, h⟩ := bind_inv h
   obtain ⟨h2, h⟩ := ite_inv h
   cases h
  ·obtain rfl := Option.some.inj h
   exact Reach.done ttok mix fk1000080 (p1000080_2_0 x1 x5) (obs_cons h0 obs_nil)
theorem c1000080_e {N : Nat} : ∀ a0 a1 r, xAU N a0 a1 = some r → Reach Try.prog Try.f80 xBi [.code xBi.body] (zBg 0 (xAV a0 a1)) (xAE r) := by
 intro a0 a1 r h
 unfold xAU at h
 exact Reach.stop ttok mix fk1000080 (p1000080_e_1 a0 a1) obs_nil (c1000080_2   _ _ _ _ h)
theorem xBq {N : Nat} {a0 : List Str} {a1 : Int} {r : Int} (h : xAU N  a0 a1 = some r) : AbC 80 (xAV a0 a1) (xAE r) :=
 AbsCalls.of_reach fk1000080 rfl rfl (Nat.le_of_ble_eq_true rfl) (c1000080_e a0 a1 r h)
end Go.Ab.T
end
section
open Go.Proofs
namespace Go.Ab.T
set_option linter.unusedVariables false
set_option maxRecDepth 100000
noncomputable def xBj : Info := { body := (Try.f81.body).getD .skip, nt := 27, results := [.tmp 4], keep := [0, 2, 8, 10, 18], live := [(2, [0, 2, 10])], modes := [], ext := [], lnt := [], casts := [], fcast := [] }
theorem fk1000081 : FnOk Try.prog 81 Try.f81 xBj := ⟨Try.func81, by kernel_rfl, by kernel_rfl, by kernel_rfl, by kernel_rfl⟩
def S1000081_2 (x1 x5 : Int) : St := [(0, .v false [.sl .ro .row []]), (2, .v false [.int .i64 x1]), (10, .v false [.int .i64 x5])]
theorem p1000081_2_0 (x1 x5 : Int) : run tt (AbsCalls Try.prog) xBj 3000 true (stkAt 2 xBj.body) ⟨(S1000081_2 x1 x5), [false], [], []⟩ = some (.done (xAN x1) [(decide ((x5 : Int) < (0 : Int))) = false]) := by kernel_rfl
theorem p1000081_e_1 (a0 : List Rowd) (a1 : Int) : run tt (AbsCalls Try.prog) xBj 3000 false [.code xBj.body] ⟨(zBg 0 (xA8 a0 a1)), [], [], []⟩ = some (.stop (stkAt 2 xBj.body) (S1000081_2 a1 0) []) := by kernel_rfl
theorem c1000081_2 {N : Nat} : ∀ n x1 x5 r, xA9 N n x1 x5 = some r → Reach Try.prog Try.f81 xBj (stkAt 2 xBj.body) (S1000081_2 x1 x5) (xAN r) := by
 intro n
 induction n with
 | zero => intro x1 x5 r h; have h' : (none : Option (Int)) = some r := h; cases h'
 | succ n ih =>
  intro x1 x5 r h
  rw [xA9] at h
  rcases cond_inv h with ⟨h0, h⟩ | ⟨h0, h⟩
  ·obtain ⟨h1, h⟩ := ite_inv h
   cases h
  ·obtain rfl := Option.some.inj h
   exact Reach.done ttok mix fk1000081 (p1000081_2_0 x1 x5) (obs_cons h0 obs_nil)
theorem c1000081_e {N : Nat} : ∀ a0 a1 r, xBa N a0 a1 = some r → Reach Try.prog Try.f81 xBj [.code xBj.body] (zBg 0 (xA8 a0 a1)) (xAN r) := by
 intro a0 a1 r h
 unfold xBa at h
 exact Reach.stop ttok mix fk1000081 (p1000081_e_1 a0 a1) obs_nil (c1000081_2   _ _ _ _ h)
theorem laws_markRowS_E_ok {N : Nat} {a0 : List Rowd} {a1 : Int} {r : Int} (h : xBa N  a0 a1 = some r) : AbC 81 (xA8 a0 a1) (xAN r) :=
 AbsCalls.of_reach fk1000081 rfl rfl (Nat.le_of_ble_eq_true rfl) (c1000081_e a0 a1 r h)
noncomputable def I1000022 : Info := { body := (Try.f22.body).getD .skip, nt := 18, results := [.tmp 4], keep := [0, 2, 4, 8, 5], live := [], modes := [], ext := [], lnt := [], casts := [], fcast := [] }
theorem fk1000022 : FnOk Try.prog 22 Try.f22 I1000022 := ⟨Try.func22, by kernel_rfl, by kernel_rfl, by kernel_rfl, by kernel_rfl⟩
theorem p1000022_e_0 (a0 : Val) (a1 r1 r2 r3 : Int) : run tt (AbsCalls Try.prog) I1000022 3000 false [.code I1000022.body] ⟨(zBg 0 (xAp a0 a1)), [], [xAH r1, xAE r2, xAN r3], []⟩ = some (.done (xAl r3) [AbC 67 (xAY [] a1) (xAH r1), AbC 80 (xAV [] r1) (xAE r2), AbC 81 (xA8 [] r2) (xAN r3)]) := by kernel_rfl
theorem c1000022_e {N : Nat} : ∀ a0 a1 r, xAS N a0 a1 = some r → Reach Try.prog Try.f22 I1000022 [.code I1000022.body] (zBg 0 (xAp a0 a1)) (xAl r) := by
 intro a0 a1 r h
 unfold xAS at h
 obtain ⟨r1, h0, h⟩ := bind_inv h
 obtain ⟨r2, h1, h⟩ := bind_inv h
 obtain ⟨r3, h2, h⟩ := bind_inv h
 obtain rfl := Option.some.inj h
 exact Reach.done ttok mix fk1000022 (p1000022_e_0 a0 a1 r1 r2 r3) (obs_cons (xBr h0) (obs_cons (xBq h1) (obs_cons (laws_markRowS_E_ok h2) obs_nil)))
theorem xAu {N : Nat} {a0 : Val} {a1 : Int} {r : Int} (h : xAS N  a0 a1 = some r) : AbC 22 (xAp a0 a1) (xAl r) :=
 AbsCalls.of_reach fk1000022 rfl rfl (Nat.le_of_ble_eq_true rfl) (c1000022_e a0 a1 r h)
end Go.Ab.T
end
section
open Go.Proofs
namespace Go.Ab.T
set_option linter.unusedVariables false
set_option maxRecDepth 100000
noncomputable def I96 : Info := { body := (Try.f96.body).getD .skip, nt := 5, results := [.cell 2 28], keep := [0, 4, 5], live := [], modes := [], ext := [], lnt := [], casts := [], fcast := [] }
theorem fk96 : FnOk Try.prog 96 Try.f96 I96 := ⟨Try.func96, by kernel_rfl, by kernel_rfl, by kernel_rfl, by kernel_rfl⟩
theorem p96_e_0 (a0 : Int) : run tt (AbsCalls Try.prog) I96 3000 false [.code I96.body] ⟨(zBg 0 (xA2 a0)), [], [], []⟩ = some (.done (xAR (Val.mk 1 a0 0 [] [] [] [])) []) := by kernel_rfl
theorem c96_e {N : Nat} : ∀ a0 r, xA4 N a0 = some r → Reach Try.prog Try.f96 I96 [.code I96.body] (zBg 0 (xA2 a0)) (xAR r) := by
 intro a0 r h
 unfold xA4 at h
 obtain rfl := Option.some.inj h
 exact Reach.done ttok mix fk96 (p96_e_0 a0) obs_nil
theorem xBv {N : Nat} {a0 : Int} {r : Val} (h : xA4 N  a0 = some r) : AbC 96 (xA2 a0) (xAR r) :=
 AbsCalls.of_reach fk96 rfl rfl (Nat.le_of_ble_eq_true rfl) (c96_e a0 r h)
noncomputable def I105 : Info := { body := (Try.f105.body).getD .skip, nt := 5, results := [.cell 2 28], keep := [0, 4, 5], live := [], modes := [], ext := [], lnt := [], casts := [], fcast := [] }
theorem fk105 : FnOk Try.prog 105 Try.f105 I105 := ⟨Try.func105, by kernel_rfl, by kernel_rfl, by kernel_rfl, by kernel_rfl⟩
theorem p105_e_0 (a0 : Int) : run tt (AbsCalls Try.prog) I105 3000 false [.code I105.body] ⟨(zBg 0 (xA1 a0)), [], [], []⟩ = some (.done (xAP (Val.mk 1 a0 0 [] [] [] [])) []) := by kernel_rfl
theorem c105_e {N : Nat} : ∀ a0 r, xA3 N a0 = some r → Reach Try.prog Try.f105 I105 [.code I105.body] (zBg 0 (xA1 a0)) (xAP r) := by
 intro a0 r h
 unfold xA3 at h
 obtain rfl := Option.some.inj h
 exact Reach.done ttok mix fk105 (p105_e_0 a0) obs_nil
theorem xBt {N : Nat} {a0 : Int} {r : Val} (h : xA3 N  a0 = some r) : AbC 105 (xA1 a0) (xAP r) :=
 AbsCalls.of_reach fk105 rfl rfl (Nat.le_of_ble_eq_true rfl) (c105_e a0 r h)
end Go.Ab.T
end
section
open Go.Proofs
namespace Go.Ab.T
set_option linter.unusedVariables false
set_option maxRecDepth 100000
noncomputable def I110 : Info := { body := (Try.f110.body).getD .skip, nt := 34, results := [.cell 4 28, .tmp 5], keep := [0, 2, 8, 10, 12, 14, 16, 28, 38, 62, 9, 13], live := [(5, [0, 2, 8, 16, 9])], modes := [(1, [(2, .take, false)]), (2, [(0, .take, false)]), (3, [(0, .take, false)])], ext := [], lnt := [], casts := [], fcast := [] }
theorem fk110 : FnOk Try.prog 110 Try.f110 I110 := ⟨Try.func110, by kernel_rfl, by kernel_rfl, by kernel_rfl, by kernel_rfl⟩
def S110_5 (x0 : List Val) (x1 : List Int) (x8 : Int) (b4 : Val) : St := [(0, .v false [.sl .ro .val x0]), (2, .v false [.sl .ro .int x1]), (8, .v false [.ptr 4 0]), (16, .v false [.int .i64 x8]), (9, .v true [.int .i64 (Val.kind b4), .int .i64 (Val.n b4), .int .i64 (Val.step b4), .str (Val.text b4), .sl .own .val (Val.list b4), .sl .own .str (Val.columns b4), .sl .own .row (Val.rows b4)])]
theorem p110_5_0 (x0 : List Val) (x1 : List Int) (x8 : Int) (b4 r1 : Val) : run tt (AbsCalls Try.prog) I110 3000 true (stkAt 5 I110.body) ⟨(S110_5 x0 x1 x8 b4), [true, true], [yBL r1], []⟩ = some (.done (xAt (r1, true)) [(decide ((x8 : Int) < (List.length x0 : Int))) = true, (0 : Int) ≤ x8 ∧ x8 < (List.length x0), (0 : Int) ≤ x8 ∧ x8 < (List.length x1), (((Val.kind (List.getD x0 (Int.toNat x8) Ty.val.dflt)) : Int) != (List.getD x1 (Int.toNat x8) Ty.int.dflt)) = true, AbC 72 (yCT 4) (yBL r1)]) := by kernel_rfl
theorem p110_5_1 (x0 : List Val) (x1 : List Int) (x8 : Int) (b4 : Val) : run tt (AbsCalls Try.prog) I110 3000 true (stkAt 5 I110.body) ⟨(S110_5 x0 x1 x8 b4), [true, false], [], []⟩ = some (.stop (stkAt 5 I110.body) (S110_5 x0 x1 (IntKind.i64.wrap (x8 + 1)) b4) [(decide ((x8 : Int) < (List.length x0 : Int))) = true, (0 : Int) ≤ x8 ∧ x8 < (List.length x0), (0 : Int) ≤ x8 ∧ x8 < (List.length x1), (((Val.kind (List.getD x0 (Int.toNat x8) Ty.val.dflt)) : Int) != (List.getD x1 (Int.toNat x8) Ty.int.dflt)) = false]) := by kernel_rfl
theorem p110_5_2 (x0 : List Val) (x1 : List Int) (x8 : Int) (b4 : Val) : run tt (AbsCalls Try.prog) I110 3000 true (stkAt 5 I110.body) ⟨(S110_5 x0 x1 x8 b4), [false], [], []⟩ = some (.done (xAt ((Val.mk 0 0 0 [] [] [] []), false)) [(decide ((x8 : Int) < (List.length x0 : Int))) = false]) := by kernel_rfl
theorem p110_e_3 (a0 : List Val) (a1 : List Int) (r1 : Val × Bool) : run tt (AbsCalls Try.prog) I110 3000 false [.code I110.body] ⟨(zBg 0 (xAM a0 a1)), [true], [yDc r1], []⟩ = some (.done (xAt (r1.1, true)) [AbC 112 (yFa a0) (yDc r1), r1.2 = true]) := by kernel_rfl
theorem p110_e_4 (a0 : List Val) (a1 : List Int) (r1 : Val × Bool) : run tt (AbsCalls Try.prog) I110 3000 false [.code I110.body] ⟨(zBg 0 (xAM a0 a1)), [false], [yDc r1], []⟩ = some (.stop (stkAt 5 I110.body) (S110_5 a0 a1 0 (Val.mk 0 0 0 [] [] [] [])) [AbC 112 (yFa a0) (yDc r1), r1.2 = false]) := by kernel_rfl
theorem c110_5 {N : Nat} : ∀ n x0 x1 x8 b4 r, xAG N n x0 x1 x8 b4 = some r → Reach Try.prog Try.f110 I110 (stkAt 5 I110.body) (S110_5 x0 x1 x8 b4) (xAt r) := by
 intro n
 induction n with
 | zero => intro x0 x1 x8 b4 r h; have h' : (none : Option (Val × Bool)) = some r := h; cases h'
 | succ n ih =>
  intro x0 x1 x8 b4 r h
  rw [xAG] at h
  rcases cond_inv h with ⟨h0, h⟩ | ⟨h0, h⟩
  ·obtain ⟨h1, h⟩ := ite_inv h
   obtain ⟨h2, h⟩ := ite_inv h
   rcases cond_inv h with ⟨h3, h⟩ | ⟨h3, h⟩
   ·obtain ⟨r1, h4, h⟩ := bind_inv h
    obtain rfl := Option.some.inj h
    exact Reach.done ttok mix fk110 (p110_5_0 x0 x1 x8 b4 r1) (obs_cons h0 (obs_cons h1 (obs_cons h2 (obs_cons h3 (obs_cons (yFf h4) obs_nil)))))
   ·exact Reach.stop ttok mix fk110 (p110_5_1 x0 x1 x8 b4) (obs_cons h0 (obs_cons h1 (obs_cons h2 (obs_cons h3 obs_nil)))) (ih _ _ _ _ _ h)
  ·obtain rfl := Option.some.inj h
   exact Reach.done ttok mix fk110 (p110_5_2 x0 x1 x8 b4) (obs_cons h0 obs_nil)
theorem c110_e {N : Nat} : ∀ a0 a1 r, xBc N a0 a1 = some r → Reach Try.prog Try.f110 I110 [.code I110.body] (zBg 0 (xAM a0 a1)) (xAt r) := by
 intro a0 a1 r h
 unfold xBc at h
 obtain ⟨r1, h0, h⟩ := bind_inv h
 rcases cond_inv h with ⟨h1, h⟩ | ⟨h1, h⟩
 ·obtain rfl := Option.some.inj h
  exact Reach.done ttok mix fk110 (p110_e_3 a0 a1 r1) (obs_cons (spec_l5First_ok h0) (obs_cons h1 obs_nil))
 ·exact Reach.stop ttok mix fk110 (p110_e_4 a0 a1 r1) (obs_cons (spec_l5First_ok h0) (obs_cons h1 obs_nil)) (c110_5   _ _ _ _ _ _ h)
theorem xBf {N : Nat} {a0 : List Val} {a1 : List Int} {r : Val × Bool} (h : xBc N  a0 a1 = some r) : AbC 110 (xAM a0 a1) (xAt r) :=
 AbsCalls.of_reach fk110 rfl rfl (Nat.le_of_ble_eq_true rfl) (c110_e a0 a1 r h)
theorem impl_kindError_toR {P : Program} {f : FuncId} {ags : List Arg} {r : Val × Bool × Bool} (h : AbsCalls P f ags (xAs r)) (ht : r.2.2 = true) : AbsCalls P f ags (xBd r) := by
 unfold xAs at h; rw [ht] at h; exact h
theorem xA7 {P : Program} {f : FuncId} {ags : List Arg} {r : Val × Bool × Bool} (h : AbsCalls P f ags (xAs r)) (ht : r.2.2 = false) : AbsCalls P f ags (xAv r) := by
 unfold xAs at h; rw [ht] at h; exact h
theorem xA6 {P : Program} {f : FuncId} {ags : List Arg} {r : Val × Bool × Bool} (h : AbsCalls P f ags (xAs r)) (ht : r.2.2 = true) (e0 : List.isEmpty (Val.list r.1) = true) (e1 : List.isEmpty (Val.columns r.1) = true) (e2 : List.isEmpty (Val.rows r.1) = true) : AbsCalls P f ags (xAz r) := by
 have h := impl_kindError_toR h ht
 unfold xBd at h; rw [List.isEmpty_iff.1 e0, List.isEmpty_iff.1 e1, List.isEmpty_iff.1 e2] at h; exact h
noncomputable def I111 : Info := { body := (Try.f111.body).getD .skip, nt := 34, results := [.cell 4 28, .tmp 5], keep := [0, 2, 8, 10, 12, 14, 16, 18, 30, 34, 36, 38, 40, 60, 9, 13, 19], live := [(5, [0, 8, 34, 36, 38, 9])], modes := [(1, [(2, .take, false)]), (2, [(0, .take, false)]), (3, [(0, .take, false)]), (7, [(3, .take, false)]), (9, [(1, .take, false)])], ext := [], lnt := [], casts := [], fcast := [] }
theorem fk111 : FnOk Try.prog 111 Try.f111 I111 := ⟨Try.func111, by kernel_rfl, by kernel_rfl, by kernel_rfl, by kernel_rfl⟩
def S111_5 (x0 : List Int) (x17 : List Val) (x18 x19 : Int) (b4 : Val) : St := [(0, .v false [.sl .ro .int x0]), (8, .v false [.ptr 4 0]), (34, .v false [.sl .ro .val x17]), (36, .v false [.int .i64 x18]), (38, .v false [.int .i64 x19]), (9, .v true [.int .i64 (Val.kind b4), .int .i64 (Val.n b4), .int .i64 (Val.step b4), .str (Val.text b4), .sl .own .val (Val.list b4), .sl .own .str (Val.columns b4), .sl .own .row (Val.rows b4)])]
theorem p111_5_0 (x0 : List Int) (x17 : List Val) (x18 x19 : Int) (b4 r1 : Val) : run tt (AbsCalls Try.prog) I111 3000 true (stkAt 5 I111.body) ⟨(S111_5 x0 x17 x18 x19 b4), [true, true], [yCS r1], []⟩ = some (.done (xAs (r1, true, false)) [(decide ((x19 : Int) < x18)) = true, (0 : Int) ≤ x19 ∧ x19 < (List.length x17), (0 : Int) ≤ x19 ∧ x19 < (List.length x0), (((Val.kind (List.getD x17 (Int.toNat x19) Ty.val.dflt)) : Int) != (List.getD x0 (Int.toNat x19) Ty.int.dflt)) = true, AbC 75 (yDI 4) (yCS r1)]) := by kernel_rfl
theorem p111_5_1 (x0 : List Int) (x17 : List Val) (x18 x19 : Int) (b4 : Val) : run tt (AbsCalls Try.prog) I111 3000 true (stkAt 5 I111.body) ⟨(S111_5 x0 x17 x18 x19 b4), [true, false], [], []⟩ = some (.stop (stkAt 5 I111.body) (S111_5 x0 x17 x18 (IntKind.i64.wrap (x19 + 1)) b4) [(decide ((x19 : Int) < x18)) = true, (0 : Int) ≤ x19 ∧ x19 < (List.length x17), (0 : Int) ≤ x19 ∧ x19 < (List.length x0), (((Val.kind (List.getD x17 (Int.toNat x19) Ty.val.dflt)) : Int) != (List.getD x0 (Int.toNat x19) Ty.int.dflt)) = false]) := by kernel_rfl
theorem p111_5_2 (x0 : List Int) (x17 : List Val) (x18 x19 : Int) (b4 : Val) : run tt (AbsCalls Try.prog) I111 3000 true (stkAt 5 I111.body) ⟨(S111_5 x0 x17 x18 x19 b4), [false], [], []⟩ = some (.done (xAs ((Val.mk 0 0 0 [] [] [] []), false, false)) [(decide ((x19 : Int) < x18)) = false]) := by kernel_rfl
theorem p111_e_3 (a0 : List Int) (a1 : List Val) (r1 : Val × Bool × Bool) : run tt (AbsCalls Try.prog) I111 3000 false [.code I111.body] ⟨(zBg 0 (xAq a0 a1)), [true], [yEM r1], []⟩ = some (.done (xAs (r1.1, true, true)) [AbC 114 (yD5 a1) (yEM r1), r1.2.1 = true]) := by kernel_rfl
theorem p111_e_4 (a0 : List Int) (a1 : List Val) (r1 : Val × Bool × Bool) : run tt (AbsCalls Try.prog) I111 3000 false [.code I111.body] ⟨(zBg 0 (xAq a0 a1)), [false], [yEM r1], []⟩ = some (.stop (stkAt 5 I111.body) (S111_5 a0 a1 (List.length a1 : Int) 0 (Val.mk 0 0 0 [] [] [] [])) [AbC 114 (yD5 a1) (yEM r1), r1.2.1 = false]) := by kernel_rfl
theorem p111_e_5 (a0 : List Int) (a1 : List Val) (r1 : Val × Bool × Bool) : run tt (AbsCalls Try.prog) I111 3000 false [.code I111.body] ⟨(zBg 0 (xAq a0 a1)), [true], [yEL r1], []⟩ = some (.done (xAs (r1.1, true, false)) [AbC 114 (yD5 a1) (yEL r1), r1.2.1 = true]) := by kernel_rfl
theorem p111_e_6 (a0 : List Int) (a1 : List Val) (r1 : Val × Bool × Bool) : run tt (AbsCalls Try.prog) I111 3000 false [.code I111.body] ⟨(zBg 0 (xAq a0 a1)), [false], [yEL r1], []⟩ = some (.stop (stkAt 5 I111.body) (S111_5 a0 a1 (List.length a1 : Int) 0 (Val.mk 0 0 0 [] [] [] [])) [AbC 114 (yD5 a1) (yEL r1), r1.2.1 = false]) := by kernel_rfl
theorem c111_5 {N : Nat} : ∀ n x0 x17 x18 x19 b4 r, xAy N n x0 x17 x18 x19 b4 = some r → Reach Try.prog Try.f111 I111 (stkAt 5 I111.body) (S111_5 x0 x17 x18 x19 b4) (xAs r) := by
 intro n
 induction n with
 | zero => intro x0 x17 x18 x19 b4 r h; have h' : (none : Option (Val × Bool × Bool)) = some r := h; cases h'
 | succ n ih =>
  intro x0 x17 x18 x19 b4 r h
  rw [xAy] at h
  rcases cond_inv h with ⟨h0, h⟩ | ⟨h0, h⟩
  ·obtain ⟨h1, h⟩ := ite_inv h
   obtain ⟨h2, h⟩ := ite_inv h
   rcases cond_inv h with ⟨h3, h⟩ | ⟨h3, h⟩
   ·obtain ⟨r1, h4, h⟩ := bind_inv h
    obtain rfl := Option.some.inj h
    exact Reach.done ttok mix fk111 (p111_5_0 x0 x17 x18 x19 b4 r1) (obs_cons h0 (obs_cons h1 (obs_cons h2 (obs_cons h3 (obs_cons (impl_ErrorValue_ok h4) obs_nil)))))
   ·exact Reach.stop ttok mix fk111 (p111_5_1 x0 x17 x18 x19 b4) (obs_cons h0 (obs_cons h1 (obs_cons h2 (obs_cons h3 obs_nil)))) (ih _ _ _ _ _ _ h)
  ·obtain rfl := Option.some.inj h
   exact Reach.done ttok mix fk111 (p111_5_2 x0 x17 x18 x19 b4) (obs_cons h0 obs_nil)
theorem c111_e {N : Nat} : ∀ a0 a1 r, xA5 N a0 a1 = some r → Reach Try.prog Try.f111 I111 [.code I111.body] (zBg 0 (xAq a0 a1)) (xAs r) := by
 intro a0 a1 r h
 unfold xA5 at h
 obtain ⟨r1, h0, h⟩ := bind_inv h
 rcases cond_inv h with ⟨h1, h⟩ | ⟨h1, h⟩
 ·rcases cond_inv h with ⟨h2, h⟩ | ⟨h2, h⟩
  ·obtain rfl := Option.some.inj h
   exact Reach.done ttok mix fk111 (p111_e_3 a0 a1 r1) (obs_cons (impl_operandError_toR (impl_operandError_ok h0) h1) (obs_cons h2 obs_nil))
  ·exact Reach.stop ttok mix fk111 (p111_e_4 a0 a1 r1) (obs_cons (impl_operandError_toR (impl_operandError_ok h0) h1) (obs_cons h2 obs_nil)) (c111_5   _ _ _ _ _ _ _ h)
 ·rcases cond_inv h with ⟨h2, h⟩ | ⟨h2, h⟩
  ·obtain rfl := Option.some.inj h
   exact Reach.done ttok mix fk111 (p111_e_5 a0 a1 r1) (obs_cons (impl_operandError_toO (impl_operandError_ok h0) h1) (obs_cons h2 obs_nil))
  ·exact Reach.stop ttok mix fk111 (p111_e_6 a0 a1 r1) (obs_cons (impl_operandError_toO (impl_operandError_ok h0) h1) (obs_cons h2 obs_nil)) (c111_5   _ _ _ _ _ _ _ h)
theorem xAD {N : Nat} {a0 : List Int} {a1 : List Val} {r : Val × Bool × Bool} (h : xA5 N  a0 a1 = some r) : AbC 111 (xAq a0 a1) (xAs r) :=
 AbsCalls.of_reach fk111 rfl rfl (Nat.le_of_ble_eq_true rfl) (c111_e a0 a1 r h)
end Go.Ab.T
end
section
open Go.Proofs
namespace Go.Ab.T
set_option linter.unusedVariables false
set_option maxRecDepth 100000
noncomputable def I145 : Info := { body := (Try.f145.body).getD .skip, nt := 19, results := [.tmp 4], keep := [0, 2, 8, 10, 18, 34], live := [(2, [0, 2, 10])], modes := [], ext := [], lnt := [], casts := [], fcast := [] }
theorem fk145 : FnOk Try.prog 145 Try.f145 I145 := ⟨Try.func145, by kernel_rfl, by kernel_rfl, by kernel_rfl, by kernel_rfl⟩
def S145_2 (x0 : List Str) (x1 : Str) (x5 : Int) : St := [(0, .v false [.sl .ro .str x0]), (2, .v false [.str x1]), (10, .v false [.int .i64 x5])]
theorem p145_2_0 (x0 : List Str) (x1 : Str) (x5 : Int) : run tt (AbsCalls Try.prog) I145 3000 true (stkAt 2 I145.body) ⟨(S145_2 x0 x1 x5), [true, true], [], []⟩ = some (.done (xAQ x5) [(decide ((x5 : Int) < (List.length x0 : Int))) = true, (0 : Int) ≤ x5 ∧ x5 < (List.length x0), (((List.getD x0 (Int.toNat x5) Ty.str.dflt) : Str) == x1) = true]) := by kernel_rfl
theorem p145_2_1 (x0 : List Str) (x1 : Str) (x5 : Int) : run tt (AbsCalls Try.prog) I145 3000 true (stkAt 2 I145.body) ⟨(S145_2 x0 x1 x5), [true, false], [], []⟩ = some (.stop (stkAt 2 I145.body) (S145_2 x0 x1 (IntKind.i64.wrap (x5 + 1))) [(decide ((x5 : Int) < (List.length x0 : Int))) = true, (0 : Int) ≤ x5 ∧ x5 < (List.length x0), (((List.getD x0 (Int.toNat x5) Ty.str.dflt) : Str) == x1) = false]) := by kernel_rfl
theorem p145_2_2 (x0 : List Str) (x1 : Str) (x5 : Int) : run tt (AbsCalls Try.prog) I145 3000 true (stkAt 2 I145.body) ⟨(S145_2 x0 x1 x5), [false], [], []⟩ = some (.done (xAQ (-1)) [(decide ((x5 : Int) < (List.length x0 : Int))) = false]) := by kernel_rfl
theorem p145_e_3 (a0 : List Str) (a1 : Str) : run tt (AbsCalls Try.prog) I145 3000 false [.code I145.body] ⟨(zBg 0 (xBe a0 a1)), [], [], []⟩ = some (.stop (stkAt 2 I145.body) (S145_2 a0 a1 0) []) := by kernel_rfl
theorem c145_2 {N : Nat} : ∀ n x0 x1 x5 r, xAL N n x0 x1 x5 = some r → Reach Try.prog Try.f145 I145 (stkAt 2 I145.body) (S145_2 x0 x1 x5) (xAQ r) := by
 intro n
 induction n with
 | zero => intro x0 x1 x5 r h; have h' : (none : Option (Int)) = some r := h; cases h'
 | succ n ih =>
  intro x0 x1 x5 r h
  rw [xAL] at h
  rcases cond_inv h with ⟨h0, h⟩ | ⟨h0, h⟩
  ·obtain ⟨h1, h⟩ := ite_inv h
   rcases cond_inv h with ⟨h2, h⟩ | ⟨h2, h⟩
   ·obtain rfl := Option.some.inj h
    exact Reach.done ttok mix fk145 (p145_2_0 x0 x1 x5) (obs_cons h0 (obs_cons h1 (obs_cons h2 obs_nil)))
   ·exact Reach.stop ttok mix fk145 (p145_2_1 x0 x1 x5) (obs_cons h0 (obs_cons h1 (obs_cons h2 obs_nil))) (ih _ _ _ _ h)
  ·obtain rfl := Option.some.inj h
   exact Reach.done ttok mix fk145 (p145_2_2 x0 x1 x5) (obs_cons h0 obs_nil)
theorem c145_e {N : Nat} : ∀ a0 a1 r, xBk N a0 a1 = some r → Reach Try.prog Try.f145 I145 [.code I145.body] (zBg 0 (xBe a0 a1)) (xAQ r) := by
 intro a0 a1 r h
 unfold xBk at h
 exact Reach.stop ttok mix fk145 (p145_e_3 a0 a1) obs_nil (c145_2   _ _ _ _ _ h)
theorem spec_IndexOf_ok {N : Nat} {a0 : List Str} {a1 : Str} {r : Int} (h : xBk N  a0 a1 = some r) : AbC 145 (xBe a0 a1) (xAQ r) :=
 AbsCalls.of_reach fk145 rfl rfl (Nat.le_of_ble_eq_true rfl) (c145_e a0 a1 r h)
noncomputable def I121 : Info := { body := (Try.f121.body).getD .skip, nt := 9, results := [.tmp 4], keep := [0, 2, 4, 8, 5], live := [], modes := [], ext := [], lnt := [], casts := [], fcast := [] }
theorem fk121 : FnOk Try.prog 121 Try.f121 I121 := ⟨Try.func121, by kernel_rfl, by kernel_rfl, by kernel_rfl, by kernel_rfl⟩
theorem p121_e_0 (a0 : Val) (a1 : Str) (r1 : Int) : run tt (AbsCalls Try.prog) I121 3000 false [.code I121.body] ⟨(zBg 0 (xAJ a0 a1)), [], [xAQ r1], []⟩ = some (.done (xAx r1) [AbC 145 (xBe (Val.columns a0) a1) (xAQ r1)]) := by kernel_rfl
theorem c121_e {N : Nat} : ∀ a0 a1 r, xAT N a0 a1 = some r → Reach Try.prog Try.f121 I121 [.code I121.body] (zBg 0 (xAJ a0 a1)) (xAx r) := by
 intro a0 a1 r h
 unfold xAT at h
 obtain ⟨r1, h0, h⟩ := bind_inv h
 obtain rfl := Option.some.inj h
 exact Reach.done ttok mix fk121 (p121_e_0 a0 a1 r1) (obs_cons (spec_IndexOf_ok h0) obs_nil)
theorem xBb {N : Nat} {a0 : Val} {a1 : Str} {r : Int} (h : xAT N  a0 a1 = some r) : AbC 121 (xAJ a0 a1) (xAx r) :=
 AbsCalls.of_reach fk121 rfl rfl (Nat.le_of_ble_eq_true rfl) (c121_e a0 a1 r h)
noncomputable def I60 : Info := { body := (Try.f60.body).getD .skip, nt := 56, results := [.cell 4 28], keep := [0, 2, 4, 6, 8, 10, 12, 14, 16, 18, 36, 50, 60, 74, 5, 7, 9, 11, 17], live := [(11, [6, 8, 14, 16, 18, 7, 9, 17])], modes := [(1, [(5, .take, false)]), (2, [(0, .take, false)]), (3, [(0, .take, false)]), (13, [(1, .take, false), (13, .take, false)]), (14, [(0, .take, false)])], ext := [], lnt := [], casts := [], fcast := [] }
theorem fk60 : FnOk Try.prog 60 Try.f60 I60 := ⟨Try.func60, by kernel_rfl, by kernel_rfl, by kernel_rfl, by kernel_rfl⟩
def S60_11 (x7 x9 : Int) (b3 b4 b8 : Val) : St := [(6, .v false [.ptr 3 0]), (8, .v false [.ptr 4 0]), (14, .v false [.int .i64 x7]), (16, .v false [.ptr 8 0]), (18, .v false [.int .i64 x9]), (7, .v true [.int .i64 (Val.kind b3), .int .i64 (Val.n b3), .int .i64 (Val.step b3), .str (Val.text b3), .sl .ro .val (Val.list b3), .sl .ro .str (Val.columns b3), .sl .ro .row (Val.rows b3)]), (9, .v true [.int .i64 (Val.kind b4), .int .i64 (Val.n b4), .int .i64 (Val.step b4), .str (Val.text b4), .sl .own .val (Val.list b4), .sl .own .str (Val.columns b4), .sl .own .row (Val.rows b4)]), (17, .v true [.int .i64 (Val.kind b8), .int .i64 (Val.n b8), .int .i64 (Val.step b8), .str (Val.text b8), .sl .own .val (Val.list b8), .sl .own .str (Val.columns b8), .sl .own .row (Val.rows b8)])]
theorem p60_11_0 (x7 x9 : Int) (b3 b4 b8 r1 : Val) : run tt (AbsCalls Try.prog) I60 3000 true (stkAt 11 I60.body) ⟨(S60_11 x7 x9 b3 b4 b8), [true], [xAR r1], []⟩ = some (.stop (stkAt 11 I60.body) (S60_11 x7 (IntKind.i64.wrap (x9 + 1)) b3 b4 (Val.mk (Val.kind b8) (Val.n b8) (Val.step b8) (Val.text b8) ((Val.list b8) ++ [(Val.re r1)]) (Val.columns b8) (Val.rows b8))) [(decide ((x9 : Int) < (List.length (Val.rows b3) : Int))) = true, (0 : Int) ≤ x9 ∧ x9 < (List.length (Val.rows b3)), (0 : Int) ≤ x7 ∧ x7 < (List.length (Rowd.cells (List.getD (Val.rows b3) (Int.toNat x9) Ty.row.dflt))), AbC 96 (xA2 (List.getD (Rowd.cells (List.getD (Val.rows b3) (Int.toNat x9) Ty.row.dflt)) (Int.toNat x7) Ty.int.dflt)) (xAR r1), List.length (Val.list b8) + List.length [(Val.re r1)] ≤ Lim]) := by kernel_rfl
theorem p60_11_1 (x7 x9 : Int) (b3 b4 b8 : Val) : run tt (AbsCalls Try.prog) I60 3000 true (stkAt 11 I60.body) ⟨(S60_11 x7 x9 b3 b4 b8), [false], [], []⟩ = some (.done (xAb b8) [(decide ((x9 : Int) < (List.length (Val.rows b3) : Int))) = false]) := by kernel_rfl
theorem p60_e_2 (a0 a1 : Val) (r1 : Val × Bool) : run tt (AbsCalls Try.prog) I60 3000 false [.code I60.body] ⟨(zBg 0 (xAj a0 a1)), [true], [xAt r1], []⟩ = some (.done (xAb r1.1) [AbC 110 (xAM [(Val.re a0), (Val.re a1)] [2, 5]) (xAt r1), r1.2 = true]) := by kernel_rfl
theorem p60_e_3 (a0 a1 : Val) (r1 : Val × Bool) (r2 : Int) (r3 : Val) : run tt (AbsCalls Try.prog) I60 3000 false [.code I60.body] ⟨(zBg 0 (xAj a0 a1)), [false, true], [xAt r1, xAx r2, yBL r3], []⟩ = some (.done (xAb r3) [AbC 110 (xAM [(Val.re a0), (Val.re a1)] [2, 5]) (xAt r1), r1.2 = false, AbC 121 (xAJ a1 (Val.text a0)) (xAx r2), (decide ((r2 : Int) < 0)) = true, AbC 72 (yCT 7) (yBL r3)]) := by kernel_rfl
theorem p60_e_4 (a0 a1 : Val) (r1 : Val × Bool) (r2 : Int) (r3 : Val) : run tt (AbsCalls Try.prog) I60 3000 false [.code I60.body] ⟨(zBg 0 (xAj a0 a1)), [false, false, true], [xAt r1, xAx r2, yBL r3], []⟩ = some (.done (xAb r3) [AbC 110 (xAM [(Val.re a0), (Val.re a1)] [2, 5]) (xAt r1), r1.2 = false, AbC 121 (xAJ a1 (Val.text a0)) (xAx r2), (decide ((r2 : Int) < 0)) = false, (decide (((List.length (Val.rows a1) : Int) : Int) > 8)) = true, AbC 72 (yCT 6) (yBL r3)]) := by kernel_rfl
theorem p60_e_5 (a0 a1 : Val) (r1 : Val × Bool) (r2 : Int) : run tt (AbsCalls Try.prog) I60 3000 false [.code I60.body] ⟨(zBg 0 (xAj a0 a1)), [false, false, false], [xAt r1, xAx r2], []⟩ = some (.stop (stkAt 11 I60.body) (S60_11 r2 0 a1 (Val.mk 0 0 0 [] [] [] []) (Val.mk 3 0 0 [] [] [] [])) [AbC 110 (xAM [(Val.re a0), (Val.re a1)] [2, 5]) (xAt r1), r1.2 = false, AbC 121 (xAJ a1 (Val.text a0)) (xAx r2), (decide ((r2 : Int) < 0)) = false, (decide (((List.length (Val.rows a1) : Int) : Int) > 8)) = false]) := by kernel_rfl
theorem c60_11 {N : Nat} : ∀ n x7 x9 b3 b4 b8 r, xAF N n x7 x9 b3 b4 b8 = some r → Reach Try.prog Try.f60 I60 (stkAt 11 I60.body) (S60_11 x7 x9 b3 b4 b8) (xAb r) := by
 intro n
 induction n with
 | zero => intro x7 x9 b3 b4 b8 r h; have h' : (none : Option (Val)) = some r := h; cases h'
 | succ n ih =>
  intro x7 x9 b3 b4 b8 r h
  rw [xAF] at h
  rcases cond_inv h with ⟨h0, h⟩ | ⟨h0, h⟩
  ·obtain ⟨h1, h⟩ := ite_inv h
   obtain ⟨h2, h⟩ := ite_inv h
   obtain ⟨r1, h3, h⟩ := bind_inv h
   obtain ⟨h4, h⟩ := ite_inv h
   exact Reach.stop ttok mix fk60 (p60_11_0 x7 x9 b3 b4 b8 r1) (obs_cons h0 (obs_cons h1 (obs_cons h2 (obs_cons (xBv h3) (obs_cons h4 obs_nil))))) (ih _ _ _ _ _ _ h)
  ·obtain rfl := Option.some.inj h
   exact Reach.done ttok mix fk60 (p60_11_1 x7 x9 b3 b4 b8) (obs_cons h0 obs_nil)
theorem c60_e {N : Nat} : ∀ a0 a1 r, xAX N a0 a1 = some r → Reach Try.prog Try.f60 I60 [.code I60.body] (zBg 0 (xAj a0 a1)) (xAb r) := by
 intro a0 a1 r h
 unfold xAX at h
 obtain ⟨r1, h0, h⟩ := bind_inv h
 rcases cond_inv h with ⟨h1, h⟩ | ⟨h1, h⟩
 ·obtain rfl := Option.some.inj h
  exact Reach.done ttok mix fk60 (p60_e_2 a0 a1 r1) (obs_cons (xBf h0) (obs_cons h1 obs_nil))
 ·obtain ⟨r2, h2, h⟩ := bind_inv h
  rcases cond_inv h with ⟨h3, h⟩ | ⟨h3, h⟩
  ·obtain ⟨r3, h4, h⟩ := bind_inv h
   obtain rfl := Option.some.inj h
   exact Reach.done ttok mix fk60 (p60_e_3 a0 a1 r1 r2 r3) (obs_cons (xBf h0) (obs_cons h1 (obs_cons (xBb h2) (obs_cons h3 (obs_cons (yFf h4) obs_nil)))))
  ·rcases cond_inv h with ⟨h4, h⟩ | ⟨h4, h⟩
   ·obtain ⟨r3, h5, h⟩ := bind_inv h
    obtain rfl := Option.some.inj h
    exact Reach.done ttok mix fk60 (p60_e_4 a0 a1 r1 r2 r3) (obs_cons (xBf h0) (obs_cons h1 (obs_cons (xBb h2) (obs_cons h3 (obs_cons h4 (obs_cons (yFf h5) obs_nil))))))
   ·exact Reach.stop ttok mix fk60 (p60_e_5 a0 a1 r1 r2) (obs_cons (xBf h0) (obs_cons h1 (obs_cons (xBb h2) (obs_cons h3 (obs_cons h4 obs_nil))))) (c60_11   _ _ _ _ _ _ _ h)
theorem xAk {N : Nat} {a0 : Val} {a1 : Val} {r : Val} (h : xAX N  a0 a1 = some r) : AbC 60 (xAj a0 a1) (xAb r) :=
 AbsCalls.of_reach fk60 rfl rfl (Nat.le_of_ble_eq_true rfl) (c60_e a0 a1 r h)
noncomputable def I122 : Info := { body := (Try.f122.body).getD .skip, nt := 9, results := [.tmp 4], keep := [0, 2, 4, 8, 5], live := [], modes := [], ext := [], lnt := [], casts := [], fcast := [] }
theorem fk122 : FnOk Try.prog 122 Try.f122 I122 := ⟨Try.func122, by kernel_rfl, by kernel_rfl, by kernel_rfl, by kernel_rfl⟩
theorem p122_e_0 (a0 : Val) (a1 : Str) (r1 : Int) : run tt (AbsCalls Try.prog) I122 3000 false [.code I122.body] ⟨(zBg 0 (xAw a0 a1)), [], [yBH r1], []⟩ = some (.done (xAo r1) [AbC 146 (yDO (Val.columns a0) a1) (yBH r1)]) := by kernel_rfl
theorem c122_e {N : Nat} : ∀ a0 a1 r, xAO N a0 a1 = some r → Reach Try.prog Try.f122 I122 [.code I122.body] (zBg 0 (xAw a0 a1)) (xAo r) := by
 intro a0 a1 r h
 unfold xAO at h
 obtain ⟨r1, h0, h⟩ := bind_inv h
 obtain rfl := Option.some.inj h
 exact Reach.done ttok mix fk122 (p122_e_0 a0 a1 r1) (obs_cons (yFL h0) obs_nil)
theorem xAI {N : Nat} {a0 : Val} {a1 : Str} {r : Int} (h : xAO N  a0 a1 = some r) : AbC 122 (xAw a0 a1) (xAo r) :=
 AbsCalls.of_reach fk122 rfl rfl (Nat.le_of_ble_eq_true rfl) (c122_e a0 a1 r h)
theorem impl_ColumnOf_toR {P : Program} {f : FuncId} {ags : List Arg} {r : Val × Bool} (h : AbsCalls P f ags (xAr r)) (ht : r.2 = true) : AbsCalls P f ags (xBg r) := by
 unfold xAr at h; rw [ht] at h; exact h
theorem xAn {P : Program} {f : FuncId} {ags : List Arg} {r : Val × Bool} (h : AbsCalls P f ags (xAr r)) (ht : r.2 = false) : AbsCalls P f ags (xAg r) := by
 unfold xAr at h; rw [ht] at h; exact h
theorem xAm {P : Program} {f : FuncId} {ags : List Arg} {r : Val × Bool} (h : AbsCalls P f ags (xAr r)) (ht : r.2 = true) (e0 : List.isEmpty (Val.list r.1) = true) (e1 : List.isEmpty (Val.columns r.1) = true) (e2 : List.isEmpty (Val.rows r.1) = true) : AbsCalls P f ags (xAh r) := by
 have h := impl_ColumnOf_toR h ht
 unfold xBg at h; rw [List.isEmpty_iff.1 e0, List.isEmpty_iff.1 e1, List.isEmpty_iff.1 e2] at h; exact h
noncomputable def I61 : Info := { body := (Try.f61.body).getD .skip, nt := 54, results := [.cell 4 28], keep := [0, 2, 4, 6, 8, 10, 12, 14, 16, 20, 38, 52, 62, 70, 72, 74, 76, 5, 7, 9, 11, 17, 21], live := [(11, [8, 14, 16, 70, 72, 74, 9, 17])], modes := [(1, [(4, .take, true), (5, .take, false)]), (2, [(0, .take, false)]), (3, [(0, .take, false)]), (13, [(1, .take, false), (9, .take, false)]), (14, [(1, .take, false)]), (15, [(0, .take, false)])], ext := [], lnt := [], casts := [], fcast := [] }
theorem fk61 : FnOk Try.prog 61 Try.f61 I61 := ⟨Try.func61, by kernel_rfl, by kernel_rfl, by kernel_rfl, by kernel_rfl⟩
def S61_11 (x7 : Int) (x35 : List Rowd) (x36 x37 : Int) (b4 b8 : Val) : St := [(8, .v false [.ptr 4 0]), (14, .v false [.int .i64 x7]), (16, .v false [.ptr 8 0]), (70, .v false [.sl .ro .row x35]), (72, .v false [.int .i64 x36]), (74, .v false [.int .i64 x37]), (9, .v true [.int .i64 (Val.kind b4), .int .i64 (Val.n b4), .int .i64 (Val.step b4), .str (Val.text b4), .sl .own .val (Val.list b4), .sl .own .str (Val.columns b4), .sl .own .row (Val.rows b4)]), (17, .v true [.int .i64 (Val.kind b8), .int .i64 (Val.n b8), .int .i64 (Val.step b8), .str (Val.text b8), .sl .own .val (Val.list b8), .sl .own .str (Val.columns b8), .sl .own .row (Val.rows b8)])]
theorem p61_11_0 (x7 : Int) (x35 : List Rowd) (x36 x37 : Int) (b4 b8 r1 : Val) : run tt (AbsCalls Try.prog) I61 3000 true (stkAt 11 I61.body) ⟨(S61_11 x7 x35 x36 x37 b4 b8), [true], [xAP r1], []⟩ = some (.stop (stkAt 11 I61.body) (S61_11 x7 x35 x36 (IntKind.i64.wrap (x37 + 1)) b4 (Val.mk (Val.kind b8) (Val.n b8) (Val.step b8) (Val.text b8) ((Val.list b8) ++ [(Val.re r1)]) (Val.columns b8) (Val.rows b8))) [(decide ((x37 : Int) < x36)) = true, (0 : Int) ≤ x37 ∧ x37 < (List.length x35), (0 : Int) ≤ x7 ∧ x7 < (List.length (Rowd.cells (List.getD x35 (Int.toNat x37) Ty.row.dflt))), AbC 105 (xA1 (List.getD (Rowd.cells (List.getD x35 (Int.toNat x37) Ty.row.dflt)) (Int.toNat x7) Ty.int.dflt)) (xAP r1), List.length (Val.list b8) + List.length [(Val.re r1)] ≤ Lim]) := by kernel_rfl
theorem p61_11_1 (x7 : Int) (x35 : List Rowd) (x36 x37 : Int) (b4 b8 : Val) : run tt (AbsCalls Try.prog) I61 3000 true (stkAt 11 I61.body) ⟨(S61_11 x7 x35 x36 x37 b4 b8), [false], [], []⟩ = some (.done (xAr (b8, false)) [(decide ((x37 : Int) < x36)) = false]) := by kernel_rfl
theorem p61_e_2 (a0 a1 : Val) (r1 : Val × Bool × Bool) : run tt (AbsCalls Try.prog) I61 3000 false [.code I61.body] ⟨(zBg 0 (xAd a0 a1)), [true], [xAz r1], []⟩ = some (.done (xAr ((Val.mk (Val.kind r1.1) (Val.n r1.1) (Val.step r1.1) (Val.text r1.1) [] [] []), true)) [AbC 111 (xAq [2, 5] [(Val.re a0), (Val.re a1)]) (xAz r1), r1.2.1 = true]) := by kernel_rfl
theorem p61_e_3 (a0 a1 : Val) (r1 : Val × Bool × Bool) (r2 : Int) (r3 : Val) : run tt (AbsCalls Try.prog) I61 3000 false [.code I61.body] ⟨(zBg 0 (xAd a0 a1)), [false, true], [xAz r1, xAo r2, yCS r3], []⟩ = some (.done (xAr (r3, false)) [AbC 111 (xAq [2, 5] [(Val.re a0), (Val.re a1)]) (xAz r1), r1.2.1 = false, AbC 122 (xAw a1 (Val.text a0)) (xAo r2), (decide ((r2 : Int) < 0)) = true, AbC 75 (yDI 7) (yCS r3)]) := by kernel_rfl
theorem p61_e_4 (a0 a1 : Val) (r1 : Val × Bool × Bool) (r2 : Int) (r3 : Val) : run tt (AbsCalls Try.prog) I61 3000 false [.code I61.body] ⟨(zBg 0 (xAd a0 a1)), [false, false, true], [xAz r1, xAo r2, yCS r3], []⟩ = some (.done (xAr (r3, false)) [AbC 111 (xAq [2, 5] [(Val.re a0), (Val.re a1)]) (xAz r1), r1.2.1 = false, AbC 122 (xAw a1 (Val.text a0)) (xAo r2), (decide ((r2 : Int) < 0)) = false, (decide (((List.length (Val.rows a1) : Int) : Int) > 8)) = true, AbC 75 (yDI 6) (yCS r3)]) := by kernel_rfl
theorem p61_e_5 (a0 a1 : Val) (r1 : Val × Bool × Bool) (r2 : Int) : run tt (AbsCalls Try.prog) I61 3000 false [.code I61.body] ⟨(zBg 0 (xAd a0 a1)), [false, false, false], [xAz r1, xAo r2], []⟩ = some (.stop (stkAt 11 I61.body) (S61_11 r2 (Val.rows a1) (List.length (Val.rows a1) : Int) 0 (Val.mk 0 0 0 [] [] [] []) (Val.mk 3 0 0 [] [] [] [])) [AbC 111 (xAq [2, 5] [(Val.re a0), (Val.re a1)]) (xAz r1), r1.2.1 = false, AbC 122 (xAw a1 (Val.text a0)) (xAo r2), (decide ((r2 : Int) < 0)) = false, (decide (((List.length (Val.rows a1) : Int) : Int) > 8)) = false]) := by kernel_rfl
theorem p61_e_6 (a0 a1 : Val) (r1 : Val × Bool × Bool) : run tt (AbsCalls Try.prog) I61 3000 false [.code I61.body] ⟨(zBg 0 (xAd a0 a1)), [true], [xAv r1], []⟩ = some (.done (xAr (r1.1, false)) [AbC 111 (xAq [2, 5] [(Val.re a0), (Val.re a1)]) (xAv r1), r1.2.1 = true]) := by kernel_rfl
theorem p61_e_7 (a0 a1 : Val) (r1 : Val × Bool × Bool) (r2 : Int) (r3 : Val) : run tt (AbsCalls Try.prog) I61 3000 false [.code I61.body] ⟨(zBg 0 (xAd a0 a1)), [false, true], [xAv r1, xAo r2, yCS r3], []⟩ = some (.done (xAr (r3, false)) [AbC 111 (xAq [2, 5] [(Val.re a0), (Val.re a1)]) (xAv r1), r1.2.1 = false, AbC 122 (xAw a1 (Val.text a0)) (xAo r2), (decide ((r2 : Int) < 0)) = true, AbC 75 (yDI 7) (yCS r3)]) := by kernel_rfl
theorem p61_e_8 (a0 a1 : Val) (r1 : Val × Bool × Bool) (r2 : Int) (r3 : Val) : run tt (AbsCalls Try.prog) I61 3000 false [.code I61.body] ⟨(zBg 0 (xAd a0 a1)), [false, false, true], [xAv r1, xAo r2, yCS r3], []⟩ = some (.done (xAr (r3, false)) [AbC 111 (xAq [2, 5] [(Val.re a0), (Val.re a1)]) (xAv r1), r1.2.1 = false, AbC 122 (xAw a1 (Val.text a0)) (xAo r2), (decide ((r2 : Int) < 0)) = false, (decide (((List.length (Val.rows a1) : Int) : Int) > 8)) = true, AbC 75 (yDI 6) (yCS r3)]) := by kernel_rfl
theorem p61_e_9 (a0 a1 : Val) (r1 : Val × Bool × Bool) (r2 : Int) : run tt (AbsCalls Try.prog) I61 3000 false [.code I61.body] ⟨(zBg 0 (xAd a0 a1)), [false, false, false], [xAv r1, xAo r2], []⟩ = some (.stop (stkAt 11 I61.body) (S61_11 r2 (Val.rows a1) (List.length (Val.rows a1) : Int) 0 (Val.mk 0 0 0 [] [] [] []) (Val.mk 3 0 0 [] [] [] [])) [AbC 111 (xAq [2, 5] [(Val.re a0), (Val.re a1)]) (xAv r1), r1.2.1 = false, AbC 122 (xAw a1 (Val.text a0)) (xAo r2), (decide ((r2 : Int) < 0)) = false, (decide (((List.length (Val.rows a1) : Int) : Int) > 8)) = false]) := by kernel_rfl
theorem c61_11 {N : Nat} : ∀ n x7 x35 x36 x37 b4 b8 r, xAA N n x7 x35 x36 x37 b4 b8 = some r → Reach Try.prog Try.f61 I61 (stkAt 11 I61.body) (S61_11 x7 x35 x36 x37 b4 b8) (xAr r) := by
 intro n
 induction n with
 | zero => intro x7 x35 x36 x37 b4 b8 r h; have h' : (none : Option (Val × Bool)) = some r := h; cases h'
 | succ n ih =>
  intro x7 x35 x36 x37 b4 b8 r h
  rw [xAA] at h
  rcases cond_inv h with ⟨h0, h⟩ | ⟨h0, h⟩
  ·obtain ⟨h1, h⟩ := ite_inv h
   obtain ⟨h2, h⟩ := ite_inv h
   obtain ⟨r1, h3, h⟩ := bind_inv h
   obtain ⟨h4, h⟩ := ite_inv h
   exact Reach.stop ttok mix fk61 (p61_11_0 x7 x35 x36 x37 b4 b8 r1) (obs_cons h0 (obs_cons h1 (obs_cons h2 (obs_cons (xBt h3) (obs_cons h4 obs_nil))))) (ih _ _ _ _ _ _ _ h)
  ·obtain rfl := Option.some.inj h
   exact Reach.done ttok mix fk61 (p61_11_1 x7 x35 x36 x37 b4 b8) (obs_cons h0 obs_nil)
theorem c61_e {N : Nat} : ∀ a0 a1 r, xAK N a0 a1 = some r → Reach Try.prog Try.f61 I61 [.code I61.body] (zBg 0 (xAd a0 a1)) (xAr r) := by
 intro a0 a1 r h
 unfold xAK at h
 obtain ⟨r1, h0, h⟩ := bind_inv h
 rcases cond_inv h with ⟨h1, h⟩ | ⟨h1, h⟩
 ·obtain ⟨h2, h⟩ := ite_inv h
  obtain ⟨h3, h⟩ := ite_inv h
  obtain ⟨h4, h⟩ := ite_inv h
  rcases cond_inv h with ⟨h5, h⟩ | ⟨h5, h⟩
  ·obtain rfl := Option.some.inj h
   exact Reach.done ttok mix fk61 (p61_e_2 a0 a1 r1) (obs_cons (xA6 (xAD h0) h1 h2 h3 h4) (obs_cons h5 obs_nil))
  ·obtain ⟨r2, h6, h⟩ := bind_inv h
   rcases cond_inv h with ⟨h7, h⟩ | ⟨h7, h⟩
   ·obtain ⟨r3, h8, h⟩ := bind_inv h
    obtain rfl := Option.some.inj h
    exact Reach.done ttok mix fk61 (p61_e_3 a0 a1 r1 r2 r3) (obs_cons (xA6 (xAD h0) h1 h2 h3 h4) (obs_cons h5 (obs_cons (xAI h6) (obs_cons h7 (obs_cons (impl_ErrorValue_ok h8) obs_nil)))))
   ·rcases cond_inv h with ⟨h8, h⟩ | ⟨h8, h⟩
    ·obtain ⟨r3, h9, h⟩ := bind_inv h
     obtain rfl := Option.some.inj h
     exact Reach.done ttok mix fk61 (p61_e_4 a0 a1 r1 r2 r3) (obs_cons (xA6 (xAD h0) h1 h2 h3 h4) (obs_cons h5 (obs_cons (xAI h6) (obs_cons h7 (obs_cons h8 (obs_cons (impl_ErrorValue_ok h9) obs_nil))))))
    ·exact Reach.stop ttok mix fk61 (p61_e_5 a0 a1 r1 r2) (obs_cons (xA6 (xAD h0) h1 h2 h3 h4) (obs_cons h5 (obs_cons (xAI h6) (obs_cons h7 (obs_cons h8 obs_nil))))) (c61_11   _ _ _ _ _ _ _ _ h)
 ·rcases cond_inv h with ⟨h2, h⟩ | ⟨h2, h⟩
  ·obtain rfl := Option.some.inj h
   exact Reach.done ttok mix fk61 (p61_e_6 a0 a1 r1) (obs_cons (xA7 (xAD h0) h1) (obs_cons h2 obs_nil))
  ·obtain ⟨r2, h3, h⟩ := bind_inv h
   rcases cond_inv h with ⟨h4, h⟩ | ⟨h4, h⟩
   ·obtain ⟨r3, h5, h⟩ := bind_inv h
    obtain rfl := Option.some.inj h
    exact Reach.done ttok mix fk61 (p61_e_7 a0 a1 r1 r2 r3) (obs_cons (xA7 (xAD h0) h1) (obs_cons h2 (obs_cons (xAI h3) (obs_cons h4 (obs_cons (impl_ErrorValue_ok h5) obs_nil)))))
   ·rcases cond_inv h with ⟨h5, h⟩ | ⟨h5, h⟩
    ·obtain ⟨r3, h6, h⟩ := bind_inv h
     obtain rfl := Option.some.inj h
     exact Reach.done ttok mix fk61 (p61_e_8 a0 a1 r1 r2 r3) (obs_cons (xA7 (xAD h0) h1) (obs_cons h2 (obs_cons (xAI h3) (obs_cons h4 (obs_cons h5 (obs_cons (impl_ErrorValue_ok h6) obs_nil))))))
    ·exact Reach.stop ttok mix fk61 (p61_e_9 a0 a1 r1 r2) (obs_cons (xA7 (xAD h0) h1) (obs_cons h2 (obs_cons (xAI h3) (obs_cons h4 (obs_cons h5 obs_nil))))) (c61_11   _ _ _ _ _ _ _ _ h)
theorem xAi {N : Nat} {a0 : Val} {a1 : Val} {r : Val × Bool} (h : xAK N  a0 a1 = some r) : AbC 61 (xAd a0 a1) (xAr r) :=
 AbsCalls.of_reach fk61 rfl rfl (Nat.le_of_ble_eq_true rfl) (c61_e a0 a1 r h)
end Go.Ab.T
end
section
open Go.Proofs
namespace Go.Ab.T
set_option linter.unusedVariables false
set_option maxRecDepth 100000
noncomputable def I12 : Info := { body := (Try.f12.body).getD .skip, nt := 92, results := [.tmp 4], keep := [0, 2, 4, 6, 8, 10, 12, 14, 16, 18, 20, 22, 24, 26, 36, 46, 78, 88, 98, 126, 142, 148, 166, 176, 182, 5, 7, 13, 15, 17, 19, 27], live := [], modes := [(11, [(2, .take, true)]), (19, [(0, .ref, false), (2, .ref, false)]), (20, [(0, .ref, false), (2, .ref, false)]), (21, [(2, .take, false)]), (24, [(0, .ref, false), (2, .ref, false)]), (31, [(4, .take, true)])], ext := [], lnt := [], casts := [], fcast := [] }
theorem fk12 : FnOk Try.prog 12 Try.f12 I12 := ⟨Try.func12, by kernel_rfl, by kernel_rfl, by kernel_rfl, by kernel_rfl⟩
theorem p12_e_0 (a0 a1 : Val) (r1 : Int) : run tt (AbsCalls Try.prog) I12 3000 false [.code I12.body] ⟨(zBg 0 (xAe a0 a1)), [true], [yAw r1], []⟩ = some (.done (xAf true) [AbC 24 (yAG a0 1048576) (yAw r1), (decide ((r1 : Int) < 0)) = true]) := by kernel_rfl
theorem p12_e_1 (a0 a1 : Val) (r1 r2 : Int) : run tt (AbsCalls Try.prog) I12 3000 false [.code I12.body] ⟨(zBg 0 (xAe a0 a1)), [false, true], [yAw r1, yAw r2], []⟩ = some (.done (xAf true) [AbC 24 (yAG a0 1048576) (yAw r1), (decide ((r1 : Int) < 0)) = false, AbC 24 (yAG a1 r1) (yAw r2), (decide ((r2 : Int) < 0)) = true]) := by kernel_rfl
theorem p12_e_2 (a0 a1 : Val) (r1 r2 : Int) (r3 r4 r5 r6 r7 : Val) (r8 : Val × Bool) (r9 : Bool) : run tt (AbsCalls Try.prog) I12 3000 false [.code I12.body] ⟨(zBg 0 (xAe a0 a1)), [false, false, true], [yAw r1, yAw r2, yBb r3, yBb r4, xAb r5, yBb r6, yBb r7, xAh r8, yAm r9], []⟩ = some (.done (xAf false) [AbC 24 (yAG a0 1048576) (yAw r1), (decide ((r1 : Int) < 0)) = false, AbC 24 (yAG a1 r1) (yAw r2), (decide ((r2 : Int) < 0)) = false, AbC 26 (yBl a0) (yBb r3), AbC 26 (yBl a1) (yBb r4), AbC 60 (xAj r3 r4) (xAb r5), AbC 26 (yBl a0) (yBb r6), AbC 26 (yBl a1) (yBb r7), AbC 61 (xAd r6 r7) (xAh r8), AbC 19 (yAr (Val.mk (Val.kind r8.1) (Val.n r8.1) (Val.step r8.1) (Val.text r8.1) [] [] []) r5) (yAm r9), (!r9) = true]) := by kernel_rfl
theorem p12_e_3 (a0 a1 : Val) (r1 r2 : Int) (r3 r4 r5 r6 r7 : Val) (r8 : Val × Bool) (r9 : Bool) (r10 : Val) (r11 : Bool) : run tt (AbsCalls Try.prog) I12 3000 false [.code I12.body] ⟨(zBg 0 (xAe a0 a1)), [false, false, false, true], [yAw r1, yAw r2, yBb r3, yBb r4, xAb r5, yBb r6, yBb r7, xAh r8, yAm r9, yBb r10, yAm r11], []⟩ = some (.done (xAf false) [AbC 24 (yAG a0 1048576) (yAw r1), (decide ((r1 : Int) < 0)) = false, AbC 24 (yAG a1 r1) (yAw r2), (decide ((r2 : Int) < 0)) = false, AbC 26 (yBl a0) (yBb r3), AbC 26 (yBl a1) (yBb r4), AbC 60 (xAj r3 r4) (xAb r5), AbC 26 (yBl a0) (yBb r6), AbC 26 (yBl a1) (yBb r7), AbC 61 (xAd r6 r7) (xAh r8), AbC 19 (yAr (Val.mk (Val.kind r8.1) (Val.n r8.1) (Val.step r8.1) (Val.text r8.1) [] [] []) r5) (yAm r9), (!r9) = false, AbC 26 (yBl a0) (yBb r10), AbC 19 (yAr r6 r10) (yAm r11), (!r11) = true]) := by kernel_rfl
theorem p12_e_4 (a0 a1 : Val) (r1 r2 : Int) (r3 r4 r5 r6 r7 : Val) (r8 : Val × Bool) (r9 : Bool) (r10 : Val) (r11 : Bool) (r12 : Val) (r13 : Bool) : run tt (AbsCalls Try.prog) I12 3000 false [.code I12.body] ⟨(zBg 0 (xAe a0 a1)), [false, false, false, false, true], [yAw r1, yAw r2, yBb r3, yBb r4, xAb r5, yBb r6, yBb r7, xAh r8, yAm r9, yBb r10, yAm r11, yBb r12, yAm r13], []⟩ = some (.done (xAf false) [AbC 24 (yAG a0 1048576) (yAw r1), (decide ((r1 : Int) < 0)) = false, AbC 24 (yAG a1 r1) (yAw r2), (decide ((r2 : Int) < 0)) = false, AbC 26 (yBl a0) (yBb r3), AbC 26 (yBl a1) (yBb r4), AbC 60 (xAj r3 r4) (xAb r5), AbC 26 (yBl a0) (yBb r6), AbC 26 (yBl a1) (yBb r7), AbC 61 (xAd r6 r7) (xAh r8), AbC 19 (yAr (Val.mk (Val.kind r8.1) (Val.n r8.1) (Val.step r8.1) (Val.text r8.1) [] [] []) r5) (yAm r9), (!r9) = false, AbC 26 (yBl a0) (yBb r10), AbC 19 (yAr r6 r10) (yAm r11), (!r11) = false, AbC 26 (yBl a1) (yBb r12), AbC 19 (yAr r7 r12) (yAm r13), (!r13) = true]) := by kernel_rfl
theorem p12_e_5 (a0 a1 : Val) (r1 r2 : Int) (r3 r4 r5 r6 r7 : Val) (r8 : Val × Bool) (r9 : Bool) (r10 : Val) (r11 : Bool) (r12 : Val) (r13 : Bool) (r14 : Int × (List Val) × (List Str) × (List Rowd)) (r15 : Int × (List Val) × (List Str) × (List Rowd)) : run tt (AbsCalls Try.prog) I12 3000 false [.code I12.body] ⟨(zBg 0 (xAe a0 a1)), [false, false, false, false, false, true, true], [yAw r1, yAw r2, yBb r3, yBb r4, xAb r5, yBb r6, yBb r7, xAh r8, yAm r9, yBb r10, yAm r11, yBb r12, yAm r13, yEy r14, yEy r15], []⟩ = some (.done (xAf false) [AbC 24 (yAG a0 1048576) (yAw r1), (decide ((r1 : Int) < 0)) = false, AbC 24 (yAG a1 r1) (yAw r2), (decide ((r2 : Int) < 0)) = false, AbC 26 (yBl a0) (yBb r3), AbC 26 (yBl a1) (yBb r4), AbC 60 (xAj r3 r4) (xAb r5), AbC 26 (yBl a0) (yBb r6), AbC 26 (yBl a1) (yBb r7), AbC 61 (xAd r6 r7) (xAh r8), AbC 19 (yAr (Val.mk (Val.kind r8.1) (Val.n r8.1) (Val.step r8.1) (Val.text r8.1) [] [] []) r5) (yAm r9), (!r9) = false, AbC 26 (yBl a0) (yBb r10), AbC 19 (yAr r6 r10) (yAm r11), (!r11) = false, AbC 26 (yBl a1) (yBb r12), AbC 19 (yAr r7 r12) (yAm r13), (!r13) = false, AbC 22 (yEx r6 1) (yEy r14), List.length r14.2.1 = List.length (Val.list r6), List.length r14.2.2.1 = List.length (Val.columns r6), List.length r14.2.2.2 = List.length (Val.rows r6), AbC 22 (yEx r7 r14.1) (yEy r15), List.length r15.2.1 = List.length (Val.list r7), List.length r15.2.2.1 = List.length (Val.columns r7), List.length r15.2.2.2 = List.length (Val.rows r7), (decide ((r15.1 : Int) < 0)) = true, true = true]) := by kernel_rfl
theorem p12_e_6 (a0 a1 : Val) (r1 r2 : Int) (r3 r4 r5 r6 r7 : Val) (r8 : Val × Bool) (r9 : Bool) (r10 : Val) (r11 : Bool) (r12 : Val) (r13 : Bool) (r14 : Int × (List Val) × (List Str) × (List Rowd)) (r15 : Int × (List Val) × (List Str) × (List Rowd)) (r16 : Bool) : run tt (AbsCalls Try.prog) I12 3000 false [.code I12.body] ⟨(zBg 0 (xAe a0 a1)), [false, false, false, false, false, false, true], [yAw r1, yAw r2, yBb r3, yBb r4, xAb r5, yBb r6, yBb r7, xAh r8, yAm r9, yBb r10, yAm r11, yBb r12, yAm r13, yEy r14, yEy r15, yAm r16], []⟩ = some (.done (xAf false) [AbC 24 (yAG a0 1048576) (yAw r1), (decide ((r1 : Int) < 0)) = false, AbC 24 (yAG a1 r1) (yAw r2), (decide ((r2 : Int) < 0)) = false, AbC 26 (yBl a0) (yBb r3), AbC 26 (yBl a1) (yBb r4), AbC 60 (xAj r3 r4) (xAb r5), AbC 26 (yBl a0) (yBb r6), AbC 26 (yBl a1) (yBb r7), AbC 61 (xAd r6 r7) (xAh r8), AbC 19 (yAr (Val.mk (Val.kind r8.1) (Val.n r8.1) (Val.step r8.1) (Val.text r8.1) [] [] []) r5) (yAm r9), (!r9) = false, AbC 26 (yBl a0) (yBb r10), AbC 19 (yAr r6 r10) (yAm r11), (!r11) = false, AbC 26 (yBl a1) (yBb r12), AbC 19 (yAr r7 r12) (yAm r13), (!r13) = false, AbC 22 (yEx r6 1) (yEy r14), List.length r14.2.1 = List.length (Val.list r6), List.length r14.2.2.1 = List.length (Val.columns r6), List.length r14.2.2.2 = List.length (Val.rows r6), AbC 22 (yEx r7 r14.1) (yEy r15), List.length r15.2.1 = List.length (Val.list r7), List.length r15.2.2.1 = List.length (Val.columns r7), List.length r15.2.2.2 = List.length (Val.rows r7), (decide ((r15.1 : Int) < 0)) = false, AbC 19 (yAr (Val.mk (Val.kind r8.1) (Val.n r8.1) (Val.step r8.1) (Val.text r8.1) [] [] []) r5) (yAm r16), (!r16) = true]) := by kernel_rfl
theorem p12_e_7 (a0 a1 : Val) (r1 r2 : Int) (r3 r4 r5 r6 r7 : Val) (r8 : Val × Bool) (r9 : Bool) (r10 : Val) (r11 : Bool) (r12 : Val) (r13 : Bool) (r14 : Int × (List Val) × (List Str) × (List Rowd)) (r15 : Int × (List Val) × (List Str) × (List Rowd)) (r16 : Bool) (r17 r18 : Int) : run tt (AbsCalls Try.prog) I12 3000 false [.code I12.body] ⟨(zBg 0 (xAe a0 a1)), [false, false, false, false, false, false, false, true], [yAw r1, yAw r2, yBb r3, yBb r4, xAb r5, yBb r6, yBb r7, xAh r8, yAm r9, yBb r10, yAm r11, yBb r12, yAm r13, yEy r14, yEy r15, yAm r16, xAl r17, yCu r18], []⟩ = some (.done (xAf false) [AbC 24 (yAG a0 1048576) (yAw r1), (decide ((r1 : Int) < 0)) = false, AbC 24 (yAG a1 r1) (yAw r2), (decide ((r2 : Int) < 0)) = false, AbC 26 (yBl a0) (yBb r3), AbC 26 (yBl a1) (yBb r4), AbC 60 (xAj r3 r4) (xAb r5), AbC 26 (yBl a0) (yBb r6), AbC 26 (yBl a1) (yBb r7), AbC 61 (xAd r6 r7) (xAh r8), AbC 19 (yAr (Val.mk (Val.kind r8.1) (Val.n r8.1) (Val.step r8.1) (Val.text r8.1) [] [] []) r5) (yAm r9), (!r9) = false, AbC 26 (yBl a0) (yBb r10), AbC 19 (yAr r6 r10) (yAm r11), (!r11) = false, AbC 26 (yBl a1) (yBb r12), AbC 19 (yAr r7 r12) (yAm r13), (!r13) = false, AbC 22 (yEx r6 1) (yEy r14), List.length r14.2.1 = List.length (Val.list r6), List.length r14.2.2.1 = List.length (Val.columns r6), List.length r14.2.2.2 = List.length (Val.rows r6), AbC 22 (yEx r7 r14.1) (yEy r15), List.length r15.2.1 = List.length (Val.list r7), List.length r15.2.2.1 = List.length (Val.columns r7), List.length r15.2.2.2 = List.length (Val.rows r7), (decide ((r15.1 : Int) < 0)) = false, AbC 19 (yAr (Val.mk (Val.kind r8.1) (Val.n r8.1) (Val.step r8.1) (Val.text r8.1) [] [] []) r5) (yAm r16), (!r16) = false, AbC 22 (xAp (Val.mk (Val.kind r8.1) (Val.n r8.1) (Val.step r8.1) (Val.text r8.1) [] [] []) 1) (xAl r17), AbC 23 (yCt (Val.mk (Val.kind r8.1) (Val.n r8.1) (Val.step r8.1) (Val.text r8.1) [] [] []) 1) (yCu r18), (decide ((r18 : Int) < 0)) = true]) := by kernel_rfl
theorem p12_e_8 (a0 a1 : Val) (r1 r2 : Int) (r3 r4 r5 r6 r7 : Val) (r8 : Val × Bool) (r9 : Bool) (r10 : Val) (r11 : Bool) (r12 : Val) (r13 : Bool) (r14 : Int × (List Val) × (List Str) × (List Rowd)) (r15 : Int × (List Val) × (List Str) × (List Rowd)) (r16 : Bool) (r17 r18 : Int) : run tt (AbsCalls Try.prog) I12 3000 false [.code I12.body] ⟨(zBg 0 (xAe a0 a1)), [false, false, false, false, false, false, false, false, true], [yAw r1, yAw r2, yBb r3, yBb r4, xAb r5, yBb r6, yBb r7, xAh r8, yAm r9, yBb r10, yAm r11, yBb r12, yAm r13, yEy r14, yEy r15, yAm r16, xAl r17, yCu r18], []⟩ = some (.done (xAf false) [AbC 24 (yAG a0 1048576) (yAw r1), (decide ((r1 : Int) < 0)) = false, AbC 24 (yAG a1 r1) (yAw r2), (decide ((r2 : Int) < 0)) = false, AbC 26 (yBl a0) (yBb r3), AbC 26 (yBl a1) (yBb r4), AbC 60 (xAj r3 r4) (xAb r5), AbC 26 (yBl a0) (yBb r6), AbC 26 (yBl a1) (yBb r7), AbC 61 (xAd r6 r7) (xAh r8), AbC 19 (yAr (Val.mk (Val.kind r8.1) (Val.n r8.1) (Val.step r8.1) (Val.text r8.1) [] [] []) r5) (yAm r9), (!r9) = false, AbC 26 (yBl a0) (yBb r10), AbC 19 (yAr r6 r10) (yAm r11), (!r11) = false, AbC 26 (yBl a1) (yBb r12), AbC 19 (yAr r7 r12) (yAm r13), (!r13) = false, AbC 22 (yEx r6 1) (yEy r14), List.length r14.2.1 = List.length (Val.list r6), List.length r14.2.2.1 = List.length (Val.columns r6), List.length r14.2.2.2 = List.length (Val.rows r6), AbC 22 (yEx r7 r14.1) (yEy r15), List.length r15.2.1 = List.length (Val.list r7), List.length r15.2.2.1 = List.length (Val.columns r7), List.length r15.2.2.2 = List.length (Val.rows r7), (decide ((r15.1 : Int) < 0)) = false, AbC 19 (yAr (Val.mk (Val.kind r8.1) (Val.n r8.1) (Val.step r8.1) (Val.text r8.1) [] [] []) r5) (yAm r16), (!r16) = false, AbC 22 (xAp (Val.mk (Val.kind r8.1) (Val.n r8.1) (Val.step r8.1) (Val.text r8.1) [] [] []) 1) (xAl r17), AbC 23 (yCt (Val.mk (Val.kind r8.1) (Val.n r8.1) (Val.step r8.1) (Val.text r8.1) [] [] []) 1) (yCu r18), (decide ((r18 : Int) < 0)) = false, ((r18 : Int) != r17) = true]) := by kernel_rfl
theorem p12_e_9 (a0 a1 : Val) (r1 r2 : Int) (r3 r4 r5 r6 r7 : Val) (r8 : Val × Bool) (r9 : Bool) (r10 : Val) (r11 : Bool) (r12 : Val) (r13 : Bool) (r14 : Int × (List Val) × (List Str) × (List Rowd)) (r15 : Int × (List Val) × (List Str) × (List Rowd)) (r16 : Bool) (r17 r18 : Int) (r19 r20 : Val) (r21 : Val × Bool) (r22 : Bool) : run tt (AbsCalls Try.prog) I12 3000 false [.code I12.body] ⟨(zBg 0 (xAe a0 a1)), [false, false, false, false, false, false, false, false, false, true], [yAw r1, yAw r2, yBb r3, yBb r4, xAb r5, yBb r6, yBb r7, xAh r8, yAm r9, yBb r10, yAm r11, yBb r12, yAm r13, yEy r14, yEy r15, yAm r16, xAl r17, yCu r18, yBb r19, yBb r20, xAh r21, yAm r22], []⟩ = some (.done (xAf false) [AbC 24 (yAG a0 1048576) (yAw r1), (decide ((r1 : Int) < 0)) = false, AbC 24 (yAG a1 r1) (yAw r2), (decide ((r2 : Int) < 0)) = false, AbC 26 (yBl a0) (yBb r3), AbC 26 (yBl a1) (yBb r4), AbC 60 (xAj r3 r4) (xAb r5), AbC 26 (yBl a0) (yBb r6), AbC 26 (yBl a1) (yBb r7), AbC 61 (xAd r6 r7) (xAh r8), AbC 19 (yAr (Val.mk (Val.kind r8.1) (Val.n r8.1) (Val.step r8.1) (Val.text r8.1) [] [] []) r5) (yAm r9), (!r9) = false, AbC 26 (yBl a0) (yBb r10), AbC 19 (yAr r6 r10) (yAm r11), (!r11) = false, AbC 26 (yBl a1) (yBb r12), AbC 19 (yAr r7 r12) (yAm r13), (!r13) = false, AbC 22 (yEx r6 1) (yEy r14), List.length r14.2.1 = List.length (Val.list r6), List.length r14.2.2.1 = List.length (Val.columns r6), List.length r14.2.2.2 = List.length (Val.rows r6), AbC 22 (yEx r7 r14.1) (yEy r15), List.length r15.2.1 = List.length (Val.list r7), List.length r15.2.2.1 = List.length (Val.columns r7), List.length r15.2.2.2 = List.length (Val.rows r7), (decide ((r15.1 : Int) < 0)) = false, AbC 19 (yAr (Val.mk (Val.kind r8.1) (Val.n r8.1) (Val.step r8.1) (Val.text r8.1) [] [] []) r5) (yAm r16), (!r16) = false, AbC 22 (xAp (Val.mk (Val.kind r8.1) (Val.n r8.1) (Val.step r8.1) (Val.text r8.1) [] [] []) 1) (xAl r17), AbC 23 (yCt (Val.mk (Val.kind r8.1) (Val.n r8.1) (Val.step r8.1) (Val.text r8.1) [] [] []) 1) (yCu r18), (decide ((r18 : Int) < 0)) = false, ((r18 : Int) != r17) = false, AbC 26 (yBl a0) (yBb r19), AbC 26 (yBl a1) (yBb r20), AbC 61 (xAd r19 r20) (xAh r21), AbC 19 (yAr (Val.mk (Val.kind r21.1) (Val.n r21.1) (Val.step r21.1) (Val.text r21.1) [] [] []) r5) (yAm r22), (!r22) = true]) := by kernel_rfl
theorem p12_e_10 (a0 a1 : Val) (r1 r2 : Int) (r3 r4 r5 r6 r7 : Val) (r8 : Val × Bool) (r9 : Bool) (r10 : Val) (r11 : Bool) (r12 : Val) (r13 : Bool) (r14 : Int × (List Val) × (List Str) × (List Rowd)) (r15 : Int × (List Val) × (List Str) × (List Rowd)) (r16 : Bool) (r17 r18 : Int) (r19 r20 : Val) (r21 : Val × Bool) (r22 : Bool) (r23 : Int) : run tt (AbsCalls Try.prog) I12 3000 false [.code I12.body] ⟨(zBg 0 (xAe a0 a1)), [false, false, false, false, false, false, false, false, false, false, true], [yAw r1, yAw r2, yBb r3, yBb r4, xAb r5, yBb r6, yBb r7, xAh r8, yAm r9, yBb r10, yAm r11, yBb r12, yAm r13, yEy r14, yEy r15, yAm r16, xAl r17, yCu r18, yBb r19, yBb r20, xAh r21, yAm r22, yCu r23], []⟩ = some (.done (xAf false) [AbC 24 (yAG a0 1048576) (yAw r1), (decide ((r1 : Int) < 0)) = false, AbC 24 (yAG a1 r1) (yAw r2), (decide ((r2 : Int) < 0)) = false, AbC 26 (yBl a0) (yBb r3), AbC 26 (yBl a1) (yBb r4), AbC 60 (xAj r3 r4) (xAb r5), AbC 26 (yBl a0) (yBb r6), AbC 26 (yBl a1) (yBb r7), AbC 61 (xAd r6 r7) (xAh r8), AbC 19 (yAr (Val.mk (Val.kind r8.1) (Val.n r8.1) (Val.step r8.1) (Val.text r8.1) [] [] []) r5) (yAm r9), (!r9) = false, AbC 26 (yBl a0) (yBb r10), AbC 19 (yAr r6 r10) (yAm r11), (!r11) = false, AbC 26 (yBl a1) (yBb r12), AbC 19 (yAr r7 r12) (yAm r13), (!r13) = false, AbC 22 (yEx r6 1) (yEy r14), List.length r14.2.1 = List.length (Val.list r6), List.length r14.2.2.1 = List.length (Val.columns r6), List.length r14.2.2.2 = List.length (Val.rows r6), AbC 22 (yEx r7 r14.1) (yEy r15), List.length r15.2.1 = List.length (Val.list r7), List.length r15.2.2.1 = List.length (Val.columns r7), List.length r15.2.2.2 = List.length (Val.rows r7), (decide ((r15.1 : Int) < 0)) = false, AbC 19 (yAr (Val.mk (Val.kind r8.1) (Val.n r8.1) (Val.step r8.1) (Val.text r8.1) [] [] []) r5) (yAm r16), (!r16) = false, AbC 22 (xAp (Val.mk (Val.kind r8.1) (Val.n r8.1) (Val.step r8.1) (Val.text r8.1) [] [] []) 1) (xAl r17), AbC 23 (yCt (Val.mk (Val.kind r8.1) (Val.n r8.1) (Val.step r8.1) (Val.text r8.1) [] [] []) 1) (yCu r18), (decide ((r18 : Int) < 0)) = false, ((r18 : Int) != r17) = false, AbC 26 (yBl a0) (yBb r19), AbC 26 (yBl a1) (yBb r20), AbC 61 (xAd r19 r20) (xAh r21), AbC 19 (yAr (Val.mk (Val.kind r21.1) (Val.n r21.1) (Val.step r21.1) (Val.text r21.1) [] [] []) r5) (yAm r22), (!r22) = false, AbC 23 (yCt (Val.mk (Val.kind r8.1) (Val.n r8.1) (Val.step r8.1) (Val.text r8.1) [] [] []) 1) (yCu r23), (decide ((r23 : Int) < 0)) = true]) := by kernel_rfl
theorem p12_e_11 (a0 a1 : Val) (r1 r2 : Int) (r3 r4 r5 r6 r7 : Val) (r8 : Val × Bool) (r9 : Bool) (r10 : Val) (r11 : Bool) (r12 : Val) (r13 : Bool) (r14 : Int × (List Val) × (List Str) × (List Rowd)) (r15 : Int × (List Val) × (List Str) × (List Rowd)) (r16 : Bool) (r17 r18 : Int) (r19 r20 : Val) (r21 : Val × Bool) (r22 : Bool) (r23 : Int) : run tt (AbsCalls Try.prog) I12 3000 false [.code I12.body] ⟨(zBg 0 (xAe a0 a1)), [false, false, false, false, false, false, false, false, false, false, false, true], [yAw r1, yAw r2, yBb r3, yBb r4, xAb r5, yBb r6, yBb r7, xAh r8, yAm r9, yBb r10, yAm r11, yBb r12, yAm r13, yEy r14, yEy r15, yAm r16, xAl r17, yCu r18, yBb r19, yBb r20, xAh r21, yAm r22, yCu r23], []⟩ = some (.done (xAf false) [AbC 24 (yAG a0 1048576) (yAw r1), (decide ((r1 : Int) < 0)) = false, AbC 24 (yAG a1 r1) (yAw r2), (decide ((r2 : Int) < 0)) = false, AbC 26 (yBl a0) (yBb r3), AbC 26 (yBl a1) (yBb r4), AbC 60 (xAj r3 r4) (xAb r5), AbC 26 (yBl a0) (yBb r6), AbC 26 (yBl a1) (yBb r7), AbC 61 (xAd r6 r7) (xAh r8), AbC 19 (yAr (Val.mk (Val.kind r8.1) (Val.n r8.1) (Val.step r8.1) (Val.text r8.1) [] [] []) r5) (yAm r9), (!r9) = false, AbC 26 (yBl a0) (yBb r10), AbC 19 (yAr r6 r10) (yAm r11), (!r11) = false, AbC 26 (yBl a1) (yBb r12), AbC 19 (yAr r7 r12) (yAm r13), (!r13) = false, AbC 22 (yEx r6 1) (yEy r14), List.length r14.2.1 = List.length (Val.list r6), List.length r14.2.2.1 = List.length (Val.columns r6), List.length r14.2.2.2 = List.length (Val.rows r6), AbC 22 (yEx r7 r14.1) (yEy r15), List.length r15.2.1 = List.length (Val.list r7), List.length r15.2.2.1 = List.length (Val.columns r7), List.length r15.2.2.2 = List.length (Val.rows r7), (decide ((r15.1 : Int) < 0)) = false, AbC 19 (yAr (Val.mk (Val.kind r8.1) (Val.n r8.1) (Val.step r8.1) (Val.text r8.1) [] [] []) r5) (yAm r16), (!r16) = false, AbC 22 (xAp (Val.mk (Val.kind r8.1) (Val.n r8.1) (Val.step r8.1) (Val.text r8.1) [] [] []) 1) (xAl r17), AbC 23 (yCt (Val.mk (Val.kind r8.1) (Val.n r8.1) (Val.step r8.1) (Val.text r8.1) [] [] []) 1) (yCu r18), (decide ((r18 : Int) < 0)) = false, ((r18 : Int) != r17) = false, AbC 26 (yBl a0) (yBb r19), AbC 26 (yBl a1) (yBb r20), AbC 61 (xAd r19 r20) (xAh r21), AbC 19 (yAr (Val.mk (Val.kind r21.1) (Val.n r21.1) (Val.step r21.1) (Val.text r21.1) [] [] []) r5) (yAm r22), (!r22) = false, AbC 23 (yCt (Val.mk (Val.kind r8.1) (Val.n r8.1) (Val.step r8.1) (Val.text r8.1) [] [] []) 1) (yCu r23), (decide ((r23 : Int) < 0)) = false, ((r23 : Int) != r17) = true]) := by kernel_rfl
theorem p12_e_12 (a0 a1 : Val) (r1 r2 : Int) (r3 r4 r5 r6 r7 : Val) (r8 : Val × Bool) (r9 : Bool) (r10 : Val) (r11 : Bool) (r12 : Val) (r13 : Bool) (r14 : Int × (List Val) × (List Str) × (List Rowd)) (r15 : Int × (List Val) × (List Str) × (List Rowd)) (r16 : Bool) (r17 r18 : Int) (r19 r20 : Val) (r21 : Val × Bool) (r22 : Bool) (r23 : Int) : run tt (AbsCalls Try.prog) I12 3000 false [.code I12.body] ⟨(zBg 0 (xAe a0 a1)), [false, false, false, false, false, false, false, false, false, false, false, false], [yAw r1, yAw r2, yBb r3, yBb r4, xAb r5, yBb r6, yBb r7, xAh r8, yAm r9, yBb r10, yAm r11, yBb r12, yAm r13, yEy r14, yEy r15, yAm r16, xAl r17, yCu r18, yBb r19, yBb r20, xAh r21, yAm r22, yCu r23], []⟩ = some (.done (xAf true) [AbC 24 (yAG a0 1048576) (yAw r1), (decide ((r1 : Int) < 0)) = false, AbC 24 (yAG a1 r1) (yAw r2), (decide ((r2 : Int) < 0)) = false, AbC 26 (yBl a0) (yBb r3), AbC 26 (yBl a1) (yBb r4), AbC 60 (xAj r3 r4) (xAb r5), AbC 26 (yBl a0) (yBb r6), AbC 26 (yBl a1) (yBb r7), AbC 61 (xAd r6 r7) (xAh r8), AbC 19 (yAr (Val.mk (Val.kind r8.1) (Val.n r8.1) (Val.step r8.1) (Val.text r8.1) [] [] []) r5) (yAm r9), (!r9) = false, AbC 26 (yBl a0) (yBb r10), AbC 19 (yAr r6 r10) (yAm r11), (!r11) = false, AbC 26 (yBl a1) (yBb r12), AbC 19 (yAr r7 r12) (yAm r13), (!r13) = false, AbC 22 (yEx r6 1) (yEy r14), List.length r14.2.1 = List.length (Val.list r6), List.length r14.2.2.1 = List.length (Val.columns r6), List.length r14.2.2.2 = List.length (Val.rows r6), AbC 22 (yEx r7 r14.1) (yEy r15), List.length r15.2.1 = List.length (Val.list r7), List.length r15.2.2.1 = List.length (Val.columns r7), List.length r15.2.2.2 = List.length (Val.rows r7), (decide ((r15.1 : Int) < 0)) = false, AbC 19 (yAr (Val.mk (Val.kind r8.1) (Val.n r8.1) (Val.step r8.1) (Val.text r8.1) [] [] []) r5) (yAm r16), (!r16) = false, AbC 22 (xAp (Val.mk (Val.kind r8.1) (Val.n r8.1) (Val.step r8.1) (Val.text r8.1) [] [] []) 1) (xAl r17), AbC 23 (yCt (Val.mk (Val.kind r8.1) (Val.n r8.1) (Val.step r8.1) (Val.text r8.1) [] [] []) 1) (yCu r18), (decide ((r18 : Int) < 0)) = false, ((r18 : Int) != r17) = false, AbC 26 (yBl a0) (yBb r19), AbC 26 (yBl a1) (yBb r20), AbC 61 (xAd r19 r20) (xAh r21), AbC 19 (yAr (Val.mk (Val.kind r21.1) (Val.n r21.1) (Val.step r21.1) (Val.text r21.1) [] [] []) r5) (yAm r22), (!r22) = false, AbC 23 (yCt (Val.mk (Val.kind r8.1) (Val.n r8.1) (Val.step r8.1) (Val.text r8.1) [] [] []) 1) (yCu r23), (decide ((r23 : Int) < 0)) = false, ((r23 : Int) != r17) = false]) := by kernel_rfl
theorem p12_e_13 (a0 a1 : Val) (r1 r2 : Int) (r3 r4 r5 r6 r7 : Val) (r8 : Val × Bool) (r9 : Bool) (r10 : Val) (r11 : Bool) (r12 : Val) (r13 : Bool) (r14 : Int × (List Val) × (List Str) × (List Rowd)) (r15 : Int × (List Val) × (List Str) × (List Rowd)) (r16 : Bool) (r17 r18 : Int) (r19 r20 : Val) (r21 : Val × Bool) (r22 : Bool) : run tt (AbsCalls Try.prog) I12 3000 false [.code I12.body] ⟨(zBg 0 (xAe a0 a1)), [false, false, false, false, false, false, false, false, false, true], [yAw r1, yAw r2, yBb r3, yBb r4, xAb r5, yBb r6, yBb r7, xAh r8, yAm r9, yBb r10, yAm r11, yBb r12, yAm r13, yEy r14, yEy r15, yAm r16, xAl r17, yCu r18, yBb r19, yBb r20, xAg r21, yAm r22], []⟩ = some (.done (xAf false) [AbC 24 (yAG a0 1048576) (yAw r1), (decide ((r1 : Int) < 0)) = false, AbC 24 (yAG a1 r1) (yAw r2), (decide ((r2 : Int) < 0)) = false, AbC 26 (yBl a0) (yBb r3), AbC 26 (yBl a1) (yBb r4), AbC 60 (xAj r3 r4) (xAb r5), AbC 26 (yBl a0) (yBb r6), AbC 26 (yBl a1) (yBb r7), AbC 61 (xAd r6 r7) (xAh r8), AbC 19 (yAr (Val.mk (Val.kind r8.1) (Val.n r8.1) (Val.step r8.1) (Val.text r8.1) [] [] []) r5) (yAm r9), (!r9) = false, AbC 26 (yBl a0) (yBb r10), AbC 19 (yAr r6 r10) (yAm r11), (!r11) = false, AbC 26 (yBl a1) (yBb r12), AbC 19 (yAr r7 r12) (yAm r13), (!r13) = false, AbC 22 (yEx r6 1) (yEy r14), List.length r14.2.1 = List.length (Val.list r6), List.length r14.2.2.1 = List.length (Val.columns r6), List.length r14.2.2.2 = List.length (Val.rows r6), AbC 22 (yEx r7 r14.1) (yEy r15), List.length r15.2.1 = List.length (Val.list r7), List.length r15.2.2.1 = List.length (Val.columns r7), List.length r15.2.2.2 = List.length (Val.rows r7), (decide ((r15.1 : Int) < 0)) = false, AbC 19 (yAr (Val.mk (Val.kind r8.1) (Val.n r8.1) (Val.step r8.1) (Val.text r8.1) [] [] []) r5) (yAm r16), (!r16) = false, AbC 22 (xAp (Val.mk (Val.kind r8.1) (Val.n r8.1) (Val.step r8.1) (Val.text r8.1) [] [] []) 1) (xAl r17), AbC 23 (yCt (Val.mk (Val.kind r8.1) (Val.n r8.1) (Val.step r8.1) (Val.text r8.1) [] [] []) 1) (yCu r18), (decide ((r18 : Int) < 0)) = false, ((r18 : Int) != r17) = false, AbC 26 (yBl a0) (yBb r19), AbC 26 (yBl a1) (yBb r20), AbC 61 (xAd r19 r20) (xAg r21), AbC 19 (yAr r21.1 r5) (yAm r22), (!r22) = true]) := by kernel_rfl
theorem p12_e_14 (a0 a1 : Val) (r1 r2 : Int) (r3 r4 r5 r6 r7 : Val) (r8 : Val × Bool) (r9 : Bool) (r10 : Val) (r11 : Bool) (r12 : Val) (r13 : Bool) (r14 : Int × (List Val) × (List Str) × (List Rowd)) (r15 : Int × (List Val) × (List Str) × (List Rowd)) (r16 : Bool) (r17 r18 : Int) (r19 r20 : Val) (r21 : Val × Bool) (r22 : Bool) (r23 : Int) : run tt (AbsCalls Try.prog) I12 3000 false [.code I12.body] ⟨(zBg 0 (xAe a0 a1)), [false, false, false, false, false, false, false, false, false, false, true], [yAw r1, yAw r2, yBb r3, yBb r4, xAb r5, yBb r6, yBb r7, xAh r8, yAm r9, yBb r10, yAm r11, yBb r12, yAm r13, yEy r14, yEy r15, yAm r16, xAl r17, yCu r18, yBb r19, yBb r20, xAg r21, yAm r22, yCu r23], []⟩ = some (.done (xAf false) [AbC 24 (yAG a0 1048576) (yAw r1), (decide ((r1 : Int) < 0)) = false, AbC 24 (yAG a1 r1) (yAw r2), (decide ((r2 : Int) < 0)) = false, AbC 26 (yBl a0) (yBb r3), AbC 26 (yBl a1) (yBb r4), AbC 60 (xAj r3 r4) (xAb r5), AbC 26 (yBl a0) (yBb r6), AbC 26 (yBl a1) (yBb r7), AbC 61 (xAd r6 r7) (xAh r8), AbC 19 (yAr (Val.mk (Val.kind r8.1) (Val.n r8.1) (Val.step r8.1) (Val.text r8.1) [] [] []) r5) (yAm r9), (!r9) = false, AbC 26 (yBl a0) (yBb r10), AbC 19 (yAr r6 r10) (yAm r11), (!r11) = false, AbC 26 (yBl a1) (yBb r12), AbC 19 (yAr r7 r12) (yAm r13), (!r13) = false, AbC 22 (yEx r6 1) (yEy r14), List.length r14.2.1 = List.length (Val.list r6), List.length r14.2.2.1 = List.length (Val.columns r6), List.length r14.2.2.2 = List.length (Val.rows r6), AbC 22 (yEx r7 r14.1) (yEy r15), List.length r15.2.1 = List.length (Val.list r7), List.length r15.2.2.1 = List.length (Val.columns r7), List.length r15.2.2.2 = List.length (Val.rows r7), (decide ((r15.1 : Int) < 0)) = false, AbC 19 (yAr (Val.mk (Val.kind r8.1) (Val.n r8.1) (Val.step r8.1) (Val.text r8.1) [] [] []) r5) (yAm r16), (!r16) = false, AbC 22 (xAp (Val.mk (Val.kind r8.1) (Val.n r8.1) (Val.step r8.1) (Val.text r8.1) [] [] []) 1) (xAl r17), AbC 23 (yCt (Val.mk (Val.kind r8.1) (Val.n r8.1) (Val.step r8.1) (Val.text r8.1) [] [] []) 1) (yCu r18), (decide ((r18 : Int) < 0)) = false, ((r18 : Int) != r17) = false, AbC 26 (yBl a0) (yBb r19), AbC 26 (yBl a1) (yBb r20), AbC 61 (xAd r19 r20) (xAg r21), AbC 19 (yAr r21.1 r5) (yAm r22), (!r22) = false, AbC 23 (yCt (Val.mk (Val.kind r8.1) (Val.n r8.1) (Val.step r8.1) (Val.text r8.1) [] [] []) 1) (yCu r23), (decide ((r23 : Int) < 0)) = true]) := by kernel_rfl
theorem p12_e_15 (a0 a1 : Val) (r1 r2 : Int) (r3 r4 r5 r6 r7 : Val) (r8 : Val × Bool) (r9 : Bool) (r10 : Val) (r11 : Bool) (r12 : Val) (r13 : Bool) (r14 : Int × (List Val) × (List Str) × (List Rowd)) (r15 : Int × (List Val) × (List Str) × (List Rowd)) (r16 : Bool) (r17 r18 : Int) (r19 r20 : Val) (r21 : Val × Bool) (r22 : Bool) (r23 : Int) : run tt (AbsCalls Try.prog) I12 3000 false [.code I12.body] ⟨(zBg 0 (xAe a0 a1)), [false, false, false, false, false, false, false, false, false, false, false, true], [yAw r1, yAw r2, yBb r3, yBb r4, xAb r5, yBb r6, yBb r7, xAh r8, yAm r9, yBb r10, yAm r11, yBb r12, yAm r13, yEy r14, yEy r15, yAm r16, xAl r17, yCu r18, yBb r19, yBb r20, xAg r21, yAm r22, yCu r23], []⟩ = some (.done (xAf false) [AbC 24 (yAG a0 1048576) (yAw r1), (decide ((r1 : Int) < 0)) = false, AbC 24 (yAG a1 r1) (yAw r2), (decide ((r2 : Int) < 0)) = false, AbC 26 (yBl a0) (yBb r3), AbC 26 (yBl a1) (yBb r4), AbC 60 (xAj r3 r4) (xAb r5), AbC 26 (yBl a0) (yBb r6), AbC 26 (yBl a1) (yBb r7), AbC 61 (xAd r6 r7) (xAh r8), AbC 19 (yAr (Val.mk (Val.kind r8.1) (Val.n r8.1) (Val.step r8.1) (Val.text r8.1) [] [] []) r5) (yAm r9), (!r9) = false, AbC 26 (yBl a0) (yBb r10), AbC 19 (yAr r6 r10) (yAm r11), (!r11) = false, AbC 26 (yBl a1) (yBb r12), AbC 19 (yAr r7 r12) (yAm r13), (!r13) = false, AbC 22 (yEx r6 1) (yEy r14), List.length r14.2.1 = List.length (Val.list r6), List.length r14.2.2.1 = List.length (Val.columns r6), List.length r14.2.2.2 = List.length (Val.rows r6), AbC 22 (yEx r7 r14.1) (yEy r15), List.length r15.2.1 = List.length (Val.list r7), List.length r15.2.2.1 = List.length (Val.columns r7), List.length r15.2.2.2 = List.length (Val.rows r7), (decide ((r15.1 : Int) < 0)) = false, AbC 19 (yAr (Val.mk (Val.kind r8.1) (Val.n r8.1) (Val.step r8.1) (Val.text r8.1) [] [] []) r5) (yAm r16), (!r16) = false, AbC 22 (xAp (Val.mk (Val.kind r8.1) (Val.n r8.1) (Val.step r8.1) (Val.text r8.1) [] [] []) 1) (xAl r17), AbC 23 (yCt (Val.mk (Val.kind r8.1) (Val.n r8.1) (Val.step r8.1) (Val.text r8.1) [] [] []) 1) (yCu r18), (decide ((r18 : Int) < 0)) = false, ((r18 : Int) != r17) = false, AbC 26 (yBl a0) (yBb r19), AbC 26 (yBl a1) (yBb r20), AbC 61 (xAd r19 r20) (xAg r21), AbC 19 (yAr r21.1 r5) (yAm r22), (!r22) = false, AbC 23 (yCt (Val.mk (Val.kind r8.1) (Val.n r8.1) (Val.step r8.1) (Val.text r8.1) [] [] []) 1) (yCu r23), (decide ((r23 : Int) < 0)) = false, ((r23 : Int) != r17) = true]) := by kernel_rfl
theorem p12_e_16 (a0 a1 : Val) (r1 r2 : Int) (r3 r4 r5 r6 r7 : Val) (r8 : Val × Bool) (r9 : Bool) (r10 : Val) (r11 : Bool) (r12 : Val) (r13 : Bool) (r14 : Int × (List Val) × (List Str) × (List Rowd)) (r15 : Int × (List Val) × (List Str) × (List Rowd)) (r16 : Bool) (r17 r18 : Int) (r19 r20 : Val) (r21 : Val × Bool) (r22 : Bool) (r23 : Int) : run tt (AbsCalls Try.prog) I12 3000 false [.code I12.body] ⟨(zBg 0 (xAe a0 a1)), [false, false, false, false, false, false, false, false, false, false, false, false], [yAw r1, yAw r2, yBb r3, yBb r4, xAb r5, yBb r6, yBb r7, xAh r8, yAm r9, yBb r10, yAm r11, yBb r12, yAm r13, yEy r14, yEy r15, yAm r16, xAl r17, yCu r18, yBb r19, yBb r20, xAg r21, yAm r22, yCu r23], []⟩ = some (.done (xAf true) [AbC 24 (yAG a0 1048576) (yAw r1), (decide ((r1 : Int) < 0)) = false, AbC 24 (yAG a1 r1) (yAw r2), (decide ((r2 : Int) < 0)) = false, AbC 26 (yBl a0) (yBb r3), AbC 26 (yBl a1) (yBb r4), AbC 60 (xAj r3 r4) (xAb r5), AbC 26 (yBl a0) (yBb r6), AbC 26 (yBl a1) (yBb r7), AbC 61 (xAd r6 r7) (xAh r8), AbC 19 (yAr (Val.mk (Val.kind r8.1) (Val.n r8.1) (Val.step r8.1) (Val.text r8.1) [] [] []) r5) (yAm r9), (!r9) = false, AbC 26 (yBl a0) (yBb r10), AbC 19 (yAr r6 r10) (yAm r11), (!r11) = false, AbC 26 (yBl a1) (yBb r12), AbC 19 (yAr r7 r12) (yAm r13), (!r13) = false, AbC 22 (yEx r6 1) (yEy r14), List.length r14.2.1 = List.length (Val.list r6), List.length r14.2.2.1 = List.length (Val.columns r6), List.length r14.2.2.2 = List.length (Val.rows r6), AbC 22 (yEx r7 r14.1) (yEy r15), List.length r15.2.1 = List.length (Val.list r7), List.length r15.2.2.1 = List.length (Val.columns r7), List.length r15.2.2.2 = List.length (Val.rows r7), (decide ((r15.1 : Int) < 0)) = false, AbC 19 (yAr (Val.mk (Val.kind r8.1) (Val.n r8.1) (Val.step r8.1) (Val.text r8.1) [] [] []) r5) (yAm r16), (!r16) = false, AbC 22 (xAp (Val.mk (Val.kind r8.1) (Val.n r8.1) (Val.step r8.1) (Val.text r8.1) [] [] []) 1) (xAl r17), AbC 23 (yCt (Val.mk (Val.kind r8.1) (Val.n r8.1) (Val.step r8.1) (Val.text r8.1) [] [] []) 1) (yCu r18), (decide ((r18 : Int) < 0)) = false, ((r18 : Int) != r17) = false, AbC 26 (yBl a0) (yBb r19), AbC 26 (yBl a1) (yBb r20), AbC 61 (xAd r19 r20) (xAg r21), AbC 19 (yAr r21.1 r5) (yAm r22), (!r22) = false, AbC 23 (yCt (Val.mk (Val.kind r8.1) (Val.n r8.1) (Val.step r8.1) (Val.text r8.1) [] [] []) 1) (yCu r23), (decide ((r23 : Int) < 0)) = false, ((r23 : Int) != r17) = false]) := by kernel_rfl
theorem p12_e_17 (a0 a1 : Val) (r1 r2 : Int) (r3 r4 r5 r6 r7 : Val) (r8 : Val × Bool) (r9 : Bool) : run tt (AbsCalls Try.prog) I12 3000 false [.code I12.body] ⟨(zBg 0 (xAe a0 a1)), [false, false, true], [yAw r1, yAw r2, yBb r3, yBb r4, xAb r5, yBb r6, yBb r7, xAg r8, yAm r9], []⟩ = some (.done (xAf false) [AbC 24 (yAG a0 1048576) (yAw r1), (decide ((r1 : Int) < 0)) = false, AbC 24 (yAG a1 r1) (yAw r2), (decide ((r2 : Int) < 0)) = false, AbC 26 (yBl a0) (yBb r3), AbC 26 (yBl a1) (yBb r4), AbC 60 (xAj r3 r4) (xAb r5), AbC 26 (yBl a0) (yBb r6), AbC 26 (yBl a1) (yBb r7), AbC 61 (xAd r6 r7) (xAg r8), AbC 19 (yAr r8.1 r5) (yAm r9), (!r9) = true]) := by kernel_rfl
theorem p12_e_18 (a0 a1 : Val) (r1 r2 : Int) (r3 r4 r5 r6 r7 : Val) (r8 : Val × Bool) (r9 : Bool) (r10 : Val) (r11 : Bool) : run tt (AbsCalls Try.prog) I12 3000 false [.code I12.body] ⟨(zBg 0 (xAe a0 a1)), [false, false, false, true], [yAw r1, yAw r2, yBb r3, yBb r4, xAb r5, yBb r6, yBb r7, xAg r8, yAm r9, yBb r10, yAm r11], []⟩ = some (.done (xAf false) [AbC 24 (yAG a0 1048576) (yAw r1), (decide ((r1 : Int) < 0)) = false, AbC 24 (yAG a1 r1) (yAw r2), (decide ((r2 : Int) < 0)) = false, AbC 26 (yBl a0) (yBb r3), AbC 26 (yBl a1) (yBb r4), AbC 60 (xAj r3 r4) (xAb r5), AbC 26 (yBl a0) (yBb r6), AbC 26 (yBl a1) (yBb r7), AbC 61 (xAd r6 r7) (xAg r8), AbC 19 (yAr r8.1 r5) (yAm r9), (!r9) = false, AbC 26 (yBl a0) (yBb r10), AbC 19 (yAr r6 r10) (yAm r11), (!r11) = true]) := by kernel_rfl
theorem p12_e_19 (a0 a1 : Val) (r1 r2 : Int) (r3 r4 r5 r6 r7 : Val) (r8 : Val × Bool) (r9 : Bool) (r10 : Val) (r11 : Bool) (r12 : Val) (r13 : Bool) : run tt (AbsCalls Try.prog) I12 3000 false [.code I12.body] ⟨(zBg 0 (xAe a0 a1)), [false, false, false, false, true], [yAw r1, yAw r2, yBb r3, yBb r4, xAb r5, yBb r6, yBb r7, xAg r8, yAm r9, yBb r10, yAm r11, yBb r12, yAm r13], []⟩ = some (.done (xAf false) [AbC 24 (yAG a0 1048576) (yAw r1), (decide ((r1 : Int) < 0)) = false, AbC 24 (yAG a1 r1) (yAw r2), (decide ((r2 : Int) < 0)) = false, AbC 26 (yBl a0) (yBb r3), AbC 26 (yBl a1) (yBb r4), AbC 60 (xAj r3 r4) (xAb r5), AbC 26 (yBl a0) (yBb r6), AbC 26 (yBl a1) (yBb r7), AbC 61 (xAd r6 r7) (xAg r8), AbC 19 (yAr r8.1 r5) (yAm r9), (!r9) = false, AbC 26 (yBl a0) (yBb r10), AbC 19 (yAr r6 r10) (yAm r11), (!r11) = false, AbC 26 (yBl a1) (yBb r12), AbC 19 (yAr r7 r12) (yAm r13), (!r13) = true]) := by kernel_rfl
theorem p12_e_20 (a0 a1 : Val) (r1 r2 : Int) (r3 r4 r5 r6 r7 : Val) (r8 : Val × Bool) (r9 : Bool) (r10 : Val) (r11 : Bool) (r12 : Val) (r13 : Bool) (r14 : Int × (List Val) × (List Str) × (List Rowd)) (r15 : Int × (List Val) × (List Str) × (List Rowd)) : run tt (AbsCalls Try.prog) I12 3000 false [.code I12.body] ⟨(zBg 0 (xAe a0 a1)), [false, false, false, false, false, true, true], [yAw r1, yAw r2, yBb r3, yBb r4, xAb r5, yBb r6, yBb r7, xAg r8, yAm r9, yBb r10, yAm r11, yBb r12, yAm r13, yEy r14, yEy r15], []⟩ = some (.done (xAf false) [AbC 24 (yAG a0 1048576) (yAw r1), (decide ((r1 : Int) < 0)) = false, AbC 24 (yAG a1 r1) (yAw r2), (decide ((r2 : Int) < 0)) = false, AbC 26 (yBl a0) (yBb r3), AbC 26 (yBl a1) (yBb r4), AbC 60 (xAj r3 r4) (xAb r5), AbC 26 (yBl a0) (yBb r6), AbC 26 (yBl a1) (yBb r7), AbC 61 (xAd r6 r7) (xAg r8), AbC 19 (yAr r8.1 r5) (yAm r9), (!r9) = false, AbC 26 (yBl a0) (yBb r10), AbC 19 (yAr r6 r10) (yAm r11), (!r11) = false, AbC 26 (yBl a1) (yBb r12), AbC 19 (yAr r7 r12) (yAm r13), (!r13) = false, AbC 22 (yEx r6 1) (yEy r14), List.length r14.2.1 = List.length (Val.list r6), List.length r14.2.2.1 = List.length (Val.columns r6), List.length r14.2.2.2 = List.length (Val.rows r6), AbC 22 (yEx r7 r14.1) (yEy r15), List.length r15.2.1 = List.length (Val.list r7), List.length r15.2.2.1 = List.length (Val.columns r7), List.length r15.2.2.2 = List.length (Val.rows r7), (decide ((r15.1 : Int) < 0)) = true, true = true]) := by kernel_rfl
theorem p12_e_21 (a0 a1 : Val) (r1 r2 : Int) (r3 r4 r5 r6 r7 : Val) (r8 : Val × Bool) (r9 : Bool) (r10 : Val) (r11 : Bool) (r12 : Val) (r13 : Bool) (r14 : Int × (List Val) × (List Str) × (List Rowd)) (r15 : Int × (List Val) × (List Str) × (List Rowd)) (r16 : Bool) : run tt (AbsCalls Try.prog) I12 3000 false [.code I12.body] ⟨(zBg 0 (xAe a0 a1)), [false, false, false, false, false, false, true], [yAw r1, yAw r2, yBb r3, yBb r4, xAb r5, yBb r6, yBb r7, xAg r8, yAm r9, yBb r10, yAm r11, yBb r12, yAm r13, yEy r14, yEy r15, yAm r16], []⟩ = some (.done (xAf false) [AbC 24 (yAG a0 1048576) (yAw r1), (decide ((r1 : Int) < 0)) = false, AbC 24 (yAG a1 r1) (yAw r2), (decide ((r2 : Int) < 0)) = false, AbC 26 (yBl a0) (yBb r3), AbC 26 (yBl a1) (yBb r4), AbC 60 (xAj r3 r4) (xAb r5), AbC 26 (yBl a0) (yBb r6), AbC 26 (yBl a1) (yBb r7), AbC 61 (xAd r6 r7) (xAg r8), AbC 19 (yAr r8.1 r5) (yAm r9), (!r9) = false, AbC 26 (yBl a0) (yBb r10), AbC 19 (yAr r6 r10) (yAm r11), (!r11) = false, AbC 26 (yBl a1) (yBb r12), AbC 19 (yAr r7 r12) (yAm r13), (!r13) = false, AbC 22 (yEx r6 1) (yEy r14), List.length r14.2.1 = List.length (Val.list r6), List.length r14.2.2.1 = List.length (Val.columns r6), List.length r14.2.2.2 = List.length (Val.rows r6), AbC 22 (yEx r7 r14.1) (yEy r15), List.length r15.2.1 = List.length (Val.list r7), List.length r15.2.2.1 = List.length (Val.columns r7), List.length r15.2.2.2 = List.length (Val.rows r7), (decide ((r15.1 : Int) < 0)) = false, AbC 19 (yAr r8.1 r5) (yAm r16), (!r16) = true]) := by kernel_rfl
theorem p12_e_22 (a0 a1 : Val) (r1 r2 : Int) (r3 r4 r5 r6 r7 : Val) (r8 : Val × Bool) (r9 : Bool) (r10 : Val) (r11 : Bool) (r12 : Val) (r13 : Bool) (r14 : Int × (List Val) × (List Str) × (List Rowd)) (r15 : Int × (List Val) × (List Str) × (List Rowd)) (r16 : Bool) (r17 : Int × (List Val) × (List Str) × (List Rowd)) (r18 : Int) : run tt (AbsCalls Try.prog) I12 3000 false [.code I12.body] ⟨(zBg 0 (xAe a0 a1)), [false, false, false, false, false, false, false, true], [yAw r1, yAw r2, yBb r3, yBb r4, xAb r5, yBb r6, yBb r7, xAg r8, yAm r9, yBb r10, yAm r11, yBb r12, yAm r13, yEy r14, yEy r15, yAm r16, yEy r17, yCu r18], []⟩ = some (.done (xAf false) [AbC 24 (yAG a0 1048576) (yAw r1), (decide ((r1 : Int) < 0)) = false, AbC 24 (yAG a1 r1) (yAw r2), (decide ((r2 : Int) < 0)) = false, AbC 26 (yBl a0) (yBb r3), AbC 26 (yBl a1) (yBb r4), AbC 60 (xAj r3 r4) (xAb r5), AbC 26 (yBl a0) (yBb r6), AbC 26 (yBl a1) (yBb r7), AbC 61 (xAd r6 r7) (xAg r8), AbC 19 (yAr r8.1 r5) (yAm r9), (!r9) = false, AbC 26 (yBl a0) (yBb r10), AbC 19 (yAr r6 r10) (yAm r11), (!r11) = false, AbC 26 (yBl a1) (yBb r12), AbC 19 (yAr r7 r12) (yAm r13), (!r13) = false, AbC 22 (yEx r6 1) (yEy r14), List.length r14.2.1 = List.length (Val.list r6), List.length r14.2.2.1 = List.length (Val.columns r6), List.length r14.2.2.2 = List.length (Val.rows r6), AbC 22 (yEx r7 r14.1) (yEy r15), List.length r15.2.1 = List.length (Val.list r7), List.length r15.2.2.1 = List.length (Val.columns r7), List.length r15.2.2.2 = List.length (Val.rows r7), (decide ((r15.1 : Int) < 0)) = false, AbC 19 (yAr r8.1 r5) (yAm r16), (!r16) = false, AbC 22 (yEx r8.1 1) (yEy r17), List.length r17.2.1 = List.length (Val.list r8.1), List.length r17.2.2.1 = List.length (Val.columns r8.1), List.length r17.2.2.2 = List.length (Val.rows r8.1), AbC 23 (yCt (Val.mk (Val.kind r8.1) (Val.n r8.1) (Val.step r8.1) (Val.text r8.1) r17.2.1 r17.2.2.1 r17.2.2.2) 1) (yCu r18), (decide ((r18 : Int) < 0)) = true]) := by kernel_rfl
theorem p12_e_23 (a0 a1 : Val) (r1 r2 : Int) (r3 r4 r5 r6 r7 : Val) (r8 : Val × Bool) (r9 : Bool) (r10 : Val) (r11 : Bool) (r12 : Val) (r13 : Bool) (r14 : Int × (List Val) × (List Str) × (List Rowd)) (r15 : Int × (List Val) × (List Str) × (List Rowd)) (r16 : Bool) (r17 : Int × (List Val) × (List Str) × (List Rowd)) (r18 : Int) : run tt (AbsCalls Try.prog) I12 3000 false [.code I12.body] ⟨(zBg 0 (xAe a0 a1)), [false, false, false, false, false, false, false, false, true], [yAw r1, yAw r2, yBb r3, yBb r4, xAb r5, yBb r6, yBb r7, xAg r8, yAm r9, yBb r10, yAm r11, yBb r12, yAm r13, yEy r14, yEy r15, yAm r16, yEy r17, yCu r18], []⟩ = some (.done (xAf false) [AbC 24 (yAG a0 1048576) (yAw r1), (decide ((r1 : Int) < 0)) = false, AbC 24 (yAG a1 r1) (yAw r2), (decide ((r2 : Int) < 0)) = false, AbC 26 (yBl a0) (yBb r3), AbC 26 (yBl a1) (yBb r4), AbC 60 (xAj r3 r4) (xAb r5), AbC 26 (yBl a0) (yBb r6), AbC 26 (yBl a1) (yBb r7), AbC 61 (xAd r6 r7) (xAg r8), AbC 19 (yAr r8.1 r5) (yAm r9), (!r9) = false, AbC 26 (yBl a0) (yBb r10), AbC 19 (yAr r6 r10) (yAm r11), (!r11) = false, AbC 26 (yBl a1) (yBb r12), AbC 19 (yAr r7 r12) (yAm r13), (!r13) = false, AbC 22 (yEx r6 1) (yEy r14), List.length r14.2.1 = List.length (Val.list r6), List.length r14.2.2.1 = List.length (Val.columns r6), List.length r14.2.2.2 = List.length (Val.rows r6), AbC 22 (yEx r7 r14.1) (yEy r15), List.length r15.2.1 = List.length (Val.list r7), List.length r15.2.2.1 = List.length (Val.columns r7), List.length r15.2.2.2 = List.length (Val.rows r7), (decide ((r15.1 : Int) < 0)) = false, AbC 19 (yAr r8.1 r5) (yAm r16), (!r16) = false, AbC 22 (yEx r8.1 1) (yEy r17), List.length r17.2.1 = List.length (Val.list r8.1), List.length r17.2.2.1 = List.length (Val.columns r8.1), List.length r17.2.2.2 = List.length (Val.rows r8.1), AbC 23 (yCt (Val.mk (Val.kind r8.1) (Val.n r8.1) (Val.step r8.1) (Val.text r8.1) r17.2.1 r17.2.2.1 r17.2.2.2) 1) (yCu r18), (decide ((r18 : Int) < 0)) = false, ((r18 : Int) != r17.1) = true]) := by kernel_rfl
theorem p12_e_24 (a0 a1 : Val) (r1 r2 : Int) (r3 r4 r5 r6 r7 : Val) (r8 : Val × Bool) (r9 : Bool) (r10 : Val) (r11 : Bool) (r12 : Val) (r13 : Bool) (r14 : Int × (List Val) × (List Str) × (List Rowd)) (r15 : Int × (List Val) × (List Str) × (List Rowd)) (r16 : Bool) (r17 : Int × (List Val) × (List Str) × (List Rowd)) (r18 : Int) (r19 r20 : Val) (r21 : Val × Bool) (r22 : Bool) : run tt (AbsCalls Try.prog) I12 3000 false [.code I12.body] ⟨(zBg 0 (xAe a0 a1)), [false, false, false, false, false, false, false, false, false, true], [yAw r1, yAw r2, yBb r3, yBb r4, xAb r5, yBb r6, yBb r7, xAg r8, yAm r9, yBb r10, yAm r11, yBb r12, yAm r13, yEy r14, yEy r15, yAm r16, yEy r17, yCu r18, yBb r19, yBb r20, xAh r21, yAm r22], []⟩ = some (.done (xAf false) [AbC 24 (yAG a0 1048576) (yAw r1), (decide ((r1 : Int) < 0)) = false, AbC 24 (yAG a1 r1) (yAw r2), (decide ((r2 : Int) < 0)) = false, AbC 26 (yBl a0) (yBb r3), AbC 26 (yBl a1) (yBb r4), AbC 60 (xAj r3 r4) (xAb r5), AbC 26 (yBl a0) (yBb r6), AbC 26 (yBl a1) (yBb r7), AbC 61 (xAd r6 r7) (xAg r8), AbC 19 (yAr r8.1 r5) (yAm r9), (!r9) = false, AbC 26 (yBl a0) (yBb r10), AbC 19 (yAr r6 r10) (yAm r11), (!r11) = false, AbC 26 (yBl a1) (yBb r12), AbC 19 (yAr r7 r12) (yAm r13), (!r13) = false, AbC 22 (yEx r6 1) (yEy r14), List.length r14.2.1 = List.length (Val.list r6), List.length r14.2.2.1 = List.length (Val.columns r6), List.length r14.2.2.2 = List.length (Val.rows r6), AbC 22 (yEx r7 r14.1) (yEy r15), List.length r15.2.1 = List.length (Val.list r7), List.length r15.2.2.1 = List.length (Val.columns r7), List.length r15.2.2.2 = List.length (Val.rows r7), (decide ((r15.1 : Int) < 0)) = false, AbC 19 (yAr r8.1 r5) (yAm r16), (!r16) = false, AbC 22 (yEx r8.1 1) (yEy r17), List.length r17.2.1 = List.length (Val.list r8.1), List.length r17.2.2.1 = List.length (Val.columns r8.1), List.length r17.2.2.2 = List.length (Val.rows r8.1), AbC 23 (yCt (Val.mk (Val.kind r8.1) (Val.n r8.1) (Val.step r8.1) (Val.text r8.1) r17.2.1 r17.2.2.1 r17.2.2.2) 1) (yCu r18), (decide ((r18 : Int) < 0)) = false, ((r18 : Int) != r17.1) = false, AbC 26 (yBl a0) (yBb r19), AbC 26 (yBl a1) (yBb r20), AbC 61 (xAd r19 r20) (xAh r21), AbC 19 (yAr (Val.mk (Val.kind r21.1) (Val.n r21.1) (Val.step r21.1) (Val.text r21.1) [] [] []) r5) (yAm r22), (!r22) = true]) := by kernel_rfl
theorem p12_e_25 (a0 a1 : Val) (r1 r2 : Int) (r3 r4 r5 r6 r7 : Val) (r8 : Val × Bool) (r9 : Bool) (r10 : Val) (r11 : Bool) (r12 : Val) (r13 : Bool) (r14 : Int × (List Val) × (List Str) × (List Rowd)) (r15 : Int × (List Val) × (List Str) × (List Rowd)) (r16 : Bool) (r17 : Int × (List Val) × (List Str) × (List Rowd)) (r18 : Int) (r19 r20 : Val) (r21 : Val × Bool) (r22 : Bool) (r23 : Int) : run tt (AbsCalls Try.prog) I12 3000 false [.code I12.body] ⟨(zBg 0 (xAe a0 a1)), [false, false, false, false, false, false, false, false, false, false, true], [yAw r1, yAw r2, yBb r3, yBb r4, xAb r5, yBb r6, yBb r7, xAg r8, yAm r9, yBb r10, yAm r11, yBb r12, yAm r13, yEy r14, yEy r15, yAm r16, yEy r17, yCu r18, yBb r19, yBb r20, xAh r21, yAm r22, yCu r23], []⟩ = some (.done (xAf false) [AbC 24 (yAG a0 1048576) (yAw r1), (decide ((r1 : Int) < 0)) = false, AbC 24 (yAG a1 r1) (yAw r2), (decide ((r2 : Int) < 0)) = false, AbC 26 (yBl a0) (yBb r3), AbC 26 (yBl a1) (yBb r4), AbC 60 (xAj r3 r4) (xAb r5), AbC 26 (yBl a0) (yBb r6), AbC 26 (yBl a1) (yBb r7), AbC 61 (xAd r6 r7) (xAg r8), AbC 19 (yAr r8.1 r5) (yAm r9), (!r9) = false, AbC 26 (yBl a0) (yBb r10), AbC 19 (yAr r6 r10) (yAm r11), (!r11) = false, AbC 26 (yBl a1) (yBb r12), AbC 19 (yAr r7 r12) (yAm r13), (!r13) = false, AbC 22 (yEx r6 1) (yEy r14), List.length r14.2.1 = List.length (Val.list r6), List.length r14.2.2.1 = List.length (Val.columns r6), List.length r14.2.2.2 = List.length (Val.rows r6), AbC 22 (yEx r7 r14.1) (yEy r15), List.length r15.2.1 = List.length (Val.list r7), List.length r15.2.2.1 = List.length (Val.columns r7), List.length r15.2.2.2 = List.length (Val.rows r7), (decide ((r15.1 : Int) < 0)) = false, AbC 19 (yAr r8.1 r5) (yAm r16), (!r16) = false, AbC 22 (yEx r8.1 1) (yEy r17), List.length r17.2.1 = List.length (Val.list r8.1), List.length r17.2.2.1 = List.length (Val.columns r8.1), List.length r17.2.2.2 = List.length (Val.rows r8.1), AbC 23 (yCt (Val.mk (Val.kind r8.1) (Val.n r8.1) (Val.step r8.1) (Val.text r8.1) r17.2.1 r17.2.2.1 r17.2.2.2) 1) (yCu r18), (decide ((r18 : Int) < 0)) = false, ((r18 : Int) != r17.1) = false, AbC 26 (yBl a0) (yBb r19), AbC 26 (yBl a1) (yBb r20), AbC 61 (xAd r19 r20) (xAh r21), AbC 19 (yAr (Val.mk (Val.kind r21.1) (Val.n r21.1) (Val.step r21.1) (Val.text r21.1) [] [] []) r5) (yAm r22), (!r22) = false, AbC 23 (yCt (Val.mk (Val.kind r8.1) (Val.n r8.1) (Val.step r8.1) (Val.text r8.1) r17.2.1 r17.2.2.1 r17.2.2.2) 1) (yCu r23), (decide ((r23 : Int) < 0)) = true]) := by kernel_rfl
theorem p12_e_26 (a0 a1 : Val) (r1 r2 : Int) (r3 r4 r5 r6 r7 : Val) (r8 : Val × Bool) (r9 : Bool) (r10 : Val) (r11 : Bool) (r12 : Val) (r13 : Bool) (r14 : Int × (List Val) × (List Str) × (List Rowd)) (r15 : Int × (List Val) × (List Str) × (List Rowd)) (r16 : Bool) (r17 : Int × (List Val) × (List Str) × (List Rowd)) (r18 : Int) (r19 r20 : Val) (r21 : Val × Bool) (r22 : Bool) (r23 : Int) : run tt (AbsCalls Try.prog) I12 3000 false [.code I12.body] ⟨(zBg 0 (xAe a0 a1)), [false, false, false, false, false, false, false, false, false, false, false, true], [yAw r1, yAw r2, yBb r3, yBb r4, xAb r5, yBb r6, yBb r7, xAg r8, yAm r9, yBb r10, yAm r11, yBb r12, yAm r13, yEy r14, yEy r15, yAm r16, yEy r17, yCu r18, yBb r19, yBb r20, xAh r21, yAm r22, yCu r23], []⟩ = some (.done (xAf false) [AbC 24 (yAG a0 1048576) (yAw r1), (decide ((r1 : Int) < 0)) = false, AbC 24 (yAG a1 r1) (yAw r2), (decide ((r2 : Int) < 0)) = false, AbC 26 (yBl a0) (yBb r3), AbC 26 (yBl a1) (yBb r4), AbC 60 (xAj r3 r4) (xAb r5), AbC 26 (yBl a0) (yBb r6), AbC 26 (yBl a1) (yBb r7), AbC 61 (xAd r6 r7) (xAg r8), AbC 19 (yAr r8.1 r5) (yAm r9), (!r9) = false, AbC 26 (yBl a0) (yBb r10), AbC 19 (yAr r6 r10) (yAm r11), (!r11) = false, AbC 26 (yBl a1) (yBb r12), AbC 19 (yAr r7 r12) (yAm r13), (!r13) = false, AbC 22 (yEx r6 1) (yEy r14), List.length r14.2.1 = List.length (Val.list r6), List.length r14.2.2.1 = List.length (Val.columns r6), List.length r14.2.2.2 = List.length (Val.rows r6), AbC 22 (yEx r7 r14.1) (yEy r15), List.length r15.2.1 = List.length (Val.list r7), List.length r15.2.2.1 = List.length (Val.columns r7), List.length r15.2.2.2 = List.length (Val.rows r7), (decide ((r15.1 : Int) < 0)) = false, AbC 19 (yAr r8.1 r5) (yAm r16), (!r16) = false, AbC 22 (yEx r8.1 1) (yEy r17), List.length r17.2.1 = List.length (Val.list r8.1), List.length r17.2.2.1 = List.length (Val.columns r8.1), List.length r17.2.2.2 = List.length (Val.rows r8.1), AbC 23 (yCt (Val.mk (Val.kind r8.1) (Val.n r8.1) (Val.step r8.1) (Val.text r8.1) r17.2.1 r17.2.2.1 r17.2.2.2) 1) (yCu r18), (decide ((r18 : Int) < 0)) = false, ((r18 : Int) != r17.1) = false, AbC 26 (yBl a0) (yBb r19), AbC 26 (yBl a1) (yBb r20), AbC 61 (xAd r19 r20) (xAh r21), AbC 19 (yAr (Val.mk (Val.kind r21.1) (Val.n r21.1) (Val.step r21.1) (Val.text r21.1) [] [] []) r5) (yAm r22), (!r22) = false, AbC 23 (yCt (Val.mk (Val.kind r8.1) (Val.n r8.1) (Val.step r8.1) (Val.text r8.1) r17.2.1 r17.2.2.1 r17.2.2.2) 1) (yCu r23), (decide ((r23 : Int) < 0)) = false, ((r23 : Int) != r17.1) = true]) := by kernel_rfl
theorem p12_e_27 (a0 a1 : Val) (r1 r2 : Int) (r3 r4 r5 r6 r7 : Val) (r8 : Val × Bool) (r9 : Bool) (r10 : Val) (r11 : Bool) (r12 : Val) (r13 : Bool) (r14 : Int × (List Val) × (List Str) × (List Rowd)) (r15 : Int × (List Val) × (List Str) × (List Rowd)) (r16 : Bool) (r17 : Int × (List Val) × (List Str) × (List Rowd)) (r18 : Int) (r19 r20 : Val) (r21 : Val × Bool) (r22 : Bool) (r23 : Int) : run tt (AbsCalls Try.prog) I12 3000 false [.code I12.body] ⟨(zBg 0 (xAe a0 a1)), [false, false, false, false, false, false, false, false, false, false, false, false], [yAw r1, yAw r2, yBb r3, yBb r4, xAb r5, yBb r6, yBb r7, xAg r8, yAm r9, yBb r10, yAm r11, yBb r12, yAm r13, yEy r14, yEy r15, yAm r16, yEy r17, yCu r18, yBb r19, yBb r20, xAh r21, yAm r22, yCu r23], []⟩ = some (.done (xAf true) [AbC 24 (yAG a0 1048576) (yAw r1), (decide ((r1 : Int) < 0)) = false, AbC 24 (yAG a1 r1) (yAw r2), (decide ((r2 : Int) < 0)) = false, AbC 26 (yBl a0) (yBb r3), AbC 26 (yBl a1) (yBb r4), AbC 60 (xAj r3 r4) (xAb r5), AbC 26 (yBl a0) (yBb r6), AbC 26 (yBl a1) (yBb r7), AbC 61 (xAd r6 r7) (xAg r8), AbC 19 (yAr r8.1 r5) (yAm r9), (!r9) = false, AbC 26 (yBl a0) (yBb r10), AbC 19 (yAr r6 r10) (yAm r11), (!r11) = false, AbC 26 (yBl a1) (yBb r12), AbC 19 (yAr r7 r12) (yAm r13), (!r13) = false, AbC 22 (yEx r6 1) (yEy r14), List.length r14.2.1 = List.length (Val.list r6), List.length r14.2.2.1 = List.length (Val.columns r6), List.length r14.2.2.2 = List.length (Val.rows r6), AbC 22 (yEx r7 r14.1) (yEy r15), List.length r15.2.1 = List.length (Val.list r7), List.length r15.2.2.1 = List.length (Val.columns r7), List.length r15.2.2.2 = List.length (Val.rows r7), (decide ((r15.1 : Int) < 0)) = false, AbC 19 (yAr r8.1 r5) (yAm r16), (!r16) = false, AbC 22 (yEx r8.1 1) (yEy r17), List.length r17.2.1 = List.length (Val.list r8.1), List.length r17.2.2.1 = List.length (Val.columns r8.1), List.length r17.2.2.2 = List.length (Val.rows r8.1), AbC 23 (yCt (Val.mk (Val.kind r8.1) (Val.n r8.1) (Val.step r8.1) (Val.text r8.1) r17.2.1 r17.2.2.1 r17.2.2.2) 1) (yCu r18), (decide ((r18 : Int) < 0)) = false, ((r18 : Int) != r17.1) = false, AbC 26 (yBl a0) (yBb r19), AbC 26 (yBl a1) (yBb r20), AbC 61 (xAd r19 r20) (xAh r21), AbC 19 (yAr (Val.mk (Val.kind r21.1) (Val.n r21.1) (Val.step r21.1) (Val.text r21.1) [] [] []) r5) (yAm r22), (!r22) = false, AbC 23 (yCt (Val.mk (Val.kind r8.1) (Val.n r8.1) (Val.step r8.1) (Val.text r8.1) r17.2.1 r17.2.2.1 r17.2.2.2) 1) (yCu r23), (decide ((r23 : Int) < 0)) = false, ((r23 : Int) != r17.1) = false]) := by kernel_rfl
theorem p12_e_28 (a0 a1 : Val) (r1 r2 : Int) (r3 r4 r5 r6 r7 : Val) (r8 : Val × Bool) (r9 : Bool) (r10 : Val) (r11 : Bool) (r12 : Val) (r13 : Bool) (r14 : Int × (List Val) × (List Str) × (List Rowd)) (r15 : Int × (List Val) × (List Str) × (List Rowd)) (r16 : Bool) (r17 : Int × (List Val) × (List Str) × (List Rowd)) (r18 : Int) (r19 r20 : Val) (r21 : Val × Bool) (r22 : Bool) : run tt (AbsCalls Try.prog) I12 3000 false [.code I12.body] ⟨(zBg 0 (xAe a0 a1)), [false, false, false, false, false, false, false, false, false, true], [yAw r1, yAw r2, yBb r3, yBb r4, xAb r5, yBb r6, yBb r7, xAg r8, yAm r9, yBb r10, yAm r11, yBb r12, yAm r13, yEy r14, yEy r15, yAm r16, yEy r17, yCu r18, yBb r19, yBb r20, xAg r21, yAm r22], []⟩ = some (.done (xAf false) [AbC 24 (yAG a0 1048576) (yAw r1), (decide ((r1 : Int) < 0)) = false, AbC 24 (yAG a1 r1) (yAw r2), (decide ((r2 : Int) < 0)) = false, AbC 26 (yBl a0) (yBb r3), AbC 26 (yBl a1) (yBb r4), AbC 60 (xAj r3 r4) (xAb r5), AbC 26 (yBl a0) (yBb r6), AbC 26 (yBl a1) (yBb r7), AbC 61 (xAd r6 r7) (xAg r8), AbC 19 (yAr r8.1 r5) (yAm r9), (!r9) = false, AbC 26 (yBl a0) (yBb r10), AbC 19 (yAr r6 r10) (yAm r11), (!r11) = false, AbC 26 (yBl a1) (yBb r12), AbC 19 (yAr r7 r12) (yAm r13), (!r13) = false, AbC 22 (yEx r6 1) (yEy r14), List.length r14.2.1 = List.length (Val.list r6), List.length r14.2.2.1 = List.length (Val.columns r6), List.length r14.2.2.2 = List.length (Val.rows r6), AbC 22 (yEx r7 r14.1) (yEy r15), List.length r15.2.1 = List.length (Val.list r7), List.length r15.2.2.1 = List.length (Val.columns r7), List.length r15.2.2.2 = List.length (Val.rows r7), (decide ((r15.1 : Int) < 0)) = false, AbC 19 (yAr r8.1 r5) (yAm r16), (!r16) = false, AbC 22 (yEx r8.1 1) (yEy r17), List.length r17.2.1 = List.length (Val.list r8.1), List.length r17.2.2.1 = List.length (Val.columns r8.1), List.length r17.2.2.2 = List.length (Val.rows r8.1), AbC 23 (yCt (Val.mk (Val.kind r8.1) (Val.n r8.1) (Val.step r8.1) (Val.text r8.1) r17.2.1 r17.2.2.1 r17.2.2.2) 1) (yCu r18), (decide ((r18 : Int) < 0)) = false, ((r18 : Int) != r17.1) = false, AbC 26 (yBl a0) (yBb r19), AbC 26 (yBl a1) (yBb r20), AbC 61 (xAd r19 r20) (xAg r21), AbC 19 (yAr r21.1 r5) (yAm r22), (!r22) = true]) := by kernel_rfl
theorem p12_e_29 (a0 a1 : Val) (r1 r2 : Int) (r3 r4 r5 r6 r7 : Val) (r8 : Val × Bool) (r9 : Bool) (r10 : Val) (r11 : Bool) (r12 : Val) (r13 : Bool) (r14 : Int × (List Val) × (List Str) × (List Rowd)) (r15 : Int × (List Val) × (List Str) × (List Rowd)) (r16 : Bool) (r17 : Int × (List Val) × (List Str) × (List Rowd)) (r18 : Int) (r19 r20 : Val) (r21 : Val × Bool) (r22 : Bool) (r23 : Int) : run tt (AbsCalls Try.prog) I12 3000 false [.code I12.body] ⟨(zBg 0 (xAe a0 a1)), [false, false, false, false, false, false, false, false, false, false, true], [yAw r1, yAw r2, yBb r3, yBb r4, xAb r5, yBb r6, yBb r7, xAg r8, yAm r9, yBb r10, yAm r11, yBb r12, yAm r13, yEy r14, yEy r15, yAm r16, yEy r17, yCu r18, yBb r19, yBb r20, xAg r21, yAm r22, yCu r23], []⟩ = some (.done (xAf false) [AbC 24 (yAG a0 1048576) (yAw r1), (decide ((r1 : Int) < 0)) = false, AbC 24 (yAG a1 r1) (yAw r2), (decide ((r2 : Int) < 0)) = false, AbC 26 (yBl a0) (yBb r3), AbC 26 (yBl a1) (yBb r4), AbC 60 (xAj r3 r4) (xAb r5), AbC 26 (yBl a0) (yBb r6), AbC 26 (yBl a1) (yBb r7), AbC 61 (xAd r6 r7) (xAg r8), AbC 19 (yAr r8.1 r5) (yAm r9), (!r9) = false, AbC 26 (yBl a0) (yBb r10), AbC 19 (yAr r6 r10) (yAm r11), (!r11) = false, AbC 26 (yBl a1) (yBb r12), AbC 19 (yAr r7 r12) (yAm r13), (!r13) = false, AbC 22 (yEx r6 1) (yEy r14), List.length r14.2.1 = List.length (Val.list r6), List.length r14.2.2.1 = List.length (Val.columns r6), List.length r14.2.2.2 = List.length (Val.rows r6), AbC 22 (yEx r7 r14.1) (yEy r15), List.length r15.2.1 = List.length (Val.list r7), List.length r15.2.2.1 = List.length (Val.columns r7), List.length r15.2.2.2 = List.length (Val.rows r7), (decide ((r15.1 : Int) < 0)) = false, AbC 19 (yAr r8.1 r5) (yAm r16), (!r16) = false, AbC 22 (yEx r8.1 1) (yEy r17), List.length r17.2.1 = List.length (Val.list r8.1), List.length r17.2.2.1 = List.length (Val.columns r8.1), List.length r17.2.2.2 = List.length (Val.rows r8.1), AbC 23 (yCt (Val.mk (Val.kind r8.1) (Val.n r8.1) (Val.step r8.1) (Val.text r8.1) r17.2.1 r17.2.2.1 r17.2.2.2) 1) (yCu r18), (decide ((r18 : Int) < 0)) = false, ((r18 : Int) != r17.1) = false, AbC 26 (yBl a0) (yBb r19), AbC 26 (yBl a1) (yBb r20), AbC 61 (xAd r19 r20) (xAg r21), AbC 19 (yAr r21.1 r5) (yAm r22), (!r22) = false, AbC 23 (yCt (Val.mk (Val.kind r8.1) (Val.n r8.1) (Val.step r8.1) (Val.text r8.1) r17.2.1 r17.2.2.1 r17.2.2.2) 1) (yCu r23), (decide ((r23 : Int) < 0)) = true]) := by kernel_rfl
theorem p12_e_30 (a0 a1 : Val) (r1 r2 : Int) (r3 r4 r5 r6 r7 : Val) (r8 : Val × Bool) (r9 : Bool) (r10 : Val) (r11 : Bool) (r12 : Val) (r13 : Bool) (r14 : Int × (List Val) × (List Str) × (List Rowd)) (r15 : Int × (List Val) × (List Str) × (List Rowd)) (r16 : Bool) (r17 : Int × (List Val) × (List Str) × (List Rowd)) (r18 : Int) (r19 r20 : Val) (r21 : Val × Bool) (r22 : Bool) (r23 : Int) : run tt (AbsCalls Try.prog) I12 3000 false [.code I12.body] ⟨(zBg 0 (xAe a0 a1)), [false, false, false, false, false, false, false, false, false, false, false, true], [yAw r1, yAw r2, yBb r3, yBb r4, xAb r5, yBb r6, yBb r7, xAg r8, yAm r9, yBb r10, yAm r11, yBb r12, yAm r13, yEy r14, yEy r15, yAm r16, yEy r17, yCu r18, yBb r19, yBb r20, xAg r21, yAm r22, yCu r23], []⟩ = some (.done (xAf false) [AbC 24 (yAG a0 1048576) (yAw r1), (decide ((r1 : Int) < 0)) = false, AbC 24 (yAG a1 r1) (yAw r2), (decide ((r2 : Int) < 0)) = false, AbC 26 (yBl a0) (yBb r3), AbC 26 (yBl a1) (yBb r4), AbC 60 (xAj r3 r4) (xAb r5), AbC 26 (yBl a0) (yBb r6), AbC 26 (yBl a1) (yBb r7), AbC 61 (xAd r6 r7) (xAg r8), AbC 19 (yAr r8.1 r5) (yAm r9), (!r9) = false, AbC 26 (yBl a0) (yBb r10), AbC 19 (yAr r6 r10) (yAm r11), (!r11) = false, AbC 26 (yBl a1) (yBb r12), AbC 19 (yAr r7 r12) (yAm r13), (!r13) = false, AbC 22 (yEx r6 1) (yEy r14), List.length r14.2.1 = List.length (Val.list r6), List.length r14.2.2.1 = List.length (Val.columns r6), List.length r14.2.2.2 = List.length (Val.rows r6), AbC 22 (yEx r7 r14.1) (yEy r15), List.length r15.2.1 = List.length (Val.list r7), List.length r15.2.2.1 = List.length (Val.columns r7), List.length r15.2.2.2 = List.length (Val.rows r7), (decide ((r15.1 : Int) < 0)) = false, AbC 19 (yAr r8.1 r5) (yAm r16), (!r16) = false, AbC 22 (yEx r8.1 1) (yEy r17), List.length r17.2.1 = List.length (Val.list r8.1), List.length r17.2.2.1 = List.length (Val.columns r8.1), List.length r17.2.2.2 = List.length (Val.rows r8.1), AbC 23 (yCt (Val.mk (Val.kind r8.1) (Val.n r8.1) (Val.step r8.1) (Val.text r8.1) r17.2.1 r17.2.2.1 r17.2.2.2) 1) (yCu r18), (decide ((r18 : Int) < 0)) = false, ((r18 : Int) != r17.1) = false, AbC 26 (yBl a0) (yBb r19), AbC 26 (yBl a1) (yBb r20), AbC 61 (xAd r19 r20) (xAg r21), AbC 19 (yAr r21.1 r5) (yAm r22), (!r22) = false, AbC 23 (yCt (Val.mk (Val.kind r8.1) (Val.n r8.1) (Val.step r8.1) (Val.text r8.1) r17.2.1 r17.2.2.1 r17.2.2.2) 1) (yCu r23), (decide ((r23 : Int) < 0)) = false, ((r23 : Int) != r17.1) = true]) := by kernel_rfl
theorem p12_e_31 (a0 a1 : Val) (r1 r2 : Int) (r3 r4 r5 r6 r7 : Val) (r8 : Val × Bool) (r9 : Bool) (r10 : Val) (r11 : Bool) (r12 : Val) (r13 : Bool) (r14 : Int × (List Val) × (List Str) × (List Rowd)) (r15 : Int × (List Val) × (List Str) × (List Rowd)) (r16 : Bool) (r17 : Int × (List Val) × (List Str) × (List Rowd)) (r18 : Int) (r19 r20 : Val) (r21 : Val × Bool) (r22 : Bool) (r23 : Int) : run tt (AbsCalls Try.prog) I12 3000 false [.code I12.body] ⟨(zBg 0 (xAe a0 a1)), [false, false, false, false, false, false, false, false, false, false, false, false], [yAw r1, yAw r2, yBb r3, yBb r4, xAb r5, yBb r6, yBb r7, xAg r8, yAm r9, yBb r10, yAm r11, yBb r12, yAm r13, yEy r14, yEy r15, yAm r16, yEy r17, yCu r18, yBb r19, yBb r20, xAg r21, yAm r22, yCu r23], []⟩ = some (.done (xAf true) [AbC 24 (yAG a0 1048576) (yAw r1), (decide ((r1 : Int) < 0)) = false, AbC 24 (yAG a1 r1) (yAw r2), (decide ((r2 : Int) < 0)) = false, AbC 26 (yBl a0) (yBb r3), AbC 26 (yBl a1) (yBb r4), AbC 60 (xAj r3 r4) (xAb r5), AbC 26 (yBl a0) (yBb r6), AbC 26 (yBl a1) (yBb r7), AbC 61 (xAd r6 r7) (xAg r8), AbC 19 (yAr r8.1 r5) (yAm r9), (!r9) = false, AbC 26 (yBl a0) (yBb r10), AbC 19 (yAr r6 r10) (yAm r11), (!r11) = false, AbC 26 (yBl a1) (yBb r12), AbC 19 (yAr r7 r12) (yAm r13), (!r13) = false, AbC 22 (yEx r6 1) (yEy r14), List.length r14.2.1 = List.length (Val.list r6), List.length r14.2.2.1 = List.length (Val.columns r6), List.length r14.2.2.2 = List.length (Val.rows r6), AbC 22 (yEx r7 r14.1) (yEy r15), List.length r15.2.1 = List.length (Val.list r7), List.length r15.2.2.1 = List.length (Val.columns r7), List.length r15.2.2.2 = List.length (Val.rows r7), (decide ((r15.1 : Int) < 0)) = false, AbC 19 (yAr r8.1 r5) (yAm r16), (!r16) = false, AbC 22 (yEx r8.1 1) (yEy r17), List.length r17.2.1 = List.length (Val.list r8.1), List.length r17.2.2.1 = List.length (Val.columns r8.1), List.length r17.2.2.2 = List.length (Val.rows r8.1), AbC 23 (yCt (Val.mk (Val.kind r8.1) (Val.n r8.1) (Val.step r8.1) (Val.text r8.1) r17.2.1 r17.2.2.1 r17.2.2.2) 1) (yCu r18), (decide ((r18 : Int) < 0)) = false, ((r18 : Int) != r17.1) = false, AbC 26 (yBl a0) (yBb r19), AbC 26 (yBl a1) (yBb r20), AbC 61 (xAd r19 r20) (xAg r21), AbC 19 (yAr r21.1 r5) (yAm r22), (!r22) = false, AbC 23 (yCt (Val.mk (Val.kind r8.1) (Val.n r8.1) (Val.step r8.1) (Val.text r8.1) r17.2.1 r17.2.2.1 r17.2.2.2) 1) (yCu r23), (decide ((r23 : Int) < 0)) = false, ((r23 : Int) != r17.1) = false]) := by kernel_rfl
theorem c12_e {N : Nat} : ∀ a0 a1 r, xAB N a0 a1 = some r → Reach Try.prog Try.f12 I12 [.code I12.body] (zBg 0 (xAe a0 a1)) (xAf r) := by
 intro a0 a1 r h
 unfold xAB at h
 obtain ⟨r1, h0, h⟩ := bind_inv h
 rcases cond_inv h with ⟨h1, h⟩ | ⟨h1, h⟩
 ·obtain rfl := Option.some.inj h
  exact Reach.done ttok mix fk12 (p12_e_0 a0 a1 r1) (obs_cons (xAc h0) (obs_cons h1 obs_nil))
 ·obtain ⟨r2, h2, h⟩ := bind_inv h
  rcases cond_inv h with ⟨h3, h⟩ | ⟨h3, h⟩
  ·obtain rfl := Option.some.inj h
   exact Reach.done ttok mix fk12 (p12_e_1 a0 a1 r1 r2) (obs_cons (xAc h0) (obs_cons h1 (obs_cons (xAc h2) (obs_cons h3 obs_nil))))
  ·obtain ⟨r3, h4, h⟩ := bind_inv h
   obtain ⟨r4, h5, h⟩ := bind_inv h
   obtain ⟨r5, h6, h⟩ := bind_inv h
   obtain ⟨r6, h7, h⟩ := bind_inv h
   obtain ⟨r7, h8, h⟩ := bind_inv h
   obtain ⟨r8, h9, h⟩ := bind_inv h
   rcases cond_inv h with ⟨h10, h⟩ | ⟨h10, h⟩
   ·obtain ⟨h11, h⟩ := ite_inv h
    obtain ⟨h12, h⟩ := ite_inv h
    obtain ⟨h13, h⟩ := ite_inv h
    obtain ⟨r9, h14, h⟩ := bind_inv h
    rcases cond_inv h with ⟨h15, h⟩ | ⟨h15, h⟩
    ·obtain rfl := Option.some.inj h
     exact Reach.done ttok mix fk12 (p12_e_2 a0 a1 r1 r2 r3 r4 r5 r6 r7 r8 r9) (obs_cons (xAc h0) (obs_cons h1 (obs_cons (xAc h2) (obs_cons h3 (obs_cons (xAa h4) (obs_cons (xAa h5) (obs_cons (xAk h6) (obs_cons (xAa h7) (obs_cons (xAa h8) (obs_cons (xAm (xAi h9) h10 h11 h12 h13) (obs_cons (laws_eqValue_ok h14) (obs_cons h15 obs_nil))))))))))))
    ·obtain ⟨r10, h16, h⟩ := bind_inv h
     obtain ⟨r11, h17, h⟩ := bind_inv h
     rcases cond_inv h with ⟨h18, h⟩ | ⟨h18, h⟩
     ·obtain rfl := Option.some.inj h
      exact Reach.done ttok mix fk12 (p12_e_3 a0 a1 r1 r2 r3 r4 r5 r6 r7 r8 r9 r10 r11) (obs_cons (xAc h0) (obs_cons h1 (obs_cons (xAc h2) (obs_cons h3 (obs_cons (xAa h4) (obs_cons (xAa h5) (obs_cons (xAk h6) (obs_cons (xAa h7) (obs_cons (xAa h8) (obs_cons (xAm (xAi h9) h10 h11 h12 h13) (obs_cons (laws_eqValue_ok h14) (obs_cons h15 (obs_cons (xAa h16) (obs_cons (laws_eqValue_ok h17) (obs_cons h18 obs_nil)))))))))))))))
     ·obtain ⟨r12, h19, h⟩ := bind_inv h
      obtain ⟨r13, h20, h⟩ := bind_inv h
      rcases cond_inv h with ⟨h21, h⟩ | ⟨h21, h⟩
      ·obtain rfl := Option.some.inj h
       exact Reach.done ttok mix fk12 (p12_e_4 a0 a1 r1 r2 r3 r4 r5 r6 r7 r8 r9 r10 r11 r12 r13) (obs_cons (xAc h0) (obs_cons h1 (obs_cons (xAc h2) (obs_cons h3 (obs_cons (xAa h4) (obs_cons (xAa h5) (obs_cons (xAk h6) (obs_cons (xAa h7) (obs_cons (xAa h8) (obs_cons (xAm (xAi h9) h10 h11 h12 h13) (obs_cons (laws_eqValue_ok h14) (obs_cons h15 (obs_cons (xAa h16) (obs_cons (laws_eqValue_ok h17) (obs_cons h18 (obs_cons (xAa h19) (obs_cons (laws_eqValue_ok h20) (obs_cons h21 obs_nil))))))))))))))))))
      ·obtain ⟨r14, h22, h⟩ := bind_inv h
       obtain ⟨h23, h⟩ := ite_inv h
       obtain ⟨h24, h⟩ := ite_inv h
       obtain ⟨h25, h⟩ := ite_inv h
       obtain ⟨r15, h26, h⟩ := bind_inv h
       obtain ⟨h27, h⟩ := ite_inv h
       obtain ⟨h28, h⟩ := ite_inv h
       obtain ⟨h29, h⟩ := ite_inv h
       rcases cond_inv h with ⟨h30, h⟩ | ⟨h30, h⟩
       ·obtain rfl := Option.some.inj h
        exact Reach.done ttok mix fk12 (p12_e_5 a0 a1 r1 r2 r3 r4 r5 r6 r7 r8 r9 r10 r11 r12 r13 r14 r15) (obs_cons (xAc h0) (obs_cons h1 (obs_cons (xAc h2) (obs_cons h3 (obs_cons (xAa h4) (obs_cons (xAa h5) (obs_cons (xAk h6) (obs_cons (xAa h7) (obs_cons (xAa h8) (obs_cons (xAm (xAi h9) h10 h11 h12 h13) (obs_cons (laws_eqValue_ok h14) (obs_cons h15 (obs_cons (xAa h16) (obs_cons (laws_eqValue_ok h17) (obs_cons h18 (obs_cons (xAa h19) (obs_cons (laws_eqValue_ok h20) (obs_cons h21 (obs_cons (laws_markValue_ok h22) (obs_cons h23 (obs_cons h24 (obs_cons h25 (obs_cons (laws_markValue_ok h26) (obs_cons h27 (obs_cons h28 (obs_cons h29 (obs_cons h30 (obs_cons rfl obs_nil))))))))))))))))))))))))))))
       ·obtain ⟨r16, h31, h⟩ := bind_inv h
        rcases cond_inv h with ⟨h32, h⟩ | ⟨h32, h⟩
        ·obtain rfl := Option.some.inj h
         exact Reach.done ttok mix fk12 (p12_e_6 a0 a1 r1 r2 r3 r4 r5 r6 r7 r8 r9 r10 r11 r12 r13 r14 r15 r16) (obs_cons (xAc h0) (obs_cons h1 (obs_cons (xAc h2) (obs_cons h3 (obs_cons (xAa h4) (obs_cons (xAa h5) (obs_cons (xAk h6) (obs_cons (xAa h7) (obs_cons (xAa h8) (obs_cons (xAm (xAi h9) h10 h11 h12 h13) (obs_cons (laws_eqValue_ok h14) (obs_cons h15 (obs_cons (xAa h16) (obs_cons (laws_eqValue_ok h17) (obs_cons h18 (obs_cons (xAa h19) (obs_cons (laws_eqValue_ok h20) (obs_cons h21 (obs_cons (laws_markValue_ok h22) (obs_cons h23 (obs_cons h24 (obs_cons h25 (obs_cons (laws_markValue_ok h26) (obs_cons h27 (obs_cons h28 (obs_cons h29 (obs_cons h30 (obs_cons (laws_eqValue_ok h31) (obs_cons h32 obs_nil)))))))))))))))))))))))))))))
        ·obtain ⟨r17, h33, h⟩ := bind_inv h
         obtain ⟨r18, h34, h⟩ := bind_inv h
         rcases cond_inv h with ⟨h35, h⟩ | ⟨h35, h⟩
         ·obtain rfl := Option.some.inj h
          exact Reach.done ttok mix fk12 (p12_e_7 a0 a1 r1 r2 r3 r4 r5 r6 r7 r8 r9 r10 r11 r12 r13 r14 r15 r16 r17 r18) (obs_cons (xAc h0) (obs_cons h1 (obs_cons (xAc h2) (obs_cons h3 (obs_cons (xAa h4) (obs_cons (xAa h5) (obs_cons (xAk h6) (obs_cons (xAa h7) (obs_cons (xAa h8) (obs_cons (xAm (xAi h9) h10 h11 h12 h13) (obs_cons (laws_eqValue_ok h14) (obs_cons h15 (obs_cons (xAa h16) (obs_cons (laws_eqValue_ok h17) (obs_cons h18 (obs_cons (xAa h19) (obs_cons (laws_eqValue_ok h20) (obs_cons h21 (obs_cons (laws_markValue_ok h22) (obs_cons h23 (obs_cons h24 (obs_cons h25 (obs_cons (laws_markValue_ok h26) (obs_cons h27 (obs_cons h28 (obs_cons h29 (obs_cons h30 (obs_cons (laws_eqValue_ok h31) (obs_cons h32 (obs_cons (xAu h33) (obs_cons (laws_heldValue_ok h34) (obs_cons h35 obs_nil))))))))))))))))))))))))))))))))
         ·rcases cond_inv h with ⟨h36, h⟩ | ⟨h36, h⟩
          ·obtain rfl := Option.some.inj h
           exact Reach.done ttok mix fk12 (p12_e_8 a0 a1 r1 r2 r3 r4 r5 r6 r7 r8 r9 r10 r11 r12 r13 r14 r15 r16 r17 r18) (obs_cons (xAc h0) (obs_cons h1 (obs_cons (xAc h2) (obs_cons h3 (obs_cons (xAa h4) (obs_cons (xAa h5) (obs_cons (xAk h6) (obs_cons (xAa h7) (obs_cons (xAa h8) (obs_cons (xAm (xAi h9) h10 h11 h12 h13) (obs_cons (laws_eqValue_ok h14) (obs_cons h15 (obs_cons (xAa h16) (obs_cons (laws_eqValue_ok h17) (obs_cons h18 (obs_cons (xAa h19) (obs_cons (laws_eqValue_ok h20) (obs_cons h21 (obs_cons (laws_markValue_ok h22) (obs_cons h23 (obs_cons h24 (obs_cons h25 (obs_cons (laws_markValue_ok h26) (obs_cons h27 (obs_cons h28 (obs_cons h29 (obs_cons h30 (obs_cons (laws_eqValue_ok h31) (obs_cons h32 (obs_cons (xAu h33) (obs_cons (laws_heldValue_ok h34) (obs_cons h35 (obs_cons h36 obs_nil)))))))))))))))))))))))))))))))))
          ·obtain ⟨r19, h37, h⟩ := bind_inv h
           obtain ⟨r20, h38, h⟩ := bind_inv h
           obtain ⟨r21, h39, h⟩ := bind_inv h
           rcases cond_inv h with ⟨h40, h⟩ | ⟨h40, h⟩
           ·obtain ⟨h41, h⟩ := ite_inv h
            obtain ⟨h42, h⟩ := ite_inv h
            obtain ⟨h43, h⟩ := ite_inv h
            obtain ⟨r22, h44, h⟩ := bind_inv h
            rcases cond_inv h with ⟨h45, h⟩ | ⟨h45, h⟩
            ·obtain rfl := Option.some.inj h
             exact Reach.done ttok mix fk12 (p12_e_9 a0 a1 r1 r2 r3 r4 r5 r6 r7 r8 r9 r10 r11 r12 r13 r14 r15 r16 r17 r18 r19 r20 r21 r22) (obs_cons (xAc h0) (obs_cons h1 (obs_cons (xAc h2) (obs_cons h3 (obs_cons (xAa h4) (obs_cons (xAa h5) (obs_cons (xAk h6) (obs_cons (xAa h7) (obs_cons (xAa h8) (obs_cons (xAm (xAi h9) h10 h11 h12 h13) (obs_cons (laws_eqValue_ok h14) (obs_cons h15 (obs_cons (xAa h16) (obs_cons (laws_eqValue_ok h17) (obs_cons h18 (obs_cons (xAa h19) (obs_cons (laws_eqValue_ok h20) (obs_cons h21 (obs_cons (laws_markValue_ok h22) (obs_cons h23 (obs_cons h24 (obs_cons h25 (obs_cons (laws_markValue_ok h26) (obs_cons h27 (obs_cons h28 (obs_cons h29 (obs_cons h30 (obs_cons (laws_eqValue_ok h31) (obs_cons h32 (obs_cons (xAu h33) (obs_cons (laws_heldValue_ok h34) (obs_cons h35 (obs_cons h36 (obs_cons (xAa h37) (obs_cons (xAa h38) (obs_cons (xAm (xAi h39) h40 h41 h42 h43) (obs_cons (laws_eqValue_ok h44) (obs_cons h45 obs_nil))))))))))))))))))))))))))))))))))))))
            ·obtain ⟨r23, h46, h⟩ := bind_inv h
             rcases cond_inv h with ⟨h47, h⟩ | ⟨h47, h⟩
             ·obtain rfl := Option.some.inj h
              exact Reach.done ttok mix fk12 (p12_e_10 a0 a1 r1 r2 r3 r4 r5 r6 r7 r8 r9 r10 r11 r12 r13 r14 r15 r16 r17 r18 r19 r20 r21 r22 r23) (obs_cons (xAc h0) (obs_cons h1 (obs_cons (xAc h2) (obs_cons h3 (obs_cons (xAa h4) (obs_cons (xAa h5) (obs_cons (xAk h6) (obs_cons (xAa h7) (obs_cons (xAa h8) (obs_cons (xAm (xAi h9) h10 h11 h12 h13) (obs_cons (laws_eqValue_ok h14) (obs_cons h15 (obs_cons (xAa h16) (obs_cons (laws_eqValue_ok h17) (obs_cons h18 (obs_cons (xAa h19) (obs_cons (laws_eqValue_ok h20) (obs_cons h21 (obs_cons (laws_markValue_ok h22) (obs_cons h23 (obs_cons h24 (obs_cons h25 (obs_cons (laws_markValue_ok h26) (obs_cons h27 (obs_cons h28 (obs_cons h29 (obs_cons h30 (obs_cons (laws_eqValue_ok h31) (obs_cons h32 (obs_cons (xAu h33) (obs_cons (laws_heldValue_ok h34) (obs_cons h35 (obs_cons h36 (obs_cons (xAa h37) (obs_cons (xAa h38) (obs_cons (xAm (xAi h39) h40 h41 h42 h43) (obs_cons (laws_eqValue_ok h44) (obs_cons h45 (obs_cons (laws_heldValue_ok h46) (obs_cons h47 obs_nil))))))))))))))))))))))))))))))))))))))))
             ·rcases cond_inv h with ⟨h48, h⟩ | ⟨h48, h⟩
              ·obtain rfl := Option.some.inj h
               exact Reach.done ttok mix fk12 (p12_e_11 a0 a1 r1 r2 r3 r4 r5 r6 r7 r8 r9 r10 r11 r12 r13 r14 r15 r16 r17 r18 r19 r20 r21 r22 r23) (obs_cons (xAc h0) (obs_cons h1 (obs_cons (xAc h2) (obs_cons h3 (obs_cons (xAa h4) (obs_cons (xAa h5) (obs_cons (xAk h6) (obs_cons (xAa h7) (obs_cons (xAa h8) (obs_cons (xAm (xAi h9) h10 h11 h12 h13) (obs_cons (laws_eqValue_ok h14) (obs_cons h15 (obs_cons (xAa h16) (obs_cons (laws_eqValue_ok h17) (obs_cons h18 (obs_cons (xAa h19) (obs_cons (laws_eqValue_ok h20) (obs_cons h21 (obs_cons (laws_markValue_ok h22) (obs_cons h23 (obs_cons h24 (obs_cons h25 (obs_cons (laws_markValue_ok h26) (obs_cons h27 (obs_cons h28 (obs_cons h29 (obs_cons h30 (obs_cons (laws_eqValue_ok h31) (obs_cons h32 (obs_cons (xAu h33) (obs_cons (laws_heldValue_ok h34) (obs_cons h35 (obs_cons h36 (obs_cons (xAa h37) (obs_cons (xAa h38) (obs_cons (xAm (xAi h39) h40 h41 h42 h43) (obs_cons (laws_eqValue_ok h44) (obs_cons h45 (obs_cons (laws_heldValue_ok h46) (obs_cons h47 (obs_cons h48 obs_nil)))))))))))))))))))))))))))))))))))))))))
              ·obtain rfl := Option.some.inj h
               exact Reach.done ttok mix fk12 (p12_e_12 a0 a1 r1 r2 r3 r4 r5 r6 r7 r8 r9 r10 r11 r12 r13 r14 r15 r16 r17 r18 r19 r20 r21 r22 r23) (obs_cons (xAc h0) (obs_cons h1 (obs_cons (xAc h2) (obs_cons h3 (obs_cons (xAa h4) (obs_cons (xAa h5) (obs_cons (xAk h6) (obs_cons (xAa h7) (obs_cons (xAa h8) (obs_cons (xAm (xAi h9) h10 h11 h12 h13) (obs_cons (laws_eqValue_ok h14) (obs_cons h15 (obs_cons (xAa h16) (obs_cons (laws_eqValue_ok h17) (obs_cons h18 (obs_cons (xAa h19) (obs_cons (laws_eqValue_ok h20) (obs_cons h21 (obs_cons (laws_markValue_ok h22) (obs_cons h23 (obs_cons h24 (obs_cons h25 (obs_cons (laws_markValue_ok h26) (obs_cons h27 (obs_cons h28 (obs_cons h29 (obs_cons h30 (obs_cons (laws_eqValue_ok h31) (obs_cons h32 (obs_cons (xAu h33) (obs_cons (laws_heldValue_ok h34) (obs_cons h35 (obs_cons h36 (obs_cons (xAa h37) (obs_cons (xAa h38) (obs_cons (xAm (xAi h39) h40 h41 h42 h43) (obs_cons (laws_eqValue_ok h44) (obs_cons h45 (obs_cons (laws_heldValue_ok h46) (obs_cons h47 (obs_cons h48 obs_nil)))))))))))))))))))))))))))))))))))))))))
           ·obtain ⟨r22, h41, h⟩ := bind_inv h
            rcases cond_inv h with ⟨h42, h⟩ | ⟨h42, h⟩
            ·obtain rfl := Option.some.inj h
             exact Reach.done ttok mix fk12 (p12_e_13 a0 a1 r1 r2 r3 r4 r5 r6 r7 r8 r9 r10 r11 r12 r13 r14 r15 r16 r17 r18 r19 r20 r21 r22) (obs_cons (xAc h0) (obs_cons h1 (obs_cons (xAc h2) (obs_cons h3 (obs_cons (xAa h4) (obs_cons (xAa h5) (obs_cons (xAk h6) (obs_cons (xAa h7) (obs_cons (xAa h8) (obs_cons (xAm (xAi h9) h10 h11 h12 h13) (obs_cons (laws_eqValue_ok h14) (obs_cons h15 (obs_cons (xAa h16) (obs_cons (laws_eqValue_ok h17) (obs_cons h18 (obs_cons (xAa h19) (obs_cons (laws_eqValue_ok h20) (obs_cons h21 (obs_cons (laws_markValue_ok h22) (obs_cons h23 (obs_cons h24 (obs_cons h25 (obs_cons (laws_markValue_ok h26) (obs_cons h27 (obs_cons h28 (obs_cons h29 (obs_cons h30 (obs_cons (laws_eqValue_ok h31) (obs_cons h32 (obs_cons (xAu h33) (obs_cons (laws_heldValue_ok h34) (obs_cons h35 (obs_cons h36 (obs_cons (xAa h37) (obs_cons (xAa h38) (obs_cons (xAn (xAi h39) h40) (obs_cons (laws_eqValue_ok h41) (obs_cons h42 obs_nil))))))))))))))))))))))))))))))))))))))
            ·obtain ⟨r23, h43, h⟩ := bind_inv h
             rcases cond_inv h with ⟨h44, h⟩ | ⟨h44, h⟩
             ·obtain rfl := Option.some.inj h
              exact Reach.done ttok mix fk12 (p12_e_14 a0 a1 r1 r2 r3 r4 r5 r6 r7 r8 r9 r10 r11 r12 r13 r14 r15 r16 r17 r18 r19 r20 r21 r22 r23) (obs_cons (xAc h0) (obs_cons h1 (obs_cons (xAc h2) (obs_cons h3 (obs_cons (xAa h4) (obs_cons (xAa h5) (obs_cons (xAk h6) (obs_cons (xAa h7) (obs_cons (xAa h8) (obs_cons (xAm (xAi h9) h10 h11 h12 h13) (obs_cons (laws_eqValue_ok h14) (obs_cons h15 (obs_cons (xAa h16) (obs_cons (laws_eqValue_ok h17) (obs_cons h18 (obs_cons (xAa h19) (obs_cons (laws_eqValue_ok h20) (obs_cons h21 (obs_cons (laws_markValue_ok h22) (obs_cons h23 (obs_cons h24 (obs_cons h25 (obs_cons (laws_markValue_ok h26) (obs_cons h27 (obs_cons h28 (obs_cons h29 (obs_cons h30 (obs_cons (laws_eqValue_ok h31) (obs_cons h32 (obs_cons (xAu h33) (obs_cons (laws_heldValue_ok h34) (obs_cons h35 (obs_cons h36 (obs_cons (xAa h37) (obs_cons (xAa h38) (obs_cons (xAn (xAi h39) h40) (obs_cons (laws_eqValue_ok h41) (obs_cons h42 (obs_cons (laws_heldValue_ok h43) (obs_cons h44 obs_nil))))))))))))))))))))))))))))))))))))))))
             ·rcases cond_inv h with ⟨h45, h⟩ | ⟨h45, h⟩
              ·obtain rfl := Option.some.inj h
               exact Reach.done ttok mix fk12 (p12_e_15 a0 a1 r1 r2 r3 r4 r5 r6 r7 r8 r9 r10 r11 r12 r13 r14 r15 r16 r17 r18 r19 r20 r21 r22 r23) (obs_cons (xAc h0) (obs_cons h1 (obs_cons (xAc h2) (obs_cons h3 (obs_cons (xAa h4) (obs_cons (xAa h5) (obs_cons (xAk h6) (obs_cons (xAa h7) (obs_cons (xAa h8) (obs_cons (xAm (xAi h9) h10 h11 h12 h13) (obs_cons (laws_eqValue_ok h14) (obs_cons h15 (obs_cons (xAa h16) (obs_cons (laws_eqValue_ok h17) (obs_cons h18 (obs_cons (xAa h19) (obs_cons (laws_eqValue_ok h20) (obs_cons h21 (obs_cons (laws_markValue_ok h22) (obs_cons h23 (obs_cons h24 (obs_cons h25 (obs_cons (laws_markValue_ok h26) (obs_cons h27 (obs_cons h28 (obs_cons h29 (obs_cons h30 (obs_cons (laws_eqValue_ok h31) (obs_cons h32 (obs_cons (xAu h33) (obs_cons (laws_heldValue_ok h34) (obs_cons h35 (obs_cons h36 (obs_cons (xAa h37) (obs_cons (xAa h38) (obs_cons (xAn (xAi h39) h40) (obs_cons (laws_eqValue_ok h41) (obs_cons h42 (obs_cons (laws_heldValue_ok h43) (obs_cons h44 (obs_cons h45 obs_nil)))))))))))))))))))))))))))))))))))))))))
              ·obtain rfl := Option.some.inj h
               exact Reach.done ttok mix fk12 (p12_e_16 a0 a1 r1 r2 r3 r4 r5 r6 r7 r8 r9 r10 r11 r12 r13 r14 r15 r16 r17 r18 r19 r20 r21 r22 r23) (obs_cons (xAc h0) (obs_cons h1 (obs_cons (xAc h2) (obs_cons h3 (obs_cons (xAa h4) (obs_cons (xAa h5) (obs_cons (xAk h6) (obs_cons (xAa h7) (obs_cons (xAa h8) (obs_cons (xAm (xAi h9) h10 h11 h12 h13) (obs_cons (laws_eqValue_ok h14) (obs_cons h15 (obs_cons (xAa h16) (obs_cons (laws_eqValue_ok h17) (obs_cons h18 (obs_cons (xAa h19) (obs_cons (laws_eqValue_ok h20) (obs_cons h21 (obs_cons (laws_markValue_ok h22) (obs_cons h23 (obs_cons h24 (obs_cons h25 (obs_cons (laws_markValue_ok h26) (obs_cons h27 (obs_cons h28 (obs_cons h29 (obs_cons h30 (obs_cons (laws_eqValue_ok h31) (obs_cons h32 (obs_cons (xAu h33) (obs_cons (laws_heldValue_ok h34) (obs_cons h35 (obs_cons h36 (obs_cons (xAa h37) (obs_cons (xAa h38) (obs_cons (xAn (xAi h39) h40) (obs_cons (laws_eqValue_ok h41) (obs_cons h42 (obs_cons (laws_heldValue_ok h43) (obs_cons h44 (obs_cons h45 obs_nil)))))))))))))))))))))))))))))))))))))))))
   ·obtain ⟨r9, h11, h⟩ := bind_inv h
    rcases cond_inv h with ⟨h12, h⟩ | ⟨h12, h⟩
    ·obtain rfl := Option.some.inj h
     exact Reach.done ttok mix fk12 (p12_e_17 a0 a1 r1 r2 r3 r4 r5 r6 r7 r8 r9) (obs_cons (xAc h0) (obs_cons h1 (obs_cons (xAc h2) (obs_cons h3 (obs_cons (xAa h4) (obs_cons (xAa h5) (obs_cons (xAk h6) (obs_cons (xAa h7) (obs_cons (xAa h8) (obs_cons (xAn (xAi h9) h10) (obs_cons (laws_eqValue_ok h11) (obs_cons h12 obs_nil))))))))))))
    ·obtain ⟨r10, h13, h⟩ := bind_inv h
     obtain ⟨r11, h14, h⟩ := bind_inv h
     rcases cond_inv h with ⟨h15, h⟩ | ⟨h15, h⟩
     ·obtain rfl := Option.some.inj h
      exact Reach.done ttok mix fk12 (p12_e_18 a0 a1 r1 r2 r3 r4 r5 r6 r7 r8 r9 r10 r11) (obs_cons (xAc h0) (obs_cons h1 (obs_cons (xAc h2) (obs_cons h3 (obs_cons (xAa h4) (obs_cons (xAa h5) (obs_cons (xAk h6) (obs_cons (xAa h7) (obs_cons (xAa h8) (obs_cons (xAn (xAi h9) h10) (obs_cons (laws_eqValue_ok h11) (obs_cons h12 (obs_cons (xAa h13) (obs_cons (laws_eqValue_ok h14) (obs_cons h15 obs_nil)))))))))))))))
     ·obtain ⟨r12, h16, h⟩ := bind_inv h
      obtain ⟨r13, h17, h⟩ := bind_inv h
      rcases cond_inv h with ⟨h18, h⟩ | ⟨h18, h⟩
      ·obtain rfl := Option.some.inj h
       exact Reach.done ttok mix fk12 (p12_e_19 a0 a1 r1 r2 r3 r4 r5 r6 r7 r8 r9 r10 r11 r12 r13) (obs_cons (xAc h0) (obs_cons h1 (obs_cons (xAc h2) (obs_cons h3 (obs_cons (xAa h4) (obs_cons (xAa h5) (obs_cons (xAk h6) (obs_cons (xAa h7) (obs_cons (xAa h8) (obs_cons (xAn (xAi h9) h10) (obs_cons (laws_eqValue_ok h11) (obs_cons h12 (obs_cons (xAa h13) (obs_cons (laws_eqValue_ok h14) (obs_cons h15 (obs_cons (xAa h16) (obs_cons (laws_eqValue_ok h17) (obs_cons h18 obs_nil))))))))))))))))))
      ·obtain ⟨r14, h19, h⟩ := bind_inv h
       obtain ⟨h20, h⟩ := ite_inv h
       obtain ⟨h21, h⟩ := ite_inv h
       obtain ⟨h22, h⟩ := ite_inv h
       obtain ⟨r15, h23, h⟩ := bind_inv h
       obtain ⟨h24, h⟩ := ite_inv h
       obtain ⟨h25, h⟩ := ite_inv h
       obtain ⟨h26, h⟩ := ite_inv h
       rcases cond_inv h with ⟨h27, h⟩ | ⟨h27, h⟩
       ·obtain rfl := Option.some.inj h
        exact Reach.done ttok mix fk12 (p12_e_20 a0 a1 r1 r2 r3 r4 r5 r6 r7 r8 r9 r10 r11 r12 r13 r14 r15) (obs_cons (xAc h0) (obs_cons h1 (obs_cons (xAc h2) (obs_cons h3 (obs_cons (xAa h4) (obs_cons (xAa h5) (obs_cons (xAk h6) (obs_cons (xAa h7) (obs_cons (xAa h8) (obs_cons (xAn (xAi h9) h10) (obs_cons (laws_eqValue_ok h11) (obs_cons h12 (obs_cons (xAa h13) (obs_cons (laws_eqValue_ok h14) (obs_cons h15 (obs_cons (xAa h16) (obs_cons (laws_eqValue_ok h17) (obs_cons h18 (obs_cons (laws_markValue_ok h19) (obs_cons h20 (obs_cons h21 (obs_cons h22 (obs_cons (laws_markValue_ok h23) (obs_cons h24 (obs_cons h25 (obs_cons h26 (obs_cons h27 (obs_cons rfl obs_nil))))))))))))))))))))))))))))
       ·obtain ⟨r16, h28, h⟩ := bind_inv h
        rcases cond_inv h with ⟨h29, h⟩ | ⟨h29, h⟩
        ·obtain rfl := Option.some.inj h
         exact Reach.done ttok mix fk12 (p12_e_21 a0 a1 r1 r2 r3 r4 r5 r6 r7 r8 r9 r10 r11 r12 r13 r14 r15 r16) (obs_cons (xAc h0) (obs_cons h1 (obs_cons (xAc h2) (obs_cons h3 (obs_cons (xAa h4) (obs_cons (xAa h5) (obs_cons (xAk h6) (obs_cons (xAa h7) (obs_cons (xAa h8) (obs_cons (xAn (xAi h9) h10) (obs_cons (laws_eqValue_ok h11) (obs_cons h12 (obs_cons (xAa h13) (obs_cons (laws_eqValue_ok h14) (obs_cons h15 (obs_cons (xAa h16) (obs_cons (laws_eqValue_ok h17) (obs_cons h18 (obs_cons (laws_markValue_ok h19) (obs_cons h20 (obs_cons h21 (obs_cons h22 (obs_cons (laws_markValue_ok h23) (obs_cons h24 (obs_cons h25 (obs_cons h26 (obs_cons h27 (obs_cons (laws_eqValue_ok h28) (obs_cons h29 obs_nil)))))))))))))))))))))))))))))
        ·obtain ⟨r17, h30, h⟩ := bind_inv h
         obtain ⟨h31, h⟩ := ite_inv h
         obtain ⟨h32, h⟩ := ite_inv h
         obtain ⟨h33, h⟩ := ite_inv h
         obtain ⟨r18, h34, h⟩ := bind_inv h
         rcases cond_inv h with ⟨h35, h⟩ | ⟨h35, h⟩
         ·obtain rfl := Option.some.inj h
          exact Reach.done ttok mix fk12 (p12_e_22 a0 a1 r1 r2 r3 r4 r5 r6 r7 r8 r9 r10 r11 r12 r13 r14 r15 r16 r17 r18) (obs_cons (xAc h0) (obs_cons h1 (obs_cons (xAc h2) (obs_cons h3 (obs_cons (xAa h4) (obs_cons (xAa h5) (obs_cons (xAk h6) (obs_cons (xAa h7) (obs_cons (xAa h8) (obs_cons (xAn (xAi h9) h10) (obs_cons (laws_eqValue_ok h11) (obs_cons h12 (obs_cons (xAa h13) (obs_cons (laws_eqValue_ok h14) (obs_cons h15 (obs_cons (xAa h16) (obs_cons (laws_eqValue_ok h17) (obs_cons h18 (obs_cons (laws_markValue_ok h19) (obs_cons h20 (obs_cons h21 (obs_cons h22 (obs_cons (laws_markValue_ok h23) (obs_cons h24 (obs_cons h25 (obs_cons h26 (obs_cons h27 (obs_cons (laws_eqValue_ok h28) (obs_cons h29 (obs_cons (laws_markValue_ok h30) (obs_cons h31 (obs_cons h32 (obs_cons h33 (obs_cons (laws_heldValue_ok h34) (obs_cons h35 obs_nil)))))))))))))))))))))))))))))))))))
         ·rcases cond_inv h with ⟨h36, h⟩ | ⟨h36, h⟩
          ·obtain rfl := Option.some.inj h
           exact Reach.done ttok mix fk12 (p12_e_23 a0 a1 r1 r2 r3 r4 r5 r6 r7 r8 r9 r10 r11 r12 r13 r14 r15 r16 r17 r18) (obs_cons (xAc h0) (obs_cons h1 (obs_cons (xAc h2) (obs_cons h3 (obs_cons (xAa h4) (obs_cons (xAa h5) (obs_cons (xAk h6) (obs_cons (xAa h7) (obs_cons (xAa h8) (obs_cons (xAn (xAi h9) h10) (obs_cons (laws_eqValue_ok h11) (obs_cons h12 (obs_cons (xAa h13) (obs_cons (laws_eqValue_ok h14) (obs_cons h15 (obs_cons (xAa h16) (obs_cons (laws_eqValue_ok h17) (obs_cons h18 (obs_cons (laws_markValue_ok h19) (obs_cons h20 (obs_cons h21 (obs_cons h22 (obs_cons (laws_markValue_ok h23) (obs_cons h24 (obs_cons h25 (obs_cons h26 (obs_cons h27 (obs_cons (laws_eqValue_ok h28) (obs_cons h29 (obs_cons (laws_markValue_ok h30) (obs_cons h31 (obs_cons h32 (obs_cons h33 (obs_cons (laws_heldValue_ok h34) (obs_cons h35 (obs_cons h36 obs_nil))))))))))))))))))))))))))))))))))))
          ·obtain ⟨r19, h37, h⟩ := bind_inv h
           obtain ⟨r20, h38, h⟩ := bind_inv h
           obtain ⟨r21, h39, h⟩ := bind_inv h
           rcases cond_inv h with ⟨h40, h⟩ | ⟨h40, h⟩
           ·obtain ⟨h41, h⟩ := ite_inv h
            obtain ⟨h42, h⟩ := ite_inv h
            obtain ⟨h43, h⟩ := ite_inv h
            obtain ⟨r22, h44, h⟩ := bind_inv h
            rcases cond_inv h with ⟨h45, h⟩ | ⟨h45, h⟩
            ·obtain rfl := Option.some.inj h
             exact Reach.done ttok mix fk12 (p12_e_24 a0 a1 r1 r2 r3 r4 r5 r6 r7 r8 r9 r10 r11 r12 r13 r14 r15 r16 r17 r18 r19 r20 r21 r22) (obs_cons (xAc h0) (obs_cons h1 (obs_cons (xAc h2) (obs_cons h3 (obs_cons (xAa h4) (obs_cons (xAa h5) (obs_cons (xAk h6) (obs_cons (xAa h7) (obs_cons (xAa h8) (obs_cons (xAn (xAi h9) h10) (obs_cons (laws_eqValue_ok h11) (obs_cons h12 (obs_cons (xAa h13) (obs_cons (laws_eqValue_ok h14) (obs_cons h15 (obs_cons (xAa h16) (obs_cons (laws_eqValue_ok h17) (obs_cons h18 (obs_cons (laws_markValue_ok h19) (obs_cons h20 (obs_cons h21 (obs_cons h22 (obs_cons (laws_markValue_ok h23) (obs_cons h24 (obs_cons h25 (obs_cons h26 (obs_cons h27 (obs_cons (laws_eqValue_ok h28) (obs_cons h29 (obs_cons (laws_markValue_ok h30) (obs_cons h31 (obs_cons h32 (obs_cons h33 (obs_cons (laws_heldValue_ok h34) (obs_cons h35 (obs_cons h36 (obs_cons (xAa h37) (obs_cons (xAa h38) (obs_cons (xAm (xAi h39) h40 h41 h42 h43) (obs_cons (laws_eqValue_ok h44) (obs_cons h45 obs_nil)))))))))))))))))))))))))))))))))))))))))
            ·obtain ⟨r23, h46, h⟩ := bind_inv h
             rcases cond_inv h with ⟨h47, h⟩ | ⟨h47, h⟩
             ·obtain rfl := Option.some.inj h
              exact Reach.done ttok mix fk12 (p12_e_25 a0 a1 r1 r2 r3 r4 r5 r6 r7 r8 r9 r10 r11 r12 r13 r14 r15 r16 r17 r18 r19 r20 r21 r22 r23) (obs_cons (xAc h0) (obs_cons h1 (obs_cons (xAc h2) (obs_cons h3 (obs_cons (xAa h4) (obs_cons (xAa h5) (obs_cons (xAk h6) (obs_cons (xAa h7) (obs_cons (xAa h8) (obs_cons (xAn (xAi h9) h10) (obs_cons (laws_eqValue_ok h11) (obs_cons h12 (obs_cons (xAa h13) (obs_cons (laws_eqValue_ok h14) (obs_cons h15 (obs_cons (xAa h16) (obs_cons (laws_eqValue_ok h17) (obs_cons h18 (obs_cons (laws_markValue_ok h19) (obs_cons h20 (obs_cons h21 (obs_cons h22 (obs_cons (laws_markValue_ok h23) (obs_cons h24 (obs_cons h25 (obs_cons h26 (obs_cons h27 (obs_cons (laws_eqValue_ok h28) (obs_cons h29 (obs_cons (laws_markValue_ok h30) (obs_cons h31 (obs_cons h32 (obs_cons h33 (obs_cons (laws_heldValue_ok h34) (obs_cons h35 (obs_cons h36 (obs_cons (xAa h37) (obs_cons (xAa h38) (obs_cons (xAm (xAi h39) h40 h41 h42 h43) (obs_cons (laws_eqValue_ok h44) (obs_cons h45 (obs_cons (laws_heldValue_ok h46) (obs_cons h47 obs_nil)))))))))))))))))))))))))))))))))))))))))))
             ·rcases cond_inv h with ⟨h48, h⟩ | ⟨h48, h⟩
              ·obtain rfl := Option.some.inj h
               exact Reach.done ttok mix fk12 (p12_e_26 a0 a1 r1 r2 r3 r4 r5 r6 r7 r8 r9 r10 r11 r12 r13 r14 r15 r16 r17 r18 r19 r20 r21 r22 r23) (obs_cons (xAc h0) (obs_cons h1 (obs_cons (xAc h2) (obs_cons h3 (obs_cons (xAa h4) (obs_cons (xAa h5) (obs_cons (xAk h6) (obs_cons (xAa h7) (obs_cons (xAa h8) (obs_cons (xAn (xAi h9) h10) (obs_cons (laws_eqValue_ok h11) (obs_cons h12 (obs_cons (xAa h13) (obs_cons (laws_eqValue_ok h14) (obs_cons h15 (obs_cons (xAa h16) (obs_cons (laws_eqValue_ok h17) (obs_cons h18 (obs_cons (laws_markValue_ok h19) (obs_cons h20 (obs_cons h21 (obs_cons h22 (obs_cons (laws_markValue_ok h23) (obs_cons h24 (obs_cons h25 (obs_cons h26 (obs_cons h27 (obs_cons (laws_eqValue_ok h28) (obs_cons h29 (obs_cons (laws_markValue_ok h30) (obs_cons h31 (obs_cons h32 (obs_cons h33 (obs_cons (laws_heldValue_ok h34) (obs_cons h35 (obs_cons h36 (obs_cons (xAa h37) (obs_cons (xAa h38) (obs_cons (xAm (xAi h39) h40 h41 h42 h43) (obs_cons (laws_eqValue_ok h44) (obs_cons h45 (obs_cons (laws_heldValue_ok h46) (obs_cons h47 (obs_cons h48 obs_nil))))))))))))))))))))))))))))))))))))))))))))
              ·obtain rfl := Option.some.inj h
               exact Reach.done ttok mix fk12 (p12_e_27 a0 a1 r1 r2 r3 r4 r5 r6 r7 r8 r9 r10 r11 r12 r13 r14 r15 r16 r17 r18 r19 r20 r21 r22 r23) (obs_cons (xAc h0) (obs_cons h1 (obs_cons (xAc h2) (obs_cons h3 (obs_cons (xAa h4) (obs_cons (xAa h5) (obs_cons (xAk h6) (obs_cons (xAa h7) (obs_cons (xAa h8) (obs_cons (xAn (xAi h9) h10) (obs_cons (laws_eqValue_ok h11) (obs_cons h12 (obs_cons (xAa h13) (obs_cons (laws_eqValue_ok h14) (obs_cons h15 (obs_cons (xAa h16) (obs_cons (laws_eqValue_ok h17) (obs_cons h18 (obs_cons (laws_markValue_ok h19) (obs_cons h20 (obs_cons h21 (obs_cons h22 (obs_cons (laws_markValue_ok h23) (obs_cons h24 (obs_cons h25 (obs_cons h26 (obs_cons h27 (obs_cons (laws_eqValue_ok h28) (obs_cons h29 (obs_cons (laws_markValue_ok h30) (obs_cons h31 (obs_cons h32 (obs_cons h33 (obs_cons (laws_heldValue_ok h34) (obs_cons h35 (obs_cons h36 (obs_cons (xAa h37) (obs_cons (xAa h38) (obs_cons (xAm (xAi h39) h40 h41 h42 h43) (obs_cons (laws_eqValue_ok h44) (obs_cons h45 (obs_cons (laws_heldValue_ok h46) (obs_cons h47 (obs_cons h48 obs_nil))))))))))))))))))))))))))))))))))))))))))))
           ·obtain ⟨r22, h41, h⟩ := bind_inv h
            rcases cond_inv h with ⟨h42, h⟩ | ⟨h42, h⟩
            ·obtain rfl := Option.some.inj h
             exact Reach.done ttok mix fk12 (p12_e_28 a0 a1 r1 r2 r3 r4 r5 r6 r7 r8 r9 r10 r11 r12 r13 r14 r15 r16 r17 r18 r19 r20 r21 r22) (obs_cons (xAc h0) (obs_cons h1 (obs_cons (xAc h2) (obs_cons h3 (obs_cons (xAa h4) (obs_cons (xAa h5) (obs_cons (xAk h6) (obs_cons (xAa h7) (obs_cons (xAa h8) (obs_cons (xAn (xAi h9) h10) (obs_cons (laws_eqValue_ok h11) (obs_cons h12 (obs_cons (xAa h13) (obs_cons (laws_eqValue_ok h14) (obs_cons h15 (obs_cons (xAa h16) (obs_cons (laws_eqValue_ok h17) (obs_cons h18 (obs_cons (laws_markValue_ok h19) (obs_cons h20 (obs_cons h21 (obs_cons h22 (obs_cons (laws_markValue_ok h23) (obs_cons h24 (obs_cons h25 (obs_cons h26 (obs_cons h27 (obs_cons (laws_eqValue_ok h28) (obs_cons h29 (obs_cons (laws_markValue_ok h30) (obs_cons h31 (obs_cons h32 (obs_cons h33 (obs_cons (laws_heldValue_ok h34) (obs_cons h35 (obs_cons h36 (obs_cons (xAa h37) (obs_cons (xAa h38) (obs_cons (xAn (xAi h39) h40) (obs_cons (laws_eqValue_ok h41) (obs_cons h42 obs_nil)))))))))))))))))))))))))))))))))))))))))
            ·obtain ⟨r23, h43, h⟩ := bind_inv h
             rcases cond_inv h with ⟨h44, h⟩ | ⟨h44, h⟩
             ·obtain rfl := Option.some.inj h
              exact Reach.done ttok mix fk12 (p12_e_29 a0 a1 r1 r2 r3 r4 r5 r6 r7 r8 r9 r10 r11 r12 r13 r14 r15 r16 r17 r18 r19 r20 r21 r22 r23) (obs_cons (xAc h0) (obs_cons h1 (obs_cons (xAc h2) (obs_cons h3 (obs_cons (xAa h4) (obs_cons (xAa h5) (obs_cons (xAk h6) (obs_cons (xAa h7) (obs_cons (xAa h8) (obs_cons (xAn (xAi h9) h10) (obs_cons (laws_eqValue_ok h11) (obs_cons h12 (obs_cons (xAa h13) (obs_cons (laws_eqValue_ok h14) (obs_cons h15 (obs_cons (xAa h16) (obs_cons (laws_eqValue_ok h17) (obs_cons h18 (obs_cons (laws_markValue_ok h19) (obs_cons h20 (obs_cons h21 (obs_cons h22 (obs_cons (laws_markValue_ok h23) (obs_cons h24 (obs_cons h25 (obs_cons h26 (obs_cons h27 (obs_cons (laws_eqValue_ok h28) (obs_cons h29 (obs_cons (laws_markValue_ok h30) (obs_cons h31 (obs_cons h32 (obs_cons h33 (obs_cons (laws_heldValue_ok h34) (obs_cons h35 (obs_cons h36 (obs_cons (xAa h37) (obs_cons (xAa h38) (obs_cons (xAn (xAi h39) h40) (obs_cons (laws_eqValue_ok h41) (obs_cons h42 (obs_cons (laws_heldValue_ok h43) (obs_cons h44 obs_nil)))))))))))))))))))))))))))))))))))))))))))
             ·rcases cond_inv h with ⟨h45, h⟩ | ⟨h45, h⟩
              ·obtain rfl := Option.some.inj h
               exact Reach.done ttok mix fk12 (p12_e_30 a0 a1 r1 r2 r3 r4 r5 r6 r7 r8 r9 r10 r11 r12 r13 r14 r15 r16 r17 r18 r19 r20 r21 r22 r23) (obs_cons (xAc h0) (obs_cons h1 (obs_cons (xAc h2) (obs_cons h3 (obs_cons (xAa h4) (obs_cons (xAa h5) (obs_cons (xAk h6) (obs_cons (xAa h7) (obs_cons (xAa h8) (obs_cons (xAn (xAi h9) h10) (obs_cons (laws_eqValue_ok h11) (obs_cons h12 (obs_cons (xAa h13) (obs_cons (laws_eqValue_ok h14) (obs_cons h15 (obs_cons (xAa h16) (obs_cons (laws_eqValue_ok h17) (obs_cons h18 (obs_cons (laws_markValue_ok h19) (obs_cons h20 (obs_cons h21 (obs_cons h22 (obs_cons (laws_markValue_ok h23) (obs_cons h24 (obs_cons h25 (obs_cons h26 (obs_cons h27 (obs_cons (laws_eqValue_ok h28) (obs_cons h29 (obs_cons (laws_markValue_ok h30) (obs_cons h31 (obs_cons h32 (obs_cons h33 (obs_cons (laws_heldValue_ok h34) (obs_cons h35 (obs_cons h36 (obs_cons (xAa h37) (obs_cons (xAa h38) (obs_cons (xAn (xAi h39) h40) (obs_cons (laws_eqValue_ok h41) (obs_cons h42 (obs_cons (laws_heldValue_ok h43) (obs_cons h44 (obs_cons h45 obs_nil))))))))))))))))))))))))))))))))))))))))))))
              ·obtain rfl := Option.some.inj h
               exact Reach.done ttok mix fk12 (p12_e_31 a0 a1 r1 r2 r3 r4 r5 r6 r7 r8 r9 r10 r11 r12 r13 r14 r15 r16 r17 r18 r19 r20 r21 r22 r23) (obs_cons (xAc h0) (obs_cons h1 (obs_cons (xAc h2) (obs_cons h3 (obs_cons (xAa h4) (obs_cons (xAa h5) (obs_cons (xAk h6) (obs_cons (xAa h7) (obs_cons (xAa h8) (obs_cons (xAn (xAi h9) h10) (obs_cons (laws_eqValue_ok h11) (obs_cons h12 (obs_cons (xAa h13) (obs_cons (laws_eqValue_ok h14) (obs_cons h15 (obs_cons (xAa h16) (obs_cons (laws_eqValue_ok h17) (obs_cons h18 (obs_cons (laws_markValue_ok h19) (obs_cons h20 (obs_cons h21 (obs_cons h22 (obs_cons (laws_markValue_ok h23) (obs_cons h24 (obs_cons h25 (obs_cons h26 (obs_cons h27 (obs_cons (laws_eqValue_ok h28) (obs_cons h29 (obs_cons (laws_markValue_ok h30) (obs_cons h31 (obs_cons h32 (obs_cons h33 (obs_cons (laws_heldValue_ok h34) (obs_cons h35 (obs_cons h36 (obs_cons (xAa h37) (obs_cons (xAa h38) (obs_cons (xAn (xAi h39) h40) (obs_cons (laws_eqValue_ok h41) (obs_cons h42 (obs_cons (laws_heldValue_ok h43) (obs_cons h44 (obs_cons h45 obs_nil))))))))))))))))))))))))))))))))))))))))))))
theorem laws_FnExactColumnOf_ok {N : Nat} {a0 : Val} {a1 : Val} {r : Bool} (h : xAB N  a0 a1 = some r) : AbC 12 (xAe a0 a1) (xAf r) :=
 AbsCalls.of_reach fk12 rfl rfl (Nat.le_of_ble_eq_true rfl) (c12_e a0 a1 r h)
end Go.Ab.T
end
section
namespace Go.Ab
set_option linter.unusedVariables false
theorem cell_int {n : Int} (h : DK maxLen (CV.int .i64 n).toD) : I64 n := DK.i64.1 h
theorem cell_str {s : Str} (h : DK maxLen (CV.str s).toD) : Str.Fit maxLen s := DK.str_iff.1 h
theorem LFit.imp {α : Type} {K : Nat} {p q : α → Prop} {l : List α} (h : LFit K p l) (f : ∀ x, p x → q x) : LFit K q l := ⟨h.1, fun x hx => f x (h.2 x hx)⟩
end Go.Ab
end
section
namespace Go.Ab
set_option linter.unusedVariables false
set_option linter.unusedSimpArgs false
theorem left_ge {s : Nat} {l : Int} (h : ¬ left s l < 0) : (s : Int) ≤ l := by unfold left at h; split at h <;> omega
end Go.Ab
end
section
namespace Go.Ab
set_option linter.unusedVariables false
set_option linter.unusedSimpArgs false
theorem xBo {v : Val} (h : v.Fit maxLen) : Big fun N => ∀ l, 0 ≤ l → l ≤ 1048576 → xBm N v l = some (left v.size l) := (szValue_big v h).diag
theorem toValue_eq {v : Val} (h : v.Fit 1048576) : Big fun N => xAC N v = some v := (toValue_big v h).diag
theorem val_of_cells {a0 : Val} (f0 : ∀ z ∈ [CV.int .i64 (Val.kind a0), .int .i64 (Val.n a0), .int .i64 (Val.step a0), .str (Val.text a0), .sl .ro .val (Val.list a0), .sl .ro .str (Val.columns a0), .sl .ro .row (Val.rows a0)], DFit z.toD) : a0.Fit maxLen := by
  have f := fun z hz => (f0 z hz).dk
  simp only [List.mem_cons, List.not_mem_nil, or_false, forall_eq_or_imp, forall_eq] at f
  obtain ⟨h1, h2, h3, h4, h5, h6, h7⟩ := f
  refine Val.fit_iff.2 ⟨cell_int h1, cell_int h2, cell_int h3, cell_str h4, cell_sl h5, (cell_sl h6).imp fun x hx => ?_, (cell_sl h7).imp fun x hx => rowd_fit.1 hx⟩
  exact DK.str_iff.1 (hx _ List.mem_cons_self)
end Go.Ab
end
section
namespace Go.Ab
set_option linter.unusedVariables false
set_option linter.unusedSimpArgs false
def numV (c : Int) : Val := .mk 1 c 0 [] [] [] []
theorem flat_eta {v : Val} (h1 : v.list = []) (h2 : v.columns = []) (h3 : v.rows = []) : Val.mk v.kind v.n v.step v.text [] [] [] = v := by
  have e := Val.eta v
  rw [h1, h2, h3] at e
  exact e
theorem flat_num {c : Int} (h : I64 c) : Flat (numV c) := flat_mk (i64_of (by omega) (by omega)) h (i64_of (by omega) (by omega))
theorem markE_eq {N : Nat} (hN : 274877906944 < N) {v : Val} (k : Int) : xAS N v k = some k := by
  obtain ⟨n, rfl⟩ : ∃ n, N = n + 1 := ⟨N - 1, by omega⟩
  simp [xAS, xA0, xAU, xBa, xAZ, xAW, xA9]
theorem heldFlat_eq {N : Nat} (hN : 274877906944 < N) {a b c : Int} {t : Str} {k : Int} (hk : 0 ≤ k) : yDB N (.mk a b c t [] [] []) k = some k := by
  obtain ⟨n, rfl⟩ : ∃ n, N = n + 1 := ⟨N - 1, by omega⟩
  have h : ¬ k < 0 := by omega
  simp [yDB, vl, vc, vr, yE1, yCD, yC2, yBJ, yCM, yBv, yDV, yCg, decide_eq_false h]
end Go.Ab
end
section
namespace Go.Ab
set_option linter.unusedVariables false
set_option linter.unusedSimpArgs false
def xBp (ks : List Int) (vs : List Val) : Val × Bool × Bool := bif (opG vs).2.1 then opG vs else bif kb vs ks then (errV 4, true, false) else (nilV, false, false)
theorem flat_nil : Flat nilV := flat_mk (i64_of (by omega) (by omega)) (i64_of (by omega) (by omega)) (i64_of (by omega) (by omega))
theorem flat_kindG {K : Nat} {ks : List Int} {l : List Val} (h : ∀ x ∈ l, x.Fit K) : Flat (xBp ks l).1 := by
  unfold xBp
  cases (opG l).2.1
  · cases kb l ks
    · exact flat_nil
    · exact flat_err (i64_of (by omega) (by omega))
  · exact flat_opG h
theorem kindError_eq {K : Nat} (hK : 24 ≤ K ∧ K ≤ 4611686018427387903) {vs : List Val} {ks : List Int} (h : ∀ x ∈ vs, x.Fit K) (hl : vs.length ≤ K) (hks : ks.length = vs.length) : Big fun N => xA5 N ks vs = some (xBp ks vs) ∧ xBc N vs ks = some ((xBp ks vs).1, (xBp ks vs).2.1) := by
  refine ((operandError_eq hK h hl).and (yF0 K)).imp fun N ⟨⟨ho1, ho2⟩, hN⟩ => ?_
  have i1 : xAy N N ks vs vs.length 0 (Val.mk 0 0 0 [] [] [] []) = some (bif kb vs ks then (errV 4, true, false) else (nilV, false, false)) :=
    yEP (L := fun m i q => xAy N m ks vs vs.length i (Val.mk 0 0 0 [] [] [] [])) vs (fun r q => bif kb r (ks.drop q) then (errV 4, true, false) else (nilV, false, false)) (fun i q => q = i) (fun m q _ => by simp only [xAy, Int.lt_irrefl, decide_false, cond_false]; rfl)
      (fun i x r q hd hi hx hq => by
        have hq : q = i := hq
        subst hq
        have hi' : (q : Int) < (vs.length : Int) := by omega
        have hk : ks[q]? = some ks[q] := by simp [hks, hi]
        have hdk : ks.drop q = ks[q] :: ks.drop (q + 1) := List.drop_eq_getElem_cons (by omega)
        cases h1 : (x.kind != ks[q])
        · refine .inl ⟨q + 1, rfl, by rw [hdk]; simp only [kb, h1, Bool.false_or], fun m => ?_⟩
          simp only [xAy, decide_eq_true hi', cond_true, cond_false, Int.toNat_natCast, yAF hx, yAF hk, h1, yAp hi (by omega : vs.length ≤ _)]
          rw [if_pos (by omega), if_pos (by omega)]
        · refine .inr fun m => ?_
          rw [hdk]
          simp only [xAy, decide_eq_true hi', cond_true, Int.toNat_natCast, yAF hx, yAF hk, h1, yDN, Option.bind_some, kb, Bool.true_or]
          rw [if_pos (by omega), if_pos (by omega)]; rfl) N 0 0 rfl (by omega) (by omega)
  have i2 : xAG N N vs ks 0 (Val.mk 0 0 0 [] [] [] []) = some (bif kb vs ks then (errV 4, true) else (nilV, false)) :=
    yEP (L := fun m i q => xAG N m vs ks i (Val.mk 0 0 0 [] [] [] [])) vs (fun r q => bif kb r (ks.drop q) then (errV 4, true) else (nilV, false)) (fun i q => q = i) (fun m q _ => by simp only [xAG, Int.lt_irrefl, decide_false, cond_false]; rfl)
      (fun i x r q hd hi hx hq => by
        have hq : q = i := hq
        subst hq
        have hi' : (q : Int) < (vs.length : Int) := by omega
        have hk : ks[q]? = some ks[q] := by simp [hks, hi]
        have hdk : ks.drop q = ks[q] :: ks.drop (q + 1) := List.drop_eq_getElem_cons (by omega)
        cases h1 : (x.kind != ks[q])
        · refine .inl ⟨q + 1, rfl, by rw [hdk]; simp only [kb, h1, Bool.false_or], fun m => ?_⟩
          simp only [xAG, decide_eq_true hi', cond_true, cond_false, Int.toNat_natCast, yAF hx, yAF hk, h1, yAp hi (by omega : vs.length ≤ _)]
          rw [if_pos (by omega), if_pos (by omega)]
        · refine .inr fun m => ?_
          rw [hdk]
          simp only [xAG, decide_eq_true hi', cond_true, Int.toNat_natCast, yAF hx, yAF hk, h1, yCH, Option.bind_some, kb, Bool.true_or]
          rw [if_pos (by omega), if_pos (by omega)]; rfl) N 0 0 rfl (by omega) (by omega)
  refine ⟨?_, ?_⟩
  · simp only [xA5, ho1, Option.bind_some, i1, xBp]
    cases h1 : (opG vs).2.1
    · rw [opG_tag h1]; rfl
    · have e : opG vs = ((opG vs).1, true, (opG vs).2.2) := by rw [← h1]
      cases h2 : (opG vs).2.2
      · rw [h2] at e; simp only [cond_true, cond_false]; rw [← e]
      · rw [h2] at e; simp only [cond_true]; rw [← e]
  · simp only [xBc, ho2, Option.bind_some, i2, xBp]
    cases h1 : (opG vs).2.1
    · cases kb vs ks <;> rfl
    · simp [h1]
theorem kindG_tag {ks : List Int} {l : List Val} (h : (xBp ks l).2.1 = false) : (xBp ks l).2.2 = false := by
  unfold xBp at h ⊢
  cases h1 : (opG l).2.1
  · rw [h1] at h
    cases h2 : kb l ks
    · rfl
    · rfl
  · rw [h1] at h; simp only [cond_true] at h; rw [h1] at h; cases h
end Go.Ab
end
section
namespace Go.Ab
set_option linter.unusedVariables false
set_option linter.unusedSimpArgs false
theorem kindG_ok {ks : List Int} {l : List Val} (h : (xBp ks l).2.1 = false) : (∀ x ∈ l, yDx x = true) ∧ kb l ks = false := by
  unfold xBp at h
  cases h1 : (opG l).2.1
  · rw [h1] at h
    cases h2 : kb l ks
    · exact ⟨opG_ok h1, rfl⟩
    · rw [h2] at h; cases h
  · rw [h1] at h; simp only [cond_true] at h; rw [h1] at h; cases h
theorem kindG_flat {K : Nat} {ks : List Int} {l : List Val} (h : ∀ x ∈ l, x.Fit K) : Flat (xBp ks l).1 := flat_kindG h
theorem table_rows {v : Val} (hv : yDx v = true) (hk : v.kind = 5) : ∀ r ∈ v.rows, r.cells.length = v.columns.length := by
  rw [valOk_eq, hk] at hv
  simp only [show ((5 : Int) == 1) = false from rfl, show ((5 : Int) == 2) = false from rfl, show ((5 : Int) == 4) = false from rfl, show ((5 : Int) == 6) = false from rfl, show ((5 : Int) == 5) = true from rfl, cond_true, cond_false, Bool.and_eq_true, tableOk] at hv
  obtain ⟨_, _, _, _, _, _, h⟩ := hv
  intro r hr
  obtain ⟨i, hi⟩ := List.getElem?_of_mem hr
  have := allI_true h i r hi
  simp only [rowP, Bool.and_eq_true, beq_iff_eq] at this
  exact this.1
theorem idxS_range {s : Str} : ∀ {xs : List Str} {j : Nat}, idxS xs s j = -1 ∨ ((j : Int) ≤ idxS xs s j ∧ idxS xs s j < (j : Int) + xs.length)
  | [], j => .inl rfl
  | x :: r, j => by
    simp only [idxS, List.length_cons]
    cases (x == s)
    · simp only [cond_false]
      rcases idxS_range (s := s) (xs := r) (j := j + 1) with h | ⟨h1, h2⟩
      · exact .inl h
      · exact .inr ⟨by omega, by omega⟩
    · simp only [cond_true]
      exact .inr ⟨by omega, by omega⟩
theorem spec_IndexOf_eq {N : Nat} {xs : List Str} {s : Str} (hl : xs.length ≤ 9223372036854775807) (hn : xs.length < N) : xBk N xs s = some (idxS xs s 0) :=
  yEP (L := fun n i _ => xAL N n xs s i) xs (fun l q => idxS l s q) (fun i q => q = i) (fun n q _ => by simp [xAL, idxS])
    (fun i x l q hd hi hx hq => by
      have hi' : (i : Int) < (xs.length : Int) := by omega
      have hq : q = i := hq
      subst hq
      cases h1 : x == s
      · refine .inl ⟨q + 1, rfl, by simp only [idxS, h1, cond_false], fun n => ?_⟩
        simp only [xAL, decide_eq_true hi', cond_true, Int.toNat_natCast, yAF hx, h1, cond_false, yAp hi hl]
        rw [if_pos (by omega)]
      · refine .inr fun n => ?_
        simp only [xAL, decide_eq_true hi', cond_true, Int.toNat_natCast, yAF hx, h1]
        rw [if_pos (by omega)]
        simp only [idxS, h1, cond_true]) N 0 0 rfl (by omega) (by omega)
theorem xBs {N : Nat} {v : Val} {s : Str} (hl : v.columns.length ≤ 9223372036854775807) (hn : v.columns.length < N) : xAO N v s = some (idxS v.columns s 0) := by
  simp only [xAO, impl_IndexOf_eq hl hn, Option.bind_some]
theorem xBu {N : Nat} {v : Val} {s : Str} (hl : v.columns.length ≤ 9223372036854775807) (hn : v.columns.length < N) : xAT N v s = some (idxS v.columns s 0) := by
  simp only [xAT, spec_IndexOf_eq hl hn, Option.bind_some]
def Good1 (K : Nat) (r : Val × Bool) : Prop := r.1.Fit K ∧ r.1.cnt ≤ 100000000000 ∧ (r.2 = true → Flat r.1)
theorem Flat.good {r : Val × Bool} (h : Flat r.1) : Good1 1048576 r := ⟨h.fit _, by rw [h.cnt]; omega, fun _ => h⟩
end Go.Ab
end
section
namespace Go.Ab
set_option linter.unusedVariables false
set_option linter.unusedSimpArgs false
def colV (k : Int) (r : Rowd) : Val := numV (r.cells.getD k.toNat Ty.int.dflt)
theorem impl_col_loop {N K : Nat} {k : Int} {v z : Val} (hl : v.rows.length ≤ K) (hK : K ≤ 137438953472) (hN : K < N) (hk : 0 ≤ k) (hr : ∀ r ∈ v.rows, k < (r.cells.length : Int)) :
    xAA N N k v.rows v.rows.length 0 z (.mk 3 0 0 [] [] [] []) = some (.mk 3 0 0 [] (v.rows.map (colV k)) [] [], false) :=
  yEP (L := fun m i q => xAA N m k v.rows v.rows.length i z (.mk 3 0 0 [] q [] [])) v.rows (fun l q => (Val.mk 3 0 0 [] (q ++ l.map (colV k)) [] [], false)) (fun i q => q.length = i) (fun m q _ => by simp [xAA])
    (fun i x l q hd hi hx hq => by
      have hq : q.length = i := hq
      have hi' : (i : Int) < (v.rows.length : Int) := by omega
      have hkx := hr x (List.mem_of_getElem? hx)
      refine .inl ⟨q ++ [colV k x], by simp [hq], by simp, fun m => ?_⟩
      simp only [xAA, decide_eq_true hi', cond_true, Int.toNat_natCast, yAF hx, xA3, Option.bind_some, Val.re_eq, vk, vn, vs, vt, vl, vc, vr, yAp hi (by omega : v.rows.length ≤ _)]
      rw [if_pos (by omega), if_pos (by omega), if_pos (by simp only [List.length_cons, List.length_nil]; unfold Lim; omega)]; rfl) N 0 [] rfl (by omega) (by omega)
theorem spec_col_loop {N K : Nat} {k : Int} {v z : Val} (hl : v.rows.length ≤ K) (hK : K ≤ 137438953472) (hN : K < N) (hk : 0 ≤ k) (hr : ∀ r ∈ v.rows, k < (r.cells.length : Int)) :
    xAF N N k 0 v z (.mk 3 0 0 [] [] [] []) = some (.mk 3 0 0 [] (v.rows.map (colV k)) [] []) :=
  yEP (L := fun m i q => xAF N m k i v z (.mk 3 0 0 [] q [] [])) v.rows (fun l q => Val.mk 3 0 0 [] (q ++ l.map (colV k)) [] []) (fun i q => q.length = i) (fun m q _ => by simp [xAF])
    (fun i x l q hd hi hx hq => by
      have hq : q.length = i := hq
      have hi' : (i : Int) < (v.rows.length : Int) := by omega
      have hkx := hr x (List.mem_of_getElem? hx)
      refine .inl ⟨q ++ [colV k x], by simp [hq], by simp, fun m => ?_⟩
      simp only [xAF, decide_eq_true hi', cond_true, Int.toNat_natCast, yAF hx, xA4, Option.bind_some, Val.re_eq, vk, vn, vs, vt, vl, vc, vr, yAp hi (by omega : v.rows.length ≤ _)]
      rw [if_pos (by omega), if_pos (by omega), if_pos (by simp only [List.length_cons, List.length_nil]; unfold Lim; omega)]; rfl) N 0 [] rfl (by omega) (by omega)
def colG (a v : Val) : Val × Bool := bif (xBp [2, 5] [a, v]).2.1 then ((xBp [2, 5] [a, v]).1, (xBp [2, 5] [a, v]).2.2) else
  bif decide (idxS v.columns a.text 0 < 0) then (errV 7, false) else bif decide ((v.rows.length : Int) > 8) then (errV 6, false) else (.mk 3 0 0 [] (v.rows.map (colV (idxS v.columns a.text 0))) [] [], false)
theorem kb2 {a b : Val} {x y : Int} (h : kb [a, b] [x, y] = false) : a.kind = x ∧ b.kind = y := by
  simp only [kb, Bool.or_eq_false_iff, bne_eq_false_iff_eq] at h
  exact ⟨h.1, h.2.1⟩
theorem two_fit {K : Nat} {a b : Val} (ha : a.Fit K) (hb : b.Fit K) : ∀ x ∈ [a, b], x.Fit K := fun x hx => by
  simp only [List.mem_cons, List.not_mem_nil, or_false] at hx
  rcases hx with rfl | rfl
  · exact ha
  · exact hb
theorem col_eq {K : Nat} (hK : 24 ≤ K ∧ K ≤ 137438953472) {a v : Val} (ha : a.Fit K) (hv : v.Fit K) : Big fun N => xAK N a v = some (colG a v) ∧ xAX N a v = some (colG a v).1 := by
  obtain ⟨_, _, _, _, _, h6, h7⟩ := Val.fit_iff.1 hv
  have hc : v.columns.length ≤ K := h6.1
  refine ((kindError_eq (by omega) (vs := [a, v]) (ks := [2, 5]) (two_fit ha hv) (by simp; omega) rfl).and (yF0 K)).imp fun N ⟨⟨h1, h2⟩, hN⟩ => ?_
  obtain ⟨e1, e2, e3, _⟩ := flat_kindG (ks := [2, 5]) (two_fit ha hv)
  have i1 := xBs (N := N) (v := v) (s := a.text) (by omega) (by omega)
  have i2 := xBu (N := N) (v := v) (s := a.text) (by omega) (by omega)
  cases g1 : (xBp [2, 5] [a, v]).2.1
  · obtain ⟨g2, g3⟩ := kindG_ok g1
    have hrows := table_rows (g2 v (by simp)) (kb2 g3).2
    have htag := kindG_tag g1
    by_cases hneg : idxS v.columns a.text 0 < 0
    · refine ⟨?_, ?_⟩
      · simp only [xAK, Val.re_eq, h1, Option.bind_some, g1, htag, cond_false, i1, decide_eq_true hneg, cond_true, yDN, colG]; rfl
      · simp only [xAX, Val.re_eq, h2, Option.bind_some, g1, cond_false, i2, decide_eq_true hneg, cond_true, yCH, colG]; rfl
    · have hr : ∀ r ∈ v.rows, idxS v.columns a.text 0 < (r.cells.length : Int) := fun r hr => by
        rw [hrows r hr]
        rcases idxS_range (s := a.text) (xs := v.columns) (j := 0) with h | ⟨_, h⟩ <;> omega
      have l1 := impl_col_loop (z := Val.mk 0 0 0 [] [] [] []) h7.1 hK.2 hN (by omega) hr
      have l2 := spec_col_loop (z := Val.mk 0 0 0 [] [] [] []) h7.1 hK.2 hN (by omega) hr
      refine ⟨?_, ?_⟩
      · simp only [xAK, Val.re_eq, h1, Option.bind_some, g1, htag, cond_false, i1, decide_eq_false hneg, yDN, l1, colG]
        cases decide ((v.rows.length : Int) > 8) <;> rfl
      · simp only [xAX, Val.re_eq, h2, Option.bind_some, g1, cond_false, i2, decide_eq_false hneg, yCH, l2, colG]
        cases decide ((v.rows.length : Int) > 8) <;> rfl
  · refine ⟨?_, ?_⟩
    · simp only [xAK, Val.re_eq, h1, Option.bind_some, e1, e2, e3, List.isEmpty_nil, if_true, flat_eta e1 e2 e3, g1, cond_true, colG]
      cases (xBp [2, 5] [a, v]).2.2 <;> rfl
    · simp only [xAX, Val.re_eq, h2, Option.bind_some, g1, cond_true, colG]
theorem colV_flat {k : Int} {r : Rowd} {K : Nat} (h : r.Fit K) : Flat (colV k r) := by
  refine flat_num ?_
  rcases Nat.lt_or_ge k.toNat r.cells.length with hk | hk
  · have : r.cells.getD k.toNat Ty.int.dflt = r.cells[k.toNat] := by simp [List.getD, hk]
    rw [this]
    exact h.1.2 _ (List.getElem_mem hk)
  · have : r.cells.getD k.toNat Ty.int.dflt = 0 := by simp [List.getD, List.getElem?_eq_none hk]; rfl
    rw [this]
    exact i64_of (by omega) (by omega)
theorem cnt_sum4 : ∀ {l : List Val}, (∀ x ∈ l, x.cnt = 4) → (l.map Val.cnt).sum = 4 * l.length
  | [], _ => rfl
  | x :: l, h => by
    have := cnt_sum4 fun y hy => h y (List.mem_cons_of_mem x hy)
    simp only [List.map_cons, List.sum_cons, List.length_cons, h x List.mem_cons_self, this]
    omega
theorem listV_fit {K : Nat} {l : List Val} (h : LFit K (Val.Fit K) l) : (Val.mk 3 0 0 [] l [] []).Fit K :=
  Val.fit_iff.2 ⟨i64_of (by show (-1000000 : Int) ≤ 3; omega) (by show (3 : Int) ≤ 1000000; omega), i64_of (by show (-1000000 : Int) ≤ 0; omega) (by show (0 : Int) ≤ 1000000; omega), i64_of (by show (-1000000 : Int) ≤ 0; omega) (by show (0 : Int) ≤ 1000000; omega), Nat.zero_le _, h, lfit_nil, lfit_nil⟩
theorem listV_cnt (l : List Val) : (Val.mk 3 0 0 [] l [] []).cnt = 4 + (l.map Val.cnt).sum := by
  rw [valCnt, vl, vc, vr]; simp only [List.map_nil, List.sum_nil]; omega
theorem colG_good {a v : Val} (ha : a.Fit 1048576) (hv : v.Fit 1048576) : Good1 1048576 (colG a v) := by
  obtain ⟨_, _, _, _, _, h6, h7⟩ := Val.fit_iff.1 hv
  have hr : v.rows.length ≤ 1048576 := h7.1
  unfold colG
  cases (xBp [2, 5] [a, v]).2.1
  · cases decide (idxS v.columns a.text 0 < 0)
    · cases decide ((v.rows.length : Int) > 8)
      · refine ⟨listV_fit ⟨by simpa using hr, fun x hx => ?_⟩, ?_, fun h => by cases h⟩
        · obtain ⟨r, hr, rfl⟩ := List.mem_map.1 hx
          exact (colV_flat (h7.2 r hr)).fit _
        · show (Val.mk 3 0 0 [] (v.rows.map (colV (idxS v.columns a.text 0))) [] []).cnt ≤ _
          rw [listV_cnt, cnt_sum4 (fun x hx => by obtain ⟨r, hr, rfl⟩ := List.mem_map.1 hx; exact (colV_flat (h7.2 r hr)).cnt), List.length_map]
          omega
      · exact Flat.good (flat_err (i64_of (by omega) (by omega)))
    · exact Flat.good (flat_err (i64_of (by omega) (by omega)))
  · exact Flat.good (kindG_flat (two_fit ha hv))
theorem xBn (a0 a1 : Val) (f0 : ∀ z ∈ [CV.int .i64 (Val.kind a0), .int .i64 (Val.n a0), .int .i64 (Val.step a0), .str (Val.text a0), .sl .ro .val (Val.list a0), .sl .ro .str (Val.columns a0), .sl .ro .row (Val.rows a0)], DFit z.toD)
    (f1 : ∀ z ∈ [CV.int .i64 (Val.kind a1), .int .i64 (Val.n a1), .int .i64 (Val.step a1), .str (Val.text a1), .sl .ro .val (Val.list a1), .sl .ro .str (Val.columns a1), .sl .ro .row (Val.rows a1)], DFit z.toD) : ∃ N, xAB N a0 a1 = some true := by
  have hF := val_of_cells f0
  have hG := val_of_cells f1
  by_cases h : left a0.size 1048576 < 0
  · exact ((xBo hF).imp fun N hs => by simp [xAB, hs 1048576 (by omega) (by omega), h]).get
  · have g0 := left_ge h
    rw [left_of g0] at h
    by_cases h' : left a1.size (1048576 - (a0.size : Int)) < 0
    · refine (((xBo hF).and (xBo hG)).imp fun N ⟨hs, ht⟩ => ?_).get
      have e1 := hs 1048576 (by omega) (by omega)
      rw [left_of g0] at e1
      simp only [xAB, e1, Option.bind_some, decide_eq_false h, cond_false, ht _ (by omega : 0 ≤ 1048576 - (a0.size : Int)) (by omega), decide_eq_true h', cond_true]
    · have g1 := left_ge h'
      have s0 := Val.fit_size (K := 1048576) a0 hF (by omega)
      have s1 := Val.fit_size (K := 1048576) a1 hG (by omega)
      have c0 := Val.cnt_le a0
      have c1 := Val.cnt_le a1
      obtain ⟨hff, hfc, hfl⟩ := colG_good s0 s1
      refine ((((xBo hF).and (xBo hG)).and (((toValue_eq s0).and (toValue_eq s1)).and ((eqValue_self s0 (by omega)).and (eqValue_self s1 (by omega))))).and
        (((col_eq (by omega) s0 s1).and (eqValue_self hff (by omega))).and (((markValue_at (by omega) s0).and (markValue_at (by omega) s1)).and ((markValue_held (by omega) hff (by omega)).and (yF0 274877906944)))))
        |>.imp (fun N ⟨⟨⟨z0, z1⟩, ⟨t0, t1⟩, q0, q1⟩, ⟨⟨k4, k5⟩, k6⟩, ⟨m0, m1⟩, m3, hN⟩ => ?_) |>.get
      obtain ⟨k0, xa0, xb0, xc0, u0, u1, p01, p02, p03, p04, _⟩ := m0 1 (by omega) (by omega)
      obtain ⟨k1, xa1, xb1, xc1, v0, v1, p11, p12, p13, p14, _⟩ := m1 k0 (by omega) (by omega)
      obtain ⟨k', ya, yb, yc, r0, r1, r2, r3, r4, r5⟩ := m3
      have e1 := z0 1048576 (by omega) (by omega)
      rw [left_of g0] at e1
      have e2 := z1 _ (by omega : 0 ≤ 1048576 - (a0.size : Int)) (by omega)
      generalize colG a0 a1 = r at *
      simp only [xAB, e1, e2, t0, t1, q0, q1, k4, k5, k6, Option.bind_some, decide_eq_false h, decide_eq_false h', cond_false]
      cases hr2 : r.2
      · simp only [cond_false, k6, Bool.not_true, p04, p14, Option.bind_some, if_pos p01, if_pos p02, if_pos p03, if_pos p11, if_pos p12, if_pos p13, decide_eq_false (by omega : ¬ k1 < 0), r4, if_pos r1, if_pos r2, if_pos r3, r5, decide_eq_false (by omega : ¬ k' < 0), bne_self_eq_false]
      · have hflat := hfl hr2
        obtain ⟨f1, f2, f3, _⟩ := hflat
        have hh : yDB N r.1 1 = some 1 := by rw [← flat_eta f1 f2 f3]; exact heldFlat_eq hN (by omega)
        simp only [cond_true, f1, f2, f3, List.isEmpty_nil, if_true, flat_eta f1 f2 f3, k6, Option.bind_some, Bool.not_true, cond_false, p04, p14, if_pos p01, if_pos p02, if_pos p03, if_pos p11, if_pos p12, if_pos p13, decide_eq_false (by omega : ¬ k1 < 0), markE_eq hN, hh, decide_eq_false (by omega : ¬ (1 : Int) < 0), bne_self_eq_false]
end Go.Ab
end
section
namespace Go.Proofs.Ytkbojckenecnbaa
open Go.Ab Go.ChangeShapes Go.WideShapes Go.ChangeAt Go.RowKit
set_option linter.unusedVariables false
theorem own : ownKnob Try.prog.godebug = none := by kernel_rfl
theorem laidOut : laidOutB Try.prog = true := by kernel_rfl
theorem xBl : ktChk Try.prog [(3, .int), (9, .str), (40, .val), (137, .org), (148, .row)] = true := by kernel_rfl
set_option maxRecDepth 100000 in
theorem fnExactColumnOf_lifted (os : Os) (started : os.Started) (H : Type) (enc : TypeId × Value → H) :
    ReturnsInHanded {} Try.checked os 12 .any (Rows.fnExactColumnOfSpec.pre6 enc Try.prog Try.f12 Rows.fnExactColumnOfRow.domain false) (Rows.fnExactColumnOfSpec.post enc Try.prog Try.f12 false true false false) := by
  refine returnsInHanded_of_change (C := Try.checked) own started (by kernel_rfl) Try.func12
    (ChangeSpec.witness6 (enc := enc) (C := Try.checked) false ⟨#[], #[.agg #[.int .i64 0, .int .i64 0, .int .i64 0, .string ByteArray.empty, .slice none 0 0, .slice none 0 0, .slice none 0 0], .agg #[.int .i64 0, .int .i64 0, .int .i64 0, .string ByteArray.empty, .slice none 0 0, .slice none 0 0, .slice none 0 0]], []⟩ 8 (by kernel_rfl) (by kernel_rfl) (by kernel_rfl) (by kernel_rfl)) ?_
  intro W base args ds gs before hval0 hW hcnd _
  have hval : ∀ (j : Nat) t v, Try.f12.params[j]? = some t → args[j]? = some v → Value.okWide Try.prog W .any base t v := hval0
  have hW' := hW
  obtain ⟨p, q, hA0, hV, rfl, hfz, hnd⟩ := hW
  have hA : DataW.TrodAll enc Try.prog W 0 (fun _ => true) true Try.f12.params.toList args.toList ds p := hA0
  rw [Try.params12] at hA hval
  obtain ⟨v0, vs0, d0, ds0, p0, q0, hargs, rfl, rfl, h0, r0⟩ := trodAll_cons hA
  obtain ⟨v1, vs1, d1, ds1, p1, q1, rfl, rfl, rfl, h1, r1⟩ := trodAll_cons r0
  obtain ⟨rfl, rfl, rfl⟩ := trodAll_nil r1
  obtain rfl : args = #[v0, v1] := by cases args; simp_all
  obtain ⟨rfl, rfl⟩ := trodVars_none hV
  have lt0 : ∀ x ∈ p0, x.block < W.heap.size := by obtain ⟨m, hm⟩ := h0; exact DataW.trod_lt m _ _ _ hm
  have lt1 : ∀ x ∈ p1, x.block < W.heap.size := by obtain ⟨m, hm⟩ := h1; exact DataW.trod_lt m _ _ _ hm
  obtain ⟨z0, e0, f0, vr0⟩ := vr_of xBl (g := true) (t := 40) (ns := [.inl (.int .i64), .inl (.int .i64), .inl (.int .i64), .inl .str, .inr .val, .inr .str, .inr .row]) (by kernel_rfl) (hval 0 40 v0 rfl rfl) h0
  obtain ⟨x0_0, _, rfl, e0_0⟩ := AreOf.int_inv e0
  obtain ⟨x0_1, _, rfl, e0_1⟩ := AreOf.int_inv e0_0
  obtain ⟨x0_2, _, rfl, e0_2⟩ := AreOf.int_inv e0_1
  obtain ⟨x0_3, _, rfl, e0_3⟩ := AreOf.str_inv e0_2
  obtain ⟨x0_4, _, rfl, e0_4⟩ := AreOf.sl_inv e0_3
  obtain ⟨x0_5, _, rfl, e0_5⟩ := AreOf.sl_inv e0_4
  obtain ⟨x0_6, _, rfl, e0_6⟩ := AreOf.sl_inv e0_5
  obtain rfl := e0_6.nil_inv
  obtain ⟨z1, e1, f1, vr1⟩ := vr_of xBl (g := true) (t := 40) (ns := [.inl (.int .i64), .inl (.int .i64), .inl (.int .i64), .inl .str, .inr .val, .inr .str, .inr .row]) (by kernel_rfl) (hval 1 40 v1 rfl rfl) h1
  obtain ⟨x1_0, _, rfl, e1_0⟩ := AreOf.int_inv e1
  obtain ⟨x1_1, _, rfl, e1_1⟩ := AreOf.int_inv e1_0
  obtain ⟨x1_2, _, rfl, e1_2⟩ := AreOf.int_inv e1_1
  obtain ⟨x1_3, _, rfl, e1_3⟩ := AreOf.str_inv e1_2
  obtain ⟨x1_4, _, rfl, e1_4⟩ := AreOf.sl_inv e1_3
  obtain ⟨x1_5, _, rfl, e1_5⟩ := AreOf.sl_inv e1_4
  obtain ⟨x1_6, _, rfl, e1_6⟩ := AreOf.sl_inv e1_5
  obtain rfl := e1_6.nil_inv
  obtain ⟨N, hF⟩ := xBn (Val.mk x0_0 x0_1 x0_2 x0_3 x0_4 x0_5 x0_6) (Val.mk x1_0 x1_1 x1_2 x1_3 x1_4 x1_5 x1_6) f0 f1
  clear hA0 hval0
  refine (calls_of T.fk12 (T.laws_FnExactColumnOf_ok hF) (W := W) (args := #[v0, v1]) ⟨vr0 _, vr1 _, trivial⟩).mono fun e W' ⟨he, bel⟩ => ?_
  subst he
  exact ⟨_, rfl, _, _, _, [], _, [], hW', trodAll_mk1 (shut_bool Try.underlying4 _), (trodAll_cons_mk (Below.trod laidOut (by kernel_rfl) (of_decide_eq_true (by kernel_rfl)) h0 bel lt0) (trodAll_cons_mk (Below.trod laidOut (by kernel_rfl) (of_decide_eq_true (by kernel_rfl)) h1 bel lt1) trodAll_mk0)), rfl, bel.frame _, fun h => by cases h⟩
theorem fnExactColumnOf_proved : Rows.FnExactColumnOfSaid :=
  OpenClaim.holds_of_wide 12 Try.f12 rfl rfl rfl rfl rfl rfl rfl ⟨rfl, rfl, rfl, rfl, rfl⟩ rfl rfl rfl rfl rfl (by kernel_rfl) Try.func12 (by kernel_rfl)
    (of_decide_eq_true (by kernel_rfl)) (by unfold Func.isWrapper; first | (rw [if_pos (by decide +kernel)]; kernel_rfl) | (rw [if_neg (by decide +kernel)]; exact ⟨rfl, rfl⟩))
    (fun os started H enc _ => fnExactColumnOf_lifted os started H enc)
end Go.Proofs.Ytkbojckenecnbaa
end
