/- The statement FnExactWhereEqual holds: plain functions, certificates, laws. Conditions: none. -/
import Derived.Test.YtkbojckenecnbaaChecked
import Derived.Test.YtkbojckenecnbaaProg
import Derived.Test.YtkbojckenecnbaaRows
import Derived.Test.YtkbojckenecnbaaK2
set_option linter.all false
section
namespace Go.Ab
set_option linter.unusedVariables false
def xAV (a0 : List Val) (a1 : Int) : List Arg := [.val (.v false [.sl .ro .val []]), .val (.v false [.int .i64 a1])]
def xAH (r : Int) : CallO := ⟨.v false [.int .i64 r], [], []⟩
def xAW (N : Nat) : Nat → Int → Int → Option (Int)
  | 0, _, _ => none
  | n + 1, x1, x5 =>
    bif (decide ((x5 : Int) < (0 : Int))) then (
      if (0 : Int) ≤ x5 ∧ x5 < (0) then
      none
      else none
    ) else (
      some x1
    )
def xAX (N : Nat) (a0 : List Val) (a1 : Int) : Option (Int) :=
  (xAW N N a1 0)
def xBi (N : Nat) (a0 : Val) (a1 : Int) : Option (Int) := (yBf N N).c_laws_szValue a0 a1
def xAr (N : Nat) (a0 : Val) : Option (Val) := (yAv N N).c_laws_toValue a0
def xBk (a0 : Rowd) : List Arg := [.val (.v true [.sl .ro .int (Rowd.cells a0), .sl .ro .org (Rowd.frm a0)])]
def xBd (r : Rowd) : CallO := ⟨.v true [.sl .own .int (Rowd.cells r), .sl .own .org (Rowd.frm r)], [], []⟩
def xA8 (a0 : Rowd) : List Arg := [.val (.v true [.sl .ro .int (Rowd.cells a0), .sl .ro .org (Rowd.frm a0)])]
def xA3 (r : Rowd) : CallO := ⟨.v true [.sl .own .int (Rowd.cells r), .sl .own .org (Rowd.frm r)], [], []⟩
def xBh (N : Nat) (a0 : Rowd) : Option (Rowd) :=
  if 0 + List.length (Rowd.cells a0) ≤ Lim then
  if 0 + List.length (Rowd.frm a0) ≤ Lim then
  some (Rowd.mk ([] ++ (Rowd.cells a0)) ([] ++ (Rowd.frm a0)))
  else none
  else none
def xAT (a0 : List Str) (a1 : Int) : List Arg := [.val (.v false [.sl .ro .str []]), .val (.v false [.int .i64 a1])]
def xAE (r : Int) : CallO := ⟨.v false [.int .i64 r], [], []⟩
def xAU (N : Nat) : Nat → Int → Int → Option (Int)
  | 0, _, _ => none
  | n + 1, x1, x5 =>
    bif (decide ((x5 : Int) < (0 : Int))) then (
      Option.bind (yCo N x1) fun r1 =>
      if (0 : Int) ≤ x5 ∧ x5 < (0) then
      none
      else none
    ) else (
      some x1
    )
def xAS (N : Nat) (a0 : List Str) (a1 : Int) : Option (Int) :=
  (xAU N N a1 0)
def xA1 (a0 : List Rowd) (a1 : Int) : List Arg := [.val (.v false [.sl .ro .row []]), .val (.v false [.int .i64 a1])]
def xAK (r : Int) : CallO := ⟨.v false [.int .i64 r], [], []⟩
def xA2 (N : Nat) : Nat → Int → Int → Option (Int)
  | 0, _, _ => none
  | n + 1, x1, x5 =>
    bif (decide ((x5 : Int) < (0 : Int))) then (
      if (0 : Int) ≤ x5 ∧ x5 < (0) then
      none
      else none
    ) else (
      some x1
    )
def xA4 (N : Nat) (a0 : List Rowd) (a1 : Int) : Option (Int) :=
  (xA2 N N a1 0)
def xAo (a0 : Val) (a1 : Int) : List Arg := [.val (.v true [.int .i64 (Val.kind a0), .int .i64 (Val.n a0), .int .i64 (Val.step a0), .str (Val.text a0), .sl .ro .val [], .sl .ro .str [], .sl .ro .row []]), .val (.v false [.int .i64 a1])]
def xAn (r : Int) : CallO := ⟨.v false [.int .i64 r], [], []⟩
def xAQ (N : Nat) (a0 : Val) (a1 : Int) : Option (Int) :=
  Option.bind (xAX N [] a1) fun r1 =>
  Option.bind (xAS N [] r1) fun r2 =>
  Option.bind (xA4 N [] r2) fun r3 =>
  some r3
def xAP (a0 : List Val) (a1 : List Int) : List Arg := [.val (.v false [.sl .ro .val a0]), .val (.v false [.sl .ro .int a1])]
def xAy (r : Val × Bool) : CallO := ⟨.tup [(true, [.int .i64 (Val.kind r.1), .int .i64 (Val.n r.1), .int .i64 (Val.step r.1), .str (Val.text r.1), .sl .own .val (Val.list r.1), .sl .own .str (Val.columns r.1), .sl .own .row (Val.rows r.1)]), (false, [.bool r.2])], [], []⟩
def xAG (N : Nat) : Nat → (List Val) → (List Int) → Int → Val → Option (Val × Bool)
  | 0, _, _, _, _ => none
  | n + 1, x0, x1, x8, b4 =>
    bif (decide ((x8 : Int) < (List.length x0 : Int))) then (
      if (0 : Int) ≤ x8 ∧ x8 < (List.length x0) then
      if (0 : Int) ≤ x8 ∧ x8 < (List.length x1) then
      bif (((Val.kind (List.getD x0 (Int.toNat x8) Ty.val.dflt)) : Int) != (List.getD x1 (Int.toNat x8) Ty.int.dflt)) then (
        Option.bind (yCH N 4) fun r1 =>
        some (r1, true)
      ) else (
        (xAG N n x0 x1 (IntKind.i64.wrap (x8 + 1)) b4)
      )
      else none
      else none
    ) else (
      some ((Val.mk 0 0 0 [] [] [] []), false)
    )
def xA7 (N : Nat) (a0 : List Val) (a1 : List Int) : Option (Val × Bool) :=
  Option.bind (yFh N a0) fun r1 =>
  bif r1.2 then (
    some (r1.1, true)
  ) else (
    (xAG N N a0 a1 0 (Val.mk 0 0 0 [] [] [] []))
  )
def xAs (a0 : List Int) (a1 : List Val) : List Arg := [.val (.v false [.sl .ro .int a0]), .val (.v false [.sl .ro .val a1])]
def xA9 (r : Val × Bool × Bool) : CallO := ⟨.tup [(true, [.int .i64 (Val.kind r.1), .int .i64 (Val.n r.1), .int .i64 (Val.step r.1), .str (Val.text r.1), .sl .ro .val (Val.list r.1), .sl .ro .str (Val.columns r.1), .sl .ro .row (Val.rows r.1)]), (false, [.bool r.2.1])], [], []⟩
def xAA (r : Val × Bool × Bool) : CallO := ⟨.tup [(true, [.int .i64 (Val.kind r.1), .int .i64 (Val.n r.1), .int .i64 (Val.step r.1), .str (Val.text r.1), .sl .own .val (Val.list r.1), .sl .own .str (Val.columns r.1), .sl .own .row (Val.rows r.1)]), (false, [.bool r.2.1])], [], []⟩
def xAF (r : Val × Bool × Bool) : CallO := ⟨.tup [(true, [.int .i64 (Val.kind r.1), .int .i64 (Val.n r.1), .int .i64 (Val.step r.1), .str (Val.text r.1), .sl .ro .val [], .sl .ro .str [], .sl .ro .row []]), (false, [.bool r.2.1])], [], []⟩
def xAt (r : Val × Bool × Bool) : CallO := bif r.2.2 then xA9 r else xAA r
def xAz (N : Nat) : Nat → (List Int) → (List Val) → Int → Int → Val → Option (Val × Bool × Bool)
  | 0, _, _, _, _, _ => none
  | n + 1, x0, x17, x18, x19, b4 =>
    bif (decide ((x19 : Int) < x18)) then (
      if (0 : Int) ≤ x19 ∧ x19 < (List.length x17) then
      if (0 : Int) ≤ x19 ∧ x19 < (List.length x0) then
      bif (((Val.kind (List.getD x17 (Int.toNat x19) Ty.val.dflt)) : Int) != (List.getD x0 (Int.toNat x19) Ty.int.dflt)) then (
        Option.bind (yDN N 4) fun r1 =>
        some (r1, true, false)
      ) else (
        (xAz N n x0 x17 x18 (IntKind.i64.wrap (x19 + 1)) b4)
      )
      else none
      else none
    ) else (
      some ((Val.mk 0 0 0 [] [] [] []), false, false)
    )
def xAZ (N : Nat) (a0 : List Int) (a1 : List Val) : Option (Val × Bool × Bool) :=
  Option.bind (yDT N a1) fun r1 =>
  bif r1.2.2 then (
    bif r1.2.1 then (
      some (r1.1, true, true)
    ) else (
      (xAz N N a0 a1 (List.length a1 : Int) 0 (Val.mk 0 0 0 [] [] [] []))
    )
  ) else (
    bif r1.2.1 then (
      some (r1.1, true, false)
    ) else (
      (xAz N N a0 a1 (List.length a1 : Int) 0 (Val.mk 0 0 0 [] [] [] []))
    )
  )
def xBc (a0 : List Str) (a1 : Str) : List Arg := [.val (.v false [.sl .ro .str a0]), .val (.v false [.str a1])]
def xAO (r : Int) : CallO := ⟨.v false [.int .i64 r], [], []⟩
def xAI (N : Nat) : Nat → (List Str) → Str → Int → Option (Int)
  | 0, _, _, _ => none
  | n + 1, x0, x1, x5 =>
    bif (decide ((x5 : Int) < (List.length x0 : Int))) then (
      if (0 : Int) ≤ x5 ∧ x5 < (List.length x0) then
      bif (((List.getD x0 (Int.toNat x5) Ty.str.dflt) : Str) == x1) then (
        some x5
      ) else (
        (xAI N n x0 x1 (IntKind.i64.wrap (x5 + 1)))
      )
      else none
    ) else (
      some (-1)
    )
def xBj (N : Nat) (a0 : List Str) (a1 : Str) : Option (Int) :=
  (xAI N N a0 a1 0)
def xAN (a0 : Val) (a1 : Str) : List Arg := [.val (.v true [.int .i64 (Val.kind a0), .int .i64 (Val.n a0), .int .i64 (Val.step a0), .str (Val.text a0), .sl .ro .val (Val.list a0), .sl .ro .str (Val.columns a0), .sl .ro .row (Val.rows a0)]), .val (.v false [.str a1])]
def xAD (r : Int) : CallO := ⟨.v false [.int .i64 r], [], []⟩
def xAR (N : Nat) (a0 : Val) (a1 : Str) : Option (Int) :=
  Option.bind (xBj N (Val.columns a0) a1) fun r1 =>
  some r1
def xAC (a0 : Val) (a1 : Str) : List Arg := [.val (.v true [.int .i64 (Val.kind a0), .int .i64 (Val.n a0), .int .i64 (Val.step a0), .str (Val.text a0), .sl .ro .val (Val.list a0), .sl .ro .str (Val.columns a0), .sl .ro .row (Val.rows a0)]), .val (.v false [.str a1])]
def xAq (r : Int) : CallO := ⟨.v false [.int .i64 r], [], []⟩
def xAL (N : Nat) (a0 : Val) (a1 : Str) : Option (Int) :=
  Option.bind (yEK N (Val.columns a0) a1) fun r1 =>
  some r1
def xAj (a0 : Val) (a1 : Val) (a2 : Val) : List Arg := [.val (.v true [.int .i64 (Val.kind a0), .int .i64 (Val.n a0), .int .i64 (Val.step a0), .str (Val.text a0), .sl .ro .val (Val.list a0), .sl .ro .str (Val.columns a0), .sl .ro .row (Val.rows a0)]), .val (.v true [.int .i64 (Val.kind a1), .int .i64 (Val.n a1), .int .i64 (Val.step a1), .str (Val.text a1), .sl .ro .val (Val.list a1), .sl .ro .str (Val.columns a1), .sl .ro .row (Val.rows a1)]), .val (.v true [.int .i64 (Val.kind a2), .int .i64 (Val.n a2), .int .i64 (Val.step a2), .str (Val.text a2), .sl .ro .val (Val.list a2), .sl .ro .str (Val.columns a2), .sl .ro .row (Val.rows a2)])]
def xAc (r : Val) : CallO := ⟨.v true [.int .i64 (Val.kind r), .int .i64 (Val.n r), .int .i64 (Val.step r), .str (Val.text r), .sl .own .val (Val.list r), .sl .own .str (Val.columns r), .sl .own .row (Val.rows r)], [], []⟩
def xAx (N : Nat) : Nat → Int → Int → Val → Val → Val → Val → Option (Val)
  | 0, _, _, _, _, _, _ => none
  | n + 1, x9, x11, b4, b5, b6, b10 =>
    bif (decide ((x11 : Int) < (List.length (Val.rows b5) : Int))) then (
      if (0 : Int) ≤ x11 ∧ x11 < (List.length (Val.rows b5)) then
      if (0 : Int) ≤ x9 ∧ x9 < (List.length (Rowd.cells (List.getD (Val.rows b5) (Int.toNat x11) Ty.row.dflt))) then
      bif (((List.getD (Rowd.cells (List.getD (Val.rows b5) (Int.toNat x11) Ty.row.dflt)) (Int.toNat x9) Ty.int.dflt) : Int) == (Val.n b4)) then (
        Option.bind (spec_l3Row N (List.getD (Val.rows b5) (Int.toNat x11) Ty.row.dflt)) fun r1 =>
        if List.length (Val.rows b10) + List.length [r1] ≤ Lim then
        (xAx N n x9 (IntKind.i64.wrap (x11 + 1)) b4 b5 b6 (Val.mk (Val.kind b10) (Val.n b10) (Val.step b10) (Val.text b10) (Val.list b10) (Val.columns b10) ((Val.rows b10) ++ [r1])))
        else none
      ) else (
        (xAx N n x9 (IntKind.i64.wrap (x11 + 1)) b4 b5 b6 b10)
      )
      else none
      else none
    ) else (
      some b10
    )
def xAJ (N : Nat) (a0 : Val) (a1 : Val) (a2 : Val) : Option (Val) :=
  Option.bind (xA7 N [(Val.re a0), (Val.re a1), (Val.re a2)] [2, 1, 5]) fun r1 =>
  bif r1.2 then (
    some r1.1
  ) else (
    Option.bind (xAR N a2 (Val.text a0)) fun r2 =>
    bif (decide ((r2 : Int) < 0)) then (
      Option.bind (yCH N 7) fun r3 =>
      some r3
    ) else (
      if 0 + List.length (Val.columns a2) ≤ Lim then
      (xAx N N r2 0 a1 a2 (Val.mk 0 0 0 [] [] [] []) (Val.mk 5 0 0 [] [] ([] ++ (Val.columns a2)) []))
      else none
    )
  )
def xAd (a0 : Val) (a1 : Val) (a2 : Val) : List Arg := [.val (.v true [.int .i64 (Val.kind a0), .int .i64 (Val.n a0), .int .i64 (Val.step a0), .str (Val.text a0), .sl .ro .val (Val.list a0), .sl .ro .str (Val.columns a0), .sl .ro .row (Val.rows a0)]), .val (.v true [.int .i64 (Val.kind a1), .int .i64 (Val.n a1), .int .i64 (Val.step a1), .str (Val.text a1), .sl .ro .val (Val.list a1), .sl .ro .str (Val.columns a1), .sl .ro .row (Val.rows a1)]), .val (.v true [.int .i64 (Val.kind a2), .int .i64 (Val.n a2), .int .i64 (Val.step a2), .str (Val.text a2), .sl .ro .val (Val.list a2), .sl .ro .str (Val.columns a2), .sl .ro .row (Val.rows a2)])]
def xA6 (r : Val × Bool) : CallO := ⟨.v true [.int .i64 (Val.kind r.1), .int .i64 (Val.n r.1), .int .i64 (Val.step r.1), .str (Val.text r.1), .sl .ro .val (Val.list r.1), .sl .ro .str (Val.columns r.1), .sl .ro .row (Val.rows r.1)], [], []⟩
def xAg (r : Val × Bool) : CallO := ⟨.v true [.int .i64 (Val.kind r.1), .int .i64 (Val.n r.1), .int .i64 (Val.step r.1), .str (Val.text r.1), .sl .own .val (Val.list r.1), .sl .own .str (Val.columns r.1), .sl .own .row (Val.rows r.1)], [], []⟩
def xAh (r : Val × Bool) : CallO := ⟨.v true [.int .i64 (Val.kind r.1), .int .i64 (Val.n r.1), .int .i64 (Val.step r.1), .str (Val.text r.1), .sl .ro .val [], .sl .ro .str [], .sl .ro .row []], [], []⟩
def xAp (r : Val × Bool) : CallO := bif r.2 then xA6 r else xAg r
def xAu (N : Nat) : Nat → Int → (List Rowd) → Int → Int → Val → Val → Val → Option (Val × Bool)
  | 0, _, _, _, _, _, _, _ => none
  | n + 1, x9, x37, x38, x39, b4, b6, b10 =>
    bif (decide ((x39 : Int) < x38)) then (
      if (0 : Int) ≤ x39 ∧ x39 < (List.length x37) then
      if (0 : Int) ≤ x9 ∧ x9 < (List.length (Rowd.cells (List.getD x37 (Int.toNat x39) Ty.row.dflt))) then
      bif (((List.getD (Rowd.cells (List.getD x37 (Int.toNat x39) Ty.row.dflt)) (Int.toNat x9) Ty.int.dflt) : Int) == (Val.n b4)) then (
        Option.bind (xBh N (List.getD x37 (Int.toNat x39) Ty.row.dflt)) fun r1 =>
        if List.length (Val.rows b10) + List.length [r1] ≤ Lim then
        (xAu N n x9 x37 x38 (IntKind.i64.wrap (x39 + 1)) b4 b6 (Val.mk (Val.kind b10) (Val.n b10) (Val.step b10) (Val.text b10) (Val.list b10) (Val.columns b10) ((Val.rows b10) ++ [r1])))
        else none
      ) else (
        (xAu N n x9 x37 x38 (IntKind.i64.wrap (x39 + 1)) b4 b6 b10)
      )
      else none
      else none
    ) else (
      some (b10, false)
    )
def xAB (N : Nat) (a0 : Val) (a1 : Val) (a2 : Val) : Option (Val × Bool) :=
  Option.bind (xAZ N [2, 1, 5] [(Val.re a0), (Val.re a1), (Val.re a2)]) fun r1 =>
  bif r1.2.2 then (
    if List.isEmpty (Val.list r1.1) = true then
    if List.isEmpty (Val.columns r1.1) = true then
    if List.isEmpty (Val.rows r1.1) = true then
    bif r1.2.1 then (
      some ((Val.mk (Val.kind r1.1) (Val.n r1.1) (Val.step r1.1) (Val.text r1.1) [] [] []), true)
    ) else (
      Option.bind (xAL N a2 (Val.text a0)) fun r2 =>
      bif (decide ((r2 : Int) < 0)) then (
        Option.bind (yDN N 7) fun r3 =>
        some (r3, false)
      ) else (
        if 0 + List.length (Val.columns a2) ≤ Lim then
        (xAu N N r2 (Val.rows a2) (List.length (Val.rows a2) : Int) 0 a1 (Val.mk 0 0 0 [] [] [] []) (Val.mk 5 0 0 [] [] ([] ++ (Val.columns a2)) []))
        else none
      )
    )
    else none
    else none
    else none
  ) else (
    bif r1.2.1 then (
      some (r1.1, false)
    ) else (
      Option.bind (xAL N a2 (Val.text a0)) fun r2 =>
      bif (decide ((r2 : Int) < 0)) then (
        Option.bind (yDN N 7) fun r3 =>
        some (r3, false)
      ) else (
        if 0 + List.length (Val.columns a2) ≤ Lim then
        (xAu N N r2 (Val.rows a2) (List.length (Val.rows a2) : Int) 0 a1 (Val.mk 0 0 0 [] [] [] []) (Val.mk 5 0 0 [] [] ([] ++ (Val.columns a2)) []))
        else none
      )
    )
  )
def xAe (a0 : Val) (a1 : Val) (a2 : Val) : List Arg := [.val (.v true [.int .i64 (Val.kind a0), .int .i64 (Val.n a0), .int .i64 (Val.step a0), .str (Val.text a0), .sl .ro .val (Val.list a0), .sl .ro .str (Val.columns a0), .sl .ro .row (Val.rows a0)]), .val (.v true [.int .i64 (Val.kind a1), .int .i64 (Val.n a1), .int .i64 (Val.step a1), .str (Val.text a1), .sl .ro .val (Val.list a1), .sl .ro .str (Val.columns a1), .sl .ro .row (Val.rows a1)]), .val (.v true [.int .i64 (Val.kind a2), .int .i64 (Val.n a2), .int .i64 (Val.step a2), .str (Val.text a2), .sl .ro .val (Val.list a2), .sl .ro .str (Val.columns a2), .sl .ro .row (Val.rows a2)])]
def xAf (r : Bool) : CallO := ⟨.v false [.bool r], [], []⟩
def xAw (N : Nat) (a0 : Val) (a1 : Val) (a2 : Val) : Option (Bool) :=
  Option.bind (xBi N a0 1048576) fun r1 =>
  bif (decide ((r1 : Int) < 0)) then (
    some true
  ) else (
    Option.bind (xBi N a1 r1) fun r2 =>
    bif (decide ((r2 : Int) < 0)) then (
      some true
    ) else (
      Option.bind (xBi N a2 r2) fun r3 =>
      bif (decide ((r3 : Int) < 0)) then (
        some true
      ) else (
        Option.bind (xAr N a0) fun r4 =>
        Option.bind (xAr N a1) fun r5 =>
        Option.bind (xAr N a2) fun r6 =>
        Option.bind (xAJ N r4 r5 r6) fun r7 =>
        Option.bind (xAr N a0) fun r8 =>
        Option.bind (xAr N a1) fun r9 =>
        Option.bind (xAr N a2) fun r10 =>
        Option.bind (xAB N r8 r9 r10) fun r11 =>
        bif r11.2 then (
          if List.isEmpty (Val.list r11.1) = true then
          if List.isEmpty (Val.columns r11.1) = true then
          if List.isEmpty (Val.rows r11.1) = true then
          Option.bind (laws_eqValue N (Val.mk (Val.kind r11.1) (Val.n r11.1) (Val.step r11.1) (Val.text r11.1) [] [] []) r7) fun r12 =>
          bif (!r12) then (
            some false
          ) else (
            Option.bind (xAr N a0) fun r13 =>
            Option.bind (laws_eqValue N r8 r13) fun r14 =>
            bif (!r14) then (
              some false
            ) else (
              Option.bind (xAr N a1) fun r15 =>
              Option.bind (laws_eqValue N r9 r15) fun r16 =>
              bif (!r16) then (
                some false
              ) else (
                Option.bind (xAr N a2) fun r17 =>
                Option.bind (laws_eqValue N r10 r17) fun r18 =>
                bif (!r18) then (
                  some false
                ) else (
                  Option.bind (yDC N r8 1) fun r19 =>
                  if List.length r19.2.1 = List.length (Val.list r8) then
                  if List.length r19.2.2.1 = List.length (Val.columns r8) then
                  if List.length r19.2.2.2 = List.length (Val.rows r8) then
                  Option.bind (yDC N r9 r19.1) fun r20 =>
                  if List.length r20.2.1 = List.length (Val.list r9) then
                  if List.length r20.2.2.1 = List.length (Val.columns r9) then
                  if List.length r20.2.2.2 = List.length (Val.rows r9) then
                  Option.bind (yDC N r10 r20.1) fun r21 =>
                  if List.length r21.2.1 = List.length (Val.list r10) then
                  if List.length r21.2.2.1 = List.length (Val.columns r10) then
                  if List.length r21.2.2.2 = List.length (Val.rows r10) then
                  bif (decide ((r21.1 : Int) < 0)) then (
                    some false
                  ) else (
                    Option.bind (laws_eqValue N (Val.mk (Val.kind r11.1) (Val.n r11.1) (Val.step r11.1) (Val.text r11.1) [] [] []) r7) fun r22 =>
                    bif (!r22) then (
                      some false
                    ) else (
                      Option.bind (xAQ N (Val.mk (Val.kind r11.1) (Val.n r11.1) (Val.step r11.1) (Val.text r11.1) [] [] []) 1) fun r23 =>
                      Option.bind (yDB N (Val.mk (Val.kind r11.1) (Val.n r11.1) (Val.step r11.1) (Val.text r11.1) [] [] []) 1) fun r24 =>
                      bif (decide ((r24 : Int) < 0)) then (
                        some false
                      ) else (
                        bif ((r24 : Int) != r23) then (
                          some false
                        ) else (
                          Option.bind (xAr N a0) fun r25 =>
                          Option.bind (xAr N a1) fun r26 =>
                          Option.bind (xAr N a2) fun r27 =>
                          Option.bind (xAB N r25 r26 r27) fun r28 =>
                          bif r28.2 then (
                            if List.isEmpty (Val.list r28.1) = true then
                            if List.isEmpty (Val.columns r28.1) = true then
                            if List.isEmpty (Val.rows r28.1) = true then
                            Option.bind (laws_eqValue N (Val.mk (Val.kind r28.1) (Val.n r28.1) (Val.step r28.1) (Val.text r28.1) [] [] []) r7) fun r29 =>
                            bif (!r29) then (
                              some false
                            ) else (
                              Option.bind (yDB N (Val.mk (Val.kind r11.1) (Val.n r11.1) (Val.step r11.1) (Val.text r11.1) [] [] []) 1) fun r30 =>
                              bif (decide ((r30 : Int) < 0)) then (
                                some false
                              ) else (
                                bif ((r30 : Int) != r23) then (
                                  some false
                                ) else (
                                  some true
                                )
                              )
                            )
                            else none
                            else none
                            else none
                          ) else (
                            Option.bind (laws_eqValue N r28.1 r7) fun r29 =>
                            bif (!r29) then (
                              some false
                            ) else (
                              Option.bind (yDB N (Val.mk (Val.kind r11.1) (Val.n r11.1) (Val.step r11.1) (Val.text r11.1) [] [] []) 1) fun r30 =>
                              bif (decide ((r30 : Int) < 0)) then (
                                some false
                              ) else (
                                bif ((r30 : Int) != r23) then (
                                  some false
                                ) else (
                                  some true
                                )
                              )
                            )
                          )
                        )
                      )
                    )
                  )
                  else none
                  else none
                  else none
                  else none
                  else none
                  else none
                  else none
                  else none
                  else none
                )
              )
            )
          )
          else none
          else none
          else none
        ) else (
          Option.bind (laws_eqValue N r11.1 r7) fun r12 =>
          bif (!r12) then (
            some false
          ) else (
            Option.bind (xAr N a0) fun r13 =>
            Option.bind (laws_eqValue N r8 r13) fun r14 =>
            bif (!r14) then (
              some false
            ) else (
              Option.bind (xAr N a1) fun r15 =>
              Option.bind (laws_eqValue N r9 r15) fun r16 =>
              bif (!r16) then (
                some false
              ) else (
                Option.bind (xAr N a2) fun r17 =>
                Option.bind (laws_eqValue N r10 r17) fun r18 =>
                bif (!r18) then (
                  some false
                ) else (
                  Option.bind (yDC N r8 1) fun r19 =>
                  if List.length r19.2.1 = List.length (Val.list r8) then
                  if List.length r19.2.2.1 = List.length (Val.columns r8) then
                  if List.length r19.2.2.2 = List.length (Val.rows r8) then
                  Option.bind (yDC N r9 r19.1) fun r20 =>
                  if List.length r20.2.1 = List.length (Val.list r9) then
                  if List.length r20.2.2.1 = List.length (Val.columns r9) then
                  if List.length r20.2.2.2 = List.length (Val.rows r9) then
                  Option.bind (yDC N r10 r20.1) fun r21 =>
                  if List.length r21.2.1 = List.length (Val.list r10) then
                  if List.length r21.2.2.1 = List.length (Val.columns r10) then
                  if List.length r21.2.2.2 = List.length (Val.rows r10) then
                  bif (decide ((r21.1 : Int) < 0)) then (
                    some false
                  ) else (
                    Option.bind (laws_eqValue N r11.1 r7) fun r22 =>
                    bif (!r22) then (
                      some false
                    ) else (
                      Option.bind (yDC N r11.1 1) fun r23 =>
                      if List.length r23.2.1 = List.length (Val.list r11.1) then
                      if List.length r23.2.2.1 = List.length (Val.columns r11.1) then
                      if List.length r23.2.2.2 = List.length (Val.rows r11.1) then
                      Option.bind (yDB N (Val.mk (Val.kind r11.1) (Val.n r11.1) (Val.step r11.1) (Val.text r11.1) r23.2.1 r23.2.2.1 r23.2.2.2) 1) fun r24 =>
                      bif (decide ((r24 : Int) < 0)) then (
                        some false
                      ) else (
                        bif ((r24 : Int) != r23.1) then (
                          some false
                        ) else (
                          Option.bind (xAr N a0) fun r25 =>
                          Option.bind (xAr N a1) fun r26 =>
                          Option.bind (xAr N a2) fun r27 =>
                          Option.bind (xAB N r25 r26 r27) fun r28 =>
                          bif r28.2 then (
                            if List.isEmpty (Val.list r28.1) = true then
                            if List.isEmpty (Val.columns r28.1) = true then
                            if List.isEmpty (Val.rows r28.1) = true then
                            Option.bind (laws_eqValue N (Val.mk (Val.kind r28.1) (Val.n r28.1) (Val.step r28.1) (Val.text r28.1) [] [] []) r7) fun r29 =>
                            bif (!r29) then (
                              some false
                            ) else (
                              Option.bind (yDB N (Val.mk (Val.kind r11.1) (Val.n r11.1) (Val.step r11.1) (Val.text r11.1) r23.2.1 r23.2.2.1 r23.2.2.2) 1) fun r30 =>
                              bif (decide ((r30 : Int) < 0)) then (
                                some false
                              ) else (
                                bif ((r30 : Int) != r23.1) then (
                                  some false
                                ) else (
                                  some true
                                )
                              )
                            )
                            else none
                            else none
                            else none
                          ) else (
                            Option.bind (laws_eqValue N r28.1 r7) fun r29 =>
                            bif (!r29) then (
                              some false
                            ) else (
                              Option.bind (yDB N (Val.mk (Val.kind r11.1) (Val.n r11.1) (Val.step r11.1) (Val.text r11.1) r23.2.1 r23.2.2.1 r23.2.2.2) 1) fun r30 =>
                              bif (decide ((r30 : Int) < 0)) then (
                                some false
                              ) else (
                                bif ((r30 : Int) != r23.1) then (
                                  some false
                                ) else (
                                  some true
                                )
                              )
                            )
                          )
                        )
                      )
                      else none
                      else none
                      else none
                    )
                  )
                  else none
                  else none
                  else none
                  else none
                  else none
                  else none
                  else none
                  else none
                  else none
                )
              )
            )
          )
        )
      )
    )
  )
end Go.Ab
end
section
open Go.Proofs
namespace Go.Ab.T
set_option linter.unusedVariables false
set_option maxRecDepth 100000
noncomputable def xBe : Info := { body := (Try.f67.body).getD .skip, nt := 63, results := [.tmp 4], keep := [0, 2, 8, 10, 18], live := [(2, [0, 2, 10])], modes := [], ext := [], lnt := [], casts := [], fcast := [] }
theorem fk1000067 : FnOk Try.prog 67 Try.f67 xBe := ⟨Try.func67, by kernel_rfl, by kernel_rfl, by kernel_rfl, by kernel_rfl⟩
def S1000067_2 (x1 x5 : Int) : St := [(0, .v false [.sl .ro .val []]), (2, .v false [.int .i64 x1]), (10, .v false [.int .i64 x5])]
theorem p1000067_2_0 (x1 x5 : Int) : run tt (AbsCalls Try.prog) xBe 3000 true (stkAt 2 xBe.body) ⟨(S1000067_2 x1 x5), [false], [], []⟩ = some (.done (xAH x1) [(decide ((x5 : Int) < (0 : Int))) = false]) := by kernel_rfl
theorem p1000067_e_1 (a0 : List Val) (a1 : Int) : run tt (AbsCalls Try.prog) xBe 3000 false [.code xBe.body] ⟨(zBg 0 (xAV a0 a1)), [], [], []⟩ = some (.stop (stkAt 2 xBe.body) (S1000067_2 a1 0) []) := by kernel_rfl
theorem c1000067_2 {N : Nat} : ∀ n x1 x5 r, xAW N n x1 x5 = some r → Reach Try.prog Try.f67 xBe (stkAt 2 xBe.body) (S1000067_2 x1 x5) (xAH r) := by
 intro n
 induction n with
 | zero => intro x1 x5 r h; have h' : (none : Option (Int)) = some r := h; cases h'
 | succ n ih =>
  intro x1 x5 r h
  rw [xAW] at h
  rcases cond_inv h with ⟨h0, h⟩ | ⟨h0, h⟩
  ·obtain ⟨h1, h⟩ := ite_inv h
   cases h
  ·obtain rfl := Option.some.inj h
   exact Reach.done ttok mix fk1000067 (p1000067_2_0 x1 x5) (obs_cons h0 obs_nil)
theorem c1000067_e {N : Nat} : ∀ a0 a1 r, xAX N a0 a1 = some r → Reach Try.prog Try.f67 xBe [.code xBe.body] (zBg 0 (xAV a0 a1)) (xAH r) := by
 intro a0 a1 r h
 unfold xAX at h
 exact Reach.stop ttok mix fk1000067 (p1000067_e_1 a0 a1) obs_nil (c1000067_2   _ _ _ _ h)
theorem xBs {N : Nat} {a0 : List Val} {a1 : Int} {r : Int} (h : xAX N  a0 a1 = some r) : AbC 67 (xAV a0 a1) (xAH r) :=
 AbsCalls.of_reach fk1000067 rfl rfl (Nat.le_of_ble_eq_true rfl) (c1000067_e a0 a1 r h)
theorem xAb {N : Nat} {a0 : Val} {a1 : Int} {r : Int} (h : xBi N a0 a1 = some r) : AbC 24 (yAG a0 a1) (yAw r) := (laws_szValue_fix_ok N).1 _ _ r h
theorem xAa {N : Nat} {a0 : Val} {r : Val} (h : xAr N a0 = some r) : AbC 26 (yBl a0) (yBb r) := (laws_toValue_fix_ok N).1 _ r h
noncomputable def I116 : Info := { body := (Try.f116.body).getD .skip, nt := 12, results := [.cell 2 130], keep := [0, 2, 4, 3, 5], live := [], modes := [], ext := [], lnt := [], casts := [], fcast := [] }
theorem fk116 : FnOk Try.prog 116 Try.f116 I116 := ⟨Try.func116, by kernel_rfl, by kernel_rfl, by kernel_rfl, by kernel_rfl⟩
theorem p116_e_0 (a0 : Rowd) : run tt (AbsCalls Try.prog) I116 3000 false [.code I116.body] ⟨(zBg 0 (xBk a0)), [], [], []⟩ = some (.done (xBd (Rowd.mk ([] ++ (Rowd.cells a0)) ([] ++ (Rowd.frm a0)))) [0 + List.length (Rowd.cells a0) ≤ Lim, 0 + List.length (Rowd.frm a0) ≤ Lim]) := by kernel_rfl
theorem c116_e {N : Nat} : ∀ a0 r, spec_l3Row N a0 = some r → Reach Try.prog Try.f116 I116 [.code I116.body] (zBg 0 (xBk a0)) (xBd r) := by
 intro a0 r h
 unfold spec_l3Row at h
 obtain ⟨h0, h⟩ := ite_inv h
 obtain ⟨h1, h⟩ := ite_inv h
 obtain rfl := Option.some.inj h
 exact Reach.done ttok mix fk116 (p116_e_0 a0) (obs_cons h0 (obs_cons h1 obs_nil))
theorem spec_l3Row_ok {N : Nat} {a0 : Rowd} {r : Rowd} (h : spec_l3Row N  a0 = some r) : AbC 116 (xBk a0) (xBd r) :=
 AbsCalls.of_reach fk116 rfl rfl (Nat.le_of_ble_eq_true rfl) (c116_e a0 r h)
noncomputable def I119 : Info := { body := (Try.f119.body).getD .skip, nt := 12, results := [.cell 2 130], keep := [0, 2, 4, 3, 5], live := [], modes := [], ext := [], lnt := [], casts := [], fcast := [] }
theorem fk119 : FnOk Try.prog 119 Try.f119 I119 := ⟨Try.func119, by kernel_rfl, by kernel_rfl, by kernel_rfl, by kernel_rfl⟩
theorem p119_e_0 (a0 : Rowd) : run tt (AbsCalls Try.prog) I119 3000 false [.code I119.body] ⟨(zBg 0 (xA8 a0)), [], [], []⟩ = some (.done (xA3 (Rowd.mk ([] ++ (Rowd.cells a0)) ([] ++ (Rowd.frm a0)))) [0 + List.length (Rowd.cells a0) ≤ Lim, 0 + List.length (Rowd.frm a0) ≤ Lim]) := by kernel_rfl
theorem c119_e {N : Nat} : ∀ a0 r, xBh N a0 = some r → Reach Try.prog Try.f119 I119 [.code I119.body] (zBg 0 (xA8 a0)) (xA3 r) := by
 intro a0 r h
 unfold xBh at h
 obtain ⟨h0, h⟩ := ite_inv h
 obtain ⟨h1, h⟩ := ite_inv h
 obtain rfl := Option.some.inj h
 exact Reach.done ttok mix fk119 (p119_e_0 a0) (obs_cons h0 (obs_cons h1 obs_nil))
theorem impl_copyRow_ok {N : Nat} {a0 : Rowd} {r : Rowd} (h : xBh N  a0 = some r) : AbC 119 (xA8 a0) (xA3 r) :=
 AbsCalls.of_reach fk119 rfl rfl (Nat.le_of_ble_eq_true rfl) (c119_e a0 r h)
noncomputable def xBf : Info := { body := (Try.f80.body).getD .skip, nt := 20, results := [.tmp 4], keep := [0, 2, 8, 10, 18], live := [(2, [0, 2, 10])], modes := [], ext := [], lnt := [], casts := [], fcast := [] }
theorem fk1000080 : FnOk Try.prog 80 Try.f80 xBf := ⟨Try.func80, by kernel_rfl, by kernel_rfl, by kernel_rfl, by kernel_rfl⟩
def S1000080_2 (x1 x5 : Int) : St := [(0, .v false [.sl .ro .str []]), (2, .v false [.int .i64 x1]), (10, .v false [.int .i64 x5])]
theorem p1000080_2_0 (x1 x5 : Int) : run tt (AbsCalls Try.prog) xBf 3000 true (stkAt 2 xBf.body) ⟨(S1000080_2 x1 x5), [false], [], []⟩ = some (.done (xAE x1) [(decide ((x5 : Int) < (0 : Int))) = false]) := by kernel_rfl
theorem p1000080_e_1 (a0 : List Str) (a1 : Int) : run tt (AbsCalls Try.prog) xBf 3000 false [.code xBf.body] ⟨(zBg 0 (xAT a0 a1)), [], [], []⟩ = some (.stop (stkAt 2 xBf.body) (S1000080_2 a1 0) []) := by kernel_rfl
theorem c1000080_2 {N : Nat} : ∀ n x1 x5 r, xAU N n x1 x5 = some r → Reach Try.prog Try.f80 xBf (stkAt 2 xBf.body) (S1000080_2 x1 x5) (xAE r) := by
 intro n
 induction n with
 | zero => intro x1 x5 r h; have h' : (none : Option (Int)) = some r := h; cases h'
 | succ n ih =>
  intro x1 x5 r h
  rw [xAU] at h
  rcases cond_inv h with ⟨h0, h⟩ | ⟨h0, h⟩
  ·obtain ⟨r1, h1, h⟩ := bind_inv h
   obtain ⟨h2, h⟩ := ite_inv h
   cases h
  ·obtain rfl := Option.some.inj h
   exact Reach.done ttok mix fk1000080 (p1000080_2_0 x1 x5) (obs_cons h0 obs_nil)
theorem c1000080_e {N : Nat} : ∀ a0 a1 r, xAS N a0 a1 = some r → Reach Try.prog Try.f80 xBf [.code xBf.body] (zBg 0 (xAT a0 a1)) (xAE r) := by
 intro a0 a1 r h
 unfold xAS at h
 exact Reach.stop ttok mix fk1000080 (p1000080_e_1 a0 a1) obs_nil (c1000080_2   _ _ _ _ h)
theorem xBp {N : Nat} {a0 : List Str} {a1 : Int} {r : Int} (h : xAS N  a0 a1 = some r) : AbC 80 (xAT a0 a1) (xAE r) :=
 AbsCalls.of_reach fk1000080 rfl rfl (Nat.le_of_ble_eq_true rfl) (c1000080_e a0 a1 r h)
end Go.Ab.T
end
section
open Go.Proofs
namespace Go.Ab.T
set_option linter.unusedVariables false
set_option maxRecDepth 100000
noncomputable def xBg : Info := { body := (Try.f81.body).getD .skip, nt := 27, results := [.tmp 4], keep := [0, 2, 8, 10, 18], live := [(2, [0, 2, 10])], modes := [], ext := [], lnt := [], casts := [], fcast := [] }
theorem fk1000081 : FnOk Try.prog 81 Try.f81 xBg := ⟨Try.func81, by kernel_rfl, by kernel_rfl, by kernel_rfl, by kernel_rfl⟩
def S1000081_2 (x1 x5 : Int) : St := [(0, .v false [.sl .ro .row []]), (2, .v false [.int .i64 x1]), (10, .v false [.int .i64 x5])]
theorem p1000081_2_0 (x1 x5 : Int) : run tt (AbsCalls Try.prog) xBg 3000 true (stkAt 2 xBg.body) ⟨(S1000081_2 x1 x5), [false], [], []⟩ = some (.done (xAK x1) [(decide ((x5 : Int) < (0 : Int))) = false]) := by kernel_rfl
theorem p1000081_e_1 (a0 : List Rowd) (a1 : Int) : run tt (AbsCalls Try.prog) xBg 3000 false [.code xBg.body] ⟨(zBg 0 (xA1 a0 a1)), [], [], []⟩ = some (.stop (stkAt 2 xBg.body) (S1000081_2 a1 0) []) := by kernel_rfl
theorem c1000081_2 {N : Nat} : ∀ n x1 x5 r, xA2 N n x1 x5 = some r → Reach Try.prog Try.f81 xBg (stkAt 2 xBg.body) (S1000081_2 x1 x5) (xAK r) := by
 intro n
 induction n with
 | zero => intro x1 x5 r h; have h' : (none : Option (Int)) = some r := h; cases h'
 | succ n ih =>
  intro x1 x5 r h
  rw [xA2] at h
  rcases cond_inv h with ⟨h0, h⟩ | ⟨h0, h⟩
  ·obtain ⟨h1, h⟩ := ite_inv h
   cases h
  ·obtain rfl := Option.some.inj h
   exact Reach.done ttok mix fk1000081 (p1000081_2_0 x1 x5) (obs_cons h0 obs_nil)
theorem c1000081_e {N : Nat} : ∀ a0 a1 r, xA4 N a0 a1 = some r → Reach Try.prog Try.f81 xBg [.code xBg.body] (zBg 0 (xA1 a0 a1)) (xAK r) := by
 intro a0 a1 r h
 unfold xA4 at h
 exact Reach.stop ttok mix fk1000081 (p1000081_e_1 a0 a1) obs_nil (c1000081_2   _ _ _ _ h)
theorem laws_markRowS_E_ok {N : Nat} {a0 : List Rowd} {a1 : Int} {r : Int} (h : xA4 N  a0 a1 = some r) : AbC 81 (xA1 a0 a1) (xAK r) :=
 AbsCalls.of_reach fk1000081 rfl rfl (Nat.le_of_ble_eq_true rfl) (c1000081_e a0 a1 r h)
noncomputable def I1000022 : Info := { body := (Try.f22.body).getD .skip, nt := 18, results := [.tmp 4], keep := [0, 2, 4, 8, 5], live := [], modes := [], ext := [], lnt := [], casts := [], fcast := [] }
theorem fk1000022 : FnOk Try.prog 22 Try.f22 I1000022 := ⟨Try.func22, by kernel_rfl, by kernel_rfl, by kernel_rfl, by kernel_rfl⟩
theorem p1000022_e_0 (a0 : Val) (a1 r1 r2 r3 : Int) : run tt (AbsCalls Try.prog) I1000022 3000 false [.code I1000022.body] ⟨(zBg 0 (xAo a0 a1)), [], [xAH r1, xAE r2, xAK r3], []⟩ = some (.done (xAn r3) [AbC 67 (xAV [] a1) (xAH r1), AbC 80 (xAT [] r1) (xAE r2), AbC 81 (xA1 [] r2) (xAK r3)]) := by kernel_rfl
theorem c1000022_e {N : Nat} : ∀ a0 a1 r, xAQ N a0 a1 = some r → Reach Try.prog Try.f22 I1000022 [.code I1000022.body] (zBg 0 (xAo a0 a1)) (xAn r) := by
 intro a0 a1 r h
 unfold xAQ at h
 obtain ⟨r1, h0, h⟩ := bind_inv h
 obtain ⟨r2, h1, h⟩ := bind_inv h
 obtain ⟨r3, h2, h⟩ := bind_inv h
 obtain rfl := Option.some.inj h
 exact Reach.done ttok mix fk1000022 (p1000022_e_0 a0 a1 r1 r2 r3) (obs_cons (xBs h0) (obs_cons (xBp h1) (obs_cons (laws_markRowS_E_ok h2) obs_nil)))
theorem xAv {N : Nat} {a0 : Val} {a1 : Int} {r : Int} (h : xAQ N  a0 a1 = some r) : AbC 22 (xAo a0 a1) (xAn r) :=
 AbsCalls.of_reach fk1000022 rfl rfl (Nat.le_of_ble_eq_true rfl) (c1000022_e a0 a1 r h)
end Go.Ab.T
end
section
open Go.Proofs
namespace Go.Ab.T
set_option linter.unusedVariables false
set_option maxRecDepth 100000
noncomputable def I110 : Info := { body := (Try.f110.body).getD .skip, nt := 34, results := [.cell 4 28, .tmp 5], keep := [0, 2, 8, 10, 12, 14, 16, 28, 38, 62, 9, 13], live := [(5, [0, 2, 8, 16, 9])], modes := [(1, [(2, .take, false)]), (2, [(0, .take, false)]), (3, [(0, .take, false)])], ext := [], lnt := [], casts := [], fcast := [] }
theorem fk110 : FnOk Try.prog 110 Try.f110 I110 := ⟨Try.func110, by kernel_rfl, by kernel_rfl, by kernel_rfl, by kernel_rfl⟩
def S110_5 (x0 : List Val) (x1 : List Int) (x8 : Int) (b4 : Val) : St := [(0, .v false [.sl .ro .val x0]), (2, .v false [.sl .ro .int x1]), (8, .v false [.ptr 4 0]), (16, .v false [.int .i64 x8]), (9, .v true [.int .i64 (Val.kind b4), .int .i64 (Val.n b4), .int .i64 (Val.step b4), .str (Val.text b4), .sl .own .val (Val.list b4), .sl .own .str (Val.columns b4), .sl .own .row (Val.rows b4)])]
theorem p110_5_0 (x0 : List Val) (x1 : List Int) (x8 : Int) (b4 r1 : Val) : run tt (AbsCalls Try.prog) I110 3000 true (stkAt 5 I110.body) ⟨(S110_5 x0 x1 x8 b4), [true, true], [yBL r1], []⟩ = some (.done (xAy (r1, true)) [(decide ((x8 : Int) < (List.length x0 : Int))) = true, (0 : Int) ≤ x8 ∧ x8 < (List.length x0), (0 : Int) ≤ x8 ∧ x8 < (List.length x1), (((Val.kind (List.getD x0 (Int.toNat x8) Ty.val.dflt)) : Int) != (List.getD x1 (Int.toNat x8) Ty.int.dflt)) = true, AbC 72 (yCT 4) (yBL r1)]) := by kernel_rfl
theorem p110_5_1 (x0 : List Val) (x1 : List Int) (x8 : Int) (b4 : Val) : run tt (AbsCalls Try.prog) I110 3000 true (stkAt 5 I110.body) ⟨(S110_5 x0 x1 x8 b4), [true, false], [], []⟩ = some (.stop (stkAt 5 I110.body) (S110_5 x0 x1 (IntKind.i64.wrap (x8 + 1)) b4) [(decide ((x8 : Int) < (List.length x0 : Int))) = true, (0 : Int) ≤ x8 ∧ x8 < (List.length x0), (0 : Int) ≤ x8 ∧ x8 < (List.length x1), (((Val.kind (List.getD x0 (Int.toNat x8) Ty.val.dflt)) : Int) != (List.getD x1 (Int.toNat x8) Ty.int.dflt)) = false]) := by kernel_rfl
theorem p110_5_2 (x0 : List Val) (x1 : List Int) (x8 : Int) (b4 : Val) : run tt (AbsCalls Try.prog) I110 3000 true (stkAt 5 I110.body) ⟨(S110_5 x0 x1 x8 b4), [false], [], []⟩ = some (.done (xAy ((Val.mk 0 0 0 [] [] [] []), false)) [(decide ((x8 : Int) < (List.length x0 : Int))) = false]) := by kernel_rfl
theorem p110_e_3 (a0 : List Val) (a1 : List Int) (r1 : Val × Bool) : run tt (AbsCalls Try.prog) I110 3000 false [.code I110.body] ⟨(zBg 0 (xAP a0 a1)), [true], [yDc r1], []⟩ = some (.done (xAy (r1.1, true)) [AbC 112 (yFa a0) (yDc r1), r1.2 = true]) := by kernel_rfl
theorem p110_e_4 (a0 : List Val) (a1 : List Int) (r1 : Val × Bool) : run tt (AbsCalls Try.prog) I110 3000 false [.code I110.body] ⟨(zBg 0 (xAP a0 a1)), [false], [yDc r1], []⟩ = some (.stop (stkAt 5 I110.body) (S110_5 a0 a1 0 (Val.mk 0 0 0 [] [] [] [])) [AbC 112 (yFa a0) (yDc r1), r1.2 = false]) := by kernel_rfl
theorem c110_5 {N : Nat} : ∀ n x0 x1 x8 b4 r, xAG N n x0 x1 x8 b4 = some r → Reach Try.prog Try.f110 I110 (stkAt 5 I110.body) (S110_5 x0 x1 x8 b4) (xAy r) := by
 intro n
 induction n with
 | zero => intro x0 x1 x8 b4 r h; have h' : (none : Option (Val × Bool)) = some r := h; cases h'
 | succ n ih =>
  intro x0 x1 x8 b4 r h
  rw [xAG] at h
  rcases cond_inv h with ⟨h0, h⟩ | ⟨h0, h⟩
  ·obtain ⟨h1, h⟩ := ite_inv h
   obtain ⟨h2, h⟩ := ite_inv h
   rcases cond_inv h with ⟨h3, h⟩ | ⟨h3, h⟩
   ·obtain ⟨r1, h4, h⟩ := bind_inv h
    obtain rfl := Option.some.inj h
    exact Reach.done ttok mix fk110 (p110_5_0 x0 x1 x8 b4 r1) (obs_cons h0 (obs_cons h1 (obs_cons h2 (obs_cons h3 (obs_cons (yFf h4) obs_nil)))))
   ·exact Reach.stop ttok mix fk110 (p110_5_1 x0 x1 x8 b4) (obs_cons h0 (obs_cons h1 (obs_cons h2 (obs_cons h3 obs_nil)))) (ih _ _ _ _ _ h)
  ·obtain rfl := Option.some.inj h
   exact Reach.done ttok mix fk110 (p110_5_2 x0 x1 x8 b4) (obs_cons h0 obs_nil)
theorem c110_e {N : Nat} : ∀ a0 a1 r, xA7 N a0 a1 = some r → Reach Try.prog Try.f110 I110 [.code I110.body] (zBg 0 (xAP a0 a1)) (xAy r) := by
 intro a0 a1 r h
 unfold xA7 at h
 obtain ⟨r1, h0, h⟩ := bind_inv h
 rcases cond_inv h with ⟨h1, h⟩ | ⟨h1, h⟩
 ·obtain rfl := Option.some.inj h
  exact Reach.done ttok mix fk110 (p110_e_3 a0 a1 r1) (obs_cons (spec_l5First_ok h0) (obs_cons h1 obs_nil))
 ·exact Reach.stop ttok mix fk110 (p110_e_4 a0 a1 r1) (obs_cons (spec_l5First_ok h0) (obs_cons h1 obs_nil)) (c110_5   _ _ _ _ _ _ h)
theorem xBn {N : Nat} {a0 : List Val} {a1 : List Int} {r : Val × Bool} (h : xA7 N  a0 a1 = some r) : AbC 110 (xAP a0 a1) (xAy r) :=
 AbsCalls.of_reach fk110 rfl rfl (Nat.le_of_ble_eq_true rfl) (c110_e a0 a1 r h)
theorem impl_kindError_toR {P : Program} {f : FuncId} {ags : List Arg} {r : Val × Bool × Bool} (h : AbsCalls P f ags (xAt r)) (ht : r.2.2 = true) : AbsCalls P f ags (xA9 r) := by
 unfold xAt at h; rw [ht] at h; exact h
theorem xBb {P : Program} {f : FuncId} {ags : List Arg} {r : Val × Bool × Bool} (h : AbsCalls P f ags (xAt r)) (ht : r.2.2 = false) : AbsCalls P f ags (xAA r) := by
 unfold xAt at h; rw [ht] at h; exact h
theorem xBa {P : Program} {f : FuncId} {ags : List Arg} {r : Val × Bool × Bool} (h : AbsCalls P f ags (xAt r)) (ht : r.2.2 = true) (e0 : List.isEmpty (Val.list r.1) = true) (e1 : List.isEmpty (Val.columns r.1) = true) (e2 : List.isEmpty (Val.rows r.1) = true) : AbsCalls P f ags (xAF r) := by
 have h := impl_kindError_toR h ht
 unfold xA9 at h; rw [List.isEmpty_iff.1 e0, List.isEmpty_iff.1 e1, List.isEmpty_iff.1 e2] at h; exact h
noncomputable def I111 : Info := { body := (Try.f111.body).getD .skip, nt := 34, results := [.cell 4 28, .tmp 5], keep := [0, 2, 8, 10, 12, 14, 16, 18, 30, 34, 36, 38, 40, 60, 9, 13, 19], live := [(5, [0, 8, 34, 36, 38, 9])], modes := [(1, [(2, .take, false)]), (2, [(0, .take, false)]), (3, [(0, .take, false)]), (7, [(3, .take, false)]), (9, [(1, .take, false)])], ext := [], lnt := [], casts := [], fcast := [] }
theorem fk111 : FnOk Try.prog 111 Try.f111 I111 := ⟨Try.func111, by kernel_rfl, by kernel_rfl, by kernel_rfl, by kernel_rfl⟩
def S111_5 (x0 : List Int) (x17 : List Val) (x18 x19 : Int) (b4 : Val) : St := [(0, .v false [.sl .ro .int x0]), (8, .v false [.ptr 4 0]), (34, .v false [.sl .ro .val x17]), (36, .v false [.int .i64 x18]), (38, .v false [.int .i64 x19]), (9, .v true [.int .i64 (Val.kind b4), .int .i64 (Val.n b4), .int .i64 (Val.step b4), .str (Val.text b4), .sl .own .val (Val.list b4), .sl .own .str (Val.columns b4), .sl .own .row (Val.rows b4)])]
theorem p111_5_0 (x0 : List Int) (x17 : List Val) (x18 x19 : Int) (b4 r1 : Val) : run tt (AbsCalls Try.prog) I111 3000 true (stkAt 5 I111.body) ⟨(S111_5 x0 x17 x18 x19 b4), [true, true], [yCS r1], []⟩ = some (.done (xAt (r1, true, false)) [(decide ((x19 : Int) < x18)) = true, (0 : Int) ≤ x19 ∧ x19 < (List.length x17), (0 : Int) ≤ x19 ∧ x19 < (List.length x0), (((Val.kind (List.getD x17 (Int.toNat x19) Ty.val.dflt)) : Int) != (List.getD x0 (Int.toNat x19) Ty.int.dflt)) = true, AbC 75 (yDI 4) (yCS r1)]) := by kernel_rfl
theorem p111_5_1 (x0 : List Int) (x17 : List Val) (x18 x19 : Int) (b4 : Val) : run tt (AbsCalls Try.prog) I111 3000 true (stkAt 5 I111.body) ⟨(S111_5 x0 x17 x18 x19 b4), [true, false], [], []⟩ = some (.stop (stkAt 5 I111.body) (S111_5 x0 x17 x18 (IntKind.i64.wrap (x19 + 1)) b4) [(decide ((x19 : Int) < x18)) = true, (0 : Int) ≤ x19 ∧ x19 < (List.length x17), (0 : Int) ≤ x19 ∧ x19 < (List.length x0), (((Val.kind (List.getD x17 (Int.toNat x19) Ty.val.dflt)) : Int) != (List.getD x0 (Int.toNat x19) Ty.int.dflt)) = false]) := by kernel_rfl
theorem p111_5_2 (x0 : List Int) (x17 : List Val) (x18 x19 : Int) (b4 : Val) : run tt (AbsCalls Try.prog) I111 3000 true (stkAt 5 I111.body) ⟨(S111_5 x0 x17 x18 x19 b4), [false], [], []⟩ = some (.done (xAt ((Val.mk 0 0 0 [] [] [] []), false, false)) [(decide ((x19 : Int) < x18)) = false]) := by kernel_rfl
theorem p111_e_3 (a0 : List Int) (a1 : List Val) (r1 : Val × Bool × Bool) : run tt (AbsCalls Try.prog) I111 3000 false [.code I111.body] ⟨(zBg 0 (xAs a0 a1)), [true], [yEM r1], []⟩ = some (.done (xAt (r1.1, true, true)) [AbC 114 (yD5 a1) (yEM r1), r1.2.1 = true]) := by kernel_rfl
theorem p111_e_4 (a0 : List Int) (a1 : List Val) (r1 : Val × Bool × Bool) : run tt (AbsCalls Try.prog) I111 3000 false [.code I111.body] ⟨(zBg 0 (xAs a0 a1)), [false], [yEM r1], []⟩ = some (.stop (stkAt 5 I111.body) (S111_5 a0 a1 (List.length a1 : Int) 0 (Val.mk 0 0 0 [] [] [] [])) [AbC 114 (yD5 a1) (yEM r1), r1.2.1 = false]) := by kernel_rfl
theorem p111_e_5 (a0 : List Int) (a1 : List Val) (r1 : Val × Bool × Bool) : run tt (AbsCalls Try.prog) I111 3000 false [.code I111.body] ⟨(zBg 0 (xAs a0 a1)), [true], [yEL r1], []⟩ = some (.done (xAt (r1.1, true, false)) [AbC 114 (yD5 a1) (yEL r1), r1.2.1 = true]) := by kernel_rfl
theorem p111_e_6 (a0 : List Int) (a1 : List Val) (r1 : Val × Bool × Bool) : run tt (AbsCalls Try.prog) I111 3000 false [.code I111.body] ⟨(zBg 0 (xAs a0 a1)), [false], [yEL r1], []⟩ = some (.stop (stkAt 5 I111.body) (S111_5 a0 a1 (List.length a1 : Int) 0 (Val.mk 0 0 0 [] [] [] [])) [AbC 114 (yD5 a1) (yEL r1), r1.2.1 = false]) := by kernel_rfl
theorem c111_5 {N : Nat} : ∀ n x0 x17 x18 x19 b4 r, xAz N n x0 x17 x18 x19 b4 = some r → Reach Try.prog Try.f111 I111 (stkAt 5 I111.body) (S111_5 x0 x17 x18 x19 b4) (xAt r) := by
 intro n
 induction n with
 | zero => intro x0 x17 x18 x19 b4 r h; have h' : (none : Option (Val × Bool × Bool)) = some r := h; cases h'
 | succ n ih =>
  intro x0 x17 x18 x19 b4 r h
  rw [xAz] at h
  rcases cond_inv h with ⟨h0, h⟩ | ⟨h0, h⟩
  ·obtain ⟨h1, h⟩ := ite_inv h
   obtain ⟨h2, h⟩ := ite_inv h
   rcases cond_inv h with ⟨h3, h⟩ | ⟨h3, h⟩
   ·obtain ⟨r1, h4, h⟩ := bind_inv h
    obtain rfl := Option.some.inj h
    exact Reach.done ttok mix fk111 (p111_5_0 x0 x17 x18 x19 b4 r1) (obs_cons h0 (obs_cons h1 (obs_cons h2 (obs_cons h3 (obs_cons (impl_ErrorValue_ok h4) obs_nil)))))
   ·exact Reach.stop ttok mix fk111 (p111_5_1 x0 x17 x18 x19 b4) (obs_cons h0 (obs_cons h1 (obs_cons h2 (obs_cons h3 obs_nil)))) (ih _ _ _ _ _ _ h)
  ·obtain rfl := Option.some.inj h
   exact Reach.done ttok mix fk111 (p111_5_2 x0 x17 x18 x19 b4) (obs_cons h0 obs_nil)
theorem c111_e {N : Nat} : ∀ a0 a1 r, xAZ N a0 a1 = some r → Reach Try.prog Try.f111 I111 [.code I111.body] (zBg 0 (xAs a0 a1)) (xAt r) := by
 intro a0 a1 r h
 unfold xAZ at h
 obtain ⟨r1, h0, h⟩ := bind_inv h
 rcases cond_inv h with ⟨h1, h⟩ | ⟨h1, h⟩
 ·rcases cond_inv h with ⟨h2, h⟩ | ⟨h2, h⟩
  ·obtain rfl := Option.some.inj h
   exact Reach.done ttok mix fk111 (p111_e_3 a0 a1 r1) (obs_cons (impl_operandError_toR (impl_operandError_ok h0) h1) (obs_cons h2 obs_nil))
  ·exact Reach.stop ttok mix fk111 (p111_e_4 a0 a1 r1) (obs_cons (impl_operandError_toR (impl_operandError_ok h0) h1) (obs_cons h2 obs_nil)) (c111_5   _ _ _ _ _ _ _ h)
 ·rcases cond_inv h with ⟨h2, h⟩ | ⟨h2, h⟩
  ·obtain rfl := Option.some.inj h
   exact Reach.done ttok mix fk111 (p111_e_5 a0 a1 r1) (obs_cons (impl_operandError_toO (impl_operandError_ok h0) h1) (obs_cons h2 obs_nil))
  ·exact Reach.stop ttok mix fk111 (p111_e_6 a0 a1 r1) (obs_cons (impl_operandError_toO (impl_operandError_ok h0) h1) (obs_cons h2 obs_nil)) (c111_5   _ _ _ _ _ _ _ h)
theorem xAM {N : Nat} {a0 : List Int} {a1 : List Val} {r : Val × Bool × Bool} (h : xAZ N  a0 a1 = some r) : AbC 111 (xAs a0 a1) (xAt r) :=
 AbsCalls.of_reach fk111 rfl rfl (Nat.le_of_ble_eq_true rfl) (c111_e a0 a1 r h)
end Go.Ab.T
end
section
open Go.Proofs
namespace Go.Ab.T
set_option linter.unusedVariables false
set_option maxRecDepth 100000
noncomputable def I145 : Info := { body := (Try.f145.body).getD .skip, nt := 19, results := [.tmp 4], keep := [0, 2, 8, 10, 18, 34], live := [(2, [0, 2, 10])], modes := [], ext := [], lnt := [], casts := [], fcast := [] }
theorem fk145 : FnOk Try.prog 145 Try.f145 I145 := ⟨Try.func145, by kernel_rfl, by kernel_rfl, by kernel_rfl, by kernel_rfl⟩
def S145_2 (x0 : List Str) (x1 : Str) (x5 : Int) : St := [(0, .v false [.sl .ro .str x0]), (2, .v false [.str x1]), (10, .v false [.int .i64 x5])]
theorem p145_2_0 (x0 : List Str) (x1 : Str) (x5 : Int) : run tt (AbsCalls Try.prog) I145 3000 true (stkAt 2 I145.body) ⟨(S145_2 x0 x1 x5), [true, true], [], []⟩ = some (.done (xAO x5) [(decide ((x5 : Int) < (List.length x0 : Int))) = true, (0 : Int) ≤ x5 ∧ x5 < (List.length x0), (((List.getD x0 (Int.toNat x5) Ty.str.dflt) : Str) == x1) = true]) := by kernel_rfl
theorem p145_2_1 (x0 : List Str) (x1 : Str) (x5 : Int) : run tt (AbsCalls Try.prog) I145 3000 true (stkAt 2 I145.body) ⟨(S145_2 x0 x1 x5), [true, false], [], []⟩ = some (.stop (stkAt 2 I145.body) (S145_2 x0 x1 (IntKind.i64.wrap (x5 + 1))) [(decide ((x5 : Int) < (List.length x0 : Int))) = true, (0 : Int) ≤ x5 ∧ x5 < (List.length x0), (((List.getD x0 (Int.toNat x5) Ty.str.dflt) : Str) == x1) = false]) := by kernel_rfl
theorem p145_2_2 (x0 : List Str) (x1 : Str) (x5 : Int) : run tt (AbsCalls Try.prog) I145 3000 true (stkAt 2 I145.body) ⟨(S145_2 x0 x1 x5), [false], [], []⟩ = some (.done (xAO (-1)) [(decide ((x5 : Int) < (List.length x0 : Int))) = false]) := by kernel_rfl
theorem p145_e_3 (a0 : List Str) (a1 : Str) : run tt (AbsCalls Try.prog) I145 3000 false [.code I145.body] ⟨(zBg 0 (xBc a0 a1)), [], [], []⟩ = some (.stop (stkAt 2 I145.body) (S145_2 a0 a1 0) []) := by kernel_rfl
theorem c145_2 {N : Nat} : ∀ n x0 x1 x5 r, xAI N n x0 x1 x5 = some r → Reach Try.prog Try.f145 I145 (stkAt 2 I145.body) (S145_2 x0 x1 x5) (xAO r) := by
 intro n
 induction n with
 | zero => intro x0 x1 x5 r h; have h' : (none : Option (Int)) = some r := h; cases h'
 | succ n ih =>
  intro x0 x1 x5 r h
  rw [xAI] at h
  rcases cond_inv h with ⟨h0, h⟩ | ⟨h0, h⟩
  ·obtain ⟨h1, h⟩ := ite_inv h
   rcases cond_inv h with ⟨h2, h⟩ | ⟨h2, h⟩
   ·obtain rfl := Option.some.inj h
    exact Reach.done ttok mix fk145 (p145_2_0 x0 x1 x5) (obs_cons h0 (obs_cons h1 (obs_cons h2 obs_nil)))
   ·exact Reach.stop ttok mix fk145 (p145_2_1 x0 x1 x5) (obs_cons h0 (obs_cons h1 (obs_cons h2 obs_nil))) (ih _ _ _ _ h)
  ·obtain rfl := Option.some.inj h
   exact Reach.done ttok mix fk145 (p145_2_2 x0 x1 x5) (obs_cons h0 obs_nil)
theorem c145_e {N : Nat} : ∀ a0 a1 r, xBj N a0 a1 = some r → Reach Try.prog Try.f145 I145 [.code I145.body] (zBg 0 (xBc a0 a1)) (xAO r) := by
 intro a0 a1 r h
 unfold xBj at h
 exact Reach.stop ttok mix fk145 (p145_e_3 a0 a1) obs_nil (c145_2   _ _ _ _ _ h)
theorem spec_IndexOf_ok {N : Nat} {a0 : List Str} {a1 : Str} {r : Int} (h : xBj N  a0 a1 = some r) : AbC 145 (xBc a0 a1) (xAO r) :=
 AbsCalls.of_reach fk145 rfl rfl (Nat.le_of_ble_eq_true rfl) (c145_e a0 a1 r h)
noncomputable def I121 : Info := { body := (Try.f121.body).getD .skip, nt := 9, results := [.tmp 4], keep := [0, 2, 4, 8, 5], live := [], modes := [], ext := [], lnt := [], casts := [], fcast := [] }
theorem fk121 : FnOk Try.prog 121 Try.f121 I121 := ⟨Try.func121, by kernel_rfl, by kernel_rfl, by kernel_rfl, by kernel_rfl⟩
theorem p121_e_0 (a0 : Val) (a1 : Str) (r1 : Int) : run tt (AbsCalls Try.prog) I121 3000 false [.code I121.body] ⟨(zBg 0 (xAN a0 a1)), [], [xAO r1], []⟩ = some (.done (xAD r1) [AbC 145 (xBc (Val.columns a0) a1) (xAO r1)]) := by kernel_rfl
theorem c121_e {N : Nat} : ∀ a0 a1 r, xAR N a0 a1 = some r → Reach Try.prog Try.f121 I121 [.code I121.body] (zBg 0 (xAN a0 a1)) (xAD r) := by
 intro a0 a1 r h
 unfold xAR at h
 obtain ⟨r1, h0, h⟩ := bind_inv h
 obtain rfl := Option.some.inj h
 exact Reach.done ttok mix fk121 (p121_e_0 a0 a1 r1) (obs_cons (spec_IndexOf_ok h0) obs_nil)
theorem xBm {N : Nat} {a0 : Val} {a1 : Str} {r : Int} (h : xAR N  a0 a1 = some r) : AbC 121 (xAN a0 a1) (xAD r) :=
 AbsCalls.of_reach fk121 rfl rfl (Nat.le_of_ble_eq_true rfl) (c121_e a0 a1 r h)
noncomputable def I122 : Info := { body := (Try.f122.body).getD .skip, nt := 9, results := [.tmp 4], keep := [0, 2, 4, 8, 5], live := [], modes := [], ext := [], lnt := [], casts := [], fcast := [] }
theorem fk122 : FnOk Try.prog 122 Try.f122 I122 := ⟨Try.func122, by kernel_rfl, by kernel_rfl, by kernel_rfl, by kernel_rfl⟩
theorem p122_e_0 (a0 : Val) (a1 : Str) (r1 : Int) : run tt (AbsCalls Try.prog) I122 3000 false [.code I122.body] ⟨(zBg 0 (xAC a0 a1)), [], [yBH r1], []⟩ = some (.done (xAq r1) [AbC 146 (yDO (Val.columns a0) a1) (yBH r1)]) := by kernel_rfl
theorem c122_e {N : Nat} : ∀ a0 a1 r, xAL N a0 a1 = some r → Reach Try.prog Try.f122 I122 [.code I122.body] (zBg 0 (xAC a0 a1)) (xAq r) := by
 intro a0 a1 r h
 unfold xAL at h
 obtain ⟨r1, h0, h⟩ := bind_inv h
 obtain rfl := Option.some.inj h
 exact Reach.done ttok mix fk122 (p122_e_0 a0 a1 r1) (obs_cons (yFL h0) obs_nil)
theorem xAY {N : Nat} {a0 : Val} {a1 : Str} {r : Int} (h : xAL N  a0 a1 = some r) : AbC 122 (xAC a0 a1) (xAq r) :=
 AbsCalls.of_reach fk122 rfl rfl (Nat.le_of_ble_eq_true rfl) (c122_e a0 a1 r h)
end Go.Ab.T
end
section
open Go.Proofs
namespace Go.Ab.T
set_option linter.unusedVariables false
set_option maxRecDepth 100000
noncomputable def I68 : Info := { body := (Try.f68.body).getD .skip, nt := 66, results := [.cell 6 28], keep := [0, 2, 4, 6, 8, 10, 12, 14, 16, 18, 20, 22, 42, 56, 78, 106, 7, 9, 11, 13, 15, 21], live := [(9, [8, 10, 12, 18, 20, 22, 9, 11, 13, 21])], modes := [(1, [(6, .take, false)]), (2, [(0, .take, false)]), (3, [(0, .take, false)]), (12, [(1, .take, false), (9, .take, false)]), (13, [(0, .take, false)])], ext := [], lnt := [], casts := [], fcast := [] }
theorem fk68 : FnOk Try.prog 68 Try.f68 I68 := ⟨Try.func68, by kernel_rfl, by kernel_rfl, by kernel_rfl, by kernel_rfl⟩
def S68_9 (x9 x11 : Int) (b4 b5 b6 b10 : Val) : St := [(8, .v false [.ptr 4 0]), (10, .v false [.ptr 5 0]), (12, .v false [.ptr 6 0]), (18, .v false [.int .i64 x9]), (20, .v false [.ptr 10 0]), (22, .v false [.int .i64 x11]), (9, .v true [.int .i64 (Val.kind b4), .int .i64 (Val.n b4), .int .i64 (Val.step b4), .str (Val.text b4), .sl .ro .val (Val.list b4), .sl .ro .str (Val.columns b4), .sl .ro .row (Val.rows b4)]), (11, .v true [.int .i64 (Val.kind b5), .int .i64 (Val.n b5), .int .i64 (Val.step b5), .str (Val.text b5), .sl .ro .val (Val.list b5), .sl .ro .str (Val.columns b5), .sl .ro .row (Val.rows b5)]), (13, .v true [.int .i64 (Val.kind b6), .int .i64 (Val.n b6), .int .i64 (Val.step b6), .str (Val.text b6), .sl .own .val (Val.list b6), .sl .own .str (Val.columns b6), .sl .own .row (Val.rows b6)]), (21, .v true [.int .i64 (Val.kind b10), .int .i64 (Val.n b10), .int .i64 (Val.step b10), .str (Val.text b10), .sl .own .val (Val.list b10), .sl .own .str (Val.columns b10), .sl .own .row (Val.rows b10)])]
theorem p68_9_0 (x9 x11 : Int) (b4 b5 b6 b10 : Val) (r1 : Rowd) : run tt (AbsCalls Try.prog) I68 3000 true (stkAt 9 I68.body) ⟨(S68_9 x9 x11 b4 b5 b6 b10), [true, true], [xBd r1], []⟩ = some (.stop (stkAt 9 I68.body) (S68_9 x9 (IntKind.i64.wrap (x11 + 1)) b4 b5 b6 (Val.mk (Val.kind b10) (Val.n b10) (Val.step b10) (Val.text b10) (Val.list b10) (Val.columns b10) ((Val.rows b10) ++ [r1]))) [(decide ((x11 : Int) < (List.length (Val.rows b5) : Int))) = true, (0 : Int) ≤ x11 ∧ x11 < (List.length (Val.rows b5)), (0 : Int) ≤ x9 ∧ x9 < (List.length (Rowd.cells (List.getD (Val.rows b5) (Int.toNat x11) Ty.row.dflt))), (((List.getD (Rowd.cells (List.getD (Val.rows b5) (Int.toNat x11) Ty.row.dflt)) (Int.toNat x9) Ty.int.dflt) : Int) == (Val.n b4)) = true, (0 : Int) ≤ x11 ∧ x11 < (List.length (Val.rows b5)), AbC 116 (xBk (List.getD (Val.rows b5) (Int.toNat x11) Ty.row.dflt)) (xBd r1), List.length (Val.rows b10) + List.length [r1] ≤ Lim]) := by kernel_rfl
theorem p68_9_1 (x9 x11 : Int) (b4 b5 b6 b10 : Val) : run tt (AbsCalls Try.prog) I68 3000 true (stkAt 9 I68.body) ⟨(S68_9 x9 x11 b4 b5 b6 b10), [true, false], [], []⟩ = some (.stop (stkAt 9 I68.body) (S68_9 x9 (IntKind.i64.wrap (x11 + 1)) b4 b5 b6 b10) [(decide ((x11 : Int) < (List.length (Val.rows b5) : Int))) = true, (0 : Int) ≤ x11 ∧ x11 < (List.length (Val.rows b5)), (0 : Int) ≤ x9 ∧ x9 < (List.length (Rowd.cells (List.getD (Val.rows b5) (Int.toNat x11) Ty.row.dflt))), (((List.getD (Rowd.cells (List.getD (Val.rows b5) (Int.toNat x11) Ty.row.dflt)) (Int.toNat x9) Ty.int.dflt) : Int) == (Val.n b4)) = false]) := by kernel_rfl
theorem p68_9_2 (x9 x11 : Int) (b4 b5 b6 b10 : Val) : run tt (AbsCalls Try.prog) I68 3000 true (stkAt 9 I68.body) ⟨(S68_9 x9 x11 b4 b5 b6 b10), [false], [], []⟩ = some (.done (xAc b10) [(decide ((x11 : Int) < (List.length (Val.rows b5) : Int))) = false]) := by kernel_rfl
theorem p68_e_3 (a0 a1 a2 : Val) (r1 : Val × Bool) : run tt (AbsCalls Try.prog) I68 3000 false [.code I68.body] ⟨(zBg 0 (xAj a0 a1 a2)), [true], [xAy r1], []⟩ = some (.done (xAc r1.1) [AbC 110 (xAP [(Val.re a0), (Val.re a1), (Val.re a2)] [2, 1, 5]) (xAy r1), r1.2 = true]) := by kernel_rfl
theorem p68_e_4 (a0 a1 a2 : Val) (r1 : Val × Bool) (r2 : Int) (r3 : Val) : run tt (AbsCalls Try.prog) I68 3000 false [.code I68.body] ⟨(zBg 0 (xAj a0 a1 a2)), [false, true], [xAy r1, xAD r2, yBL r3], []⟩ = some (.done (xAc r3) [AbC 110 (xAP [(Val.re a0), (Val.re a1), (Val.re a2)] [2, 1, 5]) (xAy r1), r1.2 = false, AbC 121 (xAN a2 (Val.text a0)) (xAD r2), (decide ((r2 : Int) < 0)) = true, AbC 72 (yCT 7) (yBL r3)]) := by kernel_rfl
theorem p68_e_5 (a0 a1 a2 : Val) (r1 : Val × Bool) (r2 : Int) : run tt (AbsCalls Try.prog) I68 3000 false [.code I68.body] ⟨(zBg 0 (xAj a0 a1 a2)), [false, false], [xAy r1, xAD r2], []⟩ = some (.stop (stkAt 9 I68.body) (S68_9 r2 0 a1 a2 (Val.mk 0 0 0 [] [] [] []) (Val.mk 5 0 0 [] [] ([] ++ (Val.columns a2)) [])) [AbC 110 (xAP [(Val.re a0), (Val.re a1), (Val.re a2)] [2, 1, 5]) (xAy r1), r1.2 = false, AbC 121 (xAN a2 (Val.text a0)) (xAD r2), (decide ((r2 : Int) < 0)) = false, 0 + List.length (Val.columns a2) ≤ Lim]) := by kernel_rfl
theorem c68_9 {N : Nat} : ∀ n x9 x11 b4 b5 b6 b10 r, xAx N n x9 x11 b4 b5 b6 b10 = some r → Reach Try.prog Try.f68 I68 (stkAt 9 I68.body) (S68_9 x9 x11 b4 b5 b6 b10) (xAc r) := by
 intro n
 induction n with
 | zero => intro x9 x11 b4 b5 b6 b10 r h; have h' : (none : Option (Val)) = some r := h; cases h'
 | succ n ih =>
  intro x9 x11 b4 b5 b6 b10 r h
  rw [xAx] at h
  rcases cond_inv h with ⟨h0, h⟩ | ⟨h0, h⟩
  ·obtain ⟨h1, h⟩ := ite_inv h
   obtain ⟨h2, h⟩ := ite_inv h
   rcases cond_inv h with ⟨h3, h⟩ | ⟨h3, h⟩
   ·obtain ⟨r1, h5, h⟩ := bind_inv h
    obtain ⟨h6, h⟩ := ite_inv h
    exact Reach.stop ttok mix fk68 (p68_9_0 x9 x11 b4 b5 b6 b10 r1) (obs_cons h0 (obs_cons h1 (obs_cons h2 (obs_cons h3 (obs_cons h1 (obs_cons (spec_l3Row_ok h5) (obs_cons h6 obs_nil))))))) (ih _ _ _ _ _ _ _ h)
   ·exact Reach.stop ttok mix fk68 (p68_9_1 x9 x11 b4 b5 b6 b10) (obs_cons h0 (obs_cons h1 (obs_cons h2 (obs_cons h3 obs_nil)))) (ih _ _ _ _ _ _ _ h)
  ·obtain rfl := Option.some.inj h
   exact Reach.done ttok mix fk68 (p68_9_2 x9 x11 b4 b5 b6 b10) (obs_cons h0 obs_nil)
theorem c68_e {N : Nat} : ∀ a0 a1 a2 r, xAJ N a0 a1 a2 = some r → Reach Try.prog Try.f68 I68 [.code I68.body] (zBg 0 (xAj a0 a1 a2)) (xAc r) := by
 intro a0 a1 a2 r h
 unfold xAJ at h
 obtain ⟨r1, h0, h⟩ := bind_inv h
 rcases cond_inv h with ⟨h1, h⟩ | ⟨h1, h⟩
 ·obtain rfl := Option.some.inj h
  exact Reach.done ttok mix fk68 (p68_e_3 a0 a1 a2 r1) (obs_cons (xBn h0) (obs_cons h1 obs_nil))
 ·obtain ⟨r2, h2, h⟩ := bind_inv h
  rcases cond_inv h with ⟨h3, h⟩ | ⟨h3, h⟩
  ·obtain ⟨r3, h4, h⟩ := bind_inv h
   obtain rfl := Option.some.inj h
   exact Reach.done ttok mix fk68 (p68_e_4 a0 a1 a2 r1 r2 r3) (obs_cons (xBn h0) (obs_cons h1 (obs_cons (xBm h2) (obs_cons h3 (obs_cons (yFf h4) obs_nil)))))
  ·obtain ⟨h4, h⟩ := ite_inv h
   exact Reach.stop ttok mix fk68 (p68_e_5 a0 a1 a2 r1 r2) (obs_cons (xBn h0) (obs_cons h1 (obs_cons (xBm h2) (obs_cons h3 (obs_cons h4 obs_nil))))) (c68_9   _ _ _ _ _ _ _ _ h)
theorem xAk {N : Nat} {a0 : Val} {a1 : Val} {a2 : Val} {r : Val} (h : xAJ N  a0 a1 a2 = some r) : AbC 68 (xAj a0 a1 a2) (xAc r) :=
 AbsCalls.of_reach fk68 rfl rfl (Nat.le_of_ble_eq_true rfl) (c68_e a0 a1 a2 r h)
theorem xBu {P : Program} {f : FuncId} {ags : List Arg} {r : Val × Bool} (h : AbsCalls P f ags (xAp r)) (ht : r.2 = true) : AbsCalls P f ags (xA6 r) := by
 unfold xAp at h; rw [ht] at h; exact h
theorem xAm {P : Program} {f : FuncId} {ags : List Arg} {r : Val × Bool} (h : AbsCalls P f ags (xAp r)) (ht : r.2 = false) : AbsCalls P f ags (xAg r) := by
 unfold xAp at h; rw [ht] at h; exact h
theorem xAl {P : Program} {f : FuncId} {ags : List Arg} {r : Val × Bool} (h : AbsCalls P f ags (xAp r)) (ht : r.2 = true) (e0 : List.isEmpty (Val.list r.1) = true) (e1 : List.isEmpty (Val.columns r.1) = true) (e2 : List.isEmpty (Val.rows r.1) = true) : AbsCalls P f ags (xAh r) := by
 have h := xBu h ht
 unfold xA6 at h; rw [List.isEmpty_iff.1 e0, List.isEmpty_iff.1 e1, List.isEmpty_iff.1 e2] at h; exact h
noncomputable def I69 : Info := { body := (Try.f69.body).getD .skip, nt := 60, results := [.cell 6 28], keep := [0, 2, 4, 6, 8, 10, 12, 14, 16, 18, 20, 24, 44, 58, 74, 76, 78, 80, 100, 7, 9, 11, 13, 15, 21, 25], live := [(9, [8, 12, 18, 20, 74, 76, 78, 9, 13, 21])], modes := [(1, [(5, .take, true), (6, .take, false)]), (2, [(0, .take, false)]), (3, [(0, .take, false)]), (12, [(1, .take, false), (5, .take, false)]), (13, [(1, .take, false)]), (14, [(0, .take, false)])], ext := [], lnt := [], casts := [], fcast := [] }
theorem fk69 : FnOk Try.prog 69 Try.f69 I69 := ⟨Try.func69, by kernel_rfl, by kernel_rfl, by kernel_rfl, by kernel_rfl⟩
def S69_9 (x9 : Int) (x37 : List Rowd) (x38 x39 : Int) (b4 b6 b10 : Val) : St := [(8, .v false [.ptr 4 0]), (12, .v false [.ptr 6 0]), (18, .v false [.int .i64 x9]), (20, .v false [.ptr 10 0]), (74, .v false [.sl .ro .row x37]), (76, .v false [.int .i64 x38]), (78, .v false [.int .i64 x39]), (9, .v true [.int .i64 (Val.kind b4), .int .i64 (Val.n b4), .int .i64 (Val.step b4), .str (Val.text b4), .sl .ro .val (Val.list b4), .sl .ro .str (Val.columns b4), .sl .ro .row (Val.rows b4)]), (13, .v true [.int .i64 (Val.kind b6), .int .i64 (Val.n b6), .int .i64 (Val.step b6), .str (Val.text b6), .sl .own .val (Val.list b6), .sl .own .str (Val.columns b6), .sl .own .row (Val.rows b6)]), (21, .v true [.int .i64 (Val.kind b10), .int .i64 (Val.n b10), .int .i64 (Val.step b10), .str (Val.text b10), .sl .own .val (Val.list b10), .sl .own .str (Val.columns b10), .sl .own .row (Val.rows b10)])]
theorem p69_9_0 (x9 : Int) (x37 : List Rowd) (x38 x39 : Int) (b4 b6 b10 : Val) (r1 : Rowd) : run tt (AbsCalls Try.prog) I69 3000 true (stkAt 9 I69.body) ⟨(S69_9 x9 x37 x38 x39 b4 b6 b10), [true, true], [xA3 r1], []⟩ = some (.stop (stkAt 9 I69.body) (S69_9 x9 x37 x38 (IntKind.i64.wrap (x39 + 1)) b4 b6 (Val.mk (Val.kind b10) (Val.n b10) (Val.step b10) (Val.text b10) (Val.list b10) (Val.columns b10) ((Val.rows b10) ++ [r1]))) [(decide ((x39 : Int) < x38)) = true, (0 : Int) ≤ x39 ∧ x39 < (List.length x37), (0 : Int) ≤ x9 ∧ x9 < (List.length (Rowd.cells (List.getD x37 (Int.toNat x39) Ty.row.dflt))), (((List.getD (Rowd.cells (List.getD x37 (Int.toNat x39) Ty.row.dflt)) (Int.toNat x9) Ty.int.dflt) : Int) == (Val.n b4)) = true, AbC 119 (xA8 (List.getD x37 (Int.toNat x39) Ty.row.dflt)) (xA3 r1), List.length (Val.rows b10) + List.length [r1] ≤ Lim]) := by kernel_rfl
theorem p69_9_1 (x9 : Int) (x37 : List Rowd) (x38 x39 : Int) (b4 b6 b10 : Val) : run tt (AbsCalls Try.prog) I69 3000 true (stkAt 9 I69.body) ⟨(S69_9 x9 x37 x38 x39 b4 b6 b10), [true, false], [], []⟩ = some (.stop (stkAt 9 I69.body) (S69_9 x9 x37 x38 (IntKind.i64.wrap (x39 + 1)) b4 b6 b10) [(decide ((x39 : Int) < x38)) = true, (0 : Int) ≤ x39 ∧ x39 < (List.length x37), (0 : Int) ≤ x9 ∧ x9 < (List.length (Rowd.cells (List.getD x37 (Int.toNat x39) Ty.row.dflt))), (((List.getD (Rowd.cells (List.getD x37 (Int.toNat x39) Ty.row.dflt)) (Int.toNat x9) Ty.int.dflt) : Int) == (Val.n b4)) = false]) := by kernel_rfl
theorem p69_9_2 (x9 : Int) (x37 : List Rowd) (x38 x39 : Int) (b4 b6 b10 : Val) : run tt (AbsCalls Try.prog) I69 3000 true (stkAt 9 I69.body) ⟨(S69_9 x9 x37 x38 x39 b4 b6 b10), [false], [], []⟩ = some (.done (xAp (b10, false)) [(decide ((x39 : Int) < x38)) = false]) := by kernel_rfl
theorem p69_e_3 (a0 a1 a2 : Val) (r1 : Val × Bool × Bool) : run tt (AbsCalls Try.prog) I69 3000 false [.code I69.body] ⟨(zBg 0 (xAd a0 a1 a2)), [true], [xAF r1], []⟩ = some (.done (xAp ((Val.mk (Val.kind r1.1) (Val.n r1.1) (Val.step r1.1) (Val.text r1.1) [] [] []), true)) [AbC 111 (xAs [2, 1, 5] [(Val.re a0), (Val.re a1), (Val.re a2)]) (xAF r1), r1.2.1 = true]) := by kernel_rfl
theorem p69_e_4 (a0 a1 a2 : Val) (r1 : Val × Bool × Bool) (r2 : Int) (r3 : Val) : run tt (AbsCalls Try.prog) I69 3000 false [.code I69.body] ⟨(zBg 0 (xAd a0 a1 a2)), [false, true], [xAF r1, xAq r2, yCS r3], []⟩ = some (.done (xAp (r3, false)) [AbC 111 (xAs [2, 1, 5] [(Val.re a0), (Val.re a1), (Val.re a2)]) (xAF r1), r1.2.1 = false, AbC 122 (xAC a2 (Val.text a0)) (xAq r2), (decide ((r2 : Int) < 0)) = true, AbC 75 (yDI 7) (yCS r3)]) := by kernel_rfl
theorem p69_e_5 (a0 a1 a2 : Val) (r1 : Val × Bool × Bool) (r2 : Int) : run tt (AbsCalls Try.prog) I69 3000 false [.code I69.body] ⟨(zBg 0 (xAd a0 a1 a2)), [false, false], [xAF r1, xAq r2], []⟩ = some (.stop (stkAt 9 I69.body) (S69_9 r2 (Val.rows a2) (List.length (Val.rows a2) : Int) 0 a1 (Val.mk 0 0 0 [] [] [] []) (Val.mk 5 0 0 [] [] ([] ++ (Val.columns a2)) [])) [AbC 111 (xAs [2, 1, 5] [(Val.re a0), (Val.re a1), (Val.re a2)]) (xAF r1), r1.2.1 = false, AbC 122 (xAC a2 (Val.text a0)) (xAq r2), (decide ((r2 : Int) < 0)) = false, 0 + List.length (Val.columns a2) ≤ Lim]) := by kernel_rfl
theorem p69_e_6 (a0 a1 a2 : Val) (r1 : Val × Bool × Bool) : run tt (AbsCalls Try.prog) I69 3000 false [.code I69.body] ⟨(zBg 0 (xAd a0 a1 a2)), [true], [xAA r1], []⟩ = some (.done (xAp (r1.1, false)) [AbC 111 (xAs [2, 1, 5] [(Val.re a0), (Val.re a1), (Val.re a2)]) (xAA r1), r1.2.1 = true]) := by kernel_rfl
theorem p69_e_7 (a0 a1 a2 : Val) (r1 : Val × Bool × Bool) (r2 : Int) (r3 : Val) : run tt (AbsCalls Try.prog) I69 3000 false [.code I69.body] ⟨(zBg 0 (xAd a0 a1 a2)), [false, true], [xAA r1, xAq r2, yCS r3], []⟩ = some (.done (xAp (r3, false)) [AbC 111 (xAs [2, 1, 5] [(Val.re a0), (Val.re a1), (Val.re a2)]) (xAA r1), r1.2.1 = false, AbC 122 (xAC a2 (Val.text a0)) (xAq r2), (decide ((r2 : Int) < 0)) = true, AbC 75 (yDI 7) (yCS r3)]) := by kernel_rfl
theorem p69_e_8 (a0 a1 a2 : Val) (r1 : Val × Bool × Bool) (r2 : Int) : run tt (AbsCalls Try.prog) I69 3000 false [.code I69.body] ⟨(zBg 0 (xAd a0 a1 a2)), [false, false], [xAA r1, xAq r2], []⟩ = some (.stop (stkAt 9 I69.body) (S69_9 r2 (Val.rows a2) (List.length (Val.rows a2) : Int) 0 a1 (Val.mk 0 0 0 [] [] [] []) (Val.mk 5 0 0 [] [] ([] ++ (Val.columns a2)) [])) [AbC 111 (xAs [2, 1, 5] [(Val.re a0), (Val.re a1), (Val.re a2)]) (xAA r1), r1.2.1 = false, AbC 122 (xAC a2 (Val.text a0)) (xAq r2), (decide ((r2 : Int) < 0)) = false, 0 + List.length (Val.columns a2) ≤ Lim]) := by kernel_rfl
theorem c69_9 {N : Nat} : ∀ n x9 x37 x38 x39 b4 b6 b10 r, xAu N n x9 x37 x38 x39 b4 b6 b10 = some r → Reach Try.prog Try.f69 I69 (stkAt 9 I69.body) (S69_9 x9 x37 x38 x39 b4 b6 b10) (xAp r) := by
 intro n
 induction n with
 | zero => intro x9 x37 x38 x39 b4 b6 b10 r h; have h' : (none : Option (Val × Bool)) = some r := h; cases h'
 | succ n ih =>
  intro x9 x37 x38 x39 b4 b6 b10 r h
  rw [xAu] at h
  rcases cond_inv h with ⟨h0, h⟩ | ⟨h0, h⟩
  ·obtain ⟨h1, h⟩ := ite_inv h
   obtain ⟨h2, h⟩ := ite_inv h
   rcases cond_inv h with ⟨h3, h⟩ | ⟨h3, h⟩
   ·obtain ⟨r1, h4, h⟩ := bind_inv h
    obtain ⟨h5, h⟩ := ite_inv h
    exact Reach.stop ttok mix fk69 (p69_9_0 x9 x37 x38 x39 b4 b6 b10 r1) (obs_cons h0 (obs_cons h1 (obs_cons h2 (obs_cons h3 (obs_cons (impl_copyRow_ok h4) (obs_cons h5 obs_nil)))))) (ih _ _ _ _ _ _ _ _ h)
   ·exact Reach.stop ttok mix fk69 (p69_9_1 x9 x37 x38 x39 b4 b6 b10) (obs_cons h0 (obs_cons h1 (obs_cons h2 (obs_cons h3 obs_nil)))) (ih _ _ _ _ _ _ _ _ h)
  ·obtain rfl := Option.some.inj h
   exact Reach.done ttok mix fk69 (p69_9_2 x9 x37 x38 x39 b4 b6 b10) (obs_cons h0 obs_nil)
theorem c69_e {N : Nat} : ∀ a0 a1 a2 r, xAB N a0 a1 a2 = some r → Reach Try.prog Try.f69 I69 [.code I69.body] (zBg 0 (xAd a0 a1 a2)) (xAp r) := by
 intro a0 a1 a2 r h
 unfold xAB at h
 obtain ⟨r1, h0, h⟩ := bind_inv h
 rcases cond_inv h with ⟨h1, h⟩ | ⟨h1, h⟩
 ·obtain ⟨h2, h⟩ := ite_inv h
  obtain ⟨h3, h⟩ := ite_inv h
  obtain ⟨h4, h⟩ := ite_inv h
  rcases cond_inv h with ⟨h5, h⟩ | ⟨h5, h⟩
  ·obtain rfl := Option.some.inj h
   exact Reach.done ttok mix fk69 (p69_e_3 a0 a1 a2 r1) (obs_cons (xBa (xAM h0) h1 h2 h3 h4) (obs_cons h5 obs_nil))
  ·obtain ⟨r2, h6, h⟩ := bind_inv h
   rcases cond_inv h with ⟨h7, h⟩ | ⟨h7, h⟩
   ·obtain ⟨r3, h8, h⟩ := bind_inv h
    obtain rfl := Option.some.inj h
    exact Reach.done ttok mix fk69 (p69_e_4 a0 a1 a2 r1 r2 r3) (obs_cons (xBa (xAM h0) h1 h2 h3 h4) (obs_cons h5 (obs_cons (xAY h6) (obs_cons h7 (obs_cons (impl_ErrorValue_ok h8) obs_nil)))))
   ·obtain ⟨h8, h⟩ := ite_inv h
    exact Reach.stop ttok mix fk69 (p69_e_5 a0 a1 a2 r1 r2) (obs_cons (xBa (xAM h0) h1 h2 h3 h4) (obs_cons h5 (obs_cons (xAY h6) (obs_cons h7 (obs_cons h8 obs_nil))))) (c69_9   _ _ _ _ _ _ _ _ _ h)
 ·rcases cond_inv h with ⟨h2, h⟩ | ⟨h2, h⟩
  ·obtain rfl := Option.some.inj h
   exact Reach.done ttok mix fk69 (p69_e_6 a0 a1 a2 r1) (obs_cons (xBb (xAM h0) h1) (obs_cons h2 obs_nil))
  ·obtain ⟨r2, h3, h⟩ := bind_inv h
   rcases cond_inv h with ⟨h4, h⟩ | ⟨h4, h⟩
   ·obtain ⟨r3, h5, h⟩ := bind_inv h
    obtain rfl := Option.some.inj h
    exact Reach.done ttok mix fk69 (p69_e_7 a0 a1 a2 r1 r2 r3) (obs_cons (xBb (xAM h0) h1) (obs_cons h2 (obs_cons (xAY h3) (obs_cons h4 (obs_cons (impl_ErrorValue_ok h5) obs_nil)))))
   ·obtain ⟨h5, h⟩ := ite_inv h
    exact Reach.stop ttok mix fk69 (p69_e_8 a0 a1 a2 r1 r2) (obs_cons (xBb (xAM h0) h1) (obs_cons h2 (obs_cons (xAY h3) (obs_cons h4 (obs_cons h5 obs_nil))))) (c69_9   _ _ _ _ _ _ _ _ _ h)
theorem xAi {N : Nat} {a0 : Val} {a1 : Val} {a2 : Val} {r : Val × Bool} (h : xAB N  a0 a1 a2 = some r) : AbC 69 (xAd a0 a1 a2) (xAp r) :=
 AbsCalls.of_reach fk69 rfl rfl (Nat.le_of_ble_eq_true rfl) (c69_e a0 a1 a2 r h)
end Go.Ab.T
end
section
open Go.Proofs
namespace Go.Ab.T
set_option linter.unusedVariables false
set_option maxRecDepth 100000
noncomputable def I14 : Info := { body := (Try.f14.body).getD .skip, nt := 115, results := [.tmp 6], keep := [0, 2, 4, 6, 8, 10, 12, 14, 16, 18, 20, 22, 24, 26, 28, 30, 32, 42, 52, 62, 104, 114, 124, 134, 168, 184, 190, 212, 222, 228, 7, 9, 11, 17, 19, 21, 23, 25, 33], live := [], modes := [(15, [(3, .take, true)]), (25, [(0, .ref, false), (2, .ref, false)]), (26, [(0, .ref, false), (2, .ref, false)]), (27, [(0, .ref, false), (2, .ref, false)]), (28, [(2, .take, false)]), (31, [(0, .ref, false), (2, .ref, false)]), (38, [(6, .take, true)])], ext := [], lnt := [], casts := [], fcast := [] }
theorem fk14 : FnOk Try.prog 14 Try.f14 I14 := ⟨Try.func14, by kernel_rfl, by kernel_rfl, by kernel_rfl, by kernel_rfl⟩
theorem p14_e_0 (a0 a1 a2 : Val) (r1 : Int) : run tt (AbsCalls Try.prog) I14 3000 false [.code I14.body] ⟨(zBg 0 (xAe a0 a1 a2)), [true], [yAw r1], []⟩ = some (.done (xAf true) [AbC 24 (yAG a0 1048576) (yAw r1), (decide ((r1 : Int) < 0)) = true]) := by kernel_rfl
theorem p14_e_1 (a0 a1 a2 : Val) (r1 r2 : Int) : run tt (AbsCalls Try.prog) I14 3000 false [.code I14.body] ⟨(zBg 0 (xAe a0 a1 a2)), [false, true], [yAw r1, yAw r2], []⟩ = some (.done (xAf true) [AbC 24 (yAG a0 1048576) (yAw r1), (decide ((r1 : Int) < 0)) = false, AbC 24 (yAG a1 r1) (yAw r2), (decide ((r2 : Int) < 0)) = true]) := by kernel_rfl
theorem p14_e_2 (a0 a1 a2 : Val) (r1 r2 r3 : Int) : run tt (AbsCalls Try.prog) I14 3000 false [.code I14.body] ⟨(zBg 0 (xAe a0 a1 a2)), [false, false, true], [yAw r1, yAw r2, yAw r3], []⟩ = some (.done (xAf true) [AbC 24 (yAG a0 1048576) (yAw r1), (decide ((r1 : Int) < 0)) = false, AbC 24 (yAG a1 r1) (yAw r2), (decide ((r2 : Int) < 0)) = false, AbC 24 (yAG a2 r2) (yAw r3), (decide ((r3 : Int) < 0)) = true]) := by kernel_rfl
theorem p14_e_3 (a0 a1 a2 : Val) (r1 r2 r3 : Int) (r4 r5 r6 r7 r8 r9 r10 : Val) (r11 : Val × Bool) (r12 : Bool) : run tt (AbsCalls Try.prog) I14 3000 false [.code I14.body] ⟨(zBg 0 (xAe a0 a1 a2)), [false, false, false, true], [yAw r1, yAw r2, yAw r3, yBb r4, yBb r5, yBb r6, xAc r7, yBb r8, yBb r9, yBb r10, xAh r11, yAm r12], []⟩ = some (.done (xAf false) [AbC 24 (yAG a0 1048576) (yAw r1), (decide ((r1 : Int) < 0)) = false, AbC 24 (yAG a1 r1) (yAw r2), (decide ((r2 : Int) < 0)) = false, AbC 24 (yAG a2 r2) (yAw r3), (decide ((r3 : Int) < 0)) = false, AbC 26 (yBl a0) (yBb r4), AbC 26 (yBl a1) (yBb r5), AbC 26 (yBl a2) (yBb r6), AbC 68 (xAj r4 r5 r6) (xAc r7), AbC 26 (yBl a0) (yBb r8), AbC 26 (yBl a1) (yBb r9), AbC 26 (yBl a2) (yBb r10), AbC 69 (xAd r8 r9 r10) (xAh r11), AbC 19 (yAr (Val.mk (Val.kind r11.1) (Val.n r11.1) (Val.step r11.1) (Val.text r11.1) [] [] []) r7) (yAm r12), (!r12) = true]) := by kernel_rfl
theorem p14_e_4 (a0 a1 a2 : Val) (r1 r2 r3 : Int) (r4 r5 r6 r7 r8 r9 r10 : Val) (r11 : Val × Bool) (r12 : Bool) (r13 : Val) (r14 : Bool) : run tt (AbsCalls Try.prog) I14 3000 false [.code I14.body] ⟨(zBg 0 (xAe a0 a1 a2)), [false, false, false, false, true], [yAw r1, yAw r2, yAw r3, yBb r4, yBb r5, yBb r6, xAc r7, yBb r8, yBb r9, yBb r10, xAh r11, yAm r12, yBb r13, yAm r14], []⟩ = some (.done (xAf false) [AbC 24 (yAG a0 1048576) (yAw r1), (decide ((r1 : Int) < 0)) = false, AbC 24 (yAG a1 r1) (yAw r2), (decide ((r2 : Int) < 0)) = false, AbC 24 (yAG a2 r2) (yAw r3), (decide ((r3 : Int) < 0)) = false, AbC 26 (yBl a0) (yBb r4), AbC 26 (yBl a1) (yBb r5), AbC 26 (yBl a2) (yBb r6), AbC 68 (xAj r4 r5 r6) (xAc r7), AbC 26 (yBl a0) (yBb r8), AbC 26 (yBl a1) (yBb r9), AbC 26 (yBl a2) (yBb r10), AbC 69 (xAd r8 r9 r10) (xAh r11), AbC 19 (yAr (Val.mk (Val.kind r11.1) (Val.n r11.1) (Val.step r11.1) (Val.text r11.1) [] [] []) r7) (yAm r12), (!r12) = false, AbC 26 (yBl a0) (yBb r13), AbC 19 (yAr r8 r13) (yAm r14), (!r14) = true]) := by kernel_rfl
theorem p14_e_5 (a0 a1 a2 : Val) (r1 r2 r3 : Int) (r4 r5 r6 r7 r8 r9 r10 : Val) (r11 : Val × Bool) (r12 : Bool) (r13 : Val) (r14 : Bool) (r15 : Val) (r16 : Bool) : run tt (AbsCalls Try.prog) I14 3000 false [.code I14.body] ⟨(zBg 0 (xAe a0 a1 a2)), [false, false, false, false, false, true], [yAw r1, yAw r2, yAw r3, yBb r4, yBb r5, yBb r6, xAc r7, yBb r8, yBb r9, yBb r10, xAh r11, yAm r12, yBb r13, yAm r14, yBb r15, yAm r16], []⟩ = some (.done (xAf false) [AbC 24 (yAG a0 1048576) (yAw r1), (decide ((r1 : Int) < 0)) = false, AbC 24 (yAG a1 r1) (yAw r2), (decide ((r2 : Int) < 0)) = false, AbC 24 (yAG a2 r2) (yAw r3), (decide ((r3 : Int) < 0)) = false, AbC 26 (yBl a0) (yBb r4), AbC 26 (yBl a1) (yBb r5), AbC 26 (yBl a2) (yBb r6), AbC 68 (xAj r4 r5 r6) (xAc r7), AbC 26 (yBl a0) (yBb r8), AbC 26 (yBl a1) (yBb r9), AbC 26 (yBl a2) (yBb r10), AbC 69 (xAd r8 r9 r10) (xAh r11), AbC 19 (yAr (Val.mk (Val.kind r11.1) (Val.n r11.1) (Val.step r11.1) (Val.text r11.1) [] [] []) r7) (yAm r12), (!r12) = false, AbC 26 (yBl a0) (yBb r13), AbC 19 (yAr r8 r13) (yAm r14), (!r14) = false, AbC 26 (yBl a1) (yBb r15), AbC 19 (yAr r9 r15) (yAm r16), (!r16) = true]) := by kernel_rfl
theorem p14_e_6 (a0 a1 a2 : Val) (r1 r2 r3 : Int) (r4 r5 r6 r7 r8 r9 r10 : Val) (r11 : Val × Bool) (r12 : Bool) (r13 : Val) (r14 : Bool) (r15 : Val) (r16 : Bool) (r17 : Val) (r18 : Bool) : run tt (AbsCalls Try.prog) I14 3000 false [.code I14.body] ⟨(zBg 0 (xAe a0 a1 a2)), [false, false, false, false, false, false, true], [yAw r1, yAw r2, yAw r3, yBb r4, yBb r5, yBb r6, xAc r7, yBb r8, yBb r9, yBb r10, xAh r11, yAm r12, yBb r13, yAm r14, yBb r15, yAm r16, yBb r17, yAm r18], []⟩ = some (.done (xAf false) [AbC 24 (yAG a0 1048576) (yAw r1), (decide ((r1 : Int) < 0)) = false, AbC 24 (yAG a1 r1) (yAw r2), (decide ((r2 : Int) < 0)) = false, AbC 24 (yAG a2 r2) (yAw r3), (decide ((r3 : Int) < 0)) = false, AbC 26 (yBl a0) (yBb r4), AbC 26 (yBl a1) (yBb r5), AbC 26 (yBl a2) (yBb r6), AbC 68 (xAj r4 r5 r6) (xAc r7), AbC 26 (yBl a0) (yBb r8), AbC 26 (yBl a1) (yBb r9), AbC 26 (yBl a2) (yBb r10), AbC 69 (xAd r8 r9 r10) (xAh r11), AbC 19 (yAr (Val.mk (Val.kind r11.1) (Val.n r11.1) (Val.step r11.1) (Val.text r11.1) [] [] []) r7) (yAm r12), (!r12) = false, AbC 26 (yBl a0) (yBb r13), AbC 19 (yAr r8 r13) (yAm r14), (!r14) = false, AbC 26 (yBl a1) (yBb r15), AbC 19 (yAr r9 r15) (yAm r16), (!r16) = false, AbC 26 (yBl a2) (yBb r17), AbC 19 (yAr r10 r17) (yAm r18), (!r18) = true]) := by kernel_rfl
theorem p14_e_7 (a0 a1 a2 : Val) (r1 r2 r3 : Int) (r4 r5 r6 r7 r8 r9 r10 : Val) (r11 : Val × Bool) (r12 : Bool) (r13 : Val) (r14 : Bool) (r15 : Val) (r16 : Bool) (r17 : Val) (r18 : Bool) (r19 : Int × (List Val) × (List Str) × (List Rowd)) (r20 : Int × (List Val) × (List Str) × (List Rowd)) (r21 : Int × (List Val) × (List Str) × (List Rowd)) : run tt (AbsCalls Try.prog) I14 3000 false [.code I14.body] ⟨(zBg 0 (xAe a0 a1 a2)), [false, false, false, false, false, false, false, true, true], [yAw r1, yAw r2, yAw r3, yBb r4, yBb r5, yBb r6, xAc r7, yBb r8, yBb r9, yBb r10, xAh r11, yAm r12, yBb r13, yAm r14, yBb r15, yAm r16, yBb r17, yAm r18, yEy r19, yEy r20, yEy r21], []⟩ = some (.done (xAf false) [AbC 24 (yAG a0 1048576) (yAw r1), (decide ((r1 : Int) < 0)) = false, AbC 24 (yAG a1 r1) (yAw r2), (decide ((r2 : Int) < 0)) = false, AbC 24 (yAG a2 r2) (yAw r3), (decide ((r3 : Int) < 0)) = false, AbC 26 (yBl a0) (yBb r4), AbC 26 (yBl a1) (yBb r5), AbC 26 (yBl a2) (yBb r6), AbC 68 (xAj r4 r5 r6) (xAc r7), AbC 26 (yBl a0) (yBb r8), AbC 26 (yBl a1) (yBb r9), AbC 26 (yBl a2) (yBb r10), AbC 69 (xAd r8 r9 r10) (xAh r11), AbC 19 (yAr (Val.mk (Val.kind r11.1) (Val.n r11.1) (Val.step r11.1) (Val.text r11.1) [] [] []) r7) (yAm r12), (!r12) = false, AbC 26 (yBl a0) (yBb r13), AbC 19 (yAr r8 r13) (yAm r14), (!r14) = false, AbC 26 (yBl a1) (yBb r15), AbC 19 (yAr r9 r15) (yAm r16), (!r16) = false, AbC 26 (yBl a2) (yBb r17), AbC 19 (yAr r10 r17) (yAm r18), (!r18) = false, AbC 22 (yEx r8 1) (yEy r19), List.length r19.2.1 = List.length (Val.list r8), List.length r19.2.2.1 = List.length (Val.columns r8), List.length r19.2.2.2 = List.length (Val.rows r8), AbC 22 (yEx r9 r19.1) (yEy r20), List.length r20.2.1 = List.length (Val.list r9), List.length r20.2.2.1 = List.length (Val.columns r9), List.length r20.2.2.2 = List.length (Val.rows r9), AbC 22 (yEx r10 r20.1) (yEy r21), List.length r21.2.1 = List.length (Val.list r10), List.length r21.2.2.1 = List.length (Val.columns r10), List.length r21.2.2.2 = List.length (Val.rows r10), (decide ((r21.1 : Int) < 0)) = true, true = true]) := by kernel_rfl
theorem p14_e_8 (a0 a1 a2 : Val) (r1 r2 r3 : Int) (r4 r5 r6 r7 r8 r9 r10 : Val) (r11 : Val × Bool) (r12 : Bool) (r13 : Val) (r14 : Bool) (r15 : Val) (r16 : Bool) (r17 : Val) (r18 : Bool) (r19 : Int × (List Val) × (List Str) × (List Rowd)) (r20 : Int × (List Val) × (List Str) × (List Rowd)) (r21 : Int × (List Val) × (List Str) × (List Rowd)) (r22 : Bool) : run tt (AbsCalls Try.prog) I14 3000 false [.code I14.body] ⟨(zBg 0 (xAe a0 a1 a2)), [false, false, false, false, false, false, false, false, true], [yAw r1, yAw r2, yAw r3, yBb r4, yBb r5, yBb r6, xAc r7, yBb r8, yBb r9, yBb r10, xAh r11, yAm r12, yBb r13, yAm r14, yBb r15, yAm r16, yBb r17, yAm r18, yEy r19, yEy r20, yEy r21, yAm r22], []⟩ = some (.done (xAf false) [AbC 24 (yAG a0 1048576) (yAw r1), (decide ((r1 : Int) < 0)) = false, AbC 24 (yAG a1 r1) (yAw r2), (decide ((r2 : Int) < 0)) = false, AbC 24 (yAG a2 r2) (yAw r3), (decide ((r3 : Int) < 0)) = false, AbC 26 (yBl a0) (yBb r4), AbC 26 (yBl a1) (yBb r5), AbC 26 (yBl a2) (yBb r6), AbC 68 (xAj r4 r5 r6) (xAc r7), AbC 26 (yBl a0) (yBb r8), AbC 26 (yBl a1) (yBb r9), AbC 26 (yBl a2) (yBb r10), AbC 69 (xAd r8 r9 r10) (xAh r11), AbC 19 (yAr (Val.mk (Val.kind r11.1) (Val.n r11.1) (Val.step r11.1) (Val.text r11.1) [] [] []) r7) (yAm r12), (!r12) = false, AbC 26 (yBl a0) (yBb r13), AbC 19 (yAr r8 r13) (yAm r14), (!r14) = false, AbC 26 (yBl a1) (yBb r15), AbC 19 (yAr r9 r15) (yAm r16), (!r16) = false, AbC 26 (yBl a2) (yBb r17), AbC 19 (yAr r10 r17) (yAm r18), (!r18) = false, AbC 22 (yEx r8 1) (yEy r19), List.length r19.2.1 = List.length (Val.list r8), List.length r19.2.2.1 = List.length (Val.columns r8), List.length r19.2.2.2 = List.length (Val.rows r8), AbC 22 (yEx r9 r19.1) (yEy r20), List.length r20.2.1 = List.length (Val.list r9), List.length r20.2.2.1 = List.length (Val.columns r9), List.length r20.2.2.2 = List.length (Val.rows r9), AbC 22 (yEx r10 r20.1) (yEy r21), List.length r21.2.1 = List.length (Val.list r10), List.length r21.2.2.1 = List.length (Val.columns r10), List.length r21.2.2.2 = List.length (Val.rows r10), (decide ((r21.1 : Int) < 0)) = false, AbC 19 (yAr (Val.mk (Val.kind r11.1) (Val.n r11.1) (Val.step r11.1) (Val.text r11.1) [] [] []) r7) (yAm r22), (!r22) = true]) := by kernel_rfl
theorem p14_e_9 (a0 a1 a2 : Val) (r1 r2 r3 : Int) (r4 r5 r6 r7 r8 r9 r10 : Val) (r11 : Val × Bool) (r12 : Bool) (r13 : Val) (r14 : Bool) (r15 : Val) (r16 : Bool) (r17 : Val) (r18 : Bool) (r19 : Int × (List Val) × (List Str) × (List Rowd)) (r20 : Int × (List Val) × (List Str) × (List Rowd)) (r21 : Int × (List Val) × (List Str) × (List Rowd)) (r22 : Bool) (r23 r24 : Int) : run tt (AbsCalls Try.prog) I14 3000 false [.code I14.body] ⟨(zBg 0 (xAe a0 a1 a2)), [false, false, false, false, false, false, false, false, false, true], [yAw r1, yAw r2, yAw r3, yBb r4, yBb r5, yBb r6, xAc r7, yBb r8, yBb r9, yBb r10, xAh r11, yAm r12, yBb r13, yAm r14, yBb r15, yAm r16, yBb r17, yAm r18, yEy r19, yEy r20, yEy r21, yAm r22, xAn r23, yCu r24], []⟩ = some (.done (xAf false) [AbC 24 (yAG a0 1048576) (yAw r1), (decide ((r1 : Int) < 0)) = false, AbC 24 (yAG a1 r1) (yAw r2), (decide ((r2 : Int) < 0)) = false, AbC 24 (yAG a2 r2) (yAw r3), (decide ((r3 : Int) < 0)) = false, AbC 26 (yBl a0) (yBb r4), AbC 26 (yBl a1) (yBb r5), AbC 26 (yBl a2) (yBb r6), AbC 68 (xAj r4 r5 r6) (xAc r7), AbC 26 (yBl a0) (yBb r8), AbC 26 (yBl a1) (yBb r9), AbC 26 (yBl a2) (yBb r10), AbC 69 (xAd r8 r9 r10) (xAh r11), AbC 19 (yAr (Val.mk (Val.kind r11.1) (Val.n r11.1) (Val.step r11.1) (Val.text r11.1) [] [] []) r7) (yAm r12), (!r12) = false, AbC 26 (yBl a0) (yBb r13), AbC 19 (yAr r8 r13) (yAm r14), (!r14) = false, AbC 26 (yBl a1) (yBb r15), AbC 19 (yAr r9 r15) (yAm r16), (!r16) = false, AbC 26 (yBl a2) (yBb r17), AbC 19 (yAr r10 r17) (yAm r18), (!r18) = false, AbC 22 (yEx r8 1) (yEy r19), List.length r19.2.1 = List.length (Val.list r8), List.length r19.2.2.1 = List.length (Val.columns r8), List.length r19.2.2.2 = List.length (Val.rows r8), AbC 22 (yEx r9 r19.1) (yEy r20), List.length r20.2.1 = List.length (Val.list r9), List.length r20.2.2.1 = List.length (Val.columns r9), List.length r20.2.2.2 = List.length (Val.rows r9), AbC 22 (yEx r10 r20.1) (yEy r21), List.length r21.2.1 = List.length (Val.list r10), List.length r21.2.2.1 = List.length (Val.columns r10), List.length r21.2.2.2 = List.length (Val.rows r10), (decide ((r21.1 : Int) < 0)) = false, AbC 19 (yAr (Val.mk (Val.kind r11.1) (Val.n r11.1) (Val.step r11.1) (Val.text r11.1) [] [] []) r7) (yAm r22), (!r22) = false, AbC 22 (xAo (Val.mk (Val.kind r11.1) (Val.n r11.1) (Val.step r11.1) (Val.text r11.1) [] [] []) 1) (xAn r23), AbC 23 (yCt (Val.mk (Val.kind r11.1) (Val.n r11.1) (Val.step r11.1) (Val.text r11.1) [] [] []) 1) (yCu r24), (decide ((r24 : Int) < 0)) = true]) := by kernel_rfl
theorem p14_e_10 (a0 a1 a2 : Val) (r1 r2 r3 : Int) (r4 r5 r6 r7 r8 r9 r10 : Val) (r11 : Val × Bool) (r12 : Bool) (r13 : Val) (r14 : Bool) (r15 : Val) (r16 : Bool) (r17 : Val) (r18 : Bool) (r19 : Int × (List Val) × (List Str) × (List Rowd)) (r20 : Int × (List Val) × (List Str) × (List Rowd)) (r21 : Int × (List Val) × (List Str) × (List Rowd)) (r22 : Bool) (r23 r24 : Int) : run tt (AbsCalls Try.prog) I14 3000 false [.code I14.body] ⟨(zBg 0 (xAe a0 a1 a2)), [false, false, false, false, false, false, false, false, false, false, true], [yAw r1, yAw r2, yAw r3, yBb r4, yBb r5, yBb r6, xAc r7, yBb r8, yBb r9, yBb r10, xAh r11, yAm r12, yBb r13, yAm r14, yBb r15, yAm r16, yBb r17, yAm r18, yEy r19, yEy r20, yEy r21, yAm r22, xAn r23, yCu r24], []⟩ = some (.done (xAf false) [AbC 24 (yAG a0 1048576) (yAw r1), (decide ((r1 : Int) < 0)) = false, AbC 24 (yAG a1 r1) (yAw r2), (decide ((r2 : Int) < 0)) = false, AbC 24 (yAG a2 r2) (yAw r3), (decide ((r3 : Int) < 0)) = false, AbC 26 (yBl a0) (yBb r4), AbC 26 (yBl a1) (yBb r5), AbC 26 (yBl a2) (yBb r6), AbC 68 (xAj r4 r5 r6) (xAc r7), AbC 26 (yBl a0) (yBb r8), AbC 26 (yBl a1) (yBb r9), AbC 26 (yBl a2) (yBb r10), AbC 69 (xAd r8 r9 r10) (xAh r11), AbC 19 (yAr (Val.mk (Val.kind r11.1) (Val.n r11.1) (Val.step r11.1) (Val.text r11.1) [] [] []) r7) (yAm r12), (!r12) = false, AbC 26 (yBl a0) (yBb r13), AbC 19 (yAr r8 r13) (yAm r14), (!r14) = false, AbC 26 (yBl a1) (yBb r15), AbC 19 (yAr r9 r15) (yAm r16), (!r16) = false, AbC 26 (yBl a2) (yBb r17), AbC 19 (yAr r10 r17) (yAm r18), (!r18) = false, AbC 22 (yEx r8 1) (yEy r19), List.length r19.2.1 = List.length (Val.list r8), List.length r19.2.2.1 = List.length (Val.columns r8), List.length r19.2.2.2 = List.length (Val.rows r8), AbC 22 (yEx r9 r19.1) (yEy r20), List.length r20.2.1 = List.length (Val.list r9), List.length r20.2.2.1 = List.length (Val.columns r9), List.length r20.2.2.2 = List.length (Val.rows r9), AbC 22 (yEx r10 r20.1) (yEy r21), List.length r21.2.1 = List.length (Val.list r10), List.length r21.2.2.1 = List.length (Val.columns r10), List.length r21.2.2.2 = List.length (Val.rows r10), (decide ((r21.1 : Int) < 0)) = false, AbC 19 (yAr (Val.mk (Val.kind r11.1) (Val.n r11.1) (Val.step r11.1) (Val.text r11.1) [] [] []) r7) (yAm r22), (!r22) = false, AbC 22 (xAo (Val.mk (Val.kind r11.1) (Val.n r11.1) (Val.step r11.1) (Val.text r11.1) [] [] []) 1) (xAn r23), AbC 23 (yCt (Val.mk (Val.kind r11.1) (Val.n r11.1) (Val.step r11.1) (Val.text r11.1) [] [] []) 1) (yCu r24), (decide ((r24 : Int) < 0)) = false, ((r24 : Int) != r23) = true]) := by kernel_rfl
theorem p14_e_11 (a0 a1 a2 : Val) (r1 r2 r3 : Int) (r4 r5 r6 r7 r8 r9 r10 : Val) (r11 : Val × Bool) (r12 : Bool) (r13 : Val) (r14 : Bool) (r15 : Val) (r16 : Bool) (r17 : Val) (r18 : Bool) (r19 : Int × (List Val) × (List Str) × (List Rowd)) (r20 : Int × (List Val) × (List Str) × (List Rowd)) (r21 : Int × (List Val) × (List Str) × (List Rowd)) (r22 : Bool) (r23 r24 : Int) (r25 r26 r27 : Val) (r28 : Val × Bool) (r29 : Bool) : run tt (AbsCalls Try.prog) I14 3000 false [.code I14.body] ⟨(zBg 0 (xAe a0 a1 a2)), [false, false, false, false, false, false, false, false, false, false, false, true], [yAw r1, yAw r2, yAw r3, yBb r4, yBb r5, yBb r6, xAc r7, yBb r8, yBb r9, yBb r10, xAh r11, yAm r12, yBb r13, yAm r14, yBb r15, yAm r16, yBb r17, yAm r18, yEy r19, yEy r20, yEy r21, yAm r22, xAn r23, yCu r24, yBb r25, yBb r26, yBb r27, xAh r28, yAm r29], []⟩ = some (.done (xAf false) [AbC 24 (yAG a0 1048576) (yAw r1), (decide ((r1 : Int) < 0)) = false, AbC 24 (yAG a1 r1) (yAw r2), (decide ((r2 : Int) < 0)) = false, AbC 24 (yAG a2 r2) (yAw r3), (decide ((r3 : Int) < 0)) = false, AbC 26 (yBl a0) (yBb r4), AbC 26 (yBl a1) (yBb r5), AbC 26 (yBl a2) (yBb r6), AbC 68 (xAj r4 r5 r6) (xAc r7), AbC 26 (yBl a0) (yBb r8), AbC 26 (yBl a1) (yBb r9), AbC 26 (yBl a2) (yBb r10), AbC 69 (xAd r8 r9 r10) (xAh r11), AbC 19 (yAr (Val.mk (Val.kind r11.1) (Val.n r11.1) (Val.step r11.1) (Val.text r11.1) [] [] []) r7) (yAm r12), (!r12) = false, AbC 26 (yBl a0) (yBb r13), AbC 19 (yAr r8 r13) (yAm r14), (!r14) = false, AbC 26 (yBl a1) (yBb r15), AbC 19 (yAr r9 r15) (yAm r16), (!r16) = false, AbC 26 (yBl a2) (yBb r17), AbC 19 (yAr r10 r17) (yAm r18), (!r18) = false, AbC 22 (yEx r8 1) (yEy r19), List.length r19.2.1 = List.length (Val.list r8), List.length r19.2.2.1 = List.length (Val.columns r8), List.length r19.2.2.2 = List.length (Val.rows r8), AbC 22 (yEx r9 r19.1) (yEy r20), List.length r20.2.1 = List.length (Val.list r9), List.length r20.2.2.1 = List.length (Val.columns r9), List.length r20.2.2.2 = List.length (Val.rows r9), AbC 22 (yEx r10 r20.1) (yEy r21), List.length r21.2.1 = List.length (Val.list r10), List.length r21.2.2.1 = List.length (Val.columns r10), List.length r21.2.2.2 = List.length (Val.rows r10), (decide ((r21.1 : Int) < 0)) = false, AbC 19 (yAr (Val.mk (Val.kind r11.1) (Val.n r11.1) (Val.step r11.1) (Val.text r11.1) [] [] []) r7) (yAm r22), (!r22) = false, AbC 22 (xAo (Val.mk (Val.kind r11.1) (Val.n r11.1) (Val.step r11.1) (Val.text r11.1) [] [] []) 1) (xAn r23), AbC 23 (yCt (Val.mk (Val.kind r11.1) (Val.n r11.1) (Val.step r11.1) (Val.text r11.1) [] [] []) 1) (yCu r24), (decide ((r24 : Int) < 0)) = false, ((r24 : Int) != r23) = false, AbC 26 (yBl a0) (yBb r25), AbC 26 (yBl a1) (yBb r26), AbC 26 (yBl a2) (yBb r27), AbC 69 (xAd r25 r26 r27) (xAh r28), AbC 19 (yAr (Val.mk (Val.kind r28.1) (Val.n r28.1) (Val.step r28.1) (Val.text r28.1) [] [] []) r7) (yAm r29), (!r29) = true]) := by kernel_rfl
theorem p14_e_12 (a0 a1 a2 : Val) (r1 r2 r3 : Int) (r4 r5 r6 r7 r8 r9 r10 : Val) (r11 : Val × Bool) (r12 : Bool) (r13 : Val) (r14 : Bool) (r15 : Val) (r16 : Bool) (r17 : Val) (r18 : Bool) (r19 : Int × (List Val) × (List Str) × (List Rowd)) (r20 : Int × (List Val) × (List Str) × (List Rowd)) (r21 : Int × (List Val) × (List Str) × (List Rowd)) (r22 : Bool) (r23 r24 : Int) (r25 r26 r27 : Val) (r28 : Val × Bool) (r29 : Bool) (r30 : Int) : run tt (AbsCalls Try.prog) I14 3000 false [.code I14.body] ⟨(zBg 0 (xAe a0 a1 a2)), [false, false, false, false, false, false, false, false, false, false, false, false, true], [yAw r1, yAw r2, yAw r3, yBb r4, yBb r5, yBb r6, xAc r7, yBb r8, yBb r9, yBb r10, xAh r11, yAm r12, yBb r13, yAm r14, yBb r15, yAm r16, yBb r17, yAm r18, yEy r19, yEy r20, yEy r21, yAm r22, xAn r23, yCu r24, yBb r25, yBb r26, yBb r27, xAh r28, yAm r29, yCu r30], []⟩ = some (.done (xAf false) [AbC 24 (yAG a0 1048576) (yAw r1), (decide ((r1 : Int) < 0)) = false, AbC 24 (yAG a1 r1) (yAw r2), (decide ((r2 : Int) < 0)) = false, AbC 24 (yAG a2 r2) (yAw r3), (decide ((r3 : Int) < 0)) = false, AbC 26 (yBl a0) (yBb r4), AbC 26 (yBl a1) (yBb r5), AbC 26 (yBl a2) (yBb r6), AbC 68 (xAj r4 r5 r6) (xAc r7), AbC 26 (yBl a0) (yBb r8), AbC 26 (yBl a1) (yBb r9), AbC 26 (yBl a2) (yBb r10), AbC 69 (xAd r8 r9 r10) (xAh r11), AbC 19 (yAr (Val.mk (Val.kind r11.1) (Val.n r11.1) (Val.step r11.1) (Val.text r11.1) [] [] []) r7) (yAm r12), (!r12) = false, AbC 26 (yBl a0) (yBb r13), AbC 19 (yAr r8 r13) (yAm r14), (!r14) = false, AbC 26 (yBl a1) (yBb r15), AbC 19 (yAr r9 r15) (yAm r16), (!r16) = false, AbC 26 (yBl a2) (yBb r17), AbC 19 (yAr r10 r17) (yAm r18), (!r18) = false, AbC 22 (yEx r8 1) (yEy r19), List.length r19.2.1 = List.length (Val.list r8), List.length r19.2.2.1 = List.length (Val.columns r8), List.length r19.2.2.2 = List.length (Val.rows r8), AbC 22 (yEx r9 r19.1) (yEy r20), List.length r20.2.1 = List.length (Val.list r9), List.length r20.2.2.1 = List.length (Val.columns r9), List.length r20.2.2.2 = List.length (Val.rows r9), AbC 22 (yEx r10 r20.1) (yEy r21), List.length r21.2.1 = List.length (Val.list r10), List.length r21.2.2.1 = List.length (Val.columns r10), List.length r21.2.2.2 = List.length (Val.rows r10), (decide ((r21.1 : Int) < 0)) = false, AbC 19 (yAr (Val.mk (Val.kind r11.1) (Val.n r11.1) (Val.step r11.1) (Val.text r11.1) [] [] []) r7) (yAm r22), (!r22) = false, AbC 22 (xAo (Val.mk (Val.kind r11.1) (Val.n r11.1) (Val.step r11.1) (Val.text r11.1) [] [] []) 1) (xAn r23), AbC 23 (yCt (Val.mk (Val.kind r11.1) (Val.n r11.1) (Val.step r11.1) (Val.text r11.1) [] [] []) 1) (yCu r24), (decide ((r24 : Int) < 0)) = false, ((r24 : Int) != r23) = false, AbC 26 (yBl a0) (yBb r25), AbC 26 (yBl a1) (yBb r26), AbC 26 (yBl a2) (yBb r27), AbC 69 (xAd r25 r26 r27) (xAh r28), AbC 19 (yAr (Val.mk (Val.kind r28.1) (Val.n r28.1) (Val.step r28.1) (Val.text r28.1) [] [] []) r7) (yAm r29), (!r29) = false, AbC 23 (yCt (Val.mk (Val.kind r11.1) (Val.n r11.1) (Val.step r11.1) (Val.text r11.1) [] [] []) 1) (yCu r30), (decide ((r30 : Int) < 0)) = true]) := by kernel_rfl
theorem p14_e_13 (a0 a1 a2 : Val) (r1 r2 r3 : Int) (r4 r5 r6 r7 r8 r9 r10 : Val) (r11 : Val × Bool) (r12 : Bool) (r13 : Val) (r14 : Bool) (r15 : Val) (r16 : Bool) (r17 : Val) (r18 : Bool) (r19 : Int × (List Val) × (List Str) × (List Rowd)) (r20 : Int × (List Val) × (List Str) × (List Rowd)) (r21 : Int × (List Val) × (List Str) × (List Rowd)) (r22 : Bool) (r23 r24 : Int) (r25 r26 r27 : Val) (r28 : Val × Bool) (r29 : Bool) (r30 : Int) : run tt (AbsCalls Try.prog) I14 3000 false [.code I14.body] ⟨(zBg 0 (xAe a0 a1 a2)), [false, false, false, false, false, false, false, false, false, false, false, false, false, true], [yAw r1, yAw r2, yAw r3, yBb r4, yBb r5, yBb r6, xAc r7, yBb r8, yBb r9, yBb r10, xAh r11, yAm r12, yBb r13, yAm r14, yBb r15, yAm r16, yBb r17, yAm r18, yEy r19, yEy r20, yEy r21, yAm r22, xAn r23, yCu r24, yBb r25, yBb r26, yBb r27, xAh r28, yAm r29, yCu r30], []⟩ = some (.done (xAf false) [AbC 24 (yAG a0 1048576) (yAw r1), (decide ((r1 : Int) < 0)) = false, AbC 24 (yAG a1 r1) (yAw r2), (decide ((r2 : Int) < 0)) = false, AbC 24 (yAG a2 r2) (yAw r3), (decide ((r3 : Int) < 0)) = false, AbC 26 (yBl a0) (yBb r4), AbC 26 (yBl a1) (yBb r5), AbC 26 (yBl a2) (yBb r6), AbC 68 (xAj r4 r5 r6) (xAc r7), AbC 26 (yBl a0) (yBb r8), AbC 26 (yBl a1) (yBb r9), AbC 26 (yBl a2) (yBb r10), AbC 69 (xAd r8 r9 r10) (xAh r11), AbC 19 (yAr (Val.mk (Val.kind r11.1) (Val.n r11.1) (Val.step r11.1) (Val.text r11.1) [] [] []) r7) (yAm r12), (!r12) = false, AbC 26 (yBl a0) (yBb r13), AbC 19 (yAr r8 r13) (yAm r14), (!r14) = false, AbC 26 (yBl a1) (yBb r15), AbC 19 (yAr r9 r15) (yAm r16), (!r16) = false, AbC 26 (yBl a2) (yBb r17), AbC 19 (yAr r10 r17) (yAm r18), (!r18) = false, AbC 22 (yEx r8 1) (yEy r19), List.length r19.2.1 = List.length (Val.list r8), List.length r19.2.2.1 = List.length (Val.columns r8), List.length r19.2.2.2 = List.length (Val.rows r8), AbC 22 (yEx r9 r19.1) (yEy r20), List.length r20.2.1 = List.length (Val.list r9), List.length r20.2.2.1 = List.length (Val.columns r9), List.length r20.2.2.2 = List.length (Val.rows r9), AbC 22 (yEx r10 r20.1) (yEy r21), List.length r21.2.1 = List.length (Val.list r10), List.length r21.2.2.1 = List.length (Val.columns r10), List.length r21.2.2.2 = List.length (Val.rows r10), (decide ((r21.1 : Int) < 0)) = false, AbC 19 (yAr (Val.mk (Val.kind r11.1) (Val.n r11.1) (Val.step r11.1) (Val.text r11.1) [] [] []) r7) (yAm r22), (!r22) = false, AbC 22 (xAo (Val.mk (Val.kind r11.1) (Val.n r11.1) (Val.step r11.1) (Val.text r11.1) [] [] []) 1) (xAn r23), AbC 23 (yCt (Val.mk (Val.kind r11.1) (Val.n r11.1) (Val.step r11.1) (Val.text r11.1) [] [] []) 1) (yCu r24), (decide ((r24 : Int) < 0)) = false, ((r24 : Int) != r23) = false, AbC 26 (yBl a0) (yBb r25), AbC 26 (yBl a1) (yBb r26), AbC 26 (yBl a2) (yBb r27), AbC 69 (xAd r25 r26 r27) (xAh r28), AbC 19 (yAr (Val.mk (Val.kind r28.1) (Val.n r28.1) (Val.step r28.1) (Val.text r28.1) [] [] []) r7) (yAm r29), (!r29) = false, AbC 23 (yCt (Val.mk (Val.kind r11.1) (Val.n r11.1) (Val.step r11.1) (Val.text r11.1) [] [] []) 1) (yCu r30), (decide ((r30 : Int) < 0)) = false, ((r30 : Int) != r23) = true]) := by kernel_rfl
theorem p14_e_14 (a0 a1 a2 : Val) (r1 r2 r3 : Int) (r4 r5 r6 r7 r8 r9 r10 : Val) (r11 : Val × Bool) (r12 : Bool) (r13 : Val) (r14 : Bool) (r15 : Val) (r16 : Bool) (r17 : Val) (r18 : Bool) (r19 : Int × (List Val) × (List Str) × (List Rowd)) (r20 : Int × (List Val) × (List Str) × (List Rowd)) (r21 : Int × (List Val) × (List Str) × (List Rowd)) (r22 : Bool) (r23 r24 : Int) (r25 r26 r27 : Val) (r28 : Val × Bool) (r29 : Bool) (r30 : Int) : run tt (AbsCalls Try.prog) I14 3000 false [.code I14.body] ⟨(zBg 0 (xAe a0 a1 a2)), [false, false, false, false, false, false, false, false, false, false, false, false, false, false], [yAw r1, yAw r2, yAw r3, yBb r4, yBb r5, yBb r6, xAc r7, yBb r8, yBb r9, yBb r10, xAh r11, yAm r12, yBb r13, yAm r14, yBb r15, yAm r16, yBb r17, yAm r18, yEy r19, yEy r20, yEy r21, yAm r22, xAn r23, yCu r24, yBb r25, yBb r26, yBb r27, xAh r28, yAm r29, yCu r30], []⟩ = some (.done (xAf true) [AbC 24 (yAG a0 1048576) (yAw r1), (decide ((r1 : Int) < 0)) = false, AbC 24 (yAG a1 r1) (yAw r2), (decide ((r2 : Int) < 0)) = false, AbC 24 (yAG a2 r2) (yAw r3), (decide ((r3 : Int) < 0)) = false, AbC 26 (yBl a0) (yBb r4), AbC 26 (yBl a1) (yBb r5), AbC 26 (yBl a2) (yBb r6), AbC 68 (xAj r4 r5 r6) (xAc r7), AbC 26 (yBl a0) (yBb r8), AbC 26 (yBl a1) (yBb r9), AbC 26 (yBl a2) (yBb r10), AbC 69 (xAd r8 r9 r10) (xAh r11), AbC 19 (yAr (Val.mk (Val.kind r11.1) (Val.n r11.1) (Val.step r11.1) (Val.text r11.1) [] [] []) r7) (yAm r12), (!r12) = false, AbC 26 (yBl a0) (yBb r13), AbC 19 (yAr r8 r13) (yAm r14), (!r14) = false, AbC 26 (yBl a1) (yBb r15), AbC 19 (yAr r9 r15) (yAm r16), (!r16) = false, AbC 26 (yBl a2) (yBb r17), AbC 19 (yAr r10 r17) (yAm r18), (!r18) = false, AbC 22 (yEx r8 1) (yEy r19), List.length r19.2.1 = List.length (Val.list r8), List.length r19.2.2.1 = List.length (Val.columns r8), List.length r19.2.2.2 = List.length (Val.rows r8), AbC 22 (yEx r9 r19.1) (yEy r20), List.length r20.2.1 = List.length (Val.list r9), List.length r20.2.2.1 = List.length (Val.columns r9), List.length r20.2.2.2 = List.length (Val.rows r9), AbC 22 (yEx r10 r20.1) (yEy r21), List.length r21.2.1 = List.length (Val.list r10), List.length r21.2.2.1 = List.length (Val.columns r10), List.length r21.2.2.2 = List.length (Val.rows r10), (decide ((r21.1 : Int) < 0)) = false, AbC 19 (yAr (Val.mk (Val.kind r11.1) (Val.n r11.1) (Val.step r11.1) (Val.text r11.1) [] [] []) r7) (yAm r22), (!r22) = false, AbC 22 (xAo (Val.mk (Val.kind r11.1) (Val.n r11.1) (Val.step r11.1) (Val.text r11.1) [] [] []) 1) (xAn r23), AbC 23 (yCt (Val.mk (Val.kind r11.1) (Val.n r11.1) (Val.step r11.1) (Val.text r11.1) [] [] []) 1) (yCu r24), (decide ((r24 : Int) < 0)) = false, ((r24 : Int) != r23) = false, AbC 26 (yBl a0) (yBb r25), AbC 26 (yBl a1) (yBb r26), AbC 26 (yBl a2) (yBb r27), AbC 69 (xAd r25 r26 r27) (xAh r28), AbC 19 (yAr (Val.mk (Val.kind r28.1) (Val.n r28.1) (Val.step r28.1) (Val.text r28.1) [] [] []) r7) (yAm r29), (!r29) = false, AbC 23 (yCt (Val.mk (Val.kind r11.1) (Val.n r11.1) (Val.step r11.1) (Val.text r11.1) [] [] []) 1) (yCu r30), (decide ((r30 : Int) < 0)) = false, ((r30 : Int) != r23) = false]) := by kernel_rfl
theorem p14_e_15 (a0 a1 a2 : Val) (r1 r2 r3 : Int) (r4 r5 r6 r7 r8 r9 r10 : Val) (r11 : Val × Bool) (r12 : Bool) (r13 : Val) (r14 : Bool) (r15 : Val) (r16 : Bool) (r17 : Val) (r18 : Bool) (r19 : Int × (List Val) × (List Str) × (List Rowd)) (r20 : Int × (List Val) × (List Str) × (List Rowd)) (r21 : Int × (List Val) × (List Str) × (List Rowd)) (r22 : Bool) (r23 r24 : Int) (r25 r26 r27 : Val) (r28 : Val × Bool) (r29 : Bool) : run tt (AbsCalls Try.prog) I14 3000 false [.code I14.body] ⟨(zBg 0 (xAe a0 a1 a2)), [false, false, false, false, false, false, false, false, false, false, false, true], [yAw r1, yAw r2, yAw r3, yBb r4, yBb r5, yBb r6, xAc r7, yBb r8, yBb r9, yBb r10, xAh r11, yAm r12, yBb r13, yAm r14, yBb r15, yAm r16, yBb r17, yAm r18, yEy r19, yEy r20, yEy r21, yAm r22, xAn r23, yCu r24, yBb r25, yBb r26, yBb r27, xAg r28, yAm r29], []⟩ = some (.done (xAf false) [AbC 24 (yAG a0 1048576) (yAw r1), (decide ((r1 : Int) < 0)) = false, AbC 24 (yAG a1 r1) (yAw r2), (decide ((r2 : Int) < 0)) = false, AbC 24 (yAG a2 r2) (yAw r3), (decide ((r3 : Int) < 0)) = false, AbC 26 (yBl a0) (yBb r4), AbC 26 (yBl a1) (yBb r5), AbC 26 (yBl a2) (yBb r6), AbC 68 (xAj r4 r5 r6) (xAc r7), AbC 26 (yBl a0) (yBb r8), AbC 26 (yBl a1) (yBb r9), AbC 26 (yBl a2) (yBb r10), AbC 69 (xAd r8 r9 r10) (xAh r11), AbC 19 (yAr (Val.mk (Val.kind r11.1) (Val.n r11.1) (Val.step r11.1) (Val.text r11.1) [] [] []) r7) (yAm r12), (!r12) = false, AbC 26 (yBl a0) (yBb r13), AbC 19 (yAr r8 r13) (yAm r14), (!r14) = false, AbC 26 (yBl a1) (yBb r15), AbC 19 (yAr r9 r15) (yAm r16), (!r16) = false, AbC 26 (yBl a2) (yBb r17), AbC 19 (yAr r10 r17) (yAm r18), (!r18) = false, AbC 22 (yEx r8 1) (yEy r19), List.length r19.2.1 = List.length (Val.list r8), List.length r19.2.2.1 = List.length (Val.columns r8), List.length r19.2.2.2 = List.length (Val.rows r8), AbC 22 (yEx r9 r19.1) (yEy r20), List.length r20.2.1 = List.length (Val.list r9), List.length r20.2.2.1 = List.length (Val.columns r9), List.length r20.2.2.2 = List.length (Val.rows r9), AbC 22 (yEx r10 r20.1) (yEy r21), List.length r21.2.1 = List.length (Val.list r10), List.length r21.2.2.1 = List.length (Val.columns r10), List.length r21.2.2.2 = List.length (Val.rows r10), (decide ((r21.1 : Int) < 0)) = false, AbC 19 (yAr (Val.mk (Val.kind r11.1) (Val.n r11.1) (Val.step r11.1) (Val.text r11.1) [] [] []) r7) (yAm r22), (!r22) = false, AbC 22 (xAo (Val.mk (Val.kind r11.1) (Val.n r11.1) (Val.step r11.1) (Val.text r11.1) [] [] []) 1) (xAn r23), AbC 23 (yCt (Val.mk (Val.kind r11.1) (Val.n r11.1) (Val.step r11.1) (Val.text r11.1) [] [] []) 1) (yCu r24), (decide ((r24 : Int) < 0)) = false, ((r24 : Int) != r23) = false, AbC 26 (yBl a0) (yBb r25), AbC 26 (yBl a1) (yBb r26), AbC 26 (yBl a2) (yBb r27), AbC 69 (xAd r25 r26 r27) (xAg r28), AbC 19 (yAr r28.1 r7) (yAm r29), (!r29) = true]) := by kernel_rfl
theorem p14_e_16 (a0 a1 a2 : Val) (r1 r2 r3 : Int) (r4 r5 r6 r7 r8 r9 r10 : Val) (r11 : Val × Bool) (r12 : Bool) (r13 : Val) (r14 : Bool) (r15 : Val) (r16 : Bool) (r17 : Val) (r18 : Bool) (r19 : Int × (List Val) × (List Str) × (List Rowd)) (r20 : Int × (List Val) × (List Str) × (List Rowd)) (r21 : Int × (List Val) × (List Str) × (List Rowd)) (r22 : Bool) (r23 r24 : Int) (r25 r26 r27 : Val) (r28 : Val × Bool) (r29 : Bool) (r30 : Int) : run tt (AbsCalls Try.prog) I14 3000 false [.code I14.body] ⟨(zBg 0 (xAe a0 a1 a2)), [false, false, false, false, false, false, false, false, false, false, false, false, true], [yAw r1, yAw r2, yAw r3, yBb r4, yBb r5, yBb r6, xAc r7, yBb r8, yBb r9, yBb r10, xAh r11, yAm r12, yBb r13, yAm r14, yBb r15, yAm r16, yBb r17, yAm r18, yEy r19, yEy r20, yEy r21, yAm r22, xAn r23, yCu r24, yBb r25, yBb r26, yBb r27, xAg r28, yAm r29, yCu r30], []⟩ = some (.done (xAf false) [AbC 24 (yAG a0 1048576) (yAw r1), (decide ((r1 : Int) < 0)) = false, AbC 24 (yAG a1 r1) (yAw r2), (decide ((r2 : Int) < 0)) = false, AbC 24 (yAG a2 r2) (yAw r3), (decide ((r3 : Int) < 0)) = false, AbC 26 (yBl a0) (yBb r4), AbC 26 (yBl a1) (yBb r5), AbC 26 (yBl a2) (yBb r6), AbC 68 (xAj r4 r5 r6) (xAc r7), AbC 26 (yBl a0) (yBb r8), AbC 26 (yBl a1) (yBb r9), AbC 26 (yBl a2) (yBb r10), AbC 69 (xAd r8 r9 r10) (xAh r11), AbC 19 (yAr (Val.mk (Val.kind r11.1) (Val.n r11.1) (Val.step r11.1) (Val.text r11.1) [] [] []) r7) (yAm r12), (!r12) = false, AbC 26 (yBl a0) (yBb r13), AbC 19 (yAr r8 r13) (yAm r14), (!r14) = false, AbC 26 (yBl a1) (yBb r15), AbC 19 (yAr r9 r15) (yAm r16), (!r16) = false, AbC 26 (yBl a2) (yBb r17), AbC 19 (yAr r10 r17) (yAm r18), (!r18) = false, AbC 22 (yEx r8 1) (yEy r19), List.length r19.2.1 = List.length (Val.list r8), List.length r19.2.2.1 = List.length (Val.columns r8), List.length r19.2.2.2 = List.length (Val.rows r8), AbC 22 (yEx r9 r19.1) (yEy r20), List.length r20.2.1 = List.length (Val.list r9), List.length r20.2.2.1 = List.length (Val.columns r9), List.length r20.2.2.2 = List.length (Val.rows r9), AbC 22 (yEx r10 r20.1) (yEy r21), List.length r21.2.1 = List.length (Val.list r10), List.length r21.2.2.1 = List.length (Val.columns r10), List.length r21.2.2.2 = List.length (Val.rows r10), (decide ((r21.1 : Int) < 0)) = false, AbC 19 (yAr (Val.mk (Val.kind r11.1) (Val.n r11.1) (Val.step r11.1) (Val.text r11.1) [] [] []) r7) (yAm r22), (!r22) = false, AbC 22 (xAo (Val.mk (Val.kind r11.1) (Val.n r11.1) (Val.step r11.1) (Val.text r11.1) [] [] []) 1) (xAn r23), AbC 23 (yCt (Val.mk (Val.kind r11.1) (Val.n r11.1) (Val.step r11.1) (Val.text r11.1) [] [] []) 1) (yCu r24), (decide ((r24 : Int) < 0)) = false, ((r24 : Int) != r23) = false, AbC 26 (yBl a0) (yBb r25), AbC 26 (yBl a1) (yBb r26), AbC 26 (yBl a2) (yBb r27), AbC 69 (xAd r25 r26 r27) (xAg r28), AbC 19 (yAr r28.1 r7) (yAm r29), (!r29) = false, AbC 23 (yCt (Val.mk (Val.kind r11.1) (Val.n r11.1) (Val.step r11.1) (Val.text r11.1) [] [] []) 1) (yCu r30), (decide ((r30 : Int) < 0)) = true]) := by kernel_rfl
theorem p14_e_17 (a0 a1 a2 : Val) (r1 r2 r3 : Int) (r4 r5 r6 r7 r8 r9 r10 : Val) (r11 : Val × Bool) (r12 : Bool) (r13 : Val) (r14 : Bool) (r15 : Val) (r16 : Bool) (r17 : Val) (r18 : Bool) (r19 : Int × (List Val) × (List Str) × (List Rowd)) (r20 : Int × (List Val) × (List Str) × (List Rowd)) (r21 : Int × (List Val) × (List Str) × (List Rowd)) (r22 : Bool) (r23 r24 : Int) (r25 r26 r27 : Val) (r28 : Val × Bool) (r29 : Bool) (r30 : Int) : run tt (AbsCalls Try.prog) I14 3000 false [.code I14.body] ⟨(zBg 0 (xAe a0 a1 a2)), [false, false, false, false, false, false, false, false, false, false, false, false, false, true], [yAw r1, yAw r2, yAw r3, yBb r4, yBb r5, yBb r6, xAc r7, yBb r8, yBb r9, yBb r10, xAh r11, yAm r12, yBb r13, yAm r14, yBb r15, yAm r16, yBb r17, yAm r18, yEy r19, yEy r20, yEy r21, yAm r22, xAn r23, yCu r24, yBb r25, yBb r26, yBb r27, xAg r28, yAm r29, yCu r30], []⟩ = some (.done (xAf false) [AbC 24 (yAG a0 1048576) (yAw r1), (decide ((r1 : Int) < 0)) = false, AbC 24 (yAG a1 r1) (yAw r2), (decide ((r2 : Int) < 0)) = false, AbC 24 (yAG a2 r2) (yAw r3), (decide ((r3 : Int) < 0)) = false, AbC 26 (yBl a0) (yBb r4), AbC 26 (yBl a1) (yBb r5), AbC 26 (yBl a2) (yBb r6), AbC 68 (xAj r4 r5 r6) (xAc r7), AbC 26 (yBl a0) (yBb r8), AbC 26 (yBl a1) (yBb r9), AbC 26 (yBl a2) (yBb r10), AbC 69 (xAd r8 r9 r10) (xAh r11), AbC 19 (yAr (Val.mk (Val.kind r11.1) (Val.n r11.1) (Val.step r11.1) (Val.text r11.1) [] [] []) r7) (yAm r12), (!r12) = false, AbC 26 (yBl a0) (yBb r13), AbC 19 (yAr r8 r13) (yAm r14), (!r14) = false, AbC 26 (yBl a1) (yBb r15), AbC 19 (yAr r9 r15) (yAm r16), (!r16) = false, AbC 26 (yBl a2) (yBb r17), AbC 19 (yAr r10 r17) (yAm r18), (!r18) = false, AbC 22 (yEx r8 1) (yEy r19), List.length r19.2.1 = List.length (Val.list r8), List.length r19.2.2.1 = List.length (Val.columns r8), List.length r19.2.2.2 = List.length (Val.rows r8), AbC 22 (yEx r9 r19.1) (yEy r20), List.length r20.2.1 = List.length (Val.list r9), List.length r20.2.2.1 = List.length (Val.columns r9), List.length r20.2.2.2 = List.length (Val.rows r9), AbC 22 (yEx r10 r20.1) (yEy r21), List.length r21.2.1 = List.length (Val.list r10), List.length r21.2.2.1 = List.length (Val.columns r10), List.length r21.2.2.2 = List.length (Val.rows r10), (decide ((r21.1 : Int) < 0)) = false, AbC 19 (yAr (Val.mk (Val.kind r11.1) (Val.n r11.1) (Val.step r11.1) (Val.text r11.1) [] [] []) r7) (yAm r22), (!r22) = false, AbC 22 (xAo (Val.mk (Val.kind r11.1) (Val.n r11.1) (Val.step r11.1) (Val.text r11.1) [] [] []) 1) (xAn r23), AbC 23 (yCt (Val.mk (Val.kind r11.1) (Val.n r11.1) (Val.step r11.1) (Val.text r11.1) [] [] []) 1) (yCu r24), (decide ((r24 : Int) < 0)) = false, ((r24 : Int) != r23) = false, AbC 26 (yBl a0) (yBb r25), AbC 26 (yBl a1) (yBb r26), AbC 26 (yBl a2) (yBb r27), AbC 69 (xAd r25 r26 r27) (xAg r28), AbC 19 (yAr r28.1 r7) (yAm r29), (!r29) = false, AbC 23 (yCt (Val.mk (Val.kind r11.1) (Val.n r11.1) (Val.step r11.1) (Val.text r11.1) [] [] []) 1) (yCu r30), (decide ((r30 : Int) < 0)) = false, ((r30 : Int) != r23) = true]) := by kernel_rfl
theorem p14_e_18 (a0 a1 a2 : Val) (r1 r2 r3 : Int) (r4 r5 r6 r7 r8 r9 r10 : Val) (r11 : Val × Bool) (r12 : Bool) (r13 : Val) (r14 : Bool) (r15 : Val) (r16 : Bool) (r17 : Val) (r18 : Bool) (r19 : Int × (List Val) × (List Str) × (List Rowd)) (r20 : Int × (List Val) × (List Str) × (List Rowd)) (r21 : Int × (List Val) × (List Str) × (List Rowd)) (r22 : Bool) (r23 r24 : Int) (r25 r26 r27 : Val) (r28 : Val × Bool) (r29 : Bool) (r30 : Int) : run tt (AbsCalls Try.prog) I14 3000 false [.code I14.body] ⟨(zBg 0 (xAe a0 a1 a2)), [false, false, false, false, false, false, false, false, false, false, false, false, false, false], [yAw r1, yAw r2, yAw r3, yBb r4, yBb r5, yBb r6, xAc r7, yBb r8, yBb r9, yBb r10, xAh r11, yAm r12, yBb r13, yAm r14, yBb r15, yAm r16, yBb r17, yAm r18, yEy r19, yEy r20, yEy r21, yAm r22, xAn r23, yCu r24, yBb r25, yBb r26, yBb r27, xAg r28, yAm r29, yCu r30], []⟩ = some (.done (xAf true) [AbC 24 (yAG a0 1048576) (yAw r1), (decide ((r1 : Int) < 0)) = false, AbC 24 (yAG a1 r1) (yAw r2), (decide ((r2 : Int) < 0)) = false, AbC 24 (yAG a2 r2) (yAw r3), (decide ((r3 : Int) < 0)) = false, AbC 26 (yBl a0) (yBb r4), AbC 26 (yBl a1) (yBb r5), AbC 26 (yBl a2) (yBb r6), AbC 68 (xAj r4 r5 r6) (xAc r7), AbC 26 (yBl a0) (yBb r8), AbC 26 (yBl a1) (yBb r9), AbC 26 (yBl a2) (yBb r10), AbC 69 (xAd r8 r9 r10) (xAh r11), AbC 19 (yAr (Val.mk (Val.kind r11.1) (Val.n r11.1) (Val.step r11.1) (Val.text r11.1) [] [] []) r7) (yAm r12), (!r12) = false, AbC 26 (yBl a0) (yBb r13), AbC 19 (yAr r8 r13) (yAm r14), (!r14) = false, AbC 26 (yBl a1) (yBb r15), AbC 19 (yAr r9 r15) (yAm r16), (!r16) = false, AbC 26 (yBl a2) (yBb r17), AbC 19 (yAr r10 r17) (yAm r18), (!r18) = false, AbC 22 (yEx r8 1) (yEy r19), List.length r19.2.1 = List.length (Val.list r8), List.length r19.2.2.1 = List.length (Val.columns r8), List.length r19.2.2.2 = List.length (Val.rows r8), AbC 22 (yEx r9 r19.1) (yEy r20), List.length r20.2.1 = List.length (Val.list r9), List.length r20.2.2.1 = List.length (Val.columns r9), List.length r20.2.2.2 = List.length (Val.rows r9), AbC 22 (yEx r10 r20.1) (yEy r21), List.length r21.2.1 = List.length (Val.list r10), List.length r21.2.2.1 = List.length (Val.columns r10), List.length r21.2.2.2 = List.length (Val.rows r10), (decide ((r21.1 : Int) < 0)) = false, AbC 19 (yAr (Val.mk (Val.kind r11.1) (Val.n r11.1) (Val.step r11.1) (Val.text r11.1) [] [] []) r7) (yAm r22), (!r22) = false, AbC 22 (xAo (Val.mk (Val.kind r11.1) (Val.n r11.1) (Val.step r11.1) (Val.text r11.1) [] [] []) 1) (xAn r23), AbC 23 (yCt (Val.mk (Val.kind r11.1) (Val.n r11.1) (Val.step r11.1) (Val.text r11.1) [] [] []) 1) (yCu r24), (decide ((r24 : Int) < 0)) = false, ((r24 : Int) != r23) = false, AbC 26 (yBl a0) (yBb r25), AbC 26 (yBl a1) (yBb r26), AbC 26 (yBl a2) (yBb r27), AbC 69 (xAd r25 r26 r27) (xAg r28), AbC 19 (yAr r28.1 r7) (yAm r29), (!r29) = false, AbC 23 (yCt (Val.mk (Val.kind r11.1) (Val.n r11.1) (Val.step r11.1) (Val.text r11.1) [] [] []) 1) (yCu r30), (decide ((r30 : Int) < 0)) = false, ((r30 : Int) != r23) = false]) := by kernel_rfl
theorem p14_e_19 (a0 a1 a2 : Val) (r1 r2 r3 : Int) (r4 r5 r6 r7 r8 r9 r10 : Val) (r11 : Val × Bool) (r12 : Bool) : run tt (AbsCalls Try.prog) I14 3000 false [.code I14.body] ⟨(zBg 0 (xAe a0 a1 a2)), [false, false, false, true], [yAw r1, yAw r2, yAw r3, yBb r4, yBb r5, yBb r6, xAc r7, yBb r8, yBb r9, yBb r10, xAg r11, yAm r12], []⟩ = some (.done (xAf false) [AbC 24 (yAG a0 1048576) (yAw r1), (decide ((r1 : Int) < 0)) = false, AbC 24 (yAG a1 r1) (yAw r2), (decide ((r2 : Int) < 0)) = false, AbC 24 (yAG a2 r2) (yAw r3), (decide ((r3 : Int) < 0)) = false, AbC 26 (yBl a0) (yBb r4), AbC 26 (yBl a1) (yBb r5), AbC 26 (yBl a2) (yBb r6), AbC 68 (xAj r4 r5 r6) (xAc r7), AbC 26 (yBl a0) (yBb r8), AbC 26 (yBl a1) (yBb r9), AbC 26 (yBl a2) (yBb r10), AbC 69 (xAd r8 r9 r10) (xAg r11), AbC 19 (yAr r11.1 r7) (yAm r12), (!r12) = true]) := by kernel_rfl
theorem p14_e_20 (a0 a1 a2 : Val) (r1 r2 r3 : Int) (r4 r5 r6 r7 r8 r9 r10 : Val) (r11 : Val × Bool) (r12 : Bool) (r13 : Val) (r14 : Bool) : run tt (AbsCalls Try.prog) I14 3000 false [.code I14.body] ⟨(zBg 0 (xAe a0 a1 a2)), [false, false, false, false, true], [yAw r1, yAw r2, yAw r3, yBb r4, yBb r5, yBb r6, xAc r7, yBb r8, yBb r9, yBb r10, xAg r11, yAm r12, yBb r13, yAm r14], []⟩ = some (.done (xAf false) [AbC 24 (yAG a0 1048576) (yAw r1), (decide ((r1 : Int) < 0)) = false, AbC 24 (yAG a1 r1) (yAw r2), (decide ((r2 : Int) < 0)) = false, AbC 24 (yAG a2 r2) (yAw r3), (decide ((r3 : Int) < 0)) = false, AbC 26 (yBl a0) (yBb r4), AbC 26 (yBl a1) (yBb r5), AbC 26 (yBl a2) (yBb r6), AbC 68 (xAj r4 r5 r6) (xAc r7), AbC 26 (yBl a0) (yBb r8), AbC 26 (yBl a1) (yBb r9), AbC 26 (yBl a2) (yBb r10), AbC 69 (xAd r8 r9 r10) (xAg r11), AbC 19 (yAr r11.1 r7) (yAm r12), (!r12) = false, AbC 26 (yBl a0) (yBb r13), AbC 19 (yAr r8 r13) (yAm r14), (!r14) = true]) := by kernel_rfl
theorem p14_e_21 (a0 a1 a2 : Val) (r1 r2 r3 : Int) (r4 r5 r6 r7 r8 r9 r10 : Val) (r11 : Val × Bool) (r12 : Bool) (r13 : Val) (r14 : Bool) (r15 : Val) (r16 : Bool) : run tt (AbsCalls Try.prog) I14 3000 false [.code I14.body] ⟨(zBg 0 (xAe a0 a1 a2)), [false, false, false, false, false, true], [yAw r1, yAw r2, yAw r3, yBb r4, yBb r5, yBb r6, xAc r7, yBb r8, yBb r9, yBb r10, xAg r11, yAm r12, yBb r13, yAm r14, yBb r15, yAm r16], []⟩ = some (.done (xAf false) [AbC 24 (yAG a0 1048576) (yAw r1), (decide ((r1 : Int) < 0)) = false, AbC 24 (yAG a1 r1) (yAw r2), (decide ((r2 : Int) < 0)) = false, AbC 24 (yAG a2 r2) (yAw r3), (decide ((r3 : Int) < 0)) = false, AbC 26 (yBl a0) (yBb r4), AbC 26 (yBl a1) (yBb r5), AbC 26 (yBl a2) (yBb r6), AbC 68 (xAj r4 r5 r6) (xAc r7), AbC 26 (yBl a0) (yBb r8), AbC 26 (yBl a1) (yBb r9), AbC 26 (yBl a2) (yBb r10), AbC 69 (xAd r8 r9 r10) (xAg r11), AbC 19 (yAr r11.1 r7) (yAm r12), (!r12) = false, AbC 26 (yBl a0) (yBb r13), AbC 19 (yAr r8 r13) (yAm r14), (!r14) = false, AbC 26 (yBl a1) (yBb r15), AbC 19 (yAr r9 r15) (yAm r16), (!r16) = true]) := by kernel_rfl
theorem p14_e_22 (a0 a1 a2 : Val) (r1 r2 r3 : Int) (r4 r5 r6 r7 r8 r9 r10 : Val) (r11 : Val × Bool) (r12 : Bool) (r13 : Val) (r14 : Bool) (r15 : Val) (r16 : Bool) (r17 : Val) (r18 : Bool) : run tt (AbsCalls Try.prog) I14 3000 false [.code I14.body] ⟨(zBg 0 (xAe a0 a1 a2)), [false, false, false, false, false, false, true], [yAw r1, yAw r2, yAw r3, yBb r4, yBb r5, yBb r6, xAc r7, yBb r8, yBb r9, yBb r10, xAg r11, yAm r12, yBb r13, yAm r14, yBb r15, yAm r16, yBb r17, yAm r18], []⟩ = some (.done (xAf false) [AbC 24 (yAG a0 1048576) (yAw r1), (decide ((r1 : Int) < 0)) = false, AbC 24 (yAG a1 r1) (yAw r2), (decide ((r2 : Int) < 0)) = false, AbC 24 (yAG a2 r2) (yAw r3), (decide ((r3 : Int) < 0)) = false, AbC 26 (yBl a0) (yBb r4), AbC 26 (yBl a1) (yBb r5), AbC 26 (yBl a2) (yBb r6), AbC 68 (xAj r4 r5 r6) (xAc r7), AbC 26 (yBl a0) (yBb r8), AbC 26 (yBl a1) (yBb r9), AbC 26 (yBl a2) (yBb r10), AbC 69 (xAd r8 r9 r10) (xAg r11), AbC 19 (yAr r11.1 r7) (yAm r12), (!r12) = false, AbC 26 (yBl a0) (yBb r13), AbC 19 (yAr r8 r13) (yAm r14), (!r14) = false, AbC 26 (yBl a1) (yBb r15), AbC 19 (yAr r9 r15) (yAm r16), (!r16) = false, AbC 26 (yBl a2) (yBb r17), AbC 19 (yAr r10 r17) (yAm r18), (!r18) = true]) := by kernel_rfl
theorem p14_e_23 (a0 a1 a2 : Val) (r1 r2 r3 : Int) (r4 r5 r6 r7 r8 r9 r10 : Val) (r11 : Val × Bool) (r12 : Bool) (r13 : Val) (r14 : Bool) (r15 : Val) (r16 : Bool) (r17 : Val) (r18 : Bool) (r19 : Int × (List Val) × (List Str) × (List Rowd)) (r20 : Int × (List Val) × (List Str) × (List Rowd)) (r21 : Int × (List Val) × (List Str) × (List Rowd)) : run tt (AbsCalls Try.prog) I14 3000 false [.code I14.body] ⟨(zBg 0 (xAe a0 a1 a2)), [false, false, false, false, false, false, false, true, true], [yAw r1, yAw r2, yAw r3, yBb r4, yBb r5, yBb r6, xAc r7, yBb r8, yBb r9, yBb r10, xAg r11, yAm r12, yBb r13, yAm r14, yBb r15, yAm r16, yBb r17, yAm r18, yEy r19, yEy r20, yEy r21], []⟩ = some (.done (xAf false) [AbC 24 (yAG a0 1048576) (yAw r1), (decide ((r1 : Int) < 0)) = false, AbC 24 (yAG a1 r1) (yAw r2), (decide ((r2 : Int) < 0)) = false, AbC 24 (yAG a2 r2) (yAw r3), (decide ((r3 : Int) < 0)) = false, AbC 26 (yBl a0) (yBb r4), AbC 26 (yBl a1) (yBb r5), AbC 26 (yBl a2) (yBb r6), AbC 68 (xAj r4 r5 r6) (xAc r7), AbC 26 (yBl a0) (yBb r8), AbC 26 (yBl a1) (yBb r9), AbC 26 (yBl a2) (yBb r10), AbC 69 (xAd r8 r9 r10) (xAg r11), AbC 19 (yAr r11.1 r7) (yAm r12), (!r12) = false, AbC 26 (yBl a0) (yBb r13), AbC 19 (yAr r8 r13) (yAm r14), (!r14) = false, AbC 26 (yBl a1) (yBb r15), AbC 19 (yAr r9 r15) (yAm r16), (!r16) = false, AbC 26 (yBl a2) (yBb r17), AbC 19 (yAr r10 r17) (yAm r18), (!r18) = false, AbC 22 (yEx r8 1) (yEy r19), List.length r19.2.1 = List.length (Val.list r8), List.length r19.2.2.1 = List.length (Val.columns r8), List.length r19.2.2.2 = List.length (Val.rows r8), AbC 22 (yEx r9 r19.1) (yEy r20), List.length r20.2.1 = List.length (Val.list r9), List.length r20.2.2.1 = List.length (Val.columns r9), List.length r20.2.2.2 = List.length (Val.rows r9), AbC 22 (yEx r10 r20.1) (yEy r21), List.length r21.2.1 = List.length (Val.list r10), List.length r21.2.2.1 = List.length (Val.columns r10), List.length r21.2.2.2 = List.length (Val.rows r10), (decide ((r21.1 : Int) < 0)) = true, true = true]) := by kernel_rfl
theorem p14_e_24 (a0 a1 a2 : Val) (r1 r2 r3 : Int) (r4 r5 r6 r7 r8 r9 r10 : Val) (r11 : Val × Bool) (r12 : Bool) (r13 : Val) (r14 : Bool) (r15 : Val) (r16 : Bool) (r17 : Val) (r18 : Bool) (r19 : Int × (List Val) × (List Str) × (List Rowd)) (r20 : Int × (List Val) × (List Str) × (List Rowd)) (r21 : Int × (List Val) × (List Str) × (List Rowd)) (r22 : Bool) : run tt (AbsCalls Try.prog) I14 3000 false [.code I14.body] ⟨(zBg 0 (xAe a0 a1 a2)), [false, false, false, false, false, false, false, false, true], [yAw r1, yAw r2, yAw r3, yBb r4, yBb r5, yBb r6, xAc r7, yBb r8, yBb r9, yBb r10, xAg r11, yAm r12, yBb r13, yAm r14, yBb r15, yAm r16, yBb r17, yAm r18, yEy r19, yEy r20, yEy r21, yAm r22], []⟩ = some (.done (xAf false) [AbC 24 (yAG a0 1048576) (yAw r1), (decide ((r1 : Int) < 0)) = false, AbC 24 (yAG a1 r1) (yAw r2), (decide ((r2 : Int) < 0)) = false, AbC 24 (yAG a2 r2) (yAw r3), (decide ((r3 : Int) < 0)) = false, AbC 26 (yBl a0) (yBb r4), AbC 26 (yBl a1) (yBb r5), AbC 26 (yBl a2) (yBb r6), AbC 68 (xAj r4 r5 r6) (xAc r7), AbC 26 (yBl a0) (yBb r8), AbC 26 (yBl a1) (yBb r9), AbC 26 (yBl a2) (yBb r10), AbC 69 (xAd r8 r9 r10) (xAg r11), AbC 19 (yAr r11.1 r7) (yAm r12), (!r12) = false, AbC 26 (yBl a0) (yBb r13), AbC 19 (yAr r8 r13) (yAm r14), (!r14) = false, AbC 26 (yBl a1) (yBb r15), AbC 19 (yAr r9 r15) (yAm r16), (!r16) = false, AbC 26 (yBl a2) (yBb r17), AbC 19 (yAr r10 r17) (yAm r18), (!r18) = false, AbC 22 (yEx r8 1) (yEy r19), List.length r19.2.1 = List.length (Val.list r8), List.length r19.2.2.1 = List.length (Val.columns r8), List.length r19.2.2.2 = List.length (Val.rows r8), AbC 22 (yEx r9 r19.1) (yEy r20), List.length r20.2.1 = List.length (Val.list r9), List.length r20.2.2.1 = List.length (Val.columns r9), List.length r20.2.2.2 = List.length (Val.rows r9), AbC 22 (yEx r10 r20.1) (yEy r21), List.length r21.2.1 = List.length (Val.list r10), List.length r21.2.2.1 = List.length (Val.columns r10), List.length r21.2.2.2 = List.length (Val.rows r10), (decide ((r21.1 : Int) < 0)) = false, AbC 19 (yAr r11.1 r7) (yAm r22), (!r22) = true]) := by kernel_rfl
theorem p14_e_25 (a0 a1 a2 : Val) (r1 r2 r3 : Int) (r4 r5 r6 r7 r8 r9 r10 : Val) (r11 : Val × Bool) (r12 : Bool) (r13 : Val) (r14 : Bool) (r15 : Val) (r16 : Bool) (r17 : Val) (r18 : Bool) (r19 : Int × (List Val) × (List Str) × (List Rowd)) (r20 : Int × (List Val) × (List Str) × (List Rowd)) (r21 : Int × (List Val) × (List Str) × (List Rowd)) (r22 : Bool) (r23 : Int × (List Val) × (List Str) × (List Rowd)) (r24 : Int) : run tt (AbsCalls Try.prog) I14 3000 false [.code I14.body] ⟨(zBg 0 (xAe a0 a1 a2)), [false, false, false, false, false, false, false, false, false, true], [yAw r1, yAw r2, yAw r3, yBb r4, yBb r5, yBb r6, xAc r7, yBb r8, yBb r9, yBb r10, xAg r11, yAm r12, yBb r13, yAm r14, yBb r15, yAm r16, yBb r17, yAm r18, yEy r19, yEy r20, yEy r21, yAm r22, yEy r23, yCu r24], []⟩ = some (.done (xAf false) [AbC 24 (yAG a0 1048576) (yAw r1), (decide ((r1 : Int) < 0)) = false, AbC 24 (yAG a1 r1) (yAw r2), (decide ((r2 : Int) < 0)) = false, AbC 24 (yAG a2 r2) (yAw r3), (decide ((r3 : Int) < 0)) = false, AbC 26 (yBl a0) (yBb r4), AbC 26 (yBl a1) (yBb r5), AbC 26 (yBl a2) (yBb r6), AbC 68 (xAj r4 r5 r6) (xAc r7), AbC 26 (yBl a0) (yBb r8), AbC 26 (yBl a1) (yBb r9), AbC 26 (yBl a2) (yBb r10), AbC 69 (xAd r8 r9 r10) (xAg r11), AbC 19 (yAr r11.1 r7) (yAm r12), (!r12) = false, AbC 26 (yBl a0) (yBb r13), AbC 19 (yAr r8 r13) (yAm r14), (!r14) = false, AbC 26 (yBl a1) (yBb r15), AbC 19 (yAr r9 r15) (yAm r16), (!r16) = false, AbC 26 (yBl a2) (yBb r17), AbC 19 (yAr r10 r17) (yAm r18), (!r18) = false, AbC 22 (yEx r8 1) (yEy r19), List.length r19.2.1 = List.length (Val.list r8), List.length r19.2.2.1 = List.length (Val.columns r8), List.length r19.2.2.2 = List.length (Val.rows r8), AbC 22 (yEx r9 r19.1) (yEy r20), List.length r20.2.1 = List.length (Val.list r9), List.length r20.2.2.1 = List.length (Val.columns r9), List.length r20.2.2.2 = List.length (Val.rows r9), AbC 22 (yEx r10 r20.1) (yEy r21), List.length r21.2.1 = List.length (Val.list r10), List.length r21.2.2.1 = List.length (Val.columns r10), List.length r21.2.2.2 = List.length (Val.rows r10), (decide ((r21.1 : Int) < 0)) = false, AbC 19 (yAr r11.1 r7) (yAm r22), (!r22) = false, AbC 22 (yEx r11.1 1) (yEy r23), List.length r23.2.1 = List.length (Val.list r11.1), List.length r23.2.2.1 = List.length (Val.columns r11.1), List.length r23.2.2.2 = List.length (Val.rows r11.1), AbC 23 (yCt (Val.mk (Val.kind r11.1) (Val.n r11.1) (Val.step r11.1) (Val.text r11.1) r23.2.1 r23.2.2.1 r23.2.2.2) 1) (yCu r24), (decide ((r24 : Int) < 0)) = true]) := by kernel_rfl
theorem p14_e_26 (a0 a1 a2 : Val) (r1 r2 r3 : Int) (r4 r5 r6 r7 r8 r9 r10 : Val) (r11 : Val × Bool) (r12 : Bool) (r13 : Val) (r14 : Bool) (r15 : Val) (r16 : Bool) (r17 : Val) (r18 : Bool) (r19 : Int × (List Val) × (List Str) × (List Rowd)) (r20 : Int × (List Val) × (List Str) × (List Rowd)) (r21 : Int × (List Val) × (List Str) × (List Rowd)) (r22 : Bool) (r23 : Int × (List Val) × (List Str) × (List Rowd)) (r24 : Int) : run tt (AbsCalls Try.prog) I14 3000 false [.code I14.body] ⟨(zBg 0 (xAe a0 a1 a2)), [false, false, false, false, false, false, false, false, false, false, true], [yAw r1, yAw r2, yAw r3, yBb r4, yBb r5, yBb r6, xAc r7, yBb r8, yBb r9, yBb r10, xAg r11, yAm r12, yBb r13, yAm r14, yBb r15, yAm r16, yBb r17, yAm r18, yEy r19, yEy r20, yEy r21, yAm r22, yEy r23, yCu r24], []⟩ = some (.done (xAf false) [AbC 24 (yAG a0 1048576) (yAw r1), (decide ((r1 : Int) < 0)) = false, AbC 24 (yAG a1 r1) (yAw r2), (decide ((r2 : Int) < 0)) = false, AbC 24 (yAG a2 r2) (yAw r3), (decide ((r3 : Int) < 0)) = false, AbC 26 (yBl a0) (yBb r4), AbC 26 (yBl a1) (yBb r5), AbC 26 (yBl a2) (yBb r6), AbC 68 (xAj r4 r5 r6) (xAc r7), AbC 26 (yBl a0) (yBb r8), AbC 26 (yBl a1) (yBb r9), AbC 26 (yBl a2) (yBb r10), AbC 69 (xAd r8 r9 r10) (xAg r11), AbC 19 (yAr r11.1 r7) (yAm r12), (!r12) = false, AbC 26 (yBl a0) (yBb r13), AbC 19 (yAr r8 r13) (yAm r14), (!r14) = false, AbC 26 (yBl a1) (yBb r15), AbC 19 (yAr r9 r15) (yAm r16), (!r16) = false, AbC 26 (yBl a2) (yBb r17), AbC 19 (yAr r10 r17) (yAm r18), (!r18) = false, AbC 22 (yEx r8 1) (yEy r19), List.length r19.2.1 = List.length (Val.list r8), List.length r19.2.2.1 = List.length (Val.columns r8), List.length r19.2.2.2 = List.length (Val.rows r8), AbC 22 (yEx r9 r19.1) (yEy r20), List.length r20.2.1 = List.length (Val.list r9), List.length r20.2.2.1 = List.length (Val.columns r9), List.length r20.2.2.2 = List.length (Val.rows r9), AbC 22 (yEx r10 r20.1) (yEy r21), List.length r21.2.1 = List.length (Val.list r10), List.length r21.2.2.1 = List.length (Val.columns r10), List.length r21.2.2.2 = List.length (Val.rows r10), (decide ((r21.1 : Int) < 0)) = false, AbC 19 (yAr r11.1 r7) (yAm r22), (!r22) = false, AbC 22 (yEx r11.1 1) (yEy r23), List.length r23.2.1 = List.length (Val.list r11.1), List.length r23.2.2.1 = List.length (Val.columns r11.1), List.length r23.2.2.2 = List.length (Val.rows r11.1), AbC 23 (yCt (Val.mk (Val.kind r11.1) (Val.n r11.1) (Val.step r11.1) (Val.text r11.1) r23.2.1 r23.2.2.1 r23.2.2.2) 1) (yCu r24), (decide ((r24 : Int) < 0)) = false, ((r24 : Int) != r23.1) = true]) := by kernel_rfl
theorem p14_e_27 (a0 a1 a2 : Val) (r1 r2 r3 : Int) (r4 r5 r6 r7 r8 r9 r10 : Val) (r11 : Val × Bool) (r12 : Bool) (r13 : Val) (r14 : Bool) (r15 : Val) (r16 : Bool) (r17 : Val) (r18 : Bool) (r19 : Int × (List Val) × (List Str) × (List Rowd)) (r20 : Int × (List Val) × (List Str) × (List Rowd)) (r21 : Int × (List Val) × (List Str) × (List Rowd)) (r22 : Bool) (r23 : Int × (List Val) × (List Str) × (List Rowd)) (r24 : Int) (r25 r26 r27 : Val) (r28 : Val × Bool) (r29 : Bool) : run tt (AbsCalls Try.prog) I14 3000 false [.code I14.body] ⟨(zBg 0 (xAe a0 a1 a2)), [false, false, false, false, false, false, false, false, false, false, false, true], [yAw r1, yAw r2, yAw r3, yBb r4, yBb r5, yBb r6, xAc r7, yBb r8, yBb r9, yBb r10, xAg r11, yAm r12, yBb r13, yAm r14, yBb r15, yAm r16, yBb r17, yAm r18, yEy r19, yEy r20, yEy r21, yAm r22, yEy r23, yCu r24, yBb r25, yBb r26, yBb r27, xAh r28, yAm r29], []⟩ = some (.done (xAf false) [AbC 24 (yAG a0 1048576) (yAw r1), (decide ((r1 : Int) < 0)) = false, AbC 24 (yAG a1 r1) (yAw r2), (decide ((r2 : Int) < 0)) = false, AbC 24 (yAG a2 r2) (yAw r3), (decide ((r3 : Int) < 0)) = false, AbC 26 (yBl a0) (yBb r4), AbC 26 (yBl a1) (yBb r5), AbC 26 (yBl a2) (yBb r6), AbC 68 (xAj r4 r5 r6) (xAc r7), AbC 26 (yBl a0) (yBb r8), AbC 26 (yBl a1) (yBb r9), AbC 26 (yBl a2) (yBb r10), AbC 69 (xAd r8 r9 r10) (xAg r11), AbC 19 (yAr r11.1 r7) (yAm r12), (!r12) = false, AbC 26 (yBl a0) (yBb r13), AbC 19 (yAr r8 r13) (yAm r14), (!r14) = false, AbC 26 (yBl a1) (yBb r15), AbC 19 (yAr r9 r15) (yAm r16), (!r16) = false, AbC 26 (yBl a2) (yBb r17), AbC 19 (yAr r10 r17) (yAm r18), (!r18) = false, AbC 22 (yEx r8 1) (yEy r19), List.length r19.2.1 = List.length (Val.list r8), List.length r19.2.2.1 = List.length (Val.columns r8), List.length r19.2.2.2 = List.length (Val.rows r8), AbC 22 (yEx r9 r19.1) (yEy r20), List.length r20.2.1 = List.length (Val.list r9), List.length r20.2.2.1 = List.length (Val.columns r9), List.length r20.2.2.2 = List.length (Val.rows r9), AbC 22 (yEx r10 r20.1) (yEy r21), List.length r21.2.1 = List.length (Val.list r10), List.length r21.2.2.1 = List.length (Val.columns r10), List.length r21.2.2.2 = List.length (Val.rows r10), (decide ((r21.1 : Int) < 0)) = false, AbC 19 (yAr r11.1 r7) (yAm r22), (!r22) = false, AbC 22 (yEx r11.1 1) (yEy r23), List.length r23.2.1 = List.length (Val.list r11.1), List.length r23.2.2.1 = List.length (Val.columns r11.1), List.length r23.2.2.2 = List.length (Val.rows r11.1), AbC 23 (yCt (Val.mk (Val.kind r11.1) (Val.n r11.1) (Val.step r11.1) (Val.text r11.1) r23.2.1 r23.2.2.1 r23.2.2.2) 1) (yCu r24), (decide ((r24 : Int) < 0)) = false, ((r24 : Int) != r23.1) = false, AbC 26 (yBl a0) (yBb r25), AbC 26 (yBl a1) (yBb r26), AbC 26 (yBl a2) (yBb r27), AbC 69 (xAd r25 r26 r27) (xAh r28), AbC 19 (yAr (Val.mk (Val.kind r28.1) (Val.n r28.1) (Val.step r28.1) (Val.text r28.1) [] [] []) r7) (yAm r29), (!r29) = true]) := by kernel_rfl
theorem p14_e_28 (a0 a1 a2 : Val) (r1 r2 r3 : Int) (r4 r5 r6 r7 r8 r9 r10 : Val) (r11 : Val × Bool) (r12 : Bool) (r13 : Val) (r14 : Bool) (r15 : Val) (r16 : Bool) (r17 : Val) (r18 : Bool) (r19 : Int × (List Val) × (List Str) × (List Rowd)) (r20 : Int × (List Val) × (List Str) × (List Rowd)) (r21 : Int × (List Val) × (List Str) × (List Rowd)) (r22 : Bool) (r23 : Int × (List Val) × (List Str) × (List Rowd)) (r24 : Int) (r25 r26 r27 : Val) (r28 : Val × Bool) (r29 : Bool) (r30 : Int) : run tt (AbsCalls Try.prog) I14 3000 false [.code I14.body] ⟨(zBg 0 (xAe a0 a1 a2)), [false, false, false, false, false, false, false, false, false, false, false, false, true], [yAw r1, yAw r2, yAw r3, yBb r4, yBb r5, yBb r6, xAc r7, yBb r8, yBb r9, yBb r10, xAg r11, yAm r12, yBb r13, yAm r14, yBb r15, yAm r16, yBb r17, yAm r18, yEy r19, yEy r20, yEy r21, yAm r22, yEy r23, yCu r24, yBb r25, yBb r26, yBb r27, xAh r28, yAm r29, yCu r30], []⟩ = some (.done (xAf false) [AbC 24 (yAG a0 1048576) (yAw r1), (decide ((r1 : Int) < 0)) = false, AbC 24 (yAG a1 r1) (yAw r2), (decide ((r2 : Int) < 0)) = false, AbC 24 (yAG a2 r2) (yAw r3), (decide ((r3 : Int) < 0)) = false, AbC 26 (yBl a0) (yBb r4), AbC 26 (yBl a1) (yBb r5), AbC 26 (yBl a2) (yBb r6), AbC 68 (xAj r4 r5 r6) (xAc r7), AbC 26 (yBl a0) (yBb r8), AbC 26 (yBl a1) (yBb r9), AbC 26 (yBl a2) (yBb r10), AbC 69 (xAd r8 r9 r10) (xAg r11), AbC 19 (yAr r11.1 r7) (yAm r12), (!r12) = false, AbC 26 (yBl a0) (yBb r13), AbC 19 (yAr r8 r13) (yAm r14), (!r14) = false, AbC 26 (yBl a1) (yBb r15), AbC 19 (yAr r9 r15) (yAm r16), (!r16) = false, AbC 26 (yBl a2) (yBb r17), AbC 19 (yAr r10 r17) (yAm r18), (!r18) = false, AbC 22 (yEx r8 1) (yEy r19), List.length r19.2.1 = List.length (Val.list r8), List.length r19.2.2.1 = List.length (Val.columns r8), List.length r19.2.2.2 = List.length (Val.rows r8), AbC 22 (yEx r9 r19.1) (yEy r20), List.length r20.2.1 = List.length (Val.list r9), List.length r20.2.2.1 = List.length (Val.columns r9), List.length r20.2.2.2 = List.length (Val.rows r9), AbC 22 (yEx r10 r20.1) (yEy r21), List.length r21.2.1 = List.length (Val.list r10), List.length r21.2.2.1 = List.length (Val.columns r10), List.length r21.2.2.2 = List.length (Val.rows r10), (decide ((r21.1 : Int) < 0)) = false, AbC 19 (yAr r11.1 r7) (yAm r22), (!r22) = false, AbC 22 (yEx r11.1 1) (yEy r23), List.length r23.2.1 = List.length (Val.list r11.1), List.length r23.2.2.1 = List.length (Val.columns r11.1), List.length r23.2.2.2 = List.length (Val.rows r11.1), AbC 23 (yCt (Val.mk (Val.kind r11.1) (Val.n r11.1) (Val.step r11.1) (Val.text r11.1) r23.2.1 r23.2.2.1 r23.2.2.2) 1) (yCu r24), (decide ((r24 : Int) < 0)) = false, ((r24 : Int) != r23.1) = false, AbC 26 (yBl a0) (yBb r25), AbC 26 (yBl a1) (yBb r26), AbC 26 (yBl a2) (yBb r27), AbC 69 (xAd r25 r26 r27) (xAh r28), AbC 19 (yAr (Val.mk (Val.kind r28.1) (Val.n r28.1) (Val.step r28.1) (Val.text r28.1) [] [] []) r7) (yAm r29), (!r29) = false, AbC 23 (yCt (Val.mk (Val.kind r11.1) (Val.n r11.1) (Val.step r11.1) (Val.text r11.1) r23.2.1 r23.2.2.1 r23.2.2.2) 1) (yCu r30), (decide ((r30 : Int) < 0)) = true]) := by kernel_rfl
theorem p14_e_29 (a0 a1 a2 : Val) (r1 r2 r3 : Int) (r4 r5 r6 r7 r8 r9 r10 : Val) (r11 : Val × Bool) (r12 : Bool) (r13 : Val) (r14 : Bool) (r15 : Val) (r16 : Bool) (r17 : Val) (r18 : Bool) (r19 : Int × (List Val) × (List Str) × (List Rowd)) (r20 : Int × (List Val) × (List Str) × (List Rowd)) (r21 : Int × (List Val) × (List Str) × (List Rowd)) (r22 : Bool) (r23 : Int × (List Val) × (List Str) × (List Rowd)) (r24 : Int) (r25 r26 r27 : Val) (r28 : Val × Bool) (r29 : Bool) (r30 : Int) : run tt (AbsCalls Try.prog) I14 3000 false [.code I14.body] ⟨(zBg 0 (xAe a0 a1 a2)), [false, false, false, false, false, false, false, false, false, false, false, false, false, true], [yAw r1, yAw r2, yAw r3, yBb r4, yBb r5, yBb r6, xAc r7, yBb r8, yBb r9, yBb r10, xAg r11, yAm r12, yBb r13, yAm r14, yBb r15, yAm r16, yBb r17, yAm r18, yEy r19, yEy r20, yEy r21, yAm r22, yEy r23, yCu r24, yBb r25, yBb r26, yBb r27, xAh r28, yAm r29, yCu r30], []⟩ = some (.done (xAf false) [AbC 24 (yAG a0 1048576) (yAw r1), (decide ((r1 : Int) < 0)) = false, AbC 24 (yAG a1 r1) (yAw r2), (decide ((r2 : Int) < 0)) = false, AbC 24 (yAG a2 r2) (yAw r3), (decide ((r3 : Int) < 0)) = false, AbC 26 (yBl a0) (yBb r4), AbC 26 (yBl a1) (yBb r5), AbC 26 (yBl a2) (yBb r6), AbC 68 (xAj r4 r5 r6) (xAc r7), AbC 26 (yBl a0) (yBb r8), AbC 26 (yBl a1) (yBb r9), AbC 26 (yBl a2) (yBb r10), AbC 69 (xAd r8 r9 r10) (xAg r11), AbC 19 (yAr r11.1 r7) (yAm r12), (!r12) = false, AbC 26 (yBl a0) (yBb r13), AbC 19 (yAr r8 r13) (yAm r14), (!r14) = false, AbC 26 (yBl a1) (yBb r15), AbC 19 (yAr r9 r15) (yAm r16), (!r16) = false, AbC 26 (yBl a2) (yBb r17), AbC 19 (yAr r10 r17) (yAm r18), (!r18) = false, AbC 22 (yEx r8 1) (yEy r19), List.length r19.2.1 = List.length (Val.list r8), List.length r19.2.2.1 = List.length (Val.columns r8), List.length r19.2.2.2 = List.length (Val.rows r8), AbC 22 (yEx r9 r19.1) (yEy r20), List.length r20.2.1 = List.length (Val.list r9), List.length r20.2.2.1 = List.length (Val.columns r9), List.length r20.2.2.2 = List.length (Val.rows r9), AbC 22 (yEx r10 r20.1) (yEy r21), List.length r21.2.1 = List.length (Val.list r10), List.length r21.2.2.1 = List.length (Val.columns r10), List.length r21.2.2.2 = List.length (Val.rows r10), (decide ((r21.1 : Int) < 0)) = false, AbC 19 (yAr r11.1 r7) (yAm r22), (!r22) = false, AbC 22 (yEx r11.1 1) (yEy r23), List.length r23.2.1 = List.length (Val.list r11.1), List.length r23.2.2.1 = List.length (Val.columns r11.1), List.length r23.2.2.2 = List.length (Val.rows r11.1), AbC 23 (yCt (Val.mk (Val.kind r11.1) (Val.n r11.1) (Val.step r11.1) (Val.text r11.1) r23.2.1 r23.2.2.1 r23.2.2.2) 1) (yCu r24), (decide ((r24 : Int) < 0)) = false, ((r24 : Int) != r23.1) = false, AbC 26 (yBl a0) (yBb r25), AbC 26 (yBl a1) (yBb r26), AbC 26 (yBl a2) (yBb r27), AbC 69 (xAd r25 r26 r27) (xAh r28), AbC 19 (yAr (Val.mk (Val.kind r28.1) (Val.n r28.1) (Val.step r28.1) (Val.text r28.1) [] [] []) r7) (yAm r29), (!r29) = false, AbC 23 (yCt (Val.mk (Val.kind r11.1) (Val.n r11.1) (Val.step r11.1) (Val.text r11.1) r23.2.1 r23.2.2.1 r23.2.2.2) 1) (yCu r30), (decide ((r30 : Int) < 0)) = false, ((r30 : Int) != r23.1) = true]) := by kernel_rfl
theorem p14_e_30 (a0 a1 a2 : Val) (r1 r2 r3 : Int) (r4 r5 r6 r7 r8 r9 r10 : Val) (r11 : Val × Bool) (r12 : Bool) (r13 : Val) (r14 : Bool) (r15 : Val) (r16 : Bool) (r17 : Val) (r18 : Bool) (r19 : Int × (List Val) × (List Str) × (List Rowd)) (r20 : Int × (List Val) × (List Str) × (List Rowd)) (r21 : Int × (List Val) × (List Str) × (List Rowd)) (r22 : Bool) (r23 : Int × (List Val) × (List Str) × (List Rowd)) (r24 : Int) (r25 r26 r27 : Val) (r28 : Val × Bool) (r29 : Bool) (r30 : Int) : run tt (AbsCalls Try.prog) I14 3000 false [.code I14.body] ⟨(zBg 0 (xAe a0 a1 a2)), [false, false, false, false, false, false, false, false, false, false, false, false, false, false], [yAw r1, yAw r2, yAw r3, yBb r4, yBb r5, yBb r6, xAc r7, yBb r8, yBb r9, yBb r10, xAg r11, yAm r12, yBb r13, yAm r14, yBb r15, yAm r16, yBb r17, yAm r18, yEy r19, yEy r20, yEy r21, yAm r22, yEy r23, yCu r24, yBb r25, yBb r26, yBb r27, xAh r28, yAm r29, yCu r30], []⟩ = some (.done (xAf true) [AbC 24 (yAG a0 1048576) (yAw r1), (decide ((r1 : Int) < 0)) = false, AbC 24 (yAG a1 r1) (yAw r2), (decide ((r2 : Int) < 0)) = false, AbC 24 (yAG a2 r2) (yAw r3), (decide ((r3 : Int) < 0)) = false, AbC 26 (yBl a0) (yBb r4), AbC 26 (yBl a1) (yBb r5), AbC 26 (yBl a2) (yBb r6), AbC 68 (xAj r4 r5 r6) (xAc r7), AbC 26 (yBl a0) (yBb r8), AbC 26 (yBl a1) (yBb r9), AbC 26 (yBl a2) (yBb r10), AbC 69 (xAd r8 r9 r10) (xAg r11), AbC 19 (yAr r11.1 r7) (yAm r12), (!r12) = false, AbC 26 (yBl a0) (yBb r13), AbC 19 (yAr r8 r13) (yAm r14), (!r14) = false, AbC 26 (yBl a1) (yBb r15), AbC 19 (yAr r9 r15) (yAm r16), (!r16) = false, AbC 26 (yBl a2) (yBb r17), AbC 19 (yAr r10 r17) (yAm r18), (!r18) = false, AbC 22 (yEx r8 1) (yEy r19), List.length r19.2.1 = List.length (Val.list r8), List.length r19.2.2.1 = List.length (Val.columns r8), List.length r19.2.2.2 = List.length (Val.rows r8), AbC 22 (yEx r9 r19.1) (yEy r20), List.length r20.2.1 = List.length (Val.list r9), List.length r20.2.2.1 = List.length (Val.columns r9), List.length r20.2.2.2 = List.length (Val.rows r9), AbC 22 (yEx r10 r20.1) (yEy r21), List.length r21.2.1 = List.length (Val.list r10), List.length r21.2.2.1 = List.length (Val.columns r10), List.length r21.2.2.2 = List.length (Val.rows r10), (decide ((r21.1 : Int) < 0)) = false, AbC 19 (yAr r11.1 r7) (yAm r22), (!r22) = false, AbC 22 (yEx r11.1 1) (yEy r23), List.length r23.2.1 = List.length (Val.list r11.1), List.length r23.2.2.1 = List.length (Val.columns r11.1), List.length r23.2.2.2 = List.length (Val.rows r11.1), AbC 23 (yCt (Val.mk (Val.kind r11.1) (Val.n r11.1) (Val.step r11.1) (Val.text r11.1) r23.2.1 r23.2.2.1 r23.2.2.2) 1) (yCu r24), (decide ((r24 : Int) < 0)) = false, ((r24 : Int) != r23.1) = false, AbC 26 (yBl a0) (yBb r25), AbC 26 (yBl a1) (yBb r26), AbC 26 (yBl a2) (yBb r27), AbC 69 (xAd r25 r26 r27) (xAh r28), AbC 19 (yAr (Val.mk (Val.kind r28.1) (Val.n r28.1) (Val.step r28.1) (Val.text r28.1) [] [] []) r7) (yAm r29), (!r29) = false, AbC 23 (yCt (Val.mk (Val.kind r11.1) (Val.n r11.1) (Val.step r11.1) (Val.text r11.1) r23.2.1 r23.2.2.1 r23.2.2.2) 1) (yCu r30), (decide ((r30 : Int) < 0)) = false, ((r30 : Int) != r23.1) = false]) := by kernel_rfl
theorem p14_e_31 (a0 a1 a2 : Val) (r1 r2 r3 : Int) (r4 r5 r6 r7 r8 r9 r10 : Val) (r11 : Val × Bool) (r12 : Bool) (r13 : Val) (r14 : Bool) (r15 : Val) (r16 : Bool) (r17 : Val) (r18 : Bool) (r19 : Int × (List Val) × (List Str) × (List Rowd)) (r20 : Int × (List Val) × (List Str) × (List Rowd)) (r21 : Int × (List Val) × (List Str) × (List Rowd)) (r22 : Bool) (r23 : Int × (List Val) × (List Str) × (List Rowd)) (r24 : Int) (r25 r26 r27 : Val) (r28 : Val × Bool) (r29 : Bool) : run tt (AbsCalls Try.prog) I14 3000 false [.code I14.body] ⟨(zBg 0 (xAe a0 a1 a2)), [false, false, false, false, false, false, false, false, false, false, false, true], [yAw r1, yAw r2, yAw r3, yBb r4, yBb r5, yBb r6, xAc r7, yBb r8, yBb r9, yBb r10, xAg r11, yAm r12, yBb r13, yAm r14, yBb r15, yAm r16, yBb r17, yAm r18, yEy r19, yEy r20, yEy r21, yAm r22, yEy r23, yCu r24, yBb r25, yBb r26, yBb r27, xAg r28, yAm r29], []⟩ = some (.done (xAf false) [AbC 24 (yAG a0 1048576) (yAw r1), (decide ((r1 : Int) < 0)) = false, AbC 24 (yAG a1 r1) (yAw r2), (decide ((r2 : Int) < 0)) = false, AbC 24 (yAG a2 r2) (yAw r3), (decide ((r3 : Int) < 0)) = false, AbC 26 (yBl a0) (yBb r4), AbC 26 (yBl a1) (yBb r5), AbC 26 (yBl a2) (yBb r6), AbC 68 (xAj r4 r5 r6) (xAc r7), AbC 26 (yBl a0) (yBb r8), AbC 26 (yBl a1) (yBb r9), AbC 26 (yBl a2) (yBb r10), AbC 69 (xAd r8 r9 r10) (xAg r11), AbC 19 (yAr r11.1 r7) (yAm r12), (!r12) = false, AbC 26 (yBl a0) (yBb r13), AbC 19 (yAr r8 r13) (yAm r14), (!r14) = false, AbC 26 (yBl a1) (yBb r15), AbC 19 (yAr r9 r15) (yAm r16), (!r16) = false, AbC 26 (yBl a2) (yBb r17), AbC 19 (yAr r10 r17) (yAm r18), (!r18) = false, AbC 22 (yEx r8 1) (yEy r19), List.length r19.2.1 = List.length (Val.list r8), List.length r19.2.2.1 = List.length (Val.columns r8), List.length r19.2.2.2 = List.length (Val.rows r8), AbC 22 (yEx r9 r19.1) (yEy r20), List.length r20.2.1 = List.length (Val.list r9), List.length r20.2.2.1 = List.length (Val.columns r9), List.length r20.2.2.2 = List.length (Val.rows r9), AbC 22 (yEx r10 r20.1) (yEy r21), List.length r21.2.1 = List.length (Val.list r10), List.length r21.2.2.1 = List.length (Val.columns r10), List.length r21.2.2.2 = List.length (Val.rows r10), (decide ((r21.1 : Int) < 0)) = false, AbC 19 (yAr r11.1 r7) (yAm r22), (!r22) = false, AbC 22 (yEx r11.1 1) (yEy r23), List.length r23.2.1 = List.length (Val.list r11.1), List.length r23.2.2.1 = List.length (Val.columns r11.1), List.length r23.2.2.2 = List.length (Val.rows r11.1), AbC 23 (yCt (Val.mk (Val.kind r11.1) (Val.n r11.1) (Val.step r11.1) (Val.text r11.1) r23.2.1 r23.2.2.1 r23.2.2.2) 1) (yCu r24), (decide ((r24 : Int) < 0)) = false, ((r24 : Int) != r23.1) = false, AbC 26 (yBl a0) (yBb r25), AbC 26 (yBl a1) (yBb r26), AbC 26 (yBl a2) (yBb r27), AbC 69 (xAd r25 r26 r27) (xAg r28), AbC 19 (yAr r28.1 r7) (yAm r29), (!r29) = true]) := by kernel_rfl
theorem p14_e_32 (a0 a1 a2 : Val) (r1 r2 r3 : Int) (r4 r5 r6 r7 r8 r9 r10 : Val) (r11 : Val × Bool) (r12 : Bool) (r13 : Val) (r14 : Bool) (r15 : Val) (r16 : Bool) (r17 : Val) (r18 : Bool) (r19 : Int × (List Val) × (List Str) × (List Rowd)) (r20 : Int × (List Val) × (List Str) × (List Rowd)) (r21 : Int × (List Val) × (List Str) × (List Rowd)) (r22 : Bool) (r23 : Int × (List Val) × (List Str) × (List Rowd)) (r24 : Int) (r25 r26 r27 : Val) (r28 : Val × Bool) (r29 : Bool) (r30 : Int) : run tt (AbsCalls Try.prog) I14 3000 false [.code I14.body] ⟨(zBg 0 (xAe a0 a1 a2)), [false, false, false, false, false, false, false, false, false, false, false, false, true], [yAw r1, yAw r2, yAw r3, yBb r4, yBb r5, yBb r6, xAc r7, yBb r8, yBb r9, yBb r10, xAg r11, yAm r12, yBb r13, yAm r14, yBb r15, yAm r16, yBb r17, yAm r18, yEy r19, yEy r20, yEy r21, yAm r22, yEy r23, yCu r24, yBb r25, yBb r26, yBb r27, xAg r28, yAm r29, yCu r30], []⟩ = some (.done (xAf false) [AbC 24 (yAG a0 1048576) (yAw r1), (decide ((r1 : Int) < 0)) = false, AbC 24 (yAG a1 r1) (yAw r2), (decide ((r2 : Int) < 0)) = false, AbC 24 (yAG a2 r2) (yAw r3), (decide ((r3 : Int) < 0)) = false, AbC 26 (yBl a0) (yBb r4), AbC 26 (yBl a1) (yBb r5), AbC 26 (yBl a2) (yBb r6), AbC 68 (xAj r4 r5 r6) (xAc r7), AbC 26 (yBl a0) (yBb r8), AbC 26 (yBl a1) (yBb r9), AbC 26 (yBl a2) (yBb r10), AbC 69 (xAd r8 r9 r10) (xAg r11), AbC 19 (yAr r11.1 r7) (yAm r12), (!r12) = false, AbC 26 (yBl a0) (yBb r13), AbC 19 (yAr r8 r13) (yAm r14), (!r14) = false, AbC 26 (yBl a1) (yBb r15), AbC 19 (yAr r9 r15) (yAm r16), (!r16) = false, AbC 26 (yBl a2) (yBb r17), AbC 19 (yAr r10 r17) (yAm r18), (!r18) = false, AbC 22 (yEx r8 1) (yEy r19), List.length r19.2.1 = List.length (Val.list r8), List.length r19.2.2.1 = List.length (Val.columns r8), List.length r19.2.2.2 = List.length (Val.rows r8), AbC 22 (yEx r9 r19.1) (yEy r20), List.length r20.2.1 = List.length (Val.list r9), List.length r20.2.2.1 = List.length (Val.columns r9), List.length r20.2.2.2 = List.length (Val.rows r9), AbC 22 (yEx r10 r20.1) (yEy r21), List.length r21.2.1 = List.length (Val.list r10), List.length r21.2.2.1 = List.length (Val.columns r10), List.length r21.2.2.2 = List.length (Val.rows r10), (decide ((r21.1 : Int) < 0)) = false, AbC 19 (yAr r11.1 r7) (yAm r22), (!r22) = false, AbC 22 (yEx r11.1 1) (yEy r23), List.length r23.2.1 = List.length (Val.list r11.1), List.length r23.2.2.1 = List.length (Val.columns r11.1), List.length r23.2.2.2 = List.length (Val.rows r11.1), AbC 23 (yCt (Val.mk (Val.kind r11.1) (Val.n r11.1) (Val.step r11.1) (Val.text r11.1) r23.2.1 r23.2.2.1 r23.2.2.2) 1) (yCu r24), (decide ((r24 : Int) < 0)) = false, ((r24 : Int) != r23.1) = false, AbC 26 (yBl a0) (yBb r25), AbC 26 (yBl a1) (yBb r26), AbC 26 (yBl a2) (yBb r27), AbC 69 (xAd r25 r26 r27) (xAg r28), AbC 19 (yAr r28.1 r7) (yAm r29), (!r29) = false, AbC 23 (yCt (Val.mk (Val.kind r11.1) (Val.n r11.1) (Val.step r11.1) (Val.text r11.1) r23.2.1 r23.2.2.1 r23.2.2.2) 1) (yCu r30), (decide ((r30 : Int) < 0)) = true]) := by kernel_rfl
theorem p14_e_33 (a0 a1 a2 : Val) (r1 r2 r3 : Int) (r4 r5 r6 r7 r8 r9 r10 : Val) (r11 : Val × Bool) (r12 : Bool) (r13 : Val) (r14 : Bool) (r15 : Val) (r16 : Bool) (r17 : Val) (r18 : Bool) (r19 : Int × (List Val) × (List Str) × (List Rowd)) (r20 : Int × (List Val) × (List Str) × (List Rowd)) (r21 : Int × (List Val) × (List Str) × (List Rowd)) (r22 : Bool) (r23 : Int × (List Val) × (List Str) × (List Rowd)) (r24 : Int) (r25 r26 r27 : Val) (r28 : Val × Bool) (r29 : Bool) (r30 : Int) : run tt (AbsCalls Try.prog) I14 3000 false [.code I14.body] ⟨(zBg 0 (xAe a0 a1 a2)), [false, false, false, false, false, false, false, false, false, false, false, false, false, true], [yAw r1, yAw r2, yAw r3, yBb r4, yBb r5, yBb r6, xAc r7, yBb r8, yBb r9, yBb r10, xAg r11, yAm r12, yBb r13, yAm r14, yBb r15, yAm r16, yBb r17, yAm r18, yEy r19, yEy r20, yEy r21, yAm r22, yEy r23, yCu r24, yBb r25, yBb r26, yBb r27, xAg r28, yAm r29, yCu r30], []⟩ = some (.done (xAf false) [AbC 24 (yAG a0 1048576) (yAw r1), (decide ((r1 : Int) < 0)) = false, AbC 24 (yAG a1 r1) (yAw r2), (decide ((r2 : Int) < 0)) = false, AbC 24 (yAG a2 r2) (yAw r3), (decide ((r3 : Int) < 0)) = false, AbC 26 (yBl a0) (yBb r4), AbC 26 (yBl a1) (yBb r5), AbC 26 (yBl a2) (yBb r6), AbC 68 (xAj r4 r5 r6) (xAc r7), AbC 26 (yBl a0) (yBb r8), AbC 26 (yBl a1) (yBb r9), AbC 26 (yBl a2) (yBb r10), AbC 69 (xAd r8 r9 r10) (xAg r11), AbC 19 (yAr r11.1 r7) (yAm r12), (!r12) = false, AbC 26 (yBl a0) (yBb r13), AbC 19 (yAr r8 r13) (yAm r14), (!r14) = false, AbC 26 (yBl a1) (yBb r15), AbC 19 (yAr r9 r15) (yAm r16), (!r16) = false, AbC 26 (yBl a2) (yBb r17), AbC 19 (yAr r10 r17) (yAm r18), (!r18) = false, AbC 22 (yEx r8 1) (yEy r19), List.length r19.2.1 = List.length (Val.list r8), List.length r19.2.2.1 = List.length (Val.columns r8), List.length r19.2.2.2 = List.length (Val.rows r8), AbC 22 (yEx r9 r19.1) (yEy r20), List.length r20.2.1 = List.length (Val.list r9), List.length r20.2.2.1 = List.length (Val.columns r9), List.length r20.2.2.2 = List.length (Val.rows r9), AbC 22 (yEx r10 r20.1) (yEy r21), List.length r21.2.1 = List.length (Val.list r10), List.length r21.2.2.1 = List.length (Val.columns r10), List.length r21.2.2.2 = List.length (Val.rows r10), (decide ((r21.1 : Int) < 0)) = false, AbC 19 (yAr r11.1 r7) (yAm r22), (!r22) = false, AbC 22 (yEx r11.1 1) (yEy r23), List.length r23.2.1 = List.length (Val.list r11.1), List.length r23.2.2.1 = List.length (Val.columns r11.1), List.length r23.2.2.2 = List.length (Val.rows r11.1), AbC 23 (yCt (Val.mk (Val.kind r11.1) (Val.n r11.1) (Val.step r11.1) (Val.text r11.1) r23.2.1 r23.2.2.1 r23.2.2.2) 1) (yCu r24), (decide ((r24 : Int) < 0)) = false, ((r24 : Int) != r23.1) = false, AbC 26 (yBl a0) (yBb r25), AbC 26 (yBl a1) (yBb r26), AbC 26 (yBl a2) (yBb r27), AbC 69 (xAd r25 r26 r27) (xAg r28), AbC 19 (yAr r28.1 r7) (yAm r29), (!r29) = false, AbC 23 (yCt (Val.mk (Val.kind r11.1) (Val.n r11.1) (Val.step r11.1) (Val.text r11.1) r23.2.1 r23.2.2.1 r23.2.2.2) 1) (yCu r30), (decide ((r30 : Int) < 0)) = false, ((r30 : Int) != r23.1) = true]) := by kernel_rfl
theorem p14_e_34 (a0 a1 a2 : Val) (r1 r2 r3 : Int) (r4 r5 r6 r7 r8 r9 r10 : Val) (r11 : Val × Bool) (r12 : Bool) (r13 : Val) (r14 : Bool) (r15 : Val) (r16 : Bool) (r17 : Val) (r18 : Bool) (r19 : Int × (List Val) × (List Str) × (List Rowd)) (r20 : Int × (List Val) × (List Str) × (List Rowd)) (r21 : Int × (List Val) × (List Str) × (List Rowd)) (r22 : Bool) (r23 : Int × (List Val) × (List Str) × (List Rowd)) (r24 : Int) (r25 r26 r27 : Val) (r28 : Val × Bool) (r29 : Bool) (r30 : Int) : run tt (AbsCalls Try.prog) I14 3000 false [.code I14.body] ⟨(zBg 0 (xAe a0 a1 a2)), [false, false, false, false, false, false, false, false, false, false, false, false, false, false], [yAw r1, yAw r2, yAw r3, yBb r4, yBb r5, yBb r6, xAc r7, yBb r8, yBb r9, yBb r10, xAg r11, yAm r12, yBb r13, yAm r14, yBb r15, yAm r16, yBb r17, yAm r18, yEy r19, yEy r20, yEy r21, yAm r22, yEy r23, yCu r24, yBb r25, yBb r26, yBb r27, xAg r28, yAm r29, yCu r30], []⟩ = some (.done (xAf true) [AbC 24 (yAG a0 1048576) (yAw r1), (decide ((r1 : Int) < 0)) = false, AbC 24 (yAG a1 r1) (yAw r2), (decide ((r2 : Int) < 0)) = false, AbC 24 (yAG a2 r2) (yAw r3), (decide ((r3 : Int) < 0)) = false, AbC 26 (yBl a0) (yBb r4), AbC 26 (yBl a1) (yBb r5), AbC 26 (yBl a2) (yBb r6), AbC 68 (xAj r4 r5 r6) (xAc r7), AbC 26 (yBl a0) (yBb r8), AbC 26 (yBl a1) (yBb r9), AbC 26 (yBl a2) (yBb r10), AbC 69 (xAd r8 r9 r10) (xAg r11), AbC 19 (yAr r11.1 r7) (yAm r12), (!r12) = false, AbC 26 (yBl a0) (yBb r13), AbC 19 (yAr r8 r13) (yAm r14), (!r14) = false, AbC 26 (yBl a1) (yBb r15), AbC 19 (yAr r9 r15) (yAm r16), (!r16) = false, AbC 26 (yBl a2) (yBb r17), AbC 19 (yAr r10 r17) (yAm r18), (!r18) = false, AbC 22 (yEx r8 1) (yEy r19), List.length r19.2.1 = List.length (Val.list r8), List.length r19.2.2.1 = List.length (Val.columns r8), List.length r19.2.2.2 = List.length (Val.rows r8), AbC 22 (yEx r9 r19.1) (yEy r20), List.length r20.2.1 = List.length (Val.list r9), List.length r20.2.2.1 = List.length (Val.columns r9), List.length r20.2.2.2 = List.length (Val.rows r9), AbC 22 (yEx r10 r20.1) (yEy r21), List.length r21.2.1 = List.length (Val.list r10), List.length r21.2.2.1 = List.length (Val.columns r10), List.length r21.2.2.2 = List.length (Val.rows r10), (decide ((r21.1 : Int) < 0)) = false, AbC 19 (yAr r11.1 r7) (yAm r22), (!r22) = false, AbC 22 (yEx r11.1 1) (yEy r23), List.length r23.2.1 = List.length (Val.list r11.1), List.length r23.2.2.1 = List.length (Val.columns r11.1), List.length r23.2.2.2 = List.length (Val.rows r11.1), AbC 23 (yCt (Val.mk (Val.kind r11.1) (Val.n r11.1) (Val.step r11.1) (Val.text r11.1) r23.2.1 r23.2.2.1 r23.2.2.2) 1) (yCu r24), (decide ((r24 : Int) < 0)) = false, ((r24 : Int) != r23.1) = false, AbC 26 (yBl a0) (yBb r25), AbC 26 (yBl a1) (yBb r26), AbC 26 (yBl a2) (yBb r27), AbC 69 (xAd r25 r26 r27) (xAg r28), AbC 19 (yAr r28.1 r7) (yAm r29), (!r29) = false, AbC 23 (yCt (Val.mk (Val.kind r11.1) (Val.n r11.1) (Val.step r11.1) (Val.text r11.1) r23.2.1 r23.2.2.1 r23.2.2.2) 1) (yCu r30), (decide ((r30 : Int) < 0)) = false, ((r30 : Int) != r23.1) = false]) := by kernel_rfl
theorem c14_e {N : Nat} : ∀ a0 a1 a2 r, xAw N a0 a1 a2 = some r → Reach Try.prog Try.f14 I14 [.code I14.body] (zBg 0 (xAe a0 a1 a2)) (xAf r) := by
 intro a0 a1 a2 r h
 unfold xAw at h
 obtain ⟨r1, h0, h⟩ := bind_inv h
 rcases cond_inv h with ⟨h1, h⟩ | ⟨h1, h⟩
 ·obtain rfl := Option.some.inj h
  exact Reach.done ttok mix fk14 (p14_e_0 a0 a1 a2 r1) (obs_cons (xAb h0) (obs_cons h1 obs_nil))
 ·obtain ⟨r2, h2, h⟩ := bind_inv h
  rcases cond_inv h with ⟨h3, h⟩ | ⟨h3, h⟩
  ·obtain rfl := Option.some.inj h
   exact Reach.done ttok mix fk14 (p14_e_1 a0 a1 a2 r1 r2) (obs_cons (xAb h0) (obs_cons h1 (obs_cons (xAb h2) (obs_cons h3 obs_nil))))
  ·obtain ⟨r3, h4, h⟩ := bind_inv h
   rcases cond_inv h with ⟨h5, h⟩ | ⟨h5, h⟩
   ·obtain rfl := Option.some.inj h
    exact Reach.done ttok mix fk14 (p14_e_2 a0 a1 a2 r1 r2 r3) (obs_cons (xAb h0) (obs_cons h1 (obs_cons (xAb h2) (obs_cons h3 (obs_cons (xAb h4) (obs_cons h5 obs_nil))))))
   ·obtain ⟨r4, h6, h⟩ := bind_inv h
    obtain ⟨r5, h7, h⟩ := bind_inv h
    obtain ⟨r6, h8, h⟩ := bind_inv h
    obtain ⟨r7, h9, h⟩ := bind_inv h
    obtain ⟨r8, h10, h⟩ := bind_inv h
    obtain ⟨r9, h11, h⟩ := bind_inv h
    obtain ⟨r10, h12, h⟩ := bind_inv h
    obtain ⟨r11, h13, h⟩ := bind_inv h
    rcases cond_inv h with ⟨h14, h⟩ | ⟨h14, h⟩
    ·obtain ⟨h15, h⟩ := ite_inv h
     obtain ⟨h16, h⟩ := ite_inv h
     obtain ⟨h17, h⟩ := ite_inv h
     obtain ⟨r12, h18, h⟩ := bind_inv h
     rcases cond_inv h with ⟨h19, h⟩ | ⟨h19, h⟩
     ·obtain rfl := Option.some.inj h
      exact Reach.done ttok mix fk14 (p14_e_3 a0 a1 a2 r1 r2 r3 r4 r5 r6 r7 r8 r9 r10 r11 r12) (obs_cons (xAb h0) (obs_cons h1 (obs_cons (xAb h2) (obs_cons h3 (obs_cons (xAb h4) (obs_cons h5 (obs_cons (xAa h6) (obs_cons (xAa h7) (obs_cons (xAa h8) (obs_cons (xAk h9) (obs_cons (xAa h10) (obs_cons (xAa h11) (obs_cons (xAa h12) (obs_cons (xAl (xAi h13) h14 h15 h16 h17) (obs_cons (laws_eqValue_ok h18) (obs_cons h19 obs_nil))))))))))))))))
     ·obtain ⟨r13, h20, h⟩ := bind_inv h
      obtain ⟨r14, h21, h⟩ := bind_inv h
      rcases cond_inv h with ⟨h22, h⟩ | ⟨h22, h⟩
      ·obtain rfl := Option.some.inj h
       exact Reach.done ttok mix fk14 (p14_e_4 a0 a1 a2 r1 r2 r3 r4 r5 r6 r7 r8 r9 r10 r11 r12 r13 r14) (obs_cons (xAb h0) (obs_cons h1 (obs_cons (xAb h2) (obs_cons h3 (obs_cons (xAb h4) (obs_cons h5 (obs_cons (xAa h6) (obs_cons (xAa h7) (obs_cons (xAa h8) (obs_cons (xAk h9) (obs_cons (xAa h10) (obs_cons (xAa h11) (obs_cons (xAa h12) (obs_cons (xAl (xAi h13) h14 h15 h16 h17) (obs_cons (laws_eqValue_ok h18) (obs_cons h19 (obs_cons (xAa h20) (obs_cons (laws_eqValue_ok h21) (obs_cons h22 obs_nil)))))))))))))))))))
      ·obtain ⟨r15, h23, h⟩ := bind_inv h
       obtain ⟨r16, h24, h⟩ := bind_inv h
       rcases cond_inv h with ⟨h25, h⟩ | ⟨h25, h⟩
       ·obtain rfl := Option.some.inj h
        exact Reach.done ttok mix fk14 (p14_e_5 a0 a1 a2 r1 r2 r3 r4 r5 r6 r7 r8 r9 r10 r11 r12 r13 r14 r15 r16) (obs_cons (xAb h0) (obs_cons h1 (obs_cons (xAb h2) (obs_cons h3 (obs_cons (xAb h4) (obs_cons h5 (obs_cons (xAa h6) (obs_cons (xAa h7) (obs_cons (xAa h8) (obs_cons (xAk h9) (obs_cons (xAa h10) (obs_cons (xAa h11) (obs_cons (xAa h12) (obs_cons (xAl (xAi h13) h14 h15 h16 h17) (obs_cons (laws_eqValue_ok h18) (obs_cons h19 (obs_cons (xAa h20) (obs_cons (laws_eqValue_ok h21) (obs_cons h22 (obs_cons (xAa h23) (obs_cons (laws_eqValue_ok h24) (obs_cons h25 obs_nil))))))))))))))))))))))
       ·obtain ⟨r17, h26, h⟩ := bind_inv h
        obtain ⟨r18, h27, h⟩ := bind_inv h
        rcases cond_inv h with ⟨h28, h⟩ | ⟨h28, h⟩
        ·obtain rfl := Option.some.inj h
         exact Reach.done ttok mix fk14 (p14_e_6 a0 a1 a2 r1 r2 r3 r4 r5 r6 r7 r8 r9 r10 r11 r12 r13 r14 r15 r16 r17 r18) (obs_cons (xAb h0) (obs_cons h1 (obs_cons (xAb h2) (obs_cons h3 (obs_cons (xAb h4) (obs_cons h5 (obs_cons (xAa h6) (obs_cons (xAa h7) (obs_cons (xAa h8) (obs_cons (xAk h9) (obs_cons (xAa h10) (obs_cons (xAa h11) (obs_cons (xAa h12) (obs_cons (xAl (xAi h13) h14 h15 h16 h17) (obs_cons (laws_eqValue_ok h18) (obs_cons h19 (obs_cons (xAa h20) (obs_cons (laws_eqValue_ok h21) (obs_cons h22 (obs_cons (xAa h23) (obs_cons (laws_eqValue_ok h24) (obs_cons h25 (obs_cons (xAa h26) (obs_cons (laws_eqValue_ok h27) (obs_cons h28 obs_nil)))))))))))))))))))))))))
        ·obtain ⟨r19, h29, h⟩ := bind_inv h
         obtain ⟨h30, h⟩ := ite_inv h
         obtain ⟨h31, h⟩ := ite_inv h
         obtain ⟨h32, h⟩ := ite_inv h
         obtain ⟨r20, h33, h⟩ := bind_inv h
         obtain ⟨h34, h⟩ := ite_inv h
         obtain ⟨h35, h⟩ := ite_inv h
         obtain ⟨h36, h⟩ := ite_inv h
         obtain ⟨r21, h37, h⟩ := bind_inv h
         obtain ⟨h38, h⟩ := ite_inv h
         obtain ⟨h39, h⟩ := ite_inv h
         obtain ⟨h40, h⟩ := ite_inv h
         rcases cond_inv h with ⟨h41, h⟩ | ⟨h41, h⟩
         ·obtain rfl := Option.some.inj h
          exact Reach.done ttok mix fk14 (p14_e_7 a0 a1 a2 r1 r2 r3 r4 r5 r6 r7 r8 r9 r10 r11 r12 r13 r14 r15 r16 r17 r18 r19 r20 r21) (obs_cons (xAb h0) (obs_cons h1 (obs_cons (xAb h2) (obs_cons h3 (obs_cons (xAb h4) (obs_cons h5 (obs_cons (xAa h6) (obs_cons (xAa h7) (obs_cons (xAa h8) (obs_cons (xAk h9) (obs_cons (xAa h10) (obs_cons (xAa h11) (obs_cons (xAa h12) (obs_cons (xAl (xAi h13) h14 h15 h16 h17) (obs_cons (laws_eqValue_ok h18) (obs_cons h19 (obs_cons (xAa h20) (obs_cons (laws_eqValue_ok h21) (obs_cons h22 (obs_cons (xAa h23) (obs_cons (laws_eqValue_ok h24) (obs_cons h25 (obs_cons (xAa h26) (obs_cons (laws_eqValue_ok h27) (obs_cons h28 (obs_cons (laws_markValue_ok h29) (obs_cons h30 (obs_cons h31 (obs_cons h32 (obs_cons (laws_markValue_ok h33) (obs_cons h34 (obs_cons h35 (obs_cons h36 (obs_cons (laws_markValue_ok h37) (obs_cons h38 (obs_cons h39 (obs_cons h40 (obs_cons h41 (obs_cons rfl obs_nil)))))))))))))))))))))))))))))))))))))))
         ·obtain ⟨r22, h42, h⟩ := bind_inv h
          rcases cond_inv h with ⟨h43, h⟩ | ⟨h43, h⟩
          ·obtain rfl := Option.some.inj h
           exact Reach.done ttok mix fk14 (p14_e_8 a0 a1 a2 r1 r2 r3 r4 r5 r6 r7 r8 r9 r10 r11 r12 r13 r14 r15 r16 r17 r18 r19 r20 r21 r22) (obs_cons (xAb h0) (obs_cons h1 (obs_cons (xAb h2) (obs_cons h3 (obs_cons (xAb h4) (obs_cons h5 (obs_cons (xAa h6) (obs_cons (xAa h7) (obs_cons (xAa h8) (obs_cons (xAk h9) (obs_cons (xAa h10) (obs_cons (xAa h11) (obs_cons (xAa h12) (obs_cons (xAl (xAi h13) h14 h15 h16 h17) (obs_cons (laws_eqValue_ok h18) (obs_cons h19 (obs_cons (xAa h20) (obs_cons (laws_eqValue_ok h21) (obs_cons h22 (obs_cons (xAa h23) (obs_cons (laws_eqValue_ok h24) (obs_cons h25 (obs_cons (xAa h26) (obs_cons (laws_eqValue_ok h27) (obs_cons h28 (obs_cons (laws_markValue_ok h29) (obs_cons h30 (obs_cons h31 (obs_cons h32 (obs_cons (laws_markValue_ok h33) (obs_cons h34 (obs_cons h35 (obs_cons h36 (obs_cons (laws_markValue_ok h37) (obs_cons h38 (obs_cons h39 (obs_cons h40 (obs_cons h41 (obs_cons (laws_eqValue_ok h42) (obs_cons h43 obs_nil))))))))))))))))))))))))))))))))))))))))
          ·obtain ⟨r23, h44, h⟩ := bind_inv h
           obtain ⟨r24, h45, h⟩ := bind_inv h
           rcases cond_inv h with ⟨h46, h⟩ | ⟨h46, h⟩
           ·obtain rfl := Option.some.inj h
            exact Reach.done ttok mix fk14 (p14_e_9 a0 a1 a2 r1 r2 r3 r4 r5 r6 r7 r8 r9 r10 r11 r12 r13 r14 r15 r16 r17 r18 r19 r20 r21 r22 r23 r24) (obs_cons (xAb h0) (obs_cons h1 (obs_cons (xAb h2) (obs_cons h3 (obs_cons (xAb h4) (obs_cons h5 (obs_cons (xAa h6) (obs_cons (xAa h7) (obs_cons (xAa h8) (obs_cons (xAk h9) (obs_cons (xAa h10) (obs_cons (xAa h11) (obs_cons (xAa h12) (obs_cons (xAl (xAi h13) h14 h15 h16 h17) (obs_cons (laws_eqValue_ok h18) (obs_cons h19 (obs_cons (xAa h20) (obs_cons (laws_eqValue_ok h21) (obs_cons h22 (obs_cons (xAa h23) (obs_cons (laws_eqValue_ok h24) (obs_cons h25 (obs_cons (xAa h26) (obs_cons (laws_eqValue_ok h27) (obs_cons h28 (obs_cons (laws_markValue_ok h29) (obs_cons h30 (obs_cons h31 (obs_cons h32 (obs_cons (laws_markValue_ok h33) (obs_cons h34 (obs_cons h35 (obs_cons h36 (obs_cons (laws_markValue_ok h37) (obs_cons h38 (obs_cons h39 (obs_cons h40 (obs_cons h41 (obs_cons (laws_eqValue_ok h42) (obs_cons h43 (obs_cons (xAv h44) (obs_cons (laws_heldValue_ok h45) (obs_cons h46 obs_nil)))))))))))))))))))))))))))))))))))))))))))
           ·rcases cond_inv h with ⟨h47, h⟩ | ⟨h47, h⟩
            ·obtain rfl := Option.some.inj h
             exact Reach.done ttok mix fk14 (p14_e_10 a0 a1 a2 r1 r2 r3 r4 r5 r6 r7 r8 r9 r10 r11 r12 r13 r14 r15 r16 r17 r18 r19 r20 r21 r22 r23 r24) (obs_cons (xAb h0) (obs_cons h1 (obs_cons (xAb h2) (obs_cons h3 (obs_cons (xAb h4) (obs_cons h5 (obs_cons (xAa h6) (obs_cons (xAa h7) (obs_cons (xAa h8) (obs_cons (xAk h9) (obs_cons (xAa h10) (obs_cons (xAa h11) (obs_cons (xAa h12) (obs_cons (xAl (xAi h13) h14 h15 h16 h17) (obs_cons (laws_eqValue_ok h18) (obs_cons h19 (obs_cons (xAa h20) (obs_cons (laws_eqValue_ok h21) (obs_cons h22 (obs_cons (xAa h23) (obs_cons (laws_eqValue_ok h24) (obs_cons h25 (obs_cons (xAa h26) (obs_cons (laws_eqValue_ok h27) (obs_cons h28 (obs_cons (laws_markValue_ok h29) (obs_cons h30 (obs_cons h31 (obs_cons h32 (obs_cons (laws_markValue_ok h33) (obs_cons h34 (obs_cons h35 (obs_cons h36 (obs_cons (laws_markValue_ok h37) (obs_cons h38 (obs_cons h39 (obs_cons h40 (obs_cons h41 (obs_cons (laws_eqValue_ok h42) (obs_cons h43 (obs_cons (xAv h44) (obs_cons (laws_heldValue_ok h45) (obs_cons h46 (obs_cons h47 obs_nil))))))))))))))))))))))))))))))))))))))))))))
            ·obtain ⟨r25, h48, h⟩ := bind_inv h
             obtain ⟨r26, h49, h⟩ := bind_inv h
             obtain ⟨r27, h50, h⟩ := bind_inv h
             obtain ⟨r28, h51, h⟩ := bind_inv h
             rcases cond_inv h with ⟨h52, h⟩ | ⟨h52, h⟩
             ·obtain ⟨h53, h⟩ := ite_inv h
              obtain ⟨h54, h⟩ := ite_inv h
              obtain ⟨h55, h⟩ := ite_inv h
              obtain ⟨r29, h56, h⟩ := bind_inv h
              rcases cond_inv h with ⟨h57, h⟩ | ⟨h57, h⟩
              ·obtain rfl := Option.some.inj h
               exact Reach.done ttok mix fk14 (p14_e_11 a0 a1 a2 r1 r2 r3 r4 r5 r6 r7 r8 r9 r10 r11 r12 r13 r14 r15 r16 r17 r18 r19 r20 r21 r22 r23 r24 r25 r26 r27 r28 r29) (obs_cons (xAb h0) (obs_cons h1 (obs_cons (xAb h2) (obs_cons h3 (obs_cons (xAb h4) (obs_cons h5 (obs_cons (xAa h6) (obs_cons (xAa h7) (obs_cons (xAa h8) (obs_cons (xAk h9) (obs_cons (xAa h10) (obs_cons (xAa h11) (obs_cons (xAa h12) (obs_cons (xAl (xAi h13) h14 h15 h16 h17) (obs_cons (laws_eqValue_ok h18) (obs_cons h19 (obs_cons (xAa h20) (obs_cons (laws_eqValue_ok h21) (obs_cons h22 (obs_cons (xAa h23) (obs_cons (laws_eqValue_ok h24) (obs_cons h25 (obs_cons (xAa h26) (obs_cons (laws_eqValue_ok h27) (obs_cons h28 (obs_cons (laws_markValue_ok h29) (obs_cons h30 (obs_cons h31 (obs_cons h32 (obs_cons (laws_markValue_ok h33) (obs_cons h34 (obs_cons h35 (obs_cons h36 (obs_cons (laws_markValue_ok h37) (obs_cons h38 (obs_cons h39 (obs_cons h40 (obs_cons h41 (obs_cons (laws_eqValue_ok h42) (obs_cons h43 (obs_cons (xAv h44) (obs_cons (laws_heldValue_ok h45) (obs_cons h46 (obs_cons h47 (obs_cons (xAa h48) (obs_cons (xAa h49) (obs_cons (xAa h50) (obs_cons (xAl (xAi h51) h52 h53 h54 h55) (obs_cons (laws_eqValue_ok h56) (obs_cons h57 obs_nil))))))))))))))))))))))))))))))))))))))))))))))))))
              ·obtain ⟨r30, h58, h⟩ := bind_inv h
               rcases cond_inv h with ⟨h59, h⟩ | ⟨h59, h⟩
               ·obtain rfl := Option.some.inj h
                exact Reach.done ttok mix fk14 (p14_e_12 a0 a1 a2 r1 r2 r3 r4 r5 r6 r7 r8 r9 r10 r11 r12 r13 r14 r15 r16 r17 r18 r19 r20 r21 r22 r23 r24 r25 r26 r27 r28 r29 r30) (obs_cons (xAb h0) (obs_cons h1 (obs_cons (xAb h2) (obs_cons h3 (obs_cons (xAb h4) (obs_cons h5 (obs_cons (xAa h6) (obs_cons (xAa h7) (obs_cons (xAa h8) (obs_cons (xAk h9) (obs_cons (xAa h10) (obs_cons (xAa h11) (obs_cons (xAa h12) (obs_cons (xAl (xAi h13) h14 h15 h16 h17) (obs_cons (laws_eqValue_ok h18) (obs_cons h19 (obs_cons (xAa h20) (obs_cons (laws_eqValue_ok h21) (obs_cons h22 (obs_cons (xAa h23) (obs_cons (laws_eqValue_ok h24) (obs_cons h25 (obs_cons (xAa h26) (obs_cons (laws_eqValue_ok h27) (obs_cons h28 (obs_cons (laws_markValue_ok h29) (obs_cons h30 (obs_cons h31 (obs_cons h32 (obs_cons (laws_markValue_ok h33) (obs_cons h34 (obs_cons h35 (obs_cons h36 (obs_cons (laws_markValue_ok h37) (obs_cons h38 (obs_cons h39 (obs_cons h40 (obs_cons h41 (obs_cons (laws_eqValue_ok h42) (obs_cons h43 (obs_cons (xAv h44) (obs_cons (laws_heldValue_ok h45) (obs_cons h46 (obs_cons h47 (obs_cons (xAa h48) (obs_cons (xAa h49) (obs_cons (xAa h50) (obs_cons (xAl (xAi h51) h52 h53 h54 h55) (obs_cons (laws_eqValue_ok h56) (obs_cons h57 (obs_cons (laws_heldValue_ok h58) (obs_cons h59 obs_nil))))))))))))))))))))))))))))))))))))))))))))))))))))
               ·rcases cond_inv h with ⟨h60, h⟩ | ⟨h60, h⟩
                ·obtain rfl := Option.some.inj h
                 exact Reach.done ttok mix fk14 (p14_e_13 a0 a1 a2 r1 r2 r3 r4 r5 r6 r7 r8 r9 r10 r11 r12 r13 r14 r15 r16 r17 r18 r19 r20 r21 r22 r23 r24 r25 r26 r27 r28 r29 r30) (obs_cons (xAb h0) (obs_cons h1 (obs_cons (xAb h2) (obs_cons h3 (obs_cons (xAb h4) (obs_cons h5 (obs_cons (xAa h6) (obs_cons (xAa h7) (obs_cons (xAa h8) (obs_cons (xAk h9) (obs_cons (xAa h10) (obs_cons (xAa h11) (obs_cons (xAa h12) (obs_cons (xAl (xAi h13) h14 h15 h16 h17) (obs_cons (laws_eqValue_ok h18) (obs_cons h19 (obs_cons (xAa h20) (obs_cons (laws_eqValue_ok h21) (obs_cons h22 (obs_cons (xAa h23) (obs_cons (laws_eqValue_ok h24) (obs_cons h25 (obs_cons (xAa h26) (obs_cons (laws_eqValue_ok h27) (obs_cons h28 (obs_cons (laws_markValue_ok h29) (obs_cons h30 (obs_cons h31 (obs_cons h32 (obs_cons (laws_markValue_ok h33) (obs_cons h34 (obs_cons h35 (obs_cons h36 (obs_cons (laws_markValue_ok h37) (obs_cons h38 (obs_cons h39 (obs_cons h40 (obs_cons h41 (obs_cons (laws_eqValue_ok h42) (obs_cons h43 (obs_cons (xAv h44) (obs_cons (laws_heldValue_ok h45) (obs_cons h46 (obs_cons h47 (obs_cons (xAa h48) (obs_cons (xAa h49) (obs_cons (xAa h50) (obs_cons (xAl (xAi h51) h52 h53 h54 h55) (obs_cons (laws_eqValue_ok h56) (obs_cons h57 (obs_cons (laws_heldValue_ok h58) (obs_cons h59 (obs_cons h60 obs_nil)))))))))))))))))))))))))))))))))))))))))))))))))))))
                ·obtain rfl := Option.some.inj h
                 exact Reach.done ttok mix fk14 (p14_e_14 a0 a1 a2 r1 r2 r3 r4 r5 r6 r7 r8 r9 r10 r11 r12 r13 r14 r15 r16 r17 r18 r19 r20 r21 r22 r23 r24 r25 r26 r27 r28 r29 r30) (obs_cons (xAb h0) (obs_cons h1 (obs_cons (xAb h2) (obs_cons h3 (obs_cons (xAb h4) (obs_cons h5 (obs_cons (xAa h6) (obs_cons (xAa h7) (obs_cons (xAa h8) (obs_cons (xAk h9) (obs_cons (xAa h10) (obs_cons (xAa h11) (obs_cons (xAa h12) (obs_cons (xAl (xAi h13) h14 h15 h16 h17) (obs_cons (laws_eqValue_ok h18) (obs_cons h19 (obs_cons (xAa h20) (obs_cons (laws_eqValue_ok h21) (obs_cons h22 (obs_cons (xAa h23) (obs_cons (laws_eqValue_ok h24) (obs_cons h25 (obs_cons (xAa h26) (obs_cons (laws_eqValue_ok h27) (obs_cons h28 (obs_cons (laws_markValue_ok h29) (obs_cons h30 (obs_cons h31 (obs_cons h32 (obs_cons (laws_markValue_ok h33) (obs_cons h34 (obs_cons h35 (obs_cons h36 (obs_cons (laws_markValue_ok h37) (obs_cons h38 (obs_cons h39 (obs_cons h40 (obs_cons h41 (obs_cons (laws_eqValue_ok h42) (obs_cons h43 (obs_cons (xAv h44) (obs_cons (laws_heldValue_ok h45) (obs_cons h46 (obs_cons h47 (obs_cons (xAa h48) (obs_cons (xAa h49) (obs_cons (xAa h50) (obs_cons (xAl (xAi h51) h52 h53 h54 h55) (obs_cons (laws_eqValue_ok h56) (obs_cons h57 (obs_cons (laws_heldValue_ok h58) (obs_cons h59 (obs_cons h60 obs_nil)))))))))))))))))))))))))))))))))))))))))))))))))))))
             ·obtain ⟨r29, h53, h⟩ := bind_inv h
              rcases cond_inv h with ⟨h54, h⟩ | ⟨h54, h⟩
              ·obtain rfl := Option.some.inj h
               exact Reach.done ttok mix fk14 (p14_e_15 a0 a1 a2 r1 r2 r3 r4 r5 r6 r7 r8 r9 r10 r11 r12 r13 r14 r15 r16 r17 r18 r19 r20 r21 r22 r23 r24 r25 r26 r27 r28 r29) (obs_cons (xAb h0) (obs_cons h1 (obs_cons (xAb h2) (obs_cons h3 (obs_cons (xAb h4) (obs_cons h5 (obs_cons (xAa h6) (obs_cons (xAa h7) (obs_cons (xAa h8) (obs_cons (xAk h9) (obs_cons (xAa h10) (obs_cons (xAa h11) (obs_cons (xAa h12) (obs_cons (xAl (xAi h13) h14 h15 h16 h17) (obs_cons (laws_eqValue_ok h18) (obs_cons h19 (obs_cons (xAa h20) (obs_cons (laws_eqValue_ok h21) (obs_cons h22 (obs_cons (xAa h23) (obs_cons (laws_eqValue_ok h24) (obs_cons h25 (obs_cons (xAa h26) (obs_cons (laws_eqValue_ok h27) (obs_cons h28 (obs_cons (laws_markValue_ok h29) (obs_cons h30 (obs_cons h31 (obs_cons h32 (obs_cons (laws_markValue_ok h33) (obs_cons h34 (obs_cons h35 (obs_cons h36 (obs_cons (laws_markValue_ok h37) (obs_cons h38 (obs_cons h39 (obs_cons h40 (obs_cons h41 (obs_cons (laws_eqValue_ok h42) (obs_cons h43 (obs_cons (xAv h44) (obs_cons (laws_heldValue_ok h45) (obs_cons h46 (obs_cons h47 (obs_cons (xAa h48) (obs_cons (xAa h49) (obs_cons (xAa h50) (obs_cons (xAm (xAi h51) h52) (obs_cons (laws_eqValue_ok h53) (obs_cons h54 obs_nil))))))))))))))))))))))))))))))))))))))))))))))))))
              ·obtain ⟨r30, h55, h⟩ := bind_inv h
               rcases cond_inv h with ⟨h56, h⟩ | ⟨h56, h⟩
               ·obtain rfl := Option.some.inj h
                exact Reach.done ttok mix fk14 (p14_e_16 a0 a1 a2 r1 r2 r3 r4 r5 r6 r7 r8 r9 r10 r11 r12 r13 r14 r15 r16 r17 r18 r19 r20 r21 r22 r23 r24 r25 r26 r27 r28 r29 r30) (obs_cons (xAb h0) (obs_cons h1 (obs_cons (xAb h2) (obs_cons h3 (obs_cons (xAb h4) (obs_cons h5 (obs_cons (xAa h6) (obs_cons (xAa h7) (obs_cons (xAa h8) (obs_cons (xAk h9) (obs_cons (xAa h10) (obs_cons (xAa h11) (obs_cons (xAa h12) (obs_cons (xAl (xAi h13) h14 h15 h16 h17) (obs_cons (laws_eqValue_ok h18) (obs_cons h19 (obs_cons (xAa h20) (obs_cons (laws_eqValue_ok h21) (obs_cons h22 (obs_cons (xAa h23) (obs_cons (laws_eqValue_ok h24) (obs_cons h25 (obs_cons (xAa h26) (obs_cons (laws_eqValue_ok h27) (obs_cons h28 (obs_cons (laws_markValue_ok h29) (obs_cons h30 (obs_cons h31 (obs_cons h32 (obs_cons (laws_markValue_ok h33) (obs_cons h34 (obs_cons h35 (obs_cons h36 (obs_cons (laws_markValue_ok h37) (obs_cons h38 (obs_cons h39 (obs_cons h40 (obs_cons h41 (obs_cons (laws_eqValue_ok h42) (obs_cons h43 (obs_cons (xAv h44) (obs_cons (laws_heldValue_ok h45) (obs_cons h46 (obs_cons h47 (obs_cons (xAa h48) (obs_cons (xAa h49) (obs_cons (xAa h50) (obs_cons (xAm (xAi h51) h52) (obs_cons (laws_eqValue_ok h53) (obs_cons h54 (obs_cons (laws_heldValue_ok h55) (obs_cons h56 obs_nil))))))))))))))))))))))))))))))))))))))))))))))))))))
               ·rcases cond_inv h with ⟨h57, h⟩ | ⟨h57, h⟩
                ·obtain rfl := Option.some.inj h
                 exact Reach.done ttok mix fk14 (p14_e_17 a0 a1 a2 r1 r2 r3 r4 r5 r6 r7 r8 r9 r10 r11 r12 r13 r14 r15 r16 r17 r18 r19 r20 r21 r22 r23 r24 r25 r26 r27 r28 r29 r30) (obs_cons (xAb h0) (obs_cons h1 (obs_cons (xAb h2) (obs_cons h3 (obs_cons (xAb h4) (obs_cons h5 (obs_cons (xAa h6) (obs_cons (xAa h7) (obs_cons (xAa h8) (obs_cons (xAk h9) (obs_cons (xAa h10) (obs_cons (xAa h11) (obs_cons (xAa h12) (obs_cons (xAl (xAi h13) h14 h15 h16 h17) (obs_cons (laws_eqValue_ok h18) (obs_cons h19 (obs_cons (xAa h20) (obs_cons (laws_eqValue_ok h21) (obs_cons h22 (obs_cons (xAa h23) (obs_cons (laws_eqValue_ok h24) (obs_cons h25 (obs_cons (xAa h26) (obs_cons (laws_eqValue_ok h27) (obs_cons h28 (obs_cons (laws_markValue_ok h29) (obs_cons h30 (obs_cons h31 (obs_cons h32 (obs_cons (laws_markValue_ok h33) (obs_cons h34 (obs_cons h35 (obs_cons h36 (obs_cons (laws_markValue_ok h37) (obs_cons h38 (obs_cons h39 (obs_cons h40 (obs_cons h41 (obs_cons (laws_eqValue_ok h42) (obs_cons h43 (obs_cons (xAv h44) (obs_cons (laws_heldValue_ok h45) (obs_cons h46 (obs_cons h47 (obs_cons (xAa h48) (obs_cons (xAa h49) (obs_cons (xAa h50) (obs_cons (xAm (xAi h51) h52) (obs_cons (laws_eqValue_ok h53) (obs_cons h54 (obs_cons (laws_heldValue_ok h55) (obs_cons h56 (obs_cons h57 obs_nil)))))))))))))))))))))))))))))))))))))))))))))))))))))
                ·obtain rfl := Option.some.inj h
                 exact Reach.done ttok mix fk14 (p14_e_18 a0 a1 a2 r1 r2 r3 r4 r5 r6 r7 r8 r9 r10 r11 r12 r13 r14 r15 r16 r17 r18 r19 r20 r21 r22 r23 r24 r25 r26 r27 r28 r29 r30) (obs_cons (xAb h0) (obs_cons h1 (obs_cons (xAb h2) (obs_cons h3 (obs_cons (xAb h4) (obs_cons h5 (obs_cons (xAa h6) (obs_cons (xAa h7) (obs_cons (xAa h8) (obs_cons (xAk h9) (obs_cons (xAa h10) (obs_cons (xAa h11) (obs_cons (xAa h12) (obs_cons (xAl (xAi h13) h14 h15 h16 h17) (obs_cons (laws_eqValue_ok h18) (obs_cons h19 (obs_cons (xAa h20) (obs_cons (laws_eqValue_ok h21) (obs_cons h22 (obs_cons (xAa h23) (obs_cons (laws_eqValue_ok h24) (obs_cons h25 (obs_cons (xAa h26) (obs_cons (laws_eqValue_ok h27) (obs_cons h28 (obs_cons (laws_markValue_ok h29) (obs_cons h30 (obs_cons h31 (obs_cons h32 (obs_cons (laws_markValue_ok h33) (obs_cons h34 (obs_cons h35 (obs_cons h36 (obs_cons (laws_markValue_ok h37) (obs_cons h38 (obs_cons h39 (obs_cons h40 (obs_cons h41 (obs_cons (laws_eqValue_ok h42) (obs_cons h43 (obs_cons (xAv h44) (obs_cons (laws_heldValue_ok h45) (obs_cons h46 (obs_cons h47 (obs_cons (xAa h48) (obs_cons (xAa h49) (obs_cons (xAa h50) (obs_cons (xAm (xAi h51) h52) (obs_cons (laws_eqValue_ok h53) (obs_cons h54 (obs_cons (laws_heldValue_ok h55) (obs_cons h56 (obs_cons h57 obs_nil)))))))))))))))))))))))))))))))))))))))))))))))))))))
    ·obtain ⟨r12, h15, h⟩ := bind_inv h
     rcases cond_inv h with ⟨h16, h⟩ | ⟨h16, h⟩
     ·obtain rfl := Option.some.inj h
      exact Reach.done ttok mix fk14 (p14_e_19 a0 a1 a2 r1 r2 r3 r4 r5 r6 r7 r8 r9 r10 r11 r12) (obs_cons (xAb h0) (obs_cons h1 (obs_cons (xAb h2) (obs_cons h3 (obs_cons (xAb h4) (obs_cons h5 (obs_cons (xAa h6) (obs_cons (xAa h7) (obs_cons (xAa h8) (obs_cons (xAk h9) (obs_cons (xAa h10) (obs_cons (xAa h11) (obs_cons (xAa h12) (obs_cons (xAm (xAi h13) h14) (obs_cons (laws_eqValue_ok h15) (obs_cons h16 obs_nil))))))))))))))))
     ·obtain ⟨r13, h17, h⟩ := bind_inv h
      obtain ⟨r14, h18, h⟩ := bind_inv h
      rcases cond_inv h with ⟨h19, h⟩ | ⟨h19, h⟩
      ·obtain rfl := Option.some.inj h
       exact Reach.done ttok mix fk14 (p14_e_20 a0 a1 a2 r1 r2 r3 r4 r5 r6 r7 r8 r9 r10 r11 r12 r13 r14) (obs_cons (xAb h0) (obs_cons h1 (obs_cons (xAb h2) (obs_cons h3 (obs_cons (xAb h4) (obs_cons h5 (obs_cons (xAa h6) (obs_cons (xAa h7) (obs_cons (xAa h8) (obs_cons (xAk h9) (obs_cons (xAa h10) (obs_cons (xAa h11) (obs_cons (xAa h12) (obs_cons (xAm (xAi h13) h14) (obs_cons (laws_eqValue_ok h15) (obs_cons h16 (obs_cons (xAa h17) (obs_cons (laws_eqValue_ok h18) (obs_cons h19 obs_nil)))))))))))))))))))
      ·obtain ⟨r15, h20, h⟩ := bind_inv h
       obtain ⟨r16, h21, h⟩ := bind_inv h
       rcases cond_inv h with ⟨h22, h⟩ | ⟨h22, h⟩
       ·obtain rfl := Option.some.inj h
        exact Reach.done ttok mix fk14 (p14_e_21 a0 a1 a2 r1 r2 r3 r4 r5 r6 r7 r8 r9 r10 r11 r12 r13 r14 r15 r16) (obs_cons (xAb h0) (obs_cons h1 (obs_cons (xAb h2) (obs_cons h3 (obs_cons (xAb h4) (obs_cons h5 (obs_cons (xAa h6) (obs_cons (xAa h7) (obs_cons (xAa h8) (obs_cons (xAk h9) (obs_cons (xAa h10) (obs_cons (xAa h11) (obs_cons (xAa h12) (obs_cons (xAm (xAi h13) h14) (obs_cons (laws_eqValue_ok h15) (obs_cons h16 (obs_cons (xAa h17) (obs_cons (laws_eqValue_ok h18) (obs_cons h19 (obs_cons (xAa h20) (obs_cons (laws_eqValue_ok h21) (obs_cons h22 obs_nil))))))))))))))))))))))
       ·obtain ⟨r17, h23, h⟩ := bind_inv h
        obtain ⟨r18, h24, h⟩ := bind_inv h
        rcases cond_inv h with ⟨h25, h⟩ | ⟨h25, h⟩
        ·obtain rfl := Option.some.inj h
         exact Reach.done ttok mix fk14 (p14_e_22 a0 a1 a2 r1 r2 r3 r4 r5 r6 r7 r8 r9 r10 r11 r12 r13 r14 r15 r16 r17 r18) (obs_cons (xAb h0) (obs_cons h1 (obs_cons (xAb h2) (obs_cons h3 (obs_cons (xAb h4) (obs_cons h5 (obs_cons (xAa h6) (obs_cons (xAa h7) (obs_cons (xAa h8) (obs_cons (xAk h9) (obs_cons (xAa h10) (obs_cons (xAa h11) (obs_cons (xAa h12) (obs_cons (xAm (xAi h13) h14) (obs_cons (laws_eqValue_ok h15) (obs_cons h16 (obs_cons (xAa h17) (obs_cons (laws_eqValue_ok h18) (obs_cons h19 (obs_cons (xAa h20) (obs_cons (laws_eqValue_ok h21) (obs_cons h22 (obs_cons (xAa h23) (obs_cons (laws_eqValue_ok h24) (obs_cons h25 obs_nil)))))))))))))))))))))))))
        ·obtain ⟨r19, h26, h⟩ := bind_inv h
         obtain ⟨h27, h⟩ := ite_inv h
         obtain ⟨h28, h⟩ := ite_inv h
         obtain ⟨h29, h⟩ := ite_inv h
         obtain ⟨r20, h30, h⟩ := bind_inv h
         obtain ⟨h31, h⟩ := ite_inv h
         obtain ⟨h32, h⟩ := ite_inv h
         obtain ⟨h33, h⟩ := ite_inv h
         obtain ⟨r21, h34, h⟩ := bind_inv h
         obtain ⟨h35, h⟩ := ite_inv h
         obtain ⟨h36, h⟩ := ite_inv h
         obtain ⟨h37, h⟩ := ite_inv h
         rcases cond_inv h with ⟨h38, h⟩ | ⟨h38, h⟩
         ·obtain rfl := Option.some.inj h
          exact Reach.done ttok mix fk14 (p14_e_23 a0 a1 a2 r1 r2 r3 r4 r5 r6 r7 r8 r9 r10 r11 r12 r13 r14 r15 r16 r17 r18 r19 r20 r21) (obs_cons (xAb h0) (obs_cons h1 (obs_cons (xAb h2) (obs_cons h3 (obs_cons (xAb h4) (obs_cons h5 (obs_cons (xAa h6) (obs_cons (xAa h7) (obs_cons (xAa h8) (obs_cons (xAk h9) (obs_cons (xAa h10) (obs_cons (xAa h11) (obs_cons (xAa h12) (obs_cons (xAm (xAi h13) h14) (obs_cons (laws_eqValue_ok h15) (obs_cons h16 (obs_cons (xAa h17) (obs_cons (laws_eqValue_ok h18) (obs_cons h19 (obs_cons (xAa h20) (obs_cons (laws_eqValue_ok h21) (obs_cons h22 (obs_cons (xAa h23) (obs_cons (laws_eqValue_ok h24) (obs_cons h25 (obs_cons (laws_markValue_ok h26) (obs_cons h27 (obs_cons h28 (obs_cons h29 (obs_cons (laws_markValue_ok h30) (obs_cons h31 (obs_cons h32 (obs_cons h33 (obs_cons (laws_markValue_ok h34) (obs_cons h35 (obs_cons h36 (obs_cons h37 (obs_cons h38 (obs_cons rfl obs_nil)))))))))))))))))))))))))))))))))))))))
         ·obtain ⟨r22, h39, h⟩ := bind_inv h
          rcases cond_inv h with ⟨h40, h⟩ | ⟨h40, h⟩
          ·obtain rfl := Option.some.inj h
           exact Reach.done ttok mix fk14 (p14_e_24 a0 a1 a2 r1 r2 r3 r4 r5 r6 r7 r8 r9 r10 r11 r12 r13 r14 r15 r16 r17 r18 r19 r20 r21 r22) (obs_cons (xAb h0) (obs_cons h1 (obs_cons (xAb h2) (obs_cons h3 (obs_cons (xAb h4) (obs_cons h5 (obs_cons (xAa h6) (obs_cons (xAa h7) (obs_cons (xAa h8) (obs_cons (xAk h9) (obs_cons (xAa h10) (obs_cons (xAa h11) (obs_cons (xAa h12) (obs_cons (xAm (xAi h13) h14) (obs_cons (laws_eqValue_ok h15) (obs_cons h16 (obs_cons (xAa h17) (obs_cons (laws_eqValue_ok h18) (obs_cons h19 (obs_cons (xAa h20) (obs_cons (laws_eqValue_ok h21) (obs_cons h22 (obs_cons (xAa h23) (obs_cons (laws_eqValue_ok h24) (obs_cons h25 (obs_cons (laws_markValue_ok h26) (obs_cons h27 (obs_cons h28 (obs_cons h29 (obs_cons (laws_markValue_ok h30) (obs_cons h31 (obs_cons h32 (obs_cons h33 (obs_cons (laws_markValue_ok h34) (obs_cons h35 (obs_cons h36 (obs_cons h37 (obs_cons h38 (obs_cons (laws_eqValue_ok h39) (obs_cons h40 obs_nil))))))))))))))))))))))))))))))))))))))))
          ·obtain ⟨r23, h41, h⟩ := bind_inv h
           obtain ⟨h42, h⟩ := ite_inv h
           obtain ⟨h43, h⟩ := ite_inv h
           obtain ⟨h44, h⟩ := ite_inv h
           obtain ⟨r24, h45, h⟩ := bind_inv h
           rcases cond_inv h with ⟨h46, h⟩ | ⟨h46, h⟩
           ·obtain rfl := Option.some.inj h
            exact Reach.done ttok mix fk14 (p14_e_25 a0 a1 a2 r1 r2 r3 r4 r5 r6 r7 r8 r9 r10 r11 r12 r13 r14 r15 r16 r17 r18 r19 r20 r21 r22 r23 r24) (obs_cons (xAb h0) (obs_cons h1 (obs_cons (xAb h2) (obs_cons h3 (obs_cons (xAb h4) (obs_cons h5 (obs_cons (xAa h6) (obs_cons (xAa h7) (obs_cons (xAa h8) (obs_cons (xAk h9) (obs_cons (xAa h10) (obs_cons (xAa h11) (obs_cons (xAa h12) (obs_cons (xAm (xAi h13) h14) (obs_cons (laws_eqValue_ok h15) (obs_cons h16 (obs_cons (xAa h17) (obs_cons (laws_eqValue_ok h18) (obs_cons h19 (obs_cons (xAa h20) (obs_cons (laws_eqValue_ok h21) (obs_cons h22 (obs_cons (xAa h23) (obs_cons (laws_eqValue_ok h24) (obs_cons h25 (obs_cons (laws_markValue_ok h26) (obs_cons h27 (obs_cons h28 (obs_cons h29 (obs_cons (laws_markValue_ok h30) (obs_cons h31 (obs_cons h32 (obs_cons h33 (obs_cons (laws_markValue_ok h34) (obs_cons h35 (obs_cons h36 (obs_cons h37 (obs_cons h38 (obs_cons (laws_eqValue_ok h39) (obs_cons h40 (obs_cons (laws_markValue_ok h41) (obs_cons h42 (obs_cons h43 (obs_cons h44 (obs_cons (laws_heldValue_ok h45) (obs_cons h46 obs_nil))))))))))))))))))))))))))))))))))))))))))))))
           ·rcases cond_inv h with ⟨h47, h⟩ | ⟨h47, h⟩
            ·obtain rfl := Option.some.inj h
             exact Reach.done ttok mix fk14 (p14_e_26 a0 a1 a2 r1 r2 r3 r4 r5 r6 r7 r8 r9 r10 r11 r12 r13 r14 r15 r16 r17 r18 r19 r20 r21 r22 r23 r24) (obs_cons (xAb h0) (obs_cons h1 (obs_cons (xAb h2) (obs_cons h3 (obs_cons (xAb h4) (obs_cons h5 (obs_cons (xAa h6) (obs_cons (xAa h7) (obs_cons (xAa h8) (obs_cons (xAk h9) (obs_cons (xAa h10) (obs_cons (xAa h11) (obs_cons (xAa h12) (obs_cons (xAm (xAi h13) h14) (obs_cons (laws_eqValue_ok h15) (obs_cons h16 (obs_cons (xAa h17) (obs_cons (laws_eqValue_ok h18) (obs_cons h19 (obs_cons (xAa h20) (obs_cons (laws_eqValue_ok h21) (obs_cons h22 (obs_cons (xAa h23) (obs_cons (laws_eqValue_ok h24) (obs_cons h25 (obs_cons (laws_markValue_ok h26) (obs_cons h27 (obs_cons h28 (obs_cons h29 (obs_cons (laws_markValue_ok h30) (obs_cons h31 (obs_cons h32 (obs_cons h33 (obs_cons (laws_markValue_ok h34) (obs_cons h35 (obs_cons h36 (obs_cons h37 (obs_cons h38 (obs_cons (laws_eqValue_ok h39) (obs_cons h40 (obs_cons (laws_markValue_ok h41) (obs_cons h42 (obs_cons h43 (obs_cons h44 (obs_cons (laws_heldValue_ok h45) (obs_cons h46 (obs_cons h47 obs_nil)))))))))))))))))))))))))))))))))))))))))))))))
            ·obtain ⟨r25, h48, h⟩ := bind_inv h
             obtain ⟨r26, h49, h⟩ := bind_inv h
             obtain ⟨r27, h50, h⟩ := bind_inv h
             obtain ⟨r28, h51, h⟩ := bind_inv h
             rcases cond_inv h with ⟨h52, h⟩ | ⟨h52, h⟩
             ·obtain ⟨h53, h⟩ := ite_inv h
              obtain ⟨h54, h⟩ := ite_inv h
              obtain ⟨h55, h⟩ := ite_inv h
              obtain ⟨r29, h56, h⟩ := bind_inv h
              rcases cond_inv h with ⟨h57, h⟩ | ⟨h57, h⟩
              ·obtain rfl := Option.some.inj h
               exact Reach.done ttok mix fk14 (p14_e_27 a0 a1 a2 r1 r2 r3 r4 r5 r6 r7 r8 r9 r10 r11 r12 r13 r14 r15 r16 r17 r18 r19 r20 r21 r22 r23 r24 r25 r26 r27 r28 r29) (obs_cons (xAb h0) (obs_cons h1 (obs_cons (xAb h2) (obs_cons h3 (obs_cons (xAb h4) (obs_cons h5 (obs_cons (xAa h6) (obs_cons (xAa h7) (obs_cons (xAa h8) (obs_cons (xAk h9) (obs_cons (xAa h10) (obs_cons (xAa h11) (obs_cons (xAa h12) (obs_cons (xAm (xAi h13) h14) (obs_cons (laws_eqValue_ok h15) (obs_cons h16 (obs_cons (xAa h17) (obs_cons (laws_eqValue_ok h18) (obs_cons h19 (obs_cons (xAa h20) (obs_cons (laws_eqValue_ok h21) (obs_cons h22 (obs_cons (xAa h23) (obs_cons (laws_eqValue_ok h24) (obs_cons h25 (obs_cons (laws_markValue_ok h26) (obs_cons h27 (obs_cons h28 (obs_cons h29 (obs_cons (laws_markValue_ok h30) (obs_cons h31 (obs_cons h32 (obs_cons h33 (obs_cons (laws_markValue_ok h34) (obs_cons h35 (obs_cons h36 (obs_cons h37 (obs_cons h38 (obs_cons (laws_eqValue_ok h39) (obs_cons h40 (obs_cons (laws_markValue_ok h41) (obs_cons h42 (obs_cons h43 (obs_cons h44 (obs_cons (laws_heldValue_ok h45) (obs_cons h46 (obs_cons h47 (obs_cons (xAa h48) (obs_cons (xAa h49) (obs_cons (xAa h50) (obs_cons (xAl (xAi h51) h52 h53 h54 h55) (obs_cons (laws_eqValue_ok h56) (obs_cons h57 obs_nil)))))))))))))))))))))))))))))))))))))))))))))))))))))
              ·obtain ⟨r30, h58, h⟩ := bind_inv h
               rcases cond_inv h with ⟨h59, h⟩ | ⟨h59, h⟩
               ·obtain rfl := Option.some.inj h
                exact Reach.done ttok mix fk14 (p14_e_28 a0 a1 a2 r1 r2 r3 r4 r5 r6 r7 r8 r9 r10 r11 r12 r13 r14 r15 r16 r17 r18 r19 r20 r21 r22 r23 r24 r25 r26 r27 r28 r29 r30) (obs_cons (xAb h0) (obs_cons h1 (obs_cons (xAb h2) (obs_cons h3 (obs_cons (xAb h4) (obs_cons h5 (obs_cons (xAa h6) (obs_cons (xAa h7) (obs_cons (xAa h8) (obs_cons (xAk h9) (obs_cons (xAa h10) (obs_cons (xAa h11) (obs_cons (xAa h12) (obs_cons (xAm (xAi h13) h14) (obs_cons (laws_eqValue_ok h15) (obs_cons h16 (obs_cons (xAa h17) (obs_cons (laws_eqValue_ok h18) (obs_cons h19 (obs_cons (xAa h20) (obs_cons (laws_eqValue_ok h21) (obs_cons h22 (obs_cons (xAa h23) (obs_cons (laws_eqValue_ok h24) (obs_cons h25 (obs_cons (laws_markValue_ok h26) (obs_cons h27 (obs_cons h28 (obs_cons h29 (obs_cons (laws_markValue_ok h30) (obs_cons h31 (obs_cons h32 (obs_cons h33 (obs_cons (laws_markValue_ok h34) (obs_cons h35 (obs_cons h36 (obs_cons h37 (obs_cons h38 (obs_cons (laws_eqValue_ok h39) (obs_cons h40 (obs_cons (laws_markValue_ok h41) (obs_cons h42 (obs_cons h43 (obs_cons h44 (obs_cons (laws_heldValue_ok h45) (obs_cons h46 (obs_cons h47 (obs_cons (xAa h48) (obs_cons (xAa h49) (obs_cons (xAa h50) (obs_cons (xAl (xAi h51) h52 h53 h54 h55) (obs_cons (laws_eqValue_ok h56) (obs_cons h57 (obs_cons (laws_heldValue_ok h58) (obs_cons h59 obs_nil)))))))))))))))))))))))))))))))))))))))))))))))))))))))
               ·rcases cond_inv h with ⟨h60, h⟩ | ⟨h60, h⟩
                ·obtain rfl := Option.some.inj h
                 exact Reach.done ttok mix fk14 (p14_e_29 a0 a1 a2 r1 r2 r3 r4 r5 r6 r7 r8 r9 r10 r11 r12 r13 r14 r15 r16 r17 r18 r19 r20 r21 r22 r23 r24 r25 r26 r27 r28 r29 r30) (obs_cons (xAb h0) (obs_cons h1 (obs_cons (xAb h2) (obs_cons h3 (obs_cons (xAb h4) (obs_cons h5 (obs_cons (xAa h6) (obs_cons (xAa h7) (obs_cons (xAa h8) (obs_cons (xAk h9) (obs_cons (xAa h10) (obs_cons (xAa h11) (obs_cons (xAa h12) (obs_cons (xAm (xAi h13) h14) (obs_cons (laws_eqValue_ok h15) (obs_cons h16 (obs_cons (xAa h17) (obs_cons (laws_eqValue_ok h18) (obs_cons h19 (obs_cons (xAa h20) (obs_cons (laws_eqValue_ok h21) (obs_cons h22 (obs_cons (xAa h23) (obs_cons (laws_eqValue_ok h24) (obs_cons h25 (obs_cons (laws_markValue_ok h26) (obs_cons h27 (obs_cons h28 (obs_cons h29 (obs_cons (laws_markValue_ok h30) (obs_cons h31 (obs_cons h32 (obs_cons h33 (obs_cons (laws_markValue_ok h34) (obs_cons h35 (obs_cons h36 (obs_cons h37 (obs_cons h38 (obs_cons (laws_eqValue_ok h39) (obs_cons h40 (obs_cons (laws_markValue_ok h41) (obs_cons h42 (obs_cons h43 (obs_cons h44 (obs_cons (laws_heldValue_ok h45) (obs_cons h46 (obs_cons h47 (obs_cons (xAa h48) (obs_cons (xAa h49) (obs_cons (xAa h50) (obs_cons (xAl (xAi h51) h52 h53 h54 h55) (obs_cons (laws_eqValue_ok h56) (obs_cons h57 (obs_cons (laws_heldValue_ok h58) (obs_cons h59 (obs_cons h60 obs_nil))))))))))))))))))))))))))))))))))))))))))))))))))))))))
                ·obtain rfl := Option.some.inj h
                 exact Reach.done ttok mix fk14 (p14_e_30 a0 a1 a2 r1 r2 r3 r4 r5 r6 r7 r8 r9 r10 r11 r12 r13 r14 r15 r16 r17 r18 r19 r20 r21 r22 r23 r24 r25 r26 r27 r28 r29 r30) (obs_cons (xAb h0) (obs_cons h1 (obs_cons (xAb h2) (obs_cons h3 (obs_cons (xAb h4) (obs_cons h5 (obs_cons (xAa h6) (obs_cons (xAa h7) (obs_cons (xAa h8) (obs_cons (xAk h9) (obs_cons (xAa h10) (obs_cons (xAa h11) (obs_cons (xAa h12) (obs_cons (xAm (xAi h13) h14) (obs_cons (laws_eqValue_ok h15) (obs_cons h16 (obs_cons (xAa h17) (obs_cons (laws_eqValue_ok h18) (obs_cons h19 (obs_cons (xAa h20) (obs_cons (laws_eqValue_ok h21) (obs_cons h22 (obs_cons (xAa h23) (obs_cons (laws_eqValue_ok h24) (obs_cons h25 (obs_cons (laws_markValue_ok h26) (obs_cons h27 (obs_cons h28 (obs_cons h29 (obs_cons (laws_markValue_ok h30) (obs_cons h31 (obs_cons h32 (obs_cons h33 (obs_cons (laws_markValue_ok h34) (obs_cons h35 (obs_cons h36 (obs_cons h37 (obs_cons h38 (obs_cons (laws_eqValue_ok h39) (obs_cons h40 (obs_cons (laws_markValue_ok h41) (obs_cons h42 (obs_cons h43 (obs_cons h44 (obs_cons (laws_heldValue_ok h45) (obs_cons h46 (obs_cons h47 (obs_cons (xAa h48) (obs_cons (xAa h49) (obs_cons (xAa h50) (obs_cons (xAl (xAi h51) h52 h53 h54 h55) (obs_cons (laws_eqValue_ok h56) (obs_cons h57 (obs_cons (laws_heldValue_ok h58) (obs_cons h59 (obs_cons h60 obs_nil))))))))))))))))))))))))))))))))))))))))))))))))))))))))
             ·obtain ⟨r29, h53, h⟩ := bind_inv h
              rcases cond_inv h with ⟨h54, h⟩ | ⟨h54, h⟩
              ·obtain rfl := Option.some.inj h
               exact Reach.done ttok mix fk14 (p14_e_31 a0 a1 a2 r1 r2 r3 r4 r5 r6 r7 r8 r9 r10 r11 r12 r13 r14 r15 r16 r17 r18 r19 r20 r21 r22 r23 r24 r25 r26 r27 r28 r29) (obs_cons (xAb h0) (obs_cons h1 (obs_cons (xAb h2) (obs_cons h3 (obs_cons (xAb h4) (obs_cons h5 (obs_cons (xAa h6) (obs_cons (xAa h7) (obs_cons (xAa h8) (obs_cons (xAk h9) (obs_cons (xAa h10) (obs_cons (xAa h11) (obs_cons (xAa h12) (obs_cons (xAm (xAi h13) h14) (obs_cons (laws_eqValue_ok h15) (obs_cons h16 (obs_cons (xAa h17) (obs_cons (laws_eqValue_ok h18) (obs_cons h19 (obs_cons (xAa h20) (obs_cons (laws_eqValue_ok h21) (obs_cons h22 (obs_cons (xAa h23) (obs_cons (laws_eqValue_ok h24) (obs_cons h25 (obs_cons (laws_markValue_ok h26) (obs_cons h27 (obs_cons h28 (obs_cons h29 (obs_cons (laws_markValue_ok h30) (obs_cons h31 (obs_cons h32 (obs_cons h33 (obs_cons (laws_markValue_ok h34) (obs_cons h35 (obs_cons h36 (obs_cons h37 (obs_cons h38 (obs_cons (laws_eqValue_ok h39) (obs_cons h40 (obs_cons (laws_markValue_ok h41) (obs_cons h42 (obs_cons h43 (obs_cons h44 (obs_cons (laws_heldValue_ok h45) (obs_cons h46 (obs_cons h47 (obs_cons (xAa h48) (obs_cons (xAa h49) (obs_cons (xAa h50) (obs_cons (xAm (xAi h51) h52) (obs_cons (laws_eqValue_ok h53) (obs_cons h54 obs_nil)))))))))))))))))))))))))))))))))))))))))))))))))))))
              ·obtain ⟨r30, h55, h⟩ := bind_inv h
               rcases cond_inv h with ⟨h56, h⟩ | ⟨h56, h⟩
               ·obtain rfl := Option.some.inj h
                exact Reach.done ttok mix fk14 (p14_e_32 a0 a1 a2 r1 r2 r3 r4 r5 r6 r7 r8 r9 r10 r11 r12 r13 r14 r15 r16 r17 r18 r19 r20 r21 r22 r23 r24 r25 r26 r27 r28 r29 r30) (obs_cons (xAb h0) (obs_cons h1 (obs_cons (xAb h2) (obs_cons h3 (obs_cons (xAb h4) (obs_cons h5 (obs_cons (xAa h6) (obs_cons (xAa h7) (obs_cons (xAa h8) (obs_cons (xAk h9) (obs_cons (xAa h10) (obs_cons (xAa h11) (obs_cons (xAa h12) (obs_cons (xAm (xAi h13) h14) (obs_cons (laws_eqValue_ok h15) (obs_cons h16 (obs_cons (xAa h17) (obs_cons (laws_eqValue_ok h18) (obs_cons h19 (obs_cons (xAa h20) (obs_cons (laws_eqValue_ok h21) (obs_cons h22 (obs_cons (xAa h23) (obs_cons (laws_eqValue_ok h24) (obs_cons h25 (obs_cons (laws_markValue_ok h26) (obs_cons h27 (obs_cons h28 (obs_cons h29 (obs_cons (laws_markValue_ok h30) (obs_cons h31 (obs_cons h32 (obs_cons h33 (obs_cons (laws_markValue_ok h34) (obs_cons h35 (obs_cons h36 (obs_cons h37 (obs_cons h38 (obs_cons (laws_eqValue_ok h39) (obs_cons h40 (obs_cons (laws_markValue_ok h41) (obs_cons h42 (obs_cons h43 (obs_cons h44 (obs_cons (laws_heldValue_ok h45) (obs_cons h46 (obs_cons h47 (obs_cons (xAa h48) (obs_cons (xAa h49) (obs_cons (xAa h50) (obs_cons (xAm (xAi h51) h52) (obs_cons (laws_eqValue_ok h53) (obs_cons h54 (obs_cons (laws_heldValue_ok h55) (obs_cons h56 obs_nil)))))))))))))))))))))))))))))))))))))))))))))))))))))))
               ·rcases cond_inv h with ⟨h57, h⟩ | ⟨h57, h⟩
                ·obtain rfl := Option.some.inj h
                 exact Reach.done ttok mix fk14 (p14_e_33 a0 a1 a2 r1 r2 r3 r4 r5 r6 r7 r8 r9 r10 r11 r12 r13 r14 r15 r16 r17 r18 r19 r20 r21 r22 r23 r24 r25 r26 r27 r28 r29 r30) (obs_cons (xAb h0) (obs_cons h1 (obs_cons (xAb h2) (obs_cons h3 (obs_cons (xAb h4) (obs_cons h5 (obs_cons (xAa h6) (obs_cons (xAa h7) (obs_cons (xAa h8) (obs_cons (xAk h9) (obs_cons (xAa h10) (obs_cons (xAa h11) (obs_cons (xAa h12) (obs_cons (xAm (xAi h13) h14) (obs_cons (laws_eqValue_ok h15) (obs_cons h16 (obs_cons (xAa h17) (obs_cons (laws_eqValue_ok h18) (obs_cons h19 (obs_cons (xAa h20) (obs_cons (laws_eqValue_ok h21) (obs_cons h22 (obs_cons (xAa h23) (obs_cons (laws_eqValue_ok h24) (obs_cons h25 (obs_cons (laws_markValue_ok h26) (obs_cons h27 (obs_cons h28 (obs_cons h29 (obs_cons (laws_markValue_ok h30) (obs_cons h31 (obs_cons h32 (obs_cons h33 (obs_cons (laws_markValue_ok h34) (obs_cons h35 (obs_cons h36 (obs_cons h37 (obs_cons h38 (obs_cons (laws_eqValue_ok h39) (obs_cons h40 (obs_cons (laws_markValue_ok h41) (obs_cons h42 (obs_cons h43 (obs_cons h44 (obs_cons (laws_heldValue_ok h45) (obs_cons h46 (obs_cons h47 (obs_cons (xAa h48) (obs_cons (xAa h49) (obs_cons (xAa h50) (obs_cons (xAm (xAi h51) h52) (obs_cons (laws_eqValue_ok h53) (obs_cons h54 (obs_cons (laws_heldValue_ok h55) (obs_cons h56 (obs_cons h57 obs_nil))))))))))))))))))))))))))))))))))))))))))))))))))))))))
                ·obtain rfl := Option.some.inj h
                 exact Reach.done ttok mix fk14 (p14_e_34 a0 a1 a2 r1 r2 r3 r4 r5 r6 r7 r8 r9 r10 r11 r12 r13 r14 r15 r16 r17 r18 r19 r20 r21 r22 r23 r24 r25 r26 r27 r28 r29 r30) (obs_cons (xAb h0) (obs_cons h1 (obs_cons (xAb h2) (obs_cons h3 (obs_cons (xAb h4) (obs_cons h5 (obs_cons (xAa h6) (obs_cons (xAa h7) (obs_cons (xAa h8) (obs_cons (xAk h9) (obs_cons (xAa h10) (obs_cons (xAa h11) (obs_cons (xAa h12) (obs_cons (xAm (xAi h13) h14) (obs_cons (laws_eqValue_ok h15) (obs_cons h16 (obs_cons (xAa h17) (obs_cons (laws_eqValue_ok h18) (obs_cons h19 (obs_cons (xAa h20) (obs_cons (laws_eqValue_ok h21) (obs_cons h22 (obs_cons (xAa h23) (obs_cons (laws_eqValue_ok h24) (obs_cons h25 (obs_cons (laws_markValue_ok h26) (obs_cons h27 (obs_cons h28 (obs_cons h29 (obs_cons (laws_markValue_ok h30) (obs_cons h31 (obs_cons h32 (obs_cons h33 (obs_cons (laws_markValue_ok h34) (obs_cons h35 (obs_cons h36 (obs_cons h37 (obs_cons h38 (obs_cons (laws_eqValue_ok h39) (obs_cons h40 (obs_cons (laws_markValue_ok h41) (obs_cons h42 (obs_cons h43 (obs_cons h44 (obs_cons (laws_heldValue_ok h45) (obs_cons h46 (obs_cons h47 (obs_cons (xAa h48) (obs_cons (xAa h49) (obs_cons (xAa h50) (obs_cons (xAm (xAi h51) h52) (obs_cons (laws_eqValue_ok h53) (obs_cons h54 (obs_cons (laws_heldValue_ok h55) (obs_cons h56 (obs_cons h57 obs_nil))))))))))))))))))))))))))))))))))))))))))))))))))))))))
theorem laws_FnExactWhereEqual_ok {N : Nat} {a0 : Val} {a1 : Val} {a2 : Val} {r : Bool} (h : xAw N  a0 a1 a2 = some r) : AbC 14 (xAe a0 a1 a2) (xAf r) :=
 AbsCalls.of_reach fk14 rfl rfl (Nat.le_of_ble_eq_true rfl) (c14_e a0 a1 a2 r h)
end Go.Ab.T
end
section
namespace Go.Ab
set_option linter.unusedVariables false
theorem cell_int {n : Int} (h : DK maxLen (CV.int .i64 n).toD) : I64 n := DK.i64.1 h
theorem cell_str {s : Str} (h : DK maxLen (CV.str s).toD) : Str.Fit maxLen s := DK.str_iff.1 h
theorem LFit.imp {α : Type} {K : Nat} {p q : α → Prop} {l : List α} (h : LFit K p l) (f : ∀ x, p x → q x) : LFit K q l := ⟨h.1, fun x hx => f x (h.2 x hx)⟩
end Go.Ab
end
section
namespace Go.Ab
set_option linter.unusedVariables false
set_option linter.unusedSimpArgs false
theorem left_ge {s : Nat} {l : Int} (h : ¬ left s l < 0) : (s : Int) ≤ l := by unfold left at h; split at h <;> omega
end Go.Ab
end
section
namespace Go.Ab
set_option linter.unusedVariables false
set_option linter.unusedSimpArgs false
theorem xA5 {v : Val} (h : v.Fit maxLen) : Big fun N => ∀ l, 0 ≤ l → l ≤ 1048576 → xBi N v l = some (left v.size l) := (szValue_big v h).diag
theorem toValue_eq {v : Val} (h : v.Fit 1048576) : Big fun N => xAr N v = some v := (toValue_big v h).diag
theorem xBr {a0 : Val} (f0 : ∀ z ∈ [CV.int .i64 (Val.kind a0), .int .i64 (Val.n a0), .int .i64 (Val.step a0), .str (Val.text a0), .sl .ro .val (Val.list a0), .sl .ro .str (Val.columns a0), .sl .ro .row (Val.rows a0)], DFit z.toD) : a0.Fit maxLen := by
  have f := fun z hz => (f0 z hz).dk
  simp only [List.mem_cons, List.not_mem_nil, or_false, forall_eq_or_imp, forall_eq] at f
  obtain ⟨h1, h2, h3, h4, h5, h6, h7⟩ := f
  refine Val.fit_iff.2 ⟨cell_int h1, cell_int h2, cell_int h3, cell_str h4, cell_sl h5, (cell_sl h6).imp fun x hx => ?_, (cell_sl h7).imp fun x hx => rowd_fit.1 hx⟩
  exact DK.str_iff.1 (hx _ List.mem_cons_self)
end Go.Ab
end
section
namespace Go.Ab
set_option linter.unusedVariables false
set_option linter.unusedSimpArgs false
theorem spec_l3Row_eq {N K : Nat} {r : Rowd} (h : r.Fit K) (hK : K ≤ 137438953472) : spec_l3Row N r = some r := by
  have h1 : r.cells.length ≤ K := h.1.1
  have h2 : r.frm.length ≤ K := h.2.1
  unfold spec_l3Row
  rw [if_pos (by unfold Lim; omega), if_pos (by unfold Lim; omega)]; rfl
theorem impl_copyRow_eq {N K : Nat} {r : Rowd} (h : r.Fit K) (hK : K ≤ 137438953472) : xBh N r = some r := spec_l3Row_eq (N := N) h hK
end Go.Ab
end
section
namespace Go.Ab
set_option linter.unusedVariables false
set_option linter.unusedSimpArgs false
theorem flat_eta {v : Val} (h1 : v.list = []) (h2 : v.columns = []) (h3 : v.rows = []) : Val.mk v.kind v.n v.step v.text [] [] [] = v := by
  have e := Val.eta v
  rw [h1, h2, h3] at e
  exact e
theorem markE_eq {N : Nat} (hN : 274877906944 < N) {v : Val} (k : Int) : xAQ N v k = some k := by
  obtain ⟨n, rfl⟩ : ∃ n, N = n + 1 := ⟨N - 1, by omega⟩
  simp [xAQ, xAX, xAS, xA4, xAW, xAU, xA2]
theorem heldFlat_eq {N : Nat} (hN : 274877906944 < N) {a b c : Int} {t : Str} {k : Int} (hk : 0 ≤ k) : yDB N (.mk a b c t [] [] []) k = some k := by
  obtain ⟨n, rfl⟩ : ∃ n, N = n + 1 := ⟨N - 1, by omega⟩
  have h : ¬ k < 0 := by omega
  simp [yDB, vl, vc, vr, yE1, yCD, yC2, yBJ, yCM, yBv, yDV, yCg, decide_eq_false h]
end Go.Ab
end
section
namespace Go.Ab
set_option linter.unusedVariables false
set_option linter.unusedSimpArgs false
def xBo (ks : List Int) (vs : List Val) : Val × Bool × Bool := bif (opG vs).2.1 then opG vs else bif kb vs ks then (errV 4, true, false) else (nilV, false, false)
theorem flat_nil : Flat nilV := flat_mk (i64_of (by omega) (by omega)) (i64_of (by omega) (by omega)) (i64_of (by omega) (by omega))
theorem flat_kindG {K : Nat} {ks : List Int} {l : List Val} (h : ∀ x ∈ l, x.Fit K) : Flat (xBo ks l).1 := by
  unfold xBo
  cases (opG l).2.1
  · cases kb l ks
    · exact flat_nil
    · exact flat_err (i64_of (by omega) (by omega))
  · exact flat_opG h
theorem kindError_eq {K : Nat} (hK : 24 ≤ K ∧ K ≤ 4611686018427387903) {vs : List Val} {ks : List Int} (h : ∀ x ∈ vs, x.Fit K) (hl : vs.length ≤ K) (hks : ks.length = vs.length) : Big fun N => xAZ N ks vs = some (xBo ks vs) ∧ xA7 N vs ks = some ((xBo ks vs).1, (xBo ks vs).2.1) := by
  refine ((operandError_eq hK h hl).and (yF0 K)).imp fun N ⟨⟨ho1, ho2⟩, hN⟩ => ?_
  have i1 : xAz N N ks vs vs.length 0 (Val.mk 0 0 0 [] [] [] []) = some (bif kb vs ks then (errV 4, true, false) else (nilV, false, false)) :=
    yEP (L := fun m i q => xAz N m ks vs vs.length i (Val.mk 0 0 0 [] [] [] [])) vs (fun r q => bif kb r (ks.drop q) then (errV 4, true, false) else (nilV, false, false)) (fun i q => q = i) (fun m q _ => by simp only [xAz, Int.lt_irrefl, decide_false, cond_false]; rfl)
      (fun i x r q hd hi hx hq => by
        have hq : q = i := hq
        subst hq
        have hi' : (q : Int) < (vs.length : Int) := by omega
        have hk : ks[q]? = some ks[q] := by simp [hks, hi]
        have hdk : ks.drop q = ks[q] :: ks.drop (q + 1) := List.drop_eq_getElem_cons (by omega)
        cases h1 : (x.kind != ks[q])
        · refine .inl ⟨q + 1, rfl, by rw [hdk]; simp only [kb, h1, Bool.false_or], fun m => ?_⟩
          simp only [xAz, decide_eq_true hi', cond_true, cond_false, Int.toNat_natCast, yAF hx, yAF hk, h1, yAp hi (by omega : vs.length ≤ _)]
          rw [if_pos (by omega), if_pos (by omega)]
        · refine .inr fun m => ?_
          rw [hdk]
          simp only [xAz, decide_eq_true hi', cond_true, Int.toNat_natCast, yAF hx, yAF hk, h1, yDN, Option.bind_some, kb, Bool.true_or]
          rw [if_pos (by omega), if_pos (by omega)]; rfl) N 0 0 rfl (by omega) (by omega)
  have i2 : xAG N N vs ks 0 (Val.mk 0 0 0 [] [] [] []) = some (bif kb vs ks then (errV 4, true) else (nilV, false)) :=
    yEP (L := fun m i q => xAG N m vs ks i (Val.mk 0 0 0 [] [] [] [])) vs (fun r q => bif kb r (ks.drop q) then (errV 4, true) else (nilV, false)) (fun i q => q = i) (fun m q _ => by simp only [xAG, Int.lt_irrefl, decide_false, cond_false]; rfl)
      (fun i x r q hd hi hx hq => by
        have hq : q = i := hq
        subst hq
        have hi' : (q : Int) < (vs.length : Int) := by omega
        have hk : ks[q]? = some ks[q] := by simp [hks, hi]
        have hdk : ks.drop q = ks[q] :: ks.drop (q + 1) := List.drop_eq_getElem_cons (by omega)
        cases h1 : (x.kind != ks[q])
        · refine .inl ⟨q + 1, rfl, by rw [hdk]; simp only [kb, h1, Bool.false_or], fun m => ?_⟩
          simp only [xAG, decide_eq_true hi', cond_true, cond_false, Int.toNat_natCast, yAF hx, yAF hk, h1, yAp hi (by omega : vs.length ≤ _)]
          rw [if_pos (by omega), if_pos (by omega)]
        · refine .inr fun m => ?_
          rw [hdk]
          simp only [xAG, decide_eq_true hi', cond_true, Int.toNat_natCast, yAF hx, yAF hk, h1, yCH, Option.bind_some, kb, Bool.true_or]
          rw [if_pos (by omega), if_pos (by omega)]; rfl) N 0 0 rfl (by omega) (by omega)
  refine ⟨?_, ?_⟩
  · simp only [xAZ, ho1, Option.bind_some, i1, xBo]
    cases h1 : (opG vs).2.1
    · rw [opG_tag h1]; rfl
    · have e : opG vs = ((opG vs).1, true, (opG vs).2.2) := by rw [← h1]
      cases h2 : (opG vs).2.2
      · rw [h2] at e; simp only [cond_true, cond_false]; rw [← e]
      · rw [h2] at e; simp only [cond_true]; rw [← e]
  · simp only [xA7, ho2, Option.bind_some, i2, xBo]
    cases h1 : (opG vs).2.1
    · cases kb vs ks <;> rfl
    · simp [h1]
theorem kindG_tag {ks : List Int} {l : List Val} (h : (xBo ks l).2.1 = false) : (xBo ks l).2.2 = false := by
  unfold xBo at h ⊢
  cases h1 : (opG l).2.1
  · rw [h1] at h
    cases h2 : kb l ks
    · rfl
    · rfl
  · rw [h1] at h; simp only [cond_true] at h; rw [h1] at h; cases h
end Go.Ab
end
section
namespace Go.Ab
set_option linter.unusedVariables false
set_option linter.unusedSimpArgs false
theorem kindG_ok {ks : List Int} {l : List Val} (h : (xBo ks l).2.1 = false) : (∀ x ∈ l, yDx x = true) ∧ kb l ks = false := by
  unfold xBo at h
  cases h1 : (opG l).2.1
  · rw [h1] at h
    cases h2 : kb l ks
    · exact ⟨opG_ok h1, rfl⟩
    · rw [h2] at h; cases h
  · rw [h1] at h; simp only [cond_true] at h; rw [h1] at h; cases h
theorem kindG_flat {K : Nat} {ks : List Int} {l : List Val} (h : ∀ x ∈ l, x.Fit K) : Flat (xBo ks l).1 := flat_kindG h
theorem table_rows {v : Val} (hv : yDx v = true) (hk : v.kind = 5) : ∀ r ∈ v.rows, r.cells.length = v.columns.length := by
  rw [valOk_eq, hk] at hv
  simp only [show ((5 : Int) == 1) = false from rfl, show ((5 : Int) == 2) = false from rfl, show ((5 : Int) == 4) = false from rfl, show ((5 : Int) == 6) = false from rfl, show ((5 : Int) == 5) = true from rfl, cond_true, cond_false, Bool.and_eq_true, tableOk] at hv
  obtain ⟨_, _, _, _, _, _, h⟩ := hv
  intro r hr
  obtain ⟨i, hi⟩ := List.getElem?_of_mem hr
  have := allI_true h i r hi
  simp only [rowP, Bool.and_eq_true, beq_iff_eq] at this
  exact this.1
theorem idxS_range {s : Str} : ∀ {xs : List Str} {j : Nat}, idxS xs s j = -1 ∨ ((j : Int) ≤ idxS xs s j ∧ idxS xs s j < (j : Int) + xs.length)
  | [], j => .inl rfl
  | x :: r, j => by
    simp only [idxS, List.length_cons]
    cases (x == s)
    · simp only [cond_false]
      rcases idxS_range (s := s) (xs := r) (j := j + 1) with h | ⟨h1, h2⟩
      · exact .inl h
      · exact .inr ⟨by omega, by omega⟩
    · simp only [cond_true]
      exact .inr ⟨by omega, by omega⟩
theorem spec_IndexOf_eq {N : Nat} {xs : List Str} {s : Str} (hl : xs.length ≤ 9223372036854775807) (hn : xs.length < N) : xBj N xs s = some (idxS xs s 0) :=
  yEP (L := fun n i _ => xAI N n xs s i) xs (fun l q => idxS l s q) (fun i q => q = i) (fun n q _ => by simp [xAI, idxS])
    (fun i x l q hd hi hx hq => by
      have hi' : (i : Int) < (xs.length : Int) := by omega
      have hq : q = i := hq
      subst hq
      cases h1 : x == s
      · refine .inl ⟨q + 1, rfl, by simp only [idxS, h1, cond_false], fun n => ?_⟩
        simp only [xAI, decide_eq_true hi', cond_true, Int.toNat_natCast, yAF hx, h1, cond_false, yAp hi hl]
        rw [if_pos (by omega)]
      · refine .inr fun n => ?_
        simp only [xAI, decide_eq_true hi', cond_true, Int.toNat_natCast, yAF hx, h1]
        rw [if_pos (by omega)]
        simp only [idxS, h1, cond_true]) N 0 0 rfl (by omega) (by omega)
theorem xBt {N : Nat} {v : Val} {s : Str} (hl : v.columns.length ≤ 9223372036854775807) (hn : v.columns.length < N) : xAL N v s = some (idxS v.columns s 0) := by
  simp only [xAL, impl_IndexOf_eq hl hn, Option.bind_some]
theorem xBv {N : Nat} {v : Val} {s : Str} (hl : v.columns.length ≤ 9223372036854775807) (hn : v.columns.length < N) : xAR N v s = some (idxS v.columns s 0) := by
  simp only [xAR, spec_IndexOf_eq hl hn, Option.bind_some]
theorem xBq {k n : Int} {r : Rowd} {rs : List Rowd} : pick k n (r :: rs) = bif r.cells.getD k.toNat Ty.int.dflt == n then r :: pick k n rs else pick k n rs := by
  unfold pick
  rw [List.filter_cons]
  cases (r.cells.getD k.toNat Ty.int.dflt == n) <;> rfl
theorem impl_where_loop {N K : Nat} {k : Int} {a v z : Val} (h : LFit K (Rowd.Fit K) v.rows) (hK : K ≤ 137438953472) (hN : K < N) (hk : 0 ≤ k) (hr : ∀ r ∈ v.rows, k < (r.cells.length : Int)) :
    xAu N N k v.rows v.rows.length 0 a z (.mk 5 0 0 [] [] v.columns []) = some (.mk 5 0 0 [] [] v.columns (pick k a.n v.rows), false) := by
  have hl : v.rows.length ≤ K := h.1
  exact yEP (L := fun m i q => xAu N m k v.rows v.rows.length i a z (.mk 5 0 0 [] [] v.columns q)) v.rows (fun l q => (Val.mk 5 0 0 [] [] v.columns (q ++ pick k a.n l), false)) (fun i q => q.length ≤ i) (fun m q _ => by simp [xAu, pick])
    (fun i x l q hd hi hx hq => by
      have hq : q.length ≤ i := hq
      have hi' : (i : Int) < (v.rows.length : Int) := by omega
      have hm := List.mem_of_getElem? hx
      have hkx := hr x hm
      cases h1 : (x.cells.getD k.toNat Ty.int.dflt == a.n)
      · refine .inl ⟨q, by show q.length ≤ i + 1; omega, by rw [xBq, h1]; rfl, fun m => ?_⟩
        simp only [xAu, decide_eq_true hi', cond_true, cond_false, Int.toNat_natCast, yAF hx, h1, yAp hi (by omega : v.rows.length ≤ _)]
        rw [if_pos (by omega), if_pos (by omega)]
      · refine .inl ⟨q ++ [x], by show (q ++ [x]).length ≤ i + 1; simp; omega, by rw [xBq, h1]; simp, fun m => ?_⟩
        simp only [xAu, decide_eq_true hi', cond_true, Int.toNat_natCast, yAF hx, h1, impl_copyRow_eq (h.2 x hm) hK, Option.bind_some, vk, vn, vs, vt, vl, vc, vr, yAp hi (by omega : v.rows.length ≤ _)]
        rw [if_pos (by omega), if_pos (by omega), if_pos (by simp only [List.length_cons, List.length_nil]; unfold Lim; omega)]) N 0 [] (by simp) (by omega) (by omega)
theorem spec_where_loop {N K : Nat} {k : Int} {a v z : Val} (h : LFit K (Rowd.Fit K) v.rows) (hK : K ≤ 137438953472) (hN : K < N) (hk : 0 ≤ k) (hr : ∀ r ∈ v.rows, k < (r.cells.length : Int)) :
    xAx N N k 0 a v z (.mk 5 0 0 [] [] v.columns []) = some (.mk 5 0 0 [] [] v.columns (pick k a.n v.rows)) := by
  have hl : v.rows.length ≤ K := h.1
  exact yEP (L := fun m i q => xAx N m k i a v z (.mk 5 0 0 [] [] v.columns q)) v.rows (fun l q => Val.mk 5 0 0 [] [] v.columns (q ++ pick k a.n l)) (fun i q => q.length ≤ i) (fun m q _ => by simp [xAx, pick])
    (fun i x l q hd hi hx hq => by
      have hq : q.length ≤ i := hq
      have hi' : (i : Int) < (v.rows.length : Int) := by omega
      have hm := List.mem_of_getElem? hx
      have hkx := hr x hm
      cases h1 : (x.cells.getD k.toNat Ty.int.dflt == a.n)
      · refine .inl ⟨q, by show q.length ≤ i + 1; omega, by rw [xBq, h1]; rfl, fun m => ?_⟩
        simp only [xAx, decide_eq_true hi', cond_true, cond_false, Int.toNat_natCast, yAF hx, h1, yAp hi (by omega : v.rows.length ≤ _)]
        rw [if_pos (by omega), if_pos (by omega)]
      · refine .inl ⟨q ++ [x], by show (q ++ [x]).length ≤ i + 1; simp; omega, by rw [xBq, h1]; simp, fun m => ?_⟩
        simp only [xAx, decide_eq_true hi', cond_true, Int.toNat_natCast, yAF hx, h1, spec_l3Row_eq (h.2 x hm) hK, Option.bind_some, vk, vn, vs, vt, vl, vc, vr, yAp hi (by omega : v.rows.length ≤ _)]
        rw [if_pos (by omega), if_pos (by omega), if_pos (by simp only [List.length_cons, List.length_nil]; unfold Lim; omega)]) N 0 [] (by simp) (by omega) (by omega)
def whG (a b v : Val) : Val × Bool := bif (xBo [2, 1, 5] [a, b, v]).2.1 then ((xBo [2, 1, 5] [a, b, v]).1, (xBo [2, 1, 5] [a, b, v]).2.2) else
  bif decide (idxS v.columns a.text 0 < 0) then (errV 7, false) else (.mk 5 0 0 [] [] v.columns (pick (idxS v.columns a.text 0) b.n v.rows), false)
theorem kb3 {a b c : Val} {x y z : Int} (h : kb [a, b, c] [x, y, z] = false) : a.kind = x ∧ b.kind = y ∧ c.kind = z := by
  simp only [kb, Bool.or_eq_false_iff, bne_eq_false_iff_eq] at h
  exact ⟨h.1, h.2.1, h.2.2.1⟩
theorem three_fit {K : Nat} {a b c : Val} (ha : a.Fit K) (hb : b.Fit K) (hc : c.Fit K) : ∀ x ∈ [a, b, c], x.Fit K := fun x hx => by
  simp only [List.mem_cons, List.not_mem_nil, or_false] at hx
  rcases hx with rfl | rfl | rfl
  · exact ha
  · exact hb
  · exact hc
theorem where_eq {K : Nat} (hK : 24 ≤ K ∧ K ≤ 137438953472) {a b v : Val} (ha : a.Fit K) (hb : b.Fit K) (hv : v.Fit K) : Big fun N => xAB N a b v = some (whG a b v) ∧ xAJ N a b v = some (whG a b v).1 := by
  obtain ⟨_, _, _, _, _, h6, h7⟩ := Val.fit_iff.1 hv
  have hc : v.columns.length ≤ K := h6.1
  refine ((kindError_eq (by omega) (vs := [a, b, v]) (ks := [2, 1, 5]) (three_fit ha hb hv) (by simp; omega) rfl).and (yF0 K)).imp fun N ⟨⟨h1, h2⟩, hN⟩ => ?_
  obtain ⟨e1, e2, e3, _⟩ := flat_kindG (ks := [2, 1, 5]) (three_fit ha hb hv)
  have hlim : 0 + v.columns.length ≤ Lim := by unfold Lim; omega
  have i1 := xBt (N := N) (v := v) (s := a.text) (by omega) (by omega)
  have i2 := xBv (N := N) (v := v) (s := a.text) (by omega) (by omega)
  cases g1 : (xBo [2, 1, 5] [a, b, v]).2.1
  · obtain ⟨g2, g3⟩ := kindG_ok g1
    have hk5 := (kb3 g3).2.2
    have hrows := table_rows (g2 v (by simp)) hk5
    have htag := kindG_tag g1
    by_cases hneg : idxS v.columns a.text 0 < 0
    · refine ⟨?_, ?_⟩
      · simp only [xAB, Val.re_eq, h1, Option.bind_some, g1, htag, cond_false, i1, decide_eq_true hneg, cond_true, yDN, whG]; rfl
      · simp only [xAJ, Val.re_eq, h2, Option.bind_some, g1, cond_false, i2, decide_eq_true hneg, cond_true, yCH, whG]; rfl
    · have hr : ∀ r ∈ v.rows, idxS v.columns a.text 0 < (r.cells.length : Int) := fun r hr => by
        rw [hrows r hr]
        rcases idxS_range (s := a.text) (xs := v.columns) (j := 0) with h | ⟨_, h⟩ <;> omega
      have l1 := impl_where_loop (a := b) (z := Val.mk 0 0 0 [] [] [] []) h7 hK.2 hN (by omega) hr
      have l2 := spec_where_loop (a := b) (z := Val.mk 0 0 0 [] [] [] []) h7 hK.2 hN (by omega) hr
      refine ⟨?_, ?_⟩
      · simp only [xAB, Val.re_eq, h1, Option.bind_some, g1, htag, cond_false, i1, decide_eq_false hneg, if_pos hlim, List.nil_append, l1, whG]
      · simp only [xAJ, Val.re_eq, h2, Option.bind_some, g1, cond_false, i2, decide_eq_false hneg, if_pos hlim, List.nil_append, l2, whG]
  · refine ⟨?_, ?_⟩
    · simp only [xAB, Val.re_eq, h1, Option.bind_some, e1, e2, e3, List.isEmpty_nil, if_true, flat_eta e1 e2 e3, g1, cond_true, whG]
      cases (xBo [2, 1, 5] [a, b, v]).2.2 <;> rfl
    · simp only [xAJ, Val.re_eq, h2, Option.bind_some, g1, cond_true, whG]
theorem pick_length {k n : Int} {l : List Rowd} : (pick k n l).length ≤ l.length := List.length_filter_le _ _
theorem pick_cnt {k n : Int} : ∀ {l : List Rowd}, ((pick k n l).map cRow).sum ≤ (l.map cRow).sum
  | [] => by simp [pick]
  | x :: l => by
    have := pick_cnt (k := k) (n := n) (l := l)
    rw [xBq]
    cases (x.cells.getD k.toNat Ty.int.dflt == n) <;> simp only [cond_true, cond_false, List.map_cons, List.sum_cons] <;> omega
def Good1 (K : Nat) (r : Val × Bool) : Prop := r.1.Fit K ∧ r.1.cnt ≤ 100000000000 ∧ (r.2 = true → Flat r.1)
theorem Flat.good {r : Val × Bool} (h : Flat r.1) : Good1 1048576 r := ⟨h.fit _, by rw [h.cnt]; omega, fun _ => h⟩
theorem whG_good {a b v : Val} (ha : a.Fit 1048576) (hb : b.Fit 1048576) (hv : v.Fit 1048576) (hc : v.cnt ≤ 100000000000) : Good1 1048576 (whG a b v) := by
  obtain ⟨_, _, _, _, _, h6, h7⟩ := Val.fit_iff.1 hv
  unfold whG
  cases (xBo [2, 1, 5] [a, b, v]).2.1
  · cases decide (idxS v.columns a.text 0 < 0)
    · refine ⟨Val.fit_iff.2 ⟨i64_of (by show (-1000000 : Int) ≤ 5; omega) (by show (5 : Int) ≤ 1000000; omega), i64_of (by show (-1000000 : Int) ≤ 0; omega) (by show (0 : Int) ≤ 1000000; omega), i64_of (by show (-1000000 : Int) ≤ 0; omega) (by show (0 : Int) ≤ 1000000; omega), Nat.zero_le _, lfit_nil, h6, ?_, fun r hr => h7.2 r ((List.mem_filter.1 hr).1)⟩, ?_, fun h => by cases h⟩
      · exact Nat.le_trans pick_length h7.1
      · have := pick_cnt (k := idxS v.columns a.text 0) (n := b.n) (l := v.rows)
        rw [valCnt] at hc
        show (Val.mk 5 0 0 [] [] v.columns (pick (idxS v.columns a.text 0) b.n v.rows)).cnt ≤ _
        rw [valCnt, vl, vc, vr]
        simp only [List.map_nil, List.sum_nil]
        omega
    · exact Flat.good (flat_err (i64_of (by omega) (by omega)))
  · exact Flat.good (kindG_flat (three_fit ha hb hv))
theorem xBl (a0 a1 a2 : Val) (f0 : ∀ z ∈ [CV.int .i64 (Val.kind a0), .int .i64 (Val.n a0), .int .i64 (Val.step a0), .str (Val.text a0), .sl .ro .val (Val.list a0), .sl .ro .str (Val.columns a0), .sl .ro .row (Val.rows a0)], DFit z.toD)
    (f1 : ∀ z ∈ [CV.int .i64 (Val.kind a1), .int .i64 (Val.n a1), .int .i64 (Val.step a1), .str (Val.text a1), .sl .ro .val (Val.list a1), .sl .ro .str (Val.columns a1), .sl .ro .row (Val.rows a1)], DFit z.toD)
    (f2 : ∀ z ∈ [CV.int .i64 (Val.kind a2), .int .i64 (Val.n a2), .int .i64 (Val.step a2), .str (Val.text a2), .sl .ro .val (Val.list a2), .sl .ro .str (Val.columns a2), .sl .ro .row (Val.rows a2)], DFit z.toD) : ∃ N, xAw N a0 a1 a2 = some true := by
  have hF := xBr f0
  have hG := xBr f1
  have hH := xBr f2
  by_cases h : left a0.size 1048576 < 0
  · exact ((xA5 hF).imp fun N hs => by simp [xAw, hs 1048576 (by omega) (by omega), h]).get
  · have g0 := left_ge h
    rw [left_of g0] at h
    by_cases h' : left a1.size (1048576 - (a0.size : Int)) < 0
    · refine (((xA5 hF).and (xA5 hG)).imp fun N ⟨hs, ht⟩ => ?_).get
      have e1 := hs 1048576 (by omega) (by omega)
      rw [left_of g0] at e1
      simp only [xAw, e1, Option.bind_some, decide_eq_false h, cond_false, ht _ (by omega : 0 ≤ 1048576 - (a0.size : Int)) (by omega), decide_eq_true h', cond_true]
    · have g1 := left_ge h'
      rw [left_of g1] at h'
      by_cases h'' : left a2.size (1048576 - (a0.size : Int) - (a1.size : Int)) < 0
      · refine (((xA5 hF).and ((xA5 hG).and (xA5 hH))).imp fun N ⟨hs, ht, hu⟩ => ?_).get
        have e1 := hs 1048576 (by omega) (by omega)
        rw [left_of g0] at e1
        have e2 := ht _ (by omega : 0 ≤ 1048576 - (a0.size : Int)) (by omega)
        rw [left_of g1] at e2
        simp only [xAw, e1, e2, Option.bind_some, decide_eq_false h, decide_eq_false h', cond_false, hu _ (by omega : 0 ≤ 1048576 - (a0.size : Int) - (a1.size : Int)) (by omega), decide_eq_true h'', cond_true]
      · have g2 := left_ge h''
        have s0 := Val.fit_size (K := 1048576) a0 hF (by omega)
        have s1 := Val.fit_size (K := 1048576) a1 hG (by omega)
        have s2 := Val.fit_size (K := 1048576) a2 hH (by omega)
        have c0 := Val.cnt_le a0
        have c1 := Val.cnt_le a1
        have c2 := Val.cnt_le a2
        obtain ⟨hff, hfc, hfl⟩ := whG_good s0 s1 s2 (by omega)
        refine ((((xA5 hF).and ((xA5 hG).and (xA5 hH))).and (((toValue_eq s0).and ((toValue_eq s1).and (toValue_eq s2))).and ((eqValue_self s0 (by omega)).and ((eqValue_self s1 (by omega)).and (eqValue_self s2 (by omega)))))).and
          (((where_eq (by omega) s0 s1 s2).and (eqValue_self hff (by omega))).and (((markValue_at (by omega) s0).and ((markValue_at (by omega) s1).and (markValue_at (by omega) s2))).and ((markValue_held (by omega) hff (by omega)).and (yF0 274877906944)))))
          |>.imp (fun N ⟨⟨⟨z0, z1, z2⟩, ⟨t0, t1, t2⟩, q0, q1, q2⟩, ⟨⟨k4, k5⟩, k6⟩, ⟨m0, m1, m2⟩, m3, hN⟩ => ?_) |>.get
        obtain ⟨k0, xa0, xb0, xc0, u0, u1, p01, p02, p03, p04, _⟩ := m0 1 (by omega) (by omega)
        obtain ⟨k1, xa1, xb1, xc1, v0, v1, p11, p12, p13, p14, _⟩ := m1 k0 (by omega) (by omega)
        obtain ⟨k2, xa2, xb2, xc2, w0, w1, p21, p22, p23, p24, _⟩ := m2 k1 (by omega) (by omega)
        obtain ⟨k', ya, yb, yc, r0, r1, r2, r3, r4, r5⟩ := m3
        have e1 := z0 1048576 (by omega) (by omega)
        rw [left_of g0] at e1
        have e2 := z1 _ (by omega : 0 ≤ 1048576 - (a0.size : Int)) (by omega)
        rw [left_of g1] at e2
        have e3 := z2 _ (by omega : 0 ≤ 1048576 - (a0.size : Int) - (a1.size : Int)) (by omega)
        generalize whG a0 a1 a2 = r at *
        simp only [xAw, e1, e2, e3, t0, t1, t2, q0, q1, q2, k4, k5, k6, Option.bind_some, decide_eq_false h, decide_eq_false h', decide_eq_false h'', cond_false]
        cases hr2 : r.2
        · simp only [cond_false, k6, Bool.not_true, p04, p14, p24, Option.bind_some, if_pos p01, if_pos p02, if_pos p03, if_pos p11, if_pos p12, if_pos p13, if_pos p21, if_pos p22, if_pos p23, decide_eq_false (by omega : ¬ k2 < 0), r4, if_pos r1, if_pos r2, if_pos r3, r5, decide_eq_false (by omega : ¬ k' < 0), bne_self_eq_false]
        · have hflat := hfl hr2
          obtain ⟨f1, f2, f3, _⟩ := hflat
          have hh : yDB N r.1 1 = some 1 := by rw [← flat_eta f1 f2 f3]; exact heldFlat_eq hN (by omega)
          simp only [cond_true, f1, f2, f3, List.isEmpty_nil, if_true, flat_eta f1 f2 f3, k6, Option.bind_some, Bool.not_true, cond_false, p04, p14, p24, if_pos p01, if_pos p02, if_pos p03, if_pos p11, if_pos p12, if_pos p13, if_pos p21, if_pos p22, if_pos p23, decide_eq_false (by omega : ¬ k2 < 0), markE_eq hN, hh, decide_eq_false (by omega : ¬ (1 : Int) < 0), bne_self_eq_false]
end Go.Ab
end
section
namespace Go.Proofs.Ytkbojckenecnbaa
open Go.Ab Go.ChangeShapes Go.WideShapes Go.ChangeAt Go.RowKit
set_option linter.unusedVariables false
theorem own : ownKnob Try.prog.godebug = none := by kernel_rfl
theorem laidOut : laidOutB Try.prog = true := by kernel_rfl
theorem xA0 : ktChk Try.prog [(3, .int), (9, .str), (40, .val), (137, .org), (148, .row)] = true := by kernel_rfl
set_option maxRecDepth 100000 in
theorem fnExactWhereEqual_lifted (os : Os) (started : os.Started) (H : Type) (enc : TypeId × Value → H) :
    ReturnsInHanded {} Try.checked os 14 .any (Rows.fnExactWhereEqualSpec.pre6 enc Try.prog Try.f14 Rows.fnExactWhereEqualRow.domain false) (Rows.fnExactWhereEqualSpec.post enc Try.prog Try.f14 false true false false) := by
  refine returnsInHanded_of_change (C := Try.checked) own started (by kernel_rfl) Try.func14
    (ChangeSpec.witness6 (enc := enc) (C := Try.checked) false ⟨#[], #[.agg #[.int .i64 0, .int .i64 0, .int .i64 0, .string ByteArray.empty, .slice none 0 0, .slice none 0 0, .slice none 0 0], .agg #[.int .i64 0, .int .i64 0, .int .i64 0, .string ByteArray.empty, .slice none 0 0, .slice none 0 0, .slice none 0 0], .agg #[.int .i64 0, .int .i64 0, .int .i64 0, .string ByteArray.empty, .slice none 0 0, .slice none 0 0, .slice none 0 0]], []⟩ 8 (by kernel_rfl) (by kernel_rfl) (by kernel_rfl) (by kernel_rfl)) ?_
  intro W base args ds gs before hval0 hW hcnd _
  have hval : ∀ (j : Nat) t v, Try.f14.params[j]? = some t → args[j]? = some v → Value.okWide Try.prog W .any base t v := hval0
  have hW' := hW
  obtain ⟨p, q, hA0, hV, rfl, hfz, hnd⟩ := hW
  have hA : DataW.TrodAll enc Try.prog W 0 (fun _ => true) true Try.f14.params.toList args.toList ds p := hA0
  rw [Try.params14] at hA hval
  obtain ⟨v0, vs0, d0, ds0, p0, q0, hargs, rfl, rfl, h0, r0⟩ := trodAll_cons hA
  obtain ⟨v1, vs1, d1, ds1, p1, q1, rfl, rfl, rfl, h1, r1⟩ := trodAll_cons r0
  obtain ⟨v2, vs2, d2, ds2, p2, q2, rfl, rfl, rfl, h2, r2⟩ := trodAll_cons r1
  obtain ⟨rfl, rfl, rfl⟩ := trodAll_nil r2
  obtain rfl : args = #[v0, v1, v2] := by cases args; simp_all
  obtain ⟨rfl, rfl⟩ := trodVars_none hV
  have lt0 : ∀ x ∈ p0, x.block < W.heap.size := by obtain ⟨m, hm⟩ := h0; exact DataW.trod_lt m _ _ _ hm
  have lt1 : ∀ x ∈ p1, x.block < W.heap.size := by obtain ⟨m, hm⟩ := h1; exact DataW.trod_lt m _ _ _ hm
  have lt2 : ∀ x ∈ p2, x.block < W.heap.size := by obtain ⟨m, hm⟩ := h2; exact DataW.trod_lt m _ _ _ hm
  obtain ⟨z0, e0, f0, vr0⟩ := vr_of xA0 (g := true) (t := 40) (ns := [.inl (.int .i64), .inl (.int .i64), .inl (.int .i64), .inl .str, .inr .val, .inr .str, .inr .row]) (by kernel_rfl) (hval 0 40 v0 rfl rfl) h0
  obtain ⟨x0_0, _, rfl, e0_0⟩ := AreOf.int_inv e0
  obtain ⟨x0_1, _, rfl, e0_1⟩ := AreOf.int_inv e0_0
  obtain ⟨x0_2, _, rfl, e0_2⟩ := AreOf.int_inv e0_1
  obtain ⟨x0_3, _, rfl, e0_3⟩ := AreOf.str_inv e0_2
  obtain ⟨x0_4, _, rfl, e0_4⟩ := AreOf.sl_inv e0_3
  obtain ⟨x0_5, _, rfl, e0_5⟩ := AreOf.sl_inv e0_4
  obtain ⟨x0_6, _, rfl, e0_6⟩ := AreOf.sl_inv e0_5
  obtain rfl := e0_6.nil_inv
  obtain ⟨z1, e1, f1, vr1⟩ := vr_of xA0 (g := true) (t := 40) (ns := [.inl (.int .i64), .inl (.int .i64), .inl (.int .i64), .inl .str, .inr .val, .inr .str, .inr .row]) (by kernel_rfl) (hval 1 40 v1 rfl rfl) h1
  obtain ⟨x1_0, _, rfl, e1_0⟩ := AreOf.int_inv e1
  obtain ⟨x1_1, _, rfl, e1_1⟩ := AreOf.int_inv e1_0
  obtain ⟨x1_2, _, rfl, e1_2⟩ := AreOf.int_inv e1_1
  obtain ⟨x1_3, _, rfl, e1_3⟩ := AreOf.str_inv e1_2
  obtain ⟨x1_4, _, rfl, e1_4⟩ := AreOf.sl_inv e1_3
  obtain ⟨x1_5, _, rfl, e1_5⟩ := AreOf.sl_inv e1_4
  obtain ⟨x1_6, _, rfl, e1_6⟩ := AreOf.sl_inv e1_5
  obtain rfl := e1_6.nil_inv
  obtain ⟨z2, e2, f2, vr2⟩ := vr_of xA0 (g := true) (t := 40) (ns := [.inl (.int .i64), .inl (.int .i64), .inl (.int .i64), .inl .str, .inr .val, .inr .str, .inr .row]) (by kernel_rfl) (hval 2 40 v2 rfl rfl) h2
  obtain ⟨x2_0, _, rfl, e2_0⟩ := AreOf.int_inv e2
  obtain ⟨x2_1, _, rfl, e2_1⟩ := AreOf.int_inv e2_0
  obtain ⟨x2_2, _, rfl, e2_2⟩ := AreOf.int_inv e2_1
  obtain ⟨x2_3, _, rfl, e2_3⟩ := AreOf.str_inv e2_2
  obtain ⟨x2_4, _, rfl, e2_4⟩ := AreOf.sl_inv e2_3
  obtain ⟨x2_5, _, rfl, e2_5⟩ := AreOf.sl_inv e2_4
  obtain ⟨x2_6, _, rfl, e2_6⟩ := AreOf.sl_inv e2_5
  obtain rfl := e2_6.nil_inv
  obtain ⟨N, hF⟩ := xBl (Val.mk x0_0 x0_1 x0_2 x0_3 x0_4 x0_5 x0_6) (Val.mk x1_0 x1_1 x1_2 x1_3 x1_4 x1_5 x1_6) (Val.mk x2_0 x2_1 x2_2 x2_3 x2_4 x2_5 x2_6) f0 f1 f2
  clear hA0 hval0
  refine (calls_of T.fk14 (T.laws_FnExactWhereEqual_ok hF) (W := W) (args := #[v0, v1, v2]) ⟨vr0 _, vr1 _, vr2 _, trivial⟩).mono fun e W' ⟨he, bel⟩ => ?_
  subst he
  exact ⟨_, rfl, _, _, _, [], _, [], hW', trodAll_mk1 (shut_bool Try.underlying4 _), (trodAll_cons_mk (Below.trod laidOut (by kernel_rfl) (of_decide_eq_true (by kernel_rfl)) h0 bel lt0) (trodAll_cons_mk (Below.trod laidOut (by kernel_rfl) (of_decide_eq_true (by kernel_rfl)) h1 bel lt1) (trodAll_cons_mk (Below.trod laidOut (by kernel_rfl) (of_decide_eq_true (by kernel_rfl)) h2 bel lt2) trodAll_mk0))), rfl, bel.frame _, fun h => by cases h⟩
theorem fnExactWhereEqual_proved : Rows.FnExactWhereEqualSaid :=
  OpenClaim.holds_of_wide 14 Try.f14 rfl rfl rfl rfl rfl rfl rfl ⟨rfl, rfl, rfl, rfl, rfl⟩ rfl rfl rfl rfl rfl (by kernel_rfl) Try.func14 (by kernel_rfl)
    (of_decide_eq_true (by kernel_rfl)) (by unfold Func.isWrapper; first | (rw [if_pos (by decide +kernel)]; kernel_rfl) | (rw [if_neg (by decide +kernel)]; exact ⟨rfl, rfl⟩))
    (fun os started H enc _ => fnExactWhereEqual_lifted os started H enc)
end Go.Proofs.Ytkbojckenecnbaa
end
