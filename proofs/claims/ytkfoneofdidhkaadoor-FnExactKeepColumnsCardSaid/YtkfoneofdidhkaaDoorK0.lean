/- What several statements share: plain functions, certificates, laws. Conditions: none. -/
import Derived.LaidMore
import Derived.Lay
import Derived.SevenTiedAt
import Derived.Shelf.Strings.Split
import Derived.Stop.Joined
import Derived.Test.YtkfoneofdidhkaaDoorCards
import Derived.Test.YtkfoneofdidhkaaDoorChecked
import Derived.Test.YtkfoneofdidhkaaDoorProg
import Derived.Test.YtkfoneofdidhkaaDoorRows
import Derived.Test.YtkfoneofdidhkaaDoorTie
import Derived.Test.YtkfoneofdidhkaaDoorL2
set_option linter.all false
section
namespace Go.Ab
set_option linter.unusedVariables false
def yC7 (a0 : List Val) (a1 : Int) : List Arg := [.val (.v false [.sl .ro .val []]), .val (.v false [.int .i64 a1])]
def yBL (r : Int) : CallO := ⟨.v false [.int .i64 r], [], []⟩
def yD3 (N : Nat) : Nat → Int → Int → Option (Int)
  | 0, _, _ => none
  | n + 1, x1, x5 =>
    bif (decide ((x5 : Int) < (0 : Int))) then (
      if (0 : Int) ≤ x5 ∧ x5 < (0) then
      none
      else none
    ) else (
      some x1
    )
def yDT (N : Nat) (a0 : List Val) (a1 : Int) : Option (Int) :=
  (yD3 N N a1 0)
def yBZ (a0 : List Str) (a1 : Int) : List Arg := [.val (.v false [.sl .ro .str a0]), .val (.v false [.int .i64 a1])]
def yAG (r : Int) : CallO := ⟨.v false [.int .i64 r], [], []⟩
def yDU (N : Nat) : Nat → (List Str) → Int → Int → Option (Int)
  | 0, _, _, _ => none
  | n + 1, x0, x1, x5 =>
    bif (decide ((x5 : Int) < (List.length x0 : Int))) then (
      if (0 : Int) ≤ x5 ∧ x5 < (List.length x0) then
      bif (decide (((IntKind.i64.wrap (x1 - (List.length (List.getD x0 (Int.toNat x5) Ty.str.dflt) : Int))) : Int) < 0)) then (
        some (-1)
      ) else (
        (yDU N n x0 (IntKind.i64.wrap (x1 - (List.length (List.getD x0 (Int.toNat x5) Ty.str.dflt) : Int))) (IntKind.i64.wrap (x5 + 1)))
      )
      else none
    ) else (
      some x1
    )
def yE7 (N : Nat) (a0 : List Str) (a1 : Int) : Option (Int) :=
  bif (decide (((IntKind.i64.wrap (a1 - (List.length a0 : Int))) : Int) < 0)) then (
    some (-1)
  ) else (
    (yDU N N a0 (IntKind.i64.wrap (a1 - (List.length a0 : Int))) 0)
  )
def yC4 (a0 : List Int) (a1 : Int) : List Arg := [.val (.v false [.sl .ro .int a0]), .val (.v false [.int .i64 a1])]
def yBD (r : Int) : CallO := ⟨.v false [.int .i64 r], [], []⟩
def yGf (N : Nat) (a0 : List Int) (a1 : Int) : Option (Int) :=
  bif (decide (((IntKind.i64.wrap (a1 - (List.length a0 : Int))) : Int) < 0)) then (
    some (-1)
  ) else (
    some (IntKind.i64.wrap (a1 - (List.length a0 : Int)))
  )
def yCs (a0 : List Org) (a1 : Int) : List Arg := [.val (.v false [.sl .ro .org a0]), .val (.v false [.int .i64 a1])]
def yBy (r : Int) : CallO := ⟨.v false [.int .i64 r], [], []⟩
def yE5 (N : Nat) (a0 : List Org) (a1 : Int) : Option (Int) :=
  bif (decide (((IntKind.i64.wrap (a1 - (List.length a0 : Int))) : Int) < 0)) then (
    some (-1)
  ) else (
    some (IntKind.i64.wrap (a1 - (List.length a0 : Int)))
  )
def yDm (a0 : Rowd) (a1 : Int) : List Arg := [.val (.v true [.sl .ro .int (Rowd.cells a0), .sl .ro .org (Rowd.frm a0)]), .val (.v false [.int .i64 a1])]
def yCk (r : Int) : CallO := ⟨.v false [.int .i64 r], [], []⟩
def yF4 (N : Nat) (a0 : Rowd) (a1 : Int) : Option (Int) :=
  Option.bind (yGf N (Rowd.cells a0) a1) fun r1 =>
  bif (decide ((r1 : Int) < 0)) then (
    some (-1)
  ) else (
    Option.bind (yE5 N (Rowd.frm a0) r1) fun r2 =>
    bif (decide ((r2 : Int) < 0)) then (
      some (-1)
    ) else (
      some r2
    )
  )
def yDA (a0 : List Rowd) (a1 : Int) : List Arg := [.val (.v false [.sl .ro .row a0]), .val (.v false [.int .i64 a1])]
def yBE (r : Int) : CallO := ⟨.v false [.int .i64 r], [], []⟩
def yE6 (N : Nat) : Nat → (List Rowd) → Int → Int → Option (Int)
  | 0, _, _, _ => none
  | n + 1, x0, x1, x5 =>
    bif (decide ((x5 : Int) < (List.length x0 : Int))) then (
      if (0 : Int) ≤ x5 ∧ x5 < (List.length x0) then
      Option.bind (yF4 N (List.getD x0 (Int.toNat x5) Ty.row.dflt) x1) fun r1 =>
      bif (decide ((r1 : Int) < 0)) then (
        some (-1)
      ) else (
        (yE6 N n x0 r1 (IntKind.i64.wrap (x5 + 1)))
      )
      else none
    ) else (
      some x1
    )
def yGg (N : Nat) (a0 : List Rowd) (a1 : Int) : Option (Int) :=
  bif (decide (((IntKind.i64.wrap (a1 - (List.length a0 : Int))) : Int) < 0)) then (
    some (-1)
  ) else (
    (yE6 N N a0 (IntKind.i64.wrap (a1 - (List.length a0 : Int))) 0)
  )
def yA4 (a0 : Val) (a1 : Int) : List Arg := [.val (.v true [.int .i64 (Val.kind a0), .int .i64 (Val.n a0), .int .i64 (Val.step a0), .str (Val.text a0), .sl .ro .val (Val.list a0), .sl .ro .str (Val.columns a0), .sl .ro .row (Val.rows a0)]), .val (.v false [.int .i64 a1])]
def yAM (r : Int) : CallO := ⟨.v false [.int .i64 r], [], []⟩
def yEW (N : Nat) (q0 : Val → Int → Option (Int)) (q1 : (List Val) → Int → Option (Int)) (a0 : Val) (a1 : Int) : Option (Int) :=
  bif (decide (((IntKind.i64.wrap (a1 - (List.length (Val.text a0) : Int))) : Int) < 0)) then (
    some (-1)
  ) else (
    Option.bind (q1 (Val.list a0) (IntKind.i64.wrap (a1 - (List.length (Val.text a0) : Int)))) fun r1 =>
    bif (decide ((r1 : Int) < 0)) then (
      some (-1)
    ) else (
      Option.bind (yE7 N (Val.columns a0) r1) fun r2 =>
      bif (decide ((r2 : Int) < 0)) then (
        some (-1)
      ) else (
        Option.bind (yGg N (Val.rows a0) r2) fun r3 =>
        bif (decide ((r3 : Int) < 0)) then (
          some (-1)
        ) else (
          some r3
        )
      )
    )
  )
def yBm (a0 : List Val) (a1 : Int) : List Arg := [.val (.v false [.sl .ro .val a0]), .val (.v false [.int .i64 a1])]
def yAv (r : Int) : CallO := ⟨.v false [.int .i64 r], [], []⟩
def yEk (N : Nat) (q0 : Val → Int → Option (Int)) (q1 : (List Val) → Int → Option (Int)) : Nat → (List Val) → Int → Int → Option (Int)
  | 0, _, _, _ => none
  | n + 1, x0, x1, x5 =>
    bif (decide ((x5 : Int) < (List.length x0 : Int))) then (
      if (0 : Int) ≤ x5 ∧ x5 < (List.length x0) then
      Option.bind (q0 (List.getD x0 (Int.toNat x5) Ty.val.dflt) x1) fun r1 =>
      bif (decide ((r1 : Int) < 0)) then (
        some (-1)
      ) else (
        (yEk N q0 q1 n x0 r1 (IntKind.i64.wrap (x5 + 1)))
      )
      else none
    ) else (
      some x1
    )
def yEE (N : Nat) (q0 : Val → Int → Option (Int)) (q1 : (List Val) → Int → Option (Int)) (a0 : List Val) (a1 : Int) : Option (Int) :=
  bif (decide (((IntKind.i64.wrap (a1 - (List.length a0 : Int))) : Int) < 0)) then (
    some (-1)
  ) else (
    (yEk N q0 q1 N a0 (IntKind.i64.wrap (a1 - (List.length a0 : Int))) 0)
  )
structure laws_szValue_rec where
  c_laws_szValue : Val → Int → Option (Int)
  c_laws_szValueS : (List Val) → Int → Option (Int)
def yAY (N : Nat) : Nat → laws_szValue_rec
  | 0 => ⟨fun _ _ => none, fun _ _ => none⟩
  | d + 1 => ⟨yEW N (yAY N d).c_laws_szValue (yAY N d).c_laws_szValueS, yEE N (yAY N d).c_laws_szValue (yAY N d).c_laws_szValueS⟩
def yFO (N : Nat) (a0 : Val) (a1 : Int) : Option (Int) := (yAY N N).c_laws_szValue a0 a1
def yDX (a0 : List Str) : List Arg := [.val (.v false [.sl .ro .str a0])]
def yCu (r : (List Str)) : CallO := ⟨.v false [.sl .own .str r], [], []⟩
def yDY (N : Nat) : Nat → (List Str) → (List Str) → Int → Option ((List Str))
  | 0, _, _, _ => none
  | n + 1, x0, x3, x4 =>
    bif (decide ((x4 : Int) < (List.length x0 : Int))) then (
      if (0 : Int) ≤ x4 ∧ x4 < (List.length x0) then
      if (0 : Int) ≤ x4 ∧ x4 < (List.length x3) then
      (yDY N n x0 (List.set x3 (Int.toNat x4) (List.getD x0 (Int.toNat x4) Ty.str.dflt)) (IntKind.i64.wrap (x4 + 1)))
      else none
      else none
    ) else (
      some x3
    )
def yEc (N : Nat) (a0 : List Str) : Option ((List Str)) :=
  if (0 : Int) ≤ (List.length a0 : Int) ∧ (List.length a0 : Int) = (List.length a0 : Int) ∧ (List.length a0 : Int) ≤ Lim then
  (yDY N N a0 (List.replicate (Int.toNat (List.length a0 : Int)) Ty.str.dflt) 0)
  else none
def yE8 (a0 : List Int) : List Arg := [.val (.v false [.sl .ro .int a0])]
def yDB (r : (List Int)) : CallO := ⟨.v false [.sl .own .int r], [], []⟩
def yE9 (N : Nat) : Nat → (List Int) → (List Int) → Int → Option ((List Int))
  | 0, _, _, _ => none
  | n + 1, x0, x3, x4 =>
    bif (decide ((x4 : Int) < (List.length x0 : Int))) then (
      if (0 : Int) ≤ x4 ∧ x4 < (List.length x0) then
      if (0 : Int) ≤ x4 ∧ x4 < (List.length x3) then
      (yE9 N n x0 (List.set x3 (Int.toNat x4) (List.getD x0 (Int.toNat x4) Ty.int.dflt)) (IntKind.i64.wrap (x4 + 1)))
      else none
      else none
    ) else (
      some x3
    )
def yFB (N : Nat) (a0 : List Int) : Option ((List Int)) :=
  if (0 : Int) ≤ (List.length a0 : Int) ∧ (List.length a0 : Int) = (List.length a0 : Int) ∧ (List.length a0 : Int) ≤ Lim then
  (yE9 N N a0 (List.replicate (Int.toNat (List.length a0 : Int)) Ty.int.dflt) 0)
  else none
def yEl (a0 : Org) : List Arg := [.val (.v true [.int .i64 (Org.cell a0), .int .i64 (Org.row a0)])]
def yDu (r : Org) : CallO := ⟨.v true [.int .i64 (Org.cell r), .int .i64 (Org.row r)], [], []⟩
def yFp (N : Nat) (a0 : Org) : Option (Org) :=
  some a0
def yDV (a0 : List Org) : List Arg := [.val (.v false [.sl .ro .org a0])]
def yCt (r : (List Org)) : CallO := ⟨.v false [.sl .own .org r], [], []⟩
def yDW (N : Nat) : Nat → (List Org) → (List Org) → Int → Option ((List Org))
  | 0, _, _, _ => none
  | n + 1, x0, x3, x4 =>
    bif (decide ((x4 : Int) < (List.length x0 : Int))) then (
      if (0 : Int) ≤ x4 ∧ x4 < (List.length x0) then
      Option.bind (yFp N (List.getD x0 (Int.toNat x4) Ty.org.dflt)) fun r1 =>
      if (0 : Int) ≤ x4 ∧ x4 < (List.length x3) then
      (yDW N n x0 (List.set x3 (Int.toNat x4) r1) (IntKind.i64.wrap (x4 + 1)))
      else none
      else none
    ) else (
      some x3
    )
def yEb (N : Nat) (a0 : List Org) : Option ((List Org)) :=
  if (0 : Int) ≤ (List.length a0 : Int) ∧ (List.length a0 : Int) = (List.length a0 : Int) ∧ (List.length a0 : Int) ≤ Lim then
  (yDW N N a0 (List.replicate (Int.toNat (List.length a0 : Int)) Ty.org.dflt) 0)
  else none
def yFq (a0 : Rowd) : List Arg := [.val (.v true [.sl .ro .int (Rowd.cells a0), .sl .ro .org (Rowd.frm a0)])]
def yEF (r : Rowd) : CallO := ⟨.v true [.sl .own .int (Rowd.cells r), .sl .own .org (Rowd.frm r)], [], []⟩
def yFs (N : Nat) (a0 : Rowd) : Option (Rowd) :=
  Option.bind (yFB N (Rowd.cells a0)) fun r1 =>
  Option.bind (yEb N (Rowd.frm a0)) fun r2 =>
  some (Rowd.mk r1 r2)
def yFa (a0 : List Rowd) : List Arg := [.val (.v false [.sl .ro .row a0])]
def yDC (r : (List Rowd)) : CallO := ⟨.v false [.sl .own .row r], [], []⟩
def yFb (N : Nat) : Nat → (List Rowd) → (List Rowd) → Int → Option ((List Rowd))
  | 0, _, _, _ => none
  | n + 1, x0, x3, x4 =>
    bif (decide ((x4 : Int) < (List.length x0 : Int))) then (
      if (0 : Int) ≤ x4 ∧ x4 < (List.length x0) then
      Option.bind (yFs N (List.getD x0 (Int.toNat x4) Ty.row.dflt)) fun r1 =>
      if (0 : Int) ≤ x4 ∧ x4 < (List.length x3) then
      (yFb N n x0 (List.set x3 (Int.toNat x4) r1) (IntKind.i64.wrap (x4 + 1)))
      else none
      else none
    ) else (
      some x3
    )
def yFC (N : Nat) (a0 : List Rowd) : Option ((List Rowd)) :=
  if (0 : Int) ≤ (List.length a0 : Int) ∧ (List.length a0 : Int) = (List.length a0 : Int) ∧ (List.length a0 : Int) ≤ Lim then
  (yFb N N a0 (List.replicate (Int.toNat (List.length a0 : Int)) Ty.row.dflt) 0)
  else none
def yDb (a0 : Val) : List Arg := [.val (.v true [.int .i64 (Val.kind a0), .int .i64 (Val.n a0), .int .i64 (Val.step a0), .str (Val.text a0), .sl .ro .val (Val.list a0), .sl .ro .str (Val.columns a0), .sl .ro .row (Val.rows a0)])]
def yCG (r : Val) : CallO := ⟨.v true [.int .i64 (Val.kind r), .int .i64 (Val.n r), .int .i64 (Val.step r), .str (Val.text r), .sl .own .val (Val.list r), .sl .own .str (Val.columns r), .sl .own .row (Val.rows r)], [], []⟩
def yDc (N : Nat) (q0 : Val → Option (Val)) (q1 : (List Val) → Option ((List Val))) (a0 : Val) : Option (Val) :=
  Option.bind (q1 (Val.list a0)) fun r1 =>
  Option.bind (yEc N (Val.columns a0)) fun r2 =>
  Option.bind (yFC N (Val.rows a0)) fun r3 =>
  some (Val.mk (Val.kind a0) (Val.n a0) (Val.step a0) (Val.text a0) r1 r2 r3)
def yDv (a0 : List Val) : List Arg := [.val (.v false [.sl .ro .val a0])]
def yCe (r : (List Val)) : CallO := ⟨.v false [.sl .own .val r], [], []⟩
def yEm (N : Nat) (q0 : Val → Option (Val)) (q1 : (List Val) → Option ((List Val))) : Nat → (List Val) → (List Val) → Int → Option ((List Val))
  | 0, _, _, _ => none
  | n + 1, x0, x3, x4 =>
    bif (decide ((x4 : Int) < (List.length x0 : Int))) then (
      if (0 : Int) ≤ x4 ∧ x4 < (List.length x0) then
      Option.bind (q0 (List.getD x0 (Int.toNat x4) Ty.val.dflt)) fun r1 =>
      if (0 : Int) ≤ x4 ∧ x4 < (List.length x3) then
      (yEm N q0 q1 n x0 (List.set x3 (Int.toNat x4) (Val.re r1)) (IntKind.i64.wrap (x4 + 1)))
      else none
      else none
    ) else (
      some x3
    )
def yCZ (N : Nat) (q0 : Val → Option (Val)) (q1 : (List Val) → Option ((List Val))) (a0 : List Val) : Option ((List Val)) :=
  if (0 : Int) ≤ (List.length a0 : Int) ∧ (List.length a0 : Int) = (List.length a0 : Int) ∧ (List.length a0 : Int) ≤ Lim then
  (yEm N q0 q1 N a0 (List.replicate (Int.toNat (List.length a0 : Int)) Ty.val.dflt) 0)
  else none
structure laws_toValue_rec where
  c_laws_toValue : Val → Option (Val)
  c_laws_toValueS : (List Val) → Option ((List Val))
def yAo (N : Nat) : Nat → laws_toValue_rec
  | 0 => ⟨fun _ => none, fun _ => none⟩
  | d + 1 => ⟨yDc N (yAo N d).c_laws_toValue (yAo N d).c_laws_toValueS, yCZ N (yAo N d).c_laws_toValue (yAo N d).c_laws_toValueS⟩
def yBd (N : Nat) (a0 : Val) : Option (Val) := (yAo N N).c_laws_toValue a0
def yDh (a0 : Int) (a1 : Int) (a2 : Int) : List Arg := [.val (.v false [.int .i64 a0]), .val (.v false [.int .i64 a1]), .val (.v false [.int .i64 a2])]
def yBO (r : Bool) : CallO := ⟨.v false [.bool r], [], []⟩
def yFG (N : Nat) (a0 : Int) (a1 : Int) (a2 : Int) : Option (Bool) :=
  bif (decide ((a0 : Int) ≥ a1)) then (
    some (decide ((a0 : Int) ≤ a2))
  ) else (
    some false
  )
def yBo (a0 : Int) : List Arg := [.val (.v false [.int .i64 a0])]
def yAw (r : Bool) : CallO := ⟨.v false [.bool r], [], []⟩
def yC2 (N : Nat) (a0 : Int) : Option (Bool) :=
  Option.bind (yFG N a0 (-1000000000) 1000000000) fun r1 =>
  some r1
def yDo (a0 : Str) : List Arg := [.val (.v false [.str a0])]
def yAW (r : Bool) : CallO := ⟨.v false [.bool r], [], []⟩
def yA5 (N : Nat) : Nat → Str → Int → Option (Bool)
  | 0, _, _ => none
  | n + 1, x0, x3 =>
    bif (decide ((x3 : Int) < (List.length x0 : Int))) then (
      if (0 : Int) ≤ x3 ∧ x3 < (List.length x0) then
      bif (decide ((((List.getD x0 (Int.toNat x3) 0).toNat : Int) : Int) < 32)) then (
        some false
      ) else (
        bif (decide ((((List.getD x0 (Int.toNat x3) 0).toNat : Int) : Int) > 126)) then (
          some false
        ) else (
          bif ((((List.getD x0 (Int.toNat x3) 0).toNat : Int) : Int) == 34) then (
            some false
          ) else (
            (yA5 N n x0 (IntKind.i64.wrap (x3 + 1)))
          )
        )
      )
      else none
    ) else (
      some (decide (((List.length x0 : Int) : Int) ≤ 20))
    )
def yEo (N : Nat) (a0 : Str) : Option (Bool) :=
  (yA5 N N a0 0)
def yBz (a0 : Val) : List Arg := [.val (.v true [.int .i64 (Val.kind a0), .int .i64 (Val.n a0), .int .i64 (Val.step a0), .str (Val.text a0), .sl .ro .val (Val.list a0), .sl .ro .str (Val.columns a0), .sl .ro .row (Val.rows a0)])]
def yAN (r : Bool) : CallO := ⟨.v false [.bool r], [], []⟩
def yFe (N : Nat) (a0 : Val) : Option (Bool) :=
  bif (((Val.kind a0) : Int) == 1) then (
    some true
  ) else (
    bif (((Val.kind a0) : Int) == 2) then (
      some true
    ) else (
      some (((Val.kind a0) : Int) == 3)
    )
  )
def yEH (a0 : Int) (a1 : Int) : List Arg := [.val (.v false [.int .i64 a0]), .val (.v false [.int .i64 a1])]
def yD1 (r : Int) : CallO := ⟨.v false [.int .i64 r], [], []⟩
def yF8 (N : Nat) (a0 : Int) (a1 : Int) : Option (Int) :=
  bif (decide ((a0 : Int) > a1)) then (
    some a0
  ) else (
    some a1
  )
def yCH (a0 : Val) : List Arg := [.val (.v true [.int .i64 (Val.kind a0), .int .i64 (Val.n a0), .int .i64 (Val.step a0), .str (Val.text a0), .sl .ro .val (Val.list a0), .sl .ro .str (Val.columns a0), .sl .ro .row (Val.rows a0)])]
def yBf (r : Int) : CallO := ⟨.v false [.int .i64 r], [], []⟩
def yDd (N : Nat) (q0 : Val → Option (Int)) : Nat → Int → Int → Val → Option (Int)
  | 0, _, _, _ => none
  | n + 1, x3, x4, b1 =>
    bif (decide ((x4 : Int) < (List.length (Val.list b1) : Int))) then (
      if (0 : Int) ≤ x4 ∧ x4 < (List.length (Val.list b1)) then
      Option.bind (q0 (List.getD (Val.list b1) (Int.toNat x4) Ty.val.dflt)) fun r1 =>
      Option.bind (yF8 N x3 r1) fun r2 =>
      (yDd N q0 n r2 (IntKind.i64.wrap (x4 + 1)) b1)
      else none
    ) else (
      some (IntKind.i64.wrap (x3 + 1))
    )
def yEX (N : Nat) (q0 : Val → Option (Int)) (a0 : Val) : Option (Int) :=
  (yDd N q0 N 0 0 a0)
def yCf (N : Nat) : Nat → Val → Option (Int)
  | 0, _ => none
  | d + 1, a0 => yEX N (yCf N d) a0
def yFQ (N : Nat) (a0 : Val) : Option (Int) := yCf N N a0
def yDe (a0 : Str) : List Arg := [.val (.v false [.str a0])]
def yAq (r : Bool) : CallO := ⟨.v false [.bool r], [], []⟩
def yBg (N : Nat) : Nat → Str → Int → Option (Bool)
  | 0, _, _ => none
  | n + 1, x0, x3 =>
    bif (decide ((x3 : Int) < (List.length x0 : Int))) then (
      if (0 : Int) ≤ x3 ∧ x3 < (List.length x0) then
      bif (decide ((((List.getD x0 (Int.toNat x3) 0).toNat : Int) : Int) ≥ 97)) then (
        bif (decide ((((List.getD x0 (Int.toNat x3) 0).toNat : Int) : Int) ≥ 48)) then (
          bif (!(decide ((((List.getD x0 (Int.toNat x3) 0).toNat : Int) : Int) ≤ 122))) then (
            bif ((x3 : Int) == 0) then (
              some false
            ) else (
              bif (!(decide ((((List.getD x0 (Int.toNat x3) 0).toNat : Int) : Int) ≤ 57))) then (
                some false
              ) else (
                (yBg N n x0 (IntKind.i64.wrap (x3 + 1)))
              )
            )
          ) else (
            (yBg N n x0 (IntKind.i64.wrap (x3 + 1)))
          )
        ) else (
          bif (!(decide ((((List.getD x0 (Int.toNat x3) 0).toNat : Int) : Int) ≤ 122))) then (
            bif ((x3 : Int) == 0) then (
              some false
            ) else (
              some false
            )
          ) else (
            (yBg N n x0 (IntKind.i64.wrap (x3 + 1)))
          )
        )
      ) else (
        bif (decide ((((List.getD x0 (Int.toNat x3) 0).toNat : Int) : Int) ≥ 48)) then (
          bif ((x3 : Int) == 0) then (
            some false
          ) else (
            bif (!(decide ((((List.getD x0 (Int.toNat x3) 0).toNat : Int) : Int) ≤ 57))) then (
              some false
            ) else (
              (yBg N n x0 (IntKind.i64.wrap (x3 + 1)))
            )
          )
        ) else (
          bif ((x3 : Int) == 0) then (
            some false
          ) else (
            some false
          )
        )
      )
      else none
    ) else (
      some (decide (((List.length x0 : Int) : Int) > 0))
    )
def yFS (N : Nat) (a0 : Str) : Option (Bool) :=
  (yBg N N a0 0)
def yDI : List Arg := []
def yC1 (r : (List Str)) : CallO := ⟨.v false [.sl .own .str r], [], []⟩
def yEI (N : Nat) : Option ((List Str)) :=
  some [[108, 101, 116], [105, 110], [105, 102], [116, 104, 101, 110], [101, 108, 115, 101], [102, 111, 114], [100, 111], [108, 101, 110], [115, 117, 109], [116, 97, 107, 101], [115, 107, 105, 112], [114, 97, 110, 103, 101], [110, 116, 104], [119, 104, 101, 114, 101], [107, 101, 101, 112], [97, 100, 100], [103, 114, 111, 117, 112], [106, 111, 105, 110], [99, 111, 108, 117, 109, 110], [114, 111, 119, 115], [99, 108, 111, 99, 107], [99, 104, 97, 110, 99, 101], [102, 105, 108, 101], [116, 97, 98, 108, 101]]
def yD0 (a0 : List Str) (a1 : Str) : List Arg := [.val (.v false [.sl .ro .str a0]), .val (.v false [.str a1])]
def yBK (r : Bool) : CallO := ⟨.v false [.bool r], [], []⟩
def yDp (N : Nat) : Nat → (List Str) → Str → Int → Option (Bool)
  | 0, _, _, _ => none
  | n + 1, x0, x1, x5 =>
    bif (decide ((x5 : Int) < (List.length x0 : Int))) then (
      if (0 : Int) ≤ x5 ∧ x5 < (List.length x0) then
      bif (((List.getD x0 (Int.toNat x5) Ty.str.dflt) : Str) == x1) then (
        some true
      ) else (
        (yDp N n x0 x1 (IntKind.i64.wrap (x5 + 1)))
      )
      else none
    ) else (
      some false
    )
def yF7 (N : Nat) (a0 : List Str) (a1 : Str) : Option (Bool) :=
  (yDp N N a0 a1 0)
def yDH (a0 : Str) : List Arg := [.val (.v false [.str a0])]
def yC0 (r : Bool) : CallO := ⟨.v false [.bool r], [], []⟩
def yDO (N : Nat) (a0 : Str) : Option (Bool) :=
  Option.bind (yEI N) fun r1 =>
  Option.bind (yF7 N r1 a0) fun r2 =>
  some r2
def yBu (a0 : Str) : List Arg := [.val (.v false [.str a0])]
def yAV (r : Bool) : CallO := ⟨.v false [.bool r], [], []⟩
def yDw (N : Nat) (a0 : Str) : Option (Bool) :=
  Option.bind (yFS N a0) fun r1 =>
  bif r1 then (
    bif (decide (((List.length a0 : Int) : Int) ≤ 8)) then (
      Option.bind (yDO N a0) fun r2 =>
      some (!r2)
    ) else (
      some false
    )
  ) else (
    some false
  )
def yDn (a0 : List Str) : List Arg := [.val (.v false [.sl .ro .str a0])]
def yBt (r : Bool) : CallO := ⟨.v false [.bool r], [], []⟩
def yBs (N : Nat) : Nat → (List Str) → Int → Option (Bool)
  | 0, _, _ => none
  | n + 1, x0, x3 =>
    bif (decide ((x3 : Int) < (List.length x0 : Int))) then (
      if (0 : Int) ≤ x3 ∧ x3 ≤ (List.length x0) then
      if (0 : Int) ≤ x3 ∧ x3 < (List.length x0) then
      Option.bind (yF7 N (List.take (Int.toNat x3) x0) (List.getD x0 (Int.toNat x3) Ty.str.dflt)) fun r1 =>
      bif r1 then (
        some false
      ) else (
        (yBs N n x0 (IntKind.i64.wrap (x3 + 1)))
      )
      else none
      else none
    ) else (
      some true
    )
def yEn (N : Nat) (a0 : List Str) : Option (Bool) :=
  (yBs N N a0 0)
def yCv (a0 : List Str) : List Arg := [.val (.v false [.sl .ro .str a0])]
def yAH (r : Bool) : CallO := ⟨.v false [.bool r], [], []⟩
def yCw (N : Nat) : Nat → (List Str) → Int → Option (Bool)
  | 0, _, _ => none
  | n + 1, x0, x3 =>
    bif (decide ((x3 : Int) < (List.length x0 : Int))) then (
      if (0 : Int) ≤ x3 ∧ x3 < (List.length x0) then
      Option.bind (yDw N (List.getD x0 (Int.toNat x3) Ty.str.dflt)) fun r1 =>
      bif (!r1) then (
        some false
      ) else (
        (yCw N n x0 (IntKind.i64.wrap (x3 + 1)))
      )
      else none
    ) else (
      Option.bind (yFG N (List.length x0 : Int) 1 4) fun r1 =>
      bif r1 then (
        Option.bind (yEn N x0) fun r2 =>
        some r2
      ) else (
        some false
      )
    )
def yFd (N : Nat) (a0 : List Str) : Option (Bool) :=
  (yCw N N a0 0)
def yCg (a0 : Org) (a1 : Org) : List Arg := [.val (.v true [.int .i64 (Org.cell a0), .int .i64 (Org.row a0)]), .val (.v true [.int .i64 (Org.cell a1), .int .i64 (Org.row a1)])]
def yBn (r : Bool) : CallO := ⟨.v false [.bool r], [], []⟩
def yEJ (N : Nat) (a0 : Org) (a1 : Org) : Option (Bool) :=
  bif (decide (((Org.cell a0) : Int) < (Org.cell a1))) then (
    some true
  ) else (
    bif (((Org.cell a0) : Int) == (Org.cell a1)) then (
      some (decide (((Org.row a0) : Int) < (Org.row a1)))
    ) else (
      some false
    )
  )
def yCI (a0 : List Org) : List Arg := [.val (.v false [.sl .ro .org a0])]
def yAB (r : Bool) : CallO := ⟨.v false [.bool r], [], []⟩
def yA6 (N : Nat) : Nat → (List Org) → Int → Option (Bool)
  | 0, _, _ => none
  | n + 1, x0, x3 =>
    bif (decide ((x3 : Int) < (List.length x0 : Int))) then (
      if (0 : Int) ≤ x3 ∧ x3 < (List.length x0) then
      bif (decide (((Org.cell (List.getD x0 (Int.toNat x3) Ty.org.dflt)) : Int) < 0)) then (
        some false
      ) else (
        bif (decide (((Org.row (List.getD x0 (Int.toNat x3) Ty.org.dflt)) : Int) < 0)) then (
          some false
        ) else (
          bif (decide ((x3 : Int) > 0)) then (
            if (0 : Int) ≤ (IntKind.i64.wrap (x3 - 1)) ∧ (IntKind.i64.wrap (x3 - 1)) < (List.length x0) then
            Option.bind (yEJ N (List.getD x0 (Int.toNat (IntKind.i64.wrap (x3 - 1))) Ty.org.dflt) (List.getD x0 (Int.toNat x3) Ty.org.dflt)) fun r1 =>
            bif (!r1) then (
              some false
            ) else (
              (yA6 N n x0 (IntKind.i64.wrap (x3 + 1)))
            )
            else none
          ) else (
            (yA6 N n x0 (IntKind.i64.wrap (x3 + 1)))
          )
        )
      )
      else none
    ) else (
      some true
    )
def yEp (N : Nat) (a0 : List Org) : Option (Bool) :=
  (yA6 N N a0 0)
def yDf (a0 : Val) : List Arg := [.val (.v true [.int .i64 (Val.kind a0), .int .i64 (Val.n a0), .int .i64 (Val.step a0), .str (Val.text a0), .sl .ro .val (Val.list a0), .sl .ro .str (Val.columns a0), .sl .ro .row (Val.rows a0)])]
def yAO (r : Bool) : CallO := ⟨.v false [.bool r], [], []⟩
def yCh (N : Nat) (k4 : Int → Val → Option (Bool)) : Nat → Int → Int → Val → Rowd → Option (Bool)
  | 0, _, _, _, _ => none
  | n + 1, x3, x5, b1, b4 =>
    bif (decide ((x5 : Int) < (List.length (Rowd.cells b4) : Int))) then (
      if (0 : Int) ≤ x5 ∧ x5 < (List.length (Rowd.cells b4)) then
      Option.bind (yC2 N (List.getD (Rowd.cells b4) (Int.toNat x5) Ty.int.dflt)) fun r1 =>
      bif (!r1) then (
        some false
      ) else (
        (yCh N k4 n x3 (IntKind.i64.wrap (x5 + 1)) b1 b4)
      )
      else none
    ) else (
      (k4 (IntKind.i64.wrap (x3 + 1)) b1)
    )
def yCJ (N : Nat) : Nat → Int → Val → Option (Bool)
  | 0, _, _ => none
  | n + 1, x3, b1 =>
    bif (decide ((x3 : Int) < (List.length (Val.rows b1) : Int))) then (
      if (0 : Int) ≤ x3 ∧ x3 < (List.length (Val.rows b1)) then
      bif (((List.length (Rowd.cells (List.getD (Val.rows b1) (Int.toNat x3) Ty.row.dflt)) : Int) : Int) != (List.length (Val.columns b1) : Int)) then (
        some false
      ) else (
        Option.bind (yEp N (Rowd.frm (List.getD (Val.rows b1) (Int.toNat x3) Ty.row.dflt))) fun r1 =>
        bif (!r1) then (
          some false
        ) else (
          (yCh N (fun z0 z1 => (yCJ N n z0 z1)) N x3 0 b1 (List.getD (Val.rows b1) (Int.toNat x3) Ty.row.dflt))
        )
      )
      else none
    ) else (
      some true
    )
def yFi (N : Nat) (a0 : Val) : Option (Bool) :=
  Option.bind (yFd N (Val.columns a0)) fun r1 =>
  bif (!r1) then (
    some false
  ) else (
    bif (decide (((List.length (Val.rows a0) : Int) : Int) > 12)) then (
      some false
    ) else (
      (yCJ N N 0 a0)
    )
  )
def yAd (a0 : Val) : List Arg := [.val (.v true [.int .i64 (Val.kind a0), .int .i64 (Val.n a0), .int .i64 (Val.step a0), .str (Val.text a0), .sl .ro .val (Val.list a0), .sl .ro .str (Val.columns a0), .sl .ro .row (Val.rows a0)])]
def yAc (r : Bool) : CallO := ⟨.v false [.bool r], [], []⟩
def yBQ (N : Nat) (q0 : Val → Option (Bool)) (q1 : Val → Option (Bool)) (a0 : Val) : Option (Bool) :=
  bif (((Val.kind a0) : Int) != 3) then (
    bif (decide (((List.length (Val.list a0) : Int) : Int) > 0)) then (
      some false
    ) else (
      bif (((Val.kind a0) : Int) != 5) then (
        bif (decide (((IntKind.i64.wrap ((List.length (Val.columns a0) : Int) + (List.length (Val.rows a0) : Int))) : Int) > 0)) then (
          some false
        ) else (
          bif (((Val.kind a0) : Int) != 2) then (
            bif (!(((Val.text a0) : Str) == [])) then (
              some false
            ) else (
              bif (((Val.kind a0) : Int) != 4) then (
                bif (((Val.step a0) : Int) != 0) then (
                  some false
                ) else (
                  bif (((Val.kind a0) : Int) == 1) then (
                    Option.bind (yC2 N (Val.n a0)) fun r1 =>
                    some r1
                  ) else (
                    bif (((Val.kind a0) : Int) == 6) then (
                      Option.bind (yFG N (Val.n a0) 1 8) fun r1 =>
                      some r1
                    ) else (
                      some false
                    )
                  )
                )
              ) else (
                Option.bind (yC2 N (Val.n a0)) fun r1 =>
                bif r1 then (
                  Option.bind (yC2 N (Val.step a0)) fun r2 =>
                  some r2
                ) else (
                  some false
                )
              )
            )
          ) else (
            bif (((Val.step a0) : Int) != 0) then (
              some false
            ) else (
              bif (((Val.n a0) : Int) == 0) then (
                Option.bind (yEo N (Val.text a0)) fun r1 =>
                some r1
              ) else (
                some false
              )
            )
          )
        )
      ) else (
        bif (!(((Val.text a0) : Str) == [])) then (
          some false
        ) else (
          bif (((Val.step a0) : Int) != 0) then (
            some false
          ) else (
            bif (((Val.n a0) : Int) == 0) then (
              Option.bind (yFi N a0) fun r1 =>
              some r1
            ) else (
              some false
            )
          )
        )
      )
    )
  ) else (
    bif (decide (((IntKind.i64.wrap ((List.length (Val.columns a0) : Int) + (List.length (Val.rows a0) : Int))) : Int) > 0)) then (
      some false
    ) else (
      bif (!(((Val.text a0) : Str) == [])) then (
        some false
      ) else (
        bif (((Val.step a0) : Int) != 0) then (
          some false
        ) else (
          bif (((Val.n a0) : Int) == 0) then (
            Option.bind (q1 a0) fun r1 =>
            some r1
          ) else (
            some false
          )
        )
      )
    )
  )
def yEd (a0 : Val) : List Arg := [.val (.v true [.int .i64 (Val.kind a0), .int .i64 (Val.n a0), .int .i64 (Val.step a0), .str (Val.text a0), .sl .ro .val (Val.list a0), .sl .ro .str (Val.columns a0), .sl .ro .row (Val.rows a0)])]
def yBF (r : Bool) : CallO := ⟨.v false [.bool r], [], []⟩
def yCl (N : Nat) (q0 : Val → Option (Bool)) (q1 : Val → Option (Bool)) : Nat → Int → Val → Option (Bool)
  | 0, _, _ => none
  | n + 1, x3, b1 =>
    bif (decide ((x3 : Int) < (List.length (Val.list b1) : Int))) then (
      if (0 : Int) ≤ x3 ∧ x3 < (List.length (Val.list b1)) then
      Option.bind (yFe N (List.getD (Val.list b1) (Int.toNat x3) Ty.val.dflt)) fun r1 =>
      bif (!r1) then (
        some false
      ) else (
        Option.bind (q0 (List.getD (Val.list b1) (Int.toNat x3) Ty.val.dflt)) fun r2 =>
        bif (!r2) then (
          some false
        ) else (
          (yCl N q0 q1 n (IntKind.i64.wrap (x3 + 1)) b1)
        )
      )
      else none
    ) else (
      bif (decide (((List.length (Val.list b1) : Int) : Int) ≤ 8)) then (
        Option.bind (yFQ N b1) fun r1 =>
        some (decide ((r1 : Int) ≤ 3))
      ) else (
        some false
      )
    )
def yFk (N : Nat) (q0 : Val → Option (Bool)) (q1 : Val → Option (Bool)) (a0 : Val) : Option (Bool) :=
  (yCl N q0 q1 N 0 a0)
structure spec_IsValidValue_rec where
  c_spec_IsValidValue : Val → Option (Bool)
  c_spec_l3List : Val → Option (Bool)
def yAh (N : Nat) : Nat → spec_IsValidValue_rec
  | 0 => ⟨fun _ => none, fun _ => none⟩
  | d + 1 => ⟨yBQ N (yAh N d).c_spec_IsValidValue (yAh N d).c_spec_l3List, yFk N (yAh N d).c_spec_IsValidValue (yAh N d).c_spec_l3List⟩
def yEY (N : Nat) (a0 : Val) : Option (Bool) := (yAh N N).c_spec_IsValidValue a0
def yB9 (a0 : Int) : List Arg := [.val (.v false [.int .i64 a0])]
def yA1 (r : Val) : CallO := ⟨.v true [.int .i64 (Val.kind r), .int .i64 (Val.n r), .int .i64 (Val.step r), .str (Val.text r), .sl .own .val (Val.list r), .sl .own .str (Val.columns r), .sl .own .row (Val.rows r)], [], []⟩
def yB2 (N : Nat) (a0 : Int) : Option (Val) :=
  some (Val.mk 6 a0 0 [] [] [] [])
def yDP (a0 : List Val) : List Arg := [.val (.v false [.sl .ro .val a0])]
def yBh (r : Val × Bool) : CallO := ⟨.tup [(true, [.int .i64 (Val.kind r.1), .int .i64 (Val.n r.1), .int .i64 (Val.step r.1), .str (Val.text r.1), .sl .own .val (Val.list r.1), .sl .own .str (Val.columns r.1), .sl .own .row (Val.rows r.1)]), (false, [.bool r.2])], [], []⟩
def yB3 (N : Nat) : Nat → (List Val) → Int → Val → Option (Val × Bool)
  | 0, _, _, _ => none
  | n + 1, x0, x4, b2 =>
    bif (decide ((x4 : Int) < (List.length x0 : Int))) then (
      if (0 : Int) ≤ x4 ∧ x4 < (List.length x0) then
      Option.bind (yEY N (List.getD x0 (Int.toNat x4) Ty.val.dflt)) fun r1 =>
      bif (!r1) then (
        Option.bind (yB2 N 4) fun r2 =>
        some (r2, true)
      ) else (
        bif (((Val.kind (List.getD x0 (Int.toNat x4) Ty.val.dflt)) : Int) == 6) then (
          Option.bind (yB2 N (Val.n (List.getD x0 (Int.toNat x4) Ty.val.dflt))) fun r2 =>
          some (r2, true)
        ) else (
          (yB3 N n x0 (IntKind.i64.wrap (x4 + 1)) b2)
        )
      )
      else none
    ) else (
      some ((Val.mk 0 0 0 [] [] [] []), false)
    )
def yFT (N : Nat) (a0 : List Val) : Option (Val × Bool) :=
  (yB3 N N a0 0 (Val.mk 0 0 0 [] [] [] []))
def yEK (a0 : List Val) (a1 : List Int) : List Arg := [.val (.v false [.sl .ro .val a0]), .val (.v false [.sl .ro .int a1])]
def yDg (r : Val × Bool) : CallO := ⟨.tup [(true, [.int .i64 (Val.kind r.1), .int .i64 (Val.n r.1), .int .i64 (Val.step r.1), .str (Val.text r.1), .sl .own .val (Val.list r.1), .sl .own .str (Val.columns r.1), .sl .own .row (Val.rows r.1)]), (false, [.bool r.2])], [], []⟩
def yB4 (N : Nat) : Nat → (List Val) → (List Int) → Int → Val → Option (Val × Bool)
  | 0, _, _, _, _ => none
  | n + 1, x0, x1, x8, b4 =>
    bif (decide ((x8 : Int) < (List.length x0 : Int))) then (
      if (0 : Int) ≤ x8 ∧ x8 < (List.length x0) then
      if (0 : Int) ≤ x8 ∧ x8 < (List.length x1) then
      bif (((Val.kind (List.getD x0 (Int.toNat x8) Ty.val.dflt)) : Int) != (List.getD x1 (Int.toNat x8) Ty.int.dflt)) then (
        Option.bind (yB2 N 4) fun r1 =>
        some (r1, true)
      ) else (
        (yB4 N n x0 x1 (IntKind.i64.wrap (x8 + 1)) b4)
      )
      else none
      else none
    ) else (
      some ((Val.mk 0 0 0 [] [] [] []), false)
    )
def yFU (N : Nat) (a0 : List Val) (a1 : List Int) : Option (Val × Bool) :=
  Option.bind (yFT N a0) fun r1 =>
  bif r1.2 then (
    some (r1.1, true)
  ) else (
    (yB4 N N a0 a1 0 (Val.mk 0 0 0 [] [] [] []))
  )
def yEZ (a0 : Str) (a1 : Int) : List Arg := [.val (.v false [.str a0]), .val (.v false [.int .u8 a1])]
def yDZ (r : (List Str)) : CallO := ⟨.v false [.sl .own .str r], [], []⟩
def yA9 (N : Nat) : Nat → Str → Int → (List Str) → Int → Int → Option ((List Str))
  | 0, _, _, _, _, _ => none
  | n + 1, x0, x1, x5, x6, x7 =>
    bif (decide ((x7 : Int) ≤ (List.length x0 : Int))) then (
      bif ((x7 : Int) == (List.length x0 : Int)) then (
        if (0 : Int) ≤ x6 ∧ x6 ≤ x7 ∧ x7 ≤ (List.length x0) then
        if List.length x5 + List.length [(List.drop (Int.toNat x6) (List.take (Int.toNat x7) x0))] ≤ Lim then
        (yA9 N n x0 x1 (x5 ++ [(List.drop (Int.toNat x6) (List.take (Int.toNat x7) x0))]) (IntKind.i64.wrap (x7 + 1)) (IntKind.i64.wrap (x7 + 1)))
        else none
        else none
      ) else (
        if (0 : Int) ≤ x7 ∧ x7 < (List.length x0) then
        bif ((((List.getD x0 (Int.toNat x7) 0).toNat : Int) : Int) == x1) then (
          if (0 : Int) ≤ x6 ∧ x6 ≤ x7 ∧ x7 ≤ (List.length x0) then
          if List.length x5 + List.length [(List.drop (Int.toNat x6) (List.take (Int.toNat x7) x0))] ≤ Lim then
          (yA9 N n x0 x1 (x5 ++ [(List.drop (Int.toNat x6) (List.take (Int.toNat x7) x0))]) (IntKind.i64.wrap (x7 + 1)) (IntKind.i64.wrap (x7 + 1)))
          else none
          else none
        ) else (
          (yA9 N n x0 x1 x5 x6 (IntKind.i64.wrap (x7 + 1)))
        )
        else none
      )
    ) else (
      some x5
    )
def yFc (N : Nat) (a0 : Str) (a1 : Int) : Option ((List Str)) :=
  (yA9 N N a0 a1 [] 0 0)
def yB1 (a0 : Int) (a1 : Int) (a2 : Int) : List Arg := [.val (.v false [.int .i64 a0]), .val (.v false [.int .i64 a1]), .val (.v false [.int .i64 a2])]
def yAQ (r : Bool) : CallO := ⟨.v false [.bool r], [], []⟩
def yDM (N : Nat) (a0 : Int) (a1 : Int) (a2 : Int) : Option (Bool) :=
  bif (decide ((a1 : Int) ≤ a0)) then (
    some (decide ((a0 : Int) ≤ a2))
  ) else (
    some false
  )
def yBi (a0 : Int) : List Arg := [.val (.v false [.int .i64 a0])]
def yAt (r : Bool) : CallO := ⟨.v false [.bool r], [], []⟩
def yCW (N : Nat) (a0 : Int) : Option (Bool) :=
  Option.bind (yDM N a0 (-1000000000) 1000000000) fun r1 =>
  some r1
def yDj (a0 : Str) : List Arg := [.val (.v false [.str a0])]
def yAT (r : Bool) : CallO := ⟨.v false [.bool r], [], []⟩
def yCz (N : Nat) : Nat → Str → Int → Option (Bool)
  | 0, _, _ => none
  | n + 1, x0, x3 =>
    bif (decide ((x3 : Int) < (List.length x0 : Int))) then (
      if (0 : Int) ≤ x3 ∧ x3 < (List.length x0) then
      bif (decide ((((List.getD x0 (Int.toNat x3) 0).toNat : Int) : Int) < 32)) then (
        some false
      ) else (
        bif (decide ((((List.getD x0 (Int.toNat x3) 0).toNat : Int) : Int) > 126)) then (
          some false
        ) else (
          bif ((((List.getD x0 (Int.toNat x3) 0).toNat : Int) : Int) == 34) then (
            some false
          ) else (
            (yCz N n x0 (IntKind.i64.wrap (x3 + 1)))
          )
        )
      )
      else none
    ) else (
      some (decide (((List.length x0 : Int) : Int) ≤ 20))
    )
def yEf (N : Nat) (a0 : Str) : Option (Bool) :=
  (yCz N N a0 0)
def yD7 (a0 : Str) : List Arg := [.val (.v false [.str a0])]
def yAP (r : Bool) : CallO := ⟨.v false [.bool r], [], []⟩
def yB0 (N : Nat) : Nat → Str → Int → Option (Bool)
  | 0, _, _ => none
  | n + 1, x0, x3 =>
    bif (decide ((x3 : Int) < (List.length x0 : Int))) then (
      if (0 : Int) ≤ x3 ∧ x3 < (List.length x0) then
      bif (decide ((((List.getD x0 (Int.toNat x3) 0).toNat : Int) : Int) ≥ 97)) then (
        bif (!(decide ((((List.getD x0 (Int.toNat x3) 0).toNat : Int) : Int) ≤ 122))) then (
          bif ((x3 : Int) == 0) then (
            some false
          ) else (
            bif (decide ((((List.getD x0 (Int.toNat x3) 0).toNat : Int) : Int) < 48)) then (
              some false
            ) else (
              bif (decide ((((List.getD x0 (Int.toNat x3) 0).toNat : Int) : Int) > 57)) then (
                some false
              ) else (
                (yB0 N n x0 (IntKind.i64.wrap (x3 + 1)))
              )
            )
          )
        ) else (
          (yB0 N n x0 (IntKind.i64.wrap (x3 + 1)))
        )
      ) else (
        bif ((x3 : Int) == 0) then (
          some false
        ) else (
          bif (decide ((((List.getD x0 (Int.toNat x3) 0).toNat : Int) : Int) < 48)) then (
            some false
          ) else (
            bif (decide ((((List.getD x0 (Int.toNat x3) 0).toNat : Int) : Int) > 57)) then (
              some false
            ) else (
              (yB0 N n x0 (IntKind.i64.wrap (x3 + 1)))
            )
          )
        )
      )
      else none
    ) else (
      Option.bind (yDM N (List.length x0 : Int) 1 8) fun r1 =>
      some r1
    )
def yGc (N : Nat) (a0 : Str) : Option (Bool) :=
  (yB0 N N a0 0)
def yAg (a0 : Str) : List Arg := [.val (.v false [.str a0])]
def yAf (r : Int) : CallO := ⟨.v false [.int .i64 r], [], []⟩
def yDD (N : Nat) (a0 : Str) : Option (Int) :=
  bif ((a0 : Str) == [99, 108, 111, 99, 107]) then (
    some 0
  ) else (
    bif ((a0 : Str) == [108, 101, 110]) then (
      some 1
    ) else (
      bif ((a0 : Str) == [115, 117, 109]) then (
        some 1
      ) else (
        bif ((a0 : Str) == [114, 111, 119, 115]) then (
          some 1
        ) else (
          bif ((a0 : Str) == [99, 104, 97, 110, 99, 101]) then (
            some 1
          ) else (
            bif ((a0 : Str) == [102, 105, 108, 101]) then (
              some 1
            ) else (
              bif ((a0 : Str) == [116, 97, 107, 101]) then (
                some 2
              ) else (
                bif ((a0 : Str) == [115, 107, 105, 112]) then (
                  some 2
                ) else (
                  bif ((a0 : Str) == [114, 97, 110, 103, 101]) then (
                    some 2
                  ) else (
                    bif ((a0 : Str) == [110, 116, 104]) then (
                      some 2
                    ) else (
                      bif ((a0 : Str) == [107, 101, 101, 112]) then (
                        some 2
                      ) else (
                        bif ((a0 : Str) == [99, 111, 108, 117, 109, 110]) then (
                          some 2
                        ) else (
                          bif ((a0 : Str) == [116, 97, 98, 108, 101]) then (
                            some 2
                          ) else (
                            bif ((a0 : Str) == [119, 104, 101, 114, 101]) then (
                              some 3
                            ) else (
                              bif ((a0 : Str) == [103, 114, 111, 117, 112]) then (
                                some 3
                              ) else (
                                bif ((a0 : Str) == [106, 111, 105, 110]) then (
                                  some 3
                                ) else (
                                  bif ((a0 : Str) == [97, 100, 100]) then (
                                    some 4
                                  ) else (
                                    some (-1)
                                  )
                                )
                              )
                            )
                          )
                        )
                      )
                    )
                  )
                )
              )
            )
          )
        )
      )
    )
  )
def yAI (a0 : Str) : List Arg := [.val (.v false [.str a0])]
def yAy (r : Bool) : CallO := ⟨.v false [.bool r], [], []⟩
def yDL (N : Nat) (a0 : Str) : Option (Bool) :=
  bif ((a0 : Str) == [108, 101, 116]) then (
    some true
  ) else (
    bif ((a0 : Str) == [105, 110]) then (
      some true
    ) else (
      bif ((a0 : Str) == [105, 102]) then (
        some true
      ) else (
        bif ((a0 : Str) == [116, 104, 101, 110]) then (
          some true
        ) else (
          bif ((a0 : Str) == [101, 108, 115, 101]) then (
            some true
          ) else (
            bif ((a0 : Str) == [102, 111, 114]) then (
              some true
            ) else (
              bif ((a0 : Str) == [100, 111]) then (
                some true
              ) else (
                Option.bind (yDD N a0) fun r1 =>
                some (decide ((r1 : Int) ≥ 0))
              )
            )
          )
        )
      )
    )
  )
def yBR (a0 : Str) : List Arg := [.val (.v false [.str a0])]
def yA2 (r : Bool) : CallO := ⟨.v false [.bool r], [], []⟩
def yDq (N : Nat) (a0 : Str) : Option (Bool) :=
  Option.bind (yGc N a0) fun r1 =>
  bif r1 then (
    Option.bind (yDL N a0) fun r2 =>
    some (!r2)
  ) else (
    some false
  )
def yDK (a0 : List Str) (a1 : Str) : List Arg := [.val (.v false [.sl .ro .str a0]), .val (.v false [.str a1])]
def yBH (r : Int) : CallO := ⟨.v false [.int .i64 r], [], []⟩
def yCy (N : Nat) : Nat → Str → (List Str) → Int → Int → Option (Int)
  | 0, _, _, _, _ => none
  | n + 1, x1, x7, x8, x9 =>
    bif (decide ((x9 : Int) < x8)) then (
      if (0 : Int) ≤ x9 ∧ x9 < (List.length x7) then
      bif (((List.getD x7 (Int.toNat x9) Ty.str.dflt) : Str) == x1) then (
        some x9
      ) else (
        (yCy N n x1 x7 x8 (IntKind.i64.wrap (x9 + 1)))
      )
      else none
    ) else (
      some (-1)
    )
def yFM (N : Nat) (a0 : List Str) (a1 : Str) : Option (Int) :=
  (yCy N N a1 a0 (List.length a0 : Int) 0)
def yDi (a0 : List Str) : List Arg := [.val (.v false [.sl .ro .str a0])]
def yBq (r : Bool) : CallO := ⟨.v false [.bool r], [], []⟩
def yBp (N : Nat) : Nat → (List Str) → (List Str) → Int → Int → Option (Bool)
  | 0, _, _, _, _ => none
  | n + 1, x0, x5, x6, x7 =>
    bif (decide ((x7 : Int) < x6)) then (
      if (0 : Int) ≤ x7 ∧ x7 < (List.length x5) then
      Option.bind (yFM N x0 (List.getD x5 (Int.toNat x7) Ty.str.dflt)) fun r1 =>
      bif ((r1 : Int) != x7) then (
        some false
      ) else (
        (yBp N n x0 x5 x6 (IntKind.i64.wrap (x7 + 1)))
      )
      else none
    ) else (
      some true
    )
def yEe (N : Nat) (a0 : List Str) : Option (Bool) :=
  (yBp N N a0 a0 (List.length a0 : Int) 0)
def yB5 (a0 : List Str) : List Arg := [.val (.v false [.sl .ro .str a0])]
def yAz (r : Bool) : CallO := ⟨.v false [.bool r], [], []⟩
def yB6 (N : Nat) : Nat → (List Str) → (List Str) → Int → Int → Option (Bool)
  | 0, _, _, _, _ => none
  | n + 1, x0, x5, x6, x7 =>
    bif (decide ((x7 : Int) < x6)) then (
      if (0 : Int) ≤ x7 ∧ x7 < (List.length x5) then
      Option.bind (yDq N (List.getD x5 (Int.toNat x7) Ty.str.dflt)) fun r1 =>
      bif (!r1) then (
        some false
      ) else (
        (yB6 N n x0 x5 x6 (IntKind.i64.wrap (x7 + 1)))
      )
      else none
    ) else (
      Option.bind (yDM N (List.length x0 : Int) 1 4) fun r1 =>
      bif r1 then (
        Option.bind (yEe N x0) fun r2 =>
        some r2
      ) else (
        some false
      )
    )
def yEw (N : Nat) (a0 : List Str) : Option (Bool) :=
  (yB6 N N a0 a0 (List.length a0 : Int) 0)
def yBb (a0 : Org) (a1 : Org) : List Arg := [.val (.v true [.int .i64 (Org.cell a0), .int .i64 (Org.row a0)]), .val (.v true [.int .i64 (Org.cell a1), .int .i64 (Org.row a1)])]
def yAL (r : Bool) : CallO := ⟨.v false [.bool r], [], []⟩
def yDR (N : Nat) (a0 : Org) (a1 : Org) : Option (Bool) :=
  bif (decide (((Org.cell a0) : Int) < (Org.cell a1))) then (
    some true
  ) else (
    bif (((Org.cell a0) : Int) == (Org.cell a1)) then (
      some (decide (((Org.row a0) : Int) < (Org.row a1)))
    ) else (
      some false
    )
  )
def yCA (a0 : Val) : List Arg := [.val (.v true [.int .i64 (Val.kind a0), .int .i64 (Val.n a0), .int .i64 (Val.step a0), .str (Val.text a0), .sl .ro .val (Val.list a0), .sl .ro .str (Val.columns a0), .sl .ro .row (Val.rows a0)])]
def yAl (r : Bool) : CallO := ⟨.v false [.bool r], [], []⟩
def yBM (N : Nat) (k4 : (List Rowd) → Int → Int → Val → Option (Bool)) : Nat → (List Rowd) → Int → Int → (List Org) → Int → Int → Val → Rowd → Option (Bool)
  | 0, _, _, _, _, _, _, _, _ => none
  | n + 1, x20, x21, x22, x45, x46, x47, b1, b4 =>
    bif (decide ((x47 : Int) < x46)) then (
      if (0 : Int) ≤ x47 ∧ x47 < (List.length x45) then
      bif (decide (((Org.cell (List.getD x45 (Int.toNat x47) Ty.org.dflt)) : Int) < 0)) then (
        some false
      ) else (
        bif (decide (((Org.row (List.getD x45 (Int.toNat x47) Ty.org.dflt)) : Int) < 0)) then (
          some false
        ) else (
          bif (decide ((x47 : Int) > 0)) then (
            if (0 : Int) ≤ (IntKind.i64.wrap (x47 - 1)) ∧ (IntKind.i64.wrap (x47 - 1)) < (List.length (Rowd.frm b4)) then
            Option.bind (yDR N (List.getD (Rowd.frm b4) (Int.toNat (IntKind.i64.wrap (x47 - 1))) Ty.org.dflt) (List.getD x45 (Int.toNat x47) Ty.org.dflt)) fun r1 =>
            bif (!r1) then (
              some false
            ) else (
              (yBM N k4 n x20 x21 x22 x45 x46 (IntKind.i64.wrap (x47 + 1)) b1 b4)
            )
            else none
          ) else (
            (yBM N k4 n x20 x21 x22 x45 x46 (IntKind.i64.wrap (x47 + 1)) b1 b4)
          )
        )
      )
      else none
    ) else (
      (k4 x20 x21 (IntKind.i64.wrap (x22 + 1)) b1)
    )
def yCC (N : Nat) (k4 : (List Rowd) → Int → Int → Val → Option (Bool)) : Nat → (List Rowd) → Int → Int → (List Int) → Int → Int → Val → Rowd → Option (Bool)
  | 0, _, _, _, _, _, _, _, _ => none
  | n + 1, x20, x21, x22, x34, x35, x36, b1, b4 =>
    bif (decide ((x36 : Int) < x35)) then (
      if (0 : Int) ≤ x36 ∧ x36 < (List.length x34) then
      Option.bind (yCW N (List.getD x34 (Int.toNat x36) Ty.int.dflt)) fun r1 =>
      bif (!r1) then (
        some false
      ) else (
        (yCC N k4 n x20 x21 x22 x34 x35 (IntKind.i64.wrap (x36 + 1)) b1 b4)
      )
      else none
    ) else (
      (yBM N k4 N x20 x21 x22 (Rowd.frm b4) (List.length (Rowd.frm b4) : Int) 0 b1 b4)
    )
def yCB (N : Nat) : Nat → (List Rowd) → Int → Int → Val → Option (Bool)
  | 0, _, _, _, _ => none
  | n + 1, x20, x21, x22, b1 =>
    bif (decide ((x22 : Int) < x21)) then (
      if (0 : Int) ≤ x22 ∧ x22 < (List.length x20) then
      bif (((List.length (Rowd.cells (List.getD x20 (Int.toNat x22) Ty.row.dflt)) : Int) : Int) != (List.length (Val.columns b1) : Int)) then (
        some false
      ) else (
        (yCC N (fun z0 z1 z2 z3 => (yCB N n z0 z1 z2 z3)) N x20 x21 x22 (Rowd.cells (List.getD x20 (Int.toNat x22) Ty.row.dflt)) (List.length (Rowd.cells (List.getD x20 (Int.toNat x22) Ty.row.dflt)) : Int) 0 b1 (List.getD x20 (Int.toNat x22) Ty.row.dflt))
      )
      else none
    ) else (
      some true
    )
def yEt (N : Nat) (a0 : Val) : Option (Bool) :=
  Option.bind (yEw N (Val.columns a0)) fun r1 =>
  bif (!r1) then (
    some false
  ) else (
    bif (decide (((List.length (Val.rows a0) : Int) : Int) > 12)) then (
      some false
    ) else (
      (yCB N N (Val.rows a0) (List.length (Val.rows a0) : Int) 0 a0)
    )
  )
def yCx (a0 : Val) : List Arg := [.val (.v true [.int .i64 (Val.kind a0), .int .i64 (Val.n a0), .int .i64 (Val.step a0), .str (Val.text a0), .sl .ro .val (Val.list a0), .sl .ro .str (Val.columns a0), .sl .ro .row (Val.rows a0)])]
def yBe (r : Int) : CallO := ⟨.v false [.int .i64 r], [], []⟩
def yC8 (N : Nat) (q0 : Val → Option (Int)) : Nat → Int → (List Val) → Int → Int → Option (Int)
  | 0, _, _, _, _ => none
  | n + 1, x3, x7, x8, x9 =>
    bif (decide ((x9 : Int) < x8)) then (
      if (0 : Int) ≤ x9 ∧ x9 < (List.length x7) then
      Option.bind (q0 (List.getD x7 (Int.toNat x9) Ty.val.dflt)) fun r1 =>
      (yC8 N q0 n (if (r1 : Int) > x3 then r1 else x3) x7 x8 (IntKind.i64.wrap (x9 + 1)))
      else none
    ) else (
      some (IntKind.i64.wrap (x3 + 1))
    )
def yEO (N : Nat) (q0 : Val → Option (Int)) (a0 : Val) : Option (Int) :=
  (yC8 N q0 N 0 (Val.list a0) (List.length (Val.list a0) : Int) 0)
def yCa (N : Nat) : Nat → Val → Option (Int)
  | 0, _ => none
  | d + 1, a0 => yEO N (yCa N d) a0
def yFf (N : Nat) (a0 : Val) : Option (Int) := yCa N N a0
def yAb (a0 : Val) : List Arg := [.val (.v true [.int .i64 (Val.kind a0), .int .i64 (Val.n a0), .int .i64 (Val.step a0), .str (Val.text a0), .sl .ro .val (Val.list a0), .sl .ro .str (Val.columns a0), .sl .ro .row (Val.rows a0)])]
def yAa (r : Bool) : CallO := ⟨.v false [.bool r], [], []⟩
def yAm (N : Nat) (q0 : Val → Option (Bool)) : Nat → (List Val) → Int → Int → Val → Option (Bool)
  | 0, _, _, _, _ => none
  | n + 1, x124, x125, x126, b1 =>
    bif (decide ((x126 : Int) < x125)) then (
      if (0 : Int) ≤ x126 ∧ x126 < (List.length x124) then
      bif (((Val.kind (List.getD x124 (Int.toNat x126) Ty.val.dflt)) : Int) != 1) then (
        bif (((Val.kind (List.getD x124 (Int.toNat x126) Ty.val.dflt)) : Int) != 2) then (
          bif (((Val.kind (List.getD x124 (Int.toNat x126) Ty.val.dflt)) : Int) != 3) then (
            some false
          ) else (
            Option.bind (q0 (List.getD x124 (Int.toNat x126) Ty.val.dflt)) fun r1 =>
            bif (!r1) then (
              some false
            ) else (
              (yAm N q0 n x124 x125 (IntKind.i64.wrap (x126 + 1)) b1)
            )
          )
        ) else (
          Option.bind (q0 (List.getD x124 (Int.toNat x126) Ty.val.dflt)) fun r1 =>
          bif (!r1) then (
            some false
          ) else (
            (yAm N q0 n x124 x125 (IntKind.i64.wrap (x126 + 1)) b1)
          )
        )
      ) else (
        Option.bind (q0 (List.getD x124 (Int.toNat x126) Ty.val.dflt)) fun r1 =>
        bif (!r1) then (
          some false
        ) else (
          (yAm N q0 n x124 x125 (IntKind.i64.wrap (x126 + 1)) b1)
        )
      )
      else none
    ) else (
      bif (((Val.n b1) : Int) == 0) then (
        bif (((Val.step b1) : Int) == 0) then (
          bif (((Val.text b1) : Str) == []) then (
            bif (((List.length (Val.columns b1) : Int) : Int) == 0) then (
              bif (((List.length (Val.rows b1) : Int) : Int) == 0) then (
                bif (decide (((List.length (Val.list b1) : Int) : Int) ≤ 8)) then (
                  Option.bind (yFf N b1) fun r1 =>
                  some (decide ((r1 : Int) ≤ 3))
                ) else (
                  some false
                )
              ) else (
                some false
              )
            ) else (
              some false
            )
          ) else (
            some false
          )
        ) else (
          some false
        )
      ) else (
        some false
      )
    )
def yBP (N : Nat) (q0 : Val → Option (Bool)) (a0 : Val) : Option (Bool) :=
  bif (((List.length (Val.list a0) : Int) : Int) == 0) then (
    bif (((List.length (Val.columns a0) : Int) : Int) == 0) then (
      bif (((Val.kind a0) : Int) == 1) then (
        bif (((List.length (Val.rows a0) : Int) : Int) == 0) then (
          bif (((Val.step a0) : Int) == 0) then (
            bif (((Val.text a0) : Str) == []) then (
              Option.bind (yCW N (Val.n a0)) fun r1 =>
              some r1
            ) else (
              some false
            )
          ) else (
            some false
          )
        ) else (
          some false
        )
      ) else (
        bif (((Val.kind a0) : Int) == 2) then (
          bif (((List.length (Val.rows a0) : Int) : Int) == 0) then (
            bif (((Val.n a0) : Int) == 0) then (
              bif (((Val.step a0) : Int) == 0) then (
                Option.bind (yEf N (Val.text a0)) fun r1 =>
                some r1
              ) else (
                some false
              )
            ) else (
              some false
            )
          ) else (
            some false
          )
        ) else (
          bif (((Val.kind a0) : Int) == 4) then (
            bif (((List.length (Val.rows a0) : Int) : Int) == 0) then (
              bif (((Val.text a0) : Str) == []) then (
                Option.bind (yCW N (Val.n a0)) fun r1 =>
                bif r1 then (
                  Option.bind (yCW N (Val.step a0)) fun r2 =>
                  some r2
                ) else (
                  some false
                )
              ) else (
                some false
              )
            ) else (
              some false
            )
          ) else (
            bif (((Val.kind a0) : Int) == 6) then (
              bif (((List.length (Val.rows a0) : Int) : Int) == 0) then (
                bif (((Val.step a0) : Int) == 0) then (
                  bif (((Val.text a0) : Str) == []) then (
                    Option.bind (yDM N (Val.n a0) 1 8) fun r1 =>
                    some r1
                  ) else (
                    some false
                  )
                ) else (
                  some false
                )
              ) else (
                some false
              )
            ) else (
              bif (((Val.kind a0) : Int) == 5) then (
                bif (((Val.n a0) : Int) == 0) then (
                  bif (((Val.step a0) : Int) == 0) then (
                    bif (((Val.text a0) : Str) == []) then (
                      Option.bind (yEt N a0) fun r1 =>
                      some r1
                    ) else (
                      some false
                    )
                  ) else (
                    some false
                  )
                ) else (
                  some false
                )
              ) else (
                bif (((Val.kind a0) : Int) == 3) then (
                  (yAm N q0 N (Val.list a0) (List.length (Val.list a0) : Int) 0 a0)
                ) else (
                  some false
                )
              )
            )
          )
        )
      )
    ) else (
      bif (((Val.kind a0) : Int) == 1) then (
        some false
      ) else (
        bif (((Val.kind a0) : Int) == 2) then (
          some false
        ) else (
          bif (((Val.kind a0) : Int) == 4) then (
            some false
          ) else (
            bif (((Val.kind a0) : Int) == 6) then (
              some false
            ) else (
              bif (((Val.kind a0) : Int) == 5) then (
                bif (((Val.n a0) : Int) == 0) then (
                  bif (((Val.step a0) : Int) == 0) then (
                    bif (((Val.text a0) : Str) == []) then (
                      Option.bind (yEt N a0) fun r1 =>
                      some r1
                    ) else (
                      some false
                    )
                  ) else (
                    some false
                  )
                ) else (
                  some false
                )
              ) else (
                bif (((Val.kind a0) : Int) == 3) then (
                  (yAm N q0 N (Val.list a0) (List.length (Val.list a0) : Int) 0 a0)
                ) else (
                  some false
                )
              )
            )
          )
        )
      )
    )
  ) else (
    bif (((Val.kind a0) : Int) == 1) then (
      some false
    ) else (
      bif (((Val.kind a0) : Int) == 2) then (
        some false
      ) else (
        bif (((Val.kind a0) : Int) == 4) then (
          some false
        ) else (
          bif (((Val.kind a0) : Int) == 6) then (
            some false
          ) else (
            bif (((Val.kind a0) : Int) == 5) then (
              bif (((Val.n a0) : Int) == 0) then (
                bif (((Val.step a0) : Int) == 0) then (
                  bif (((Val.text a0) : Str) == []) then (
                    some false
                  ) else (
                    some false
                  )
                ) else (
                  some false
                )
              ) else (
                some false
              )
            ) else (
              bif (((Val.kind a0) : Int) == 3) then (
                (yAm N q0 N (Val.list a0) (List.length (Val.list a0) : Int) 0 a0)
              ) else (
                some false
              )
            )
          )
        )
      )
    )
  )
def yAn (N : Nat) : Nat → Val → Option (Bool)
  | 0, _ => none
  | d + 1, a0 => yBP N (yAn N d) a0
def yEP (N : Nat) (a0 : Val) : Option (Bool) := yAn N N a0
def yCV (a0 : Int) : List Arg := [.val (.v false [.int .i64 a0])]
def yBG (r : Val) : CallO := ⟨.v true [.int .i64 (Val.kind r), .int .i64 (Val.n r), .int .i64 (Val.step r), .str (Val.text r), .sl .own .val (Val.list r), .sl .own .str (Val.columns r), .sl .own .row (Val.rows r)], [], []⟩
def yC9 (N : Nat) (a0 : Int) : Option (Val) :=
  some (Val.mk 6 a0 0 [] [] [] [])
def yBa (a0 : List Val) : List Arg := [.val (.v false [.sl .ro .val a0])]
def yBw (r : Val × Bool × Bool) : CallO := ⟨.tup [(true, [.int .i64 (Val.kind r.1), .int .i64 (Val.n r.1), .int .i64 (Val.step r.1), .str (Val.text r.1), .sl .ro .val (Val.list r.1), .sl .ro .str (Val.columns r.1), .sl .ro .row (Val.rows r.1)]), (false, [.bool r.2.1])], [], []⟩
def yBv (r : Val × Bool × Bool) : CallO := ⟨.tup [(true, [.int .i64 (Val.kind r.1), .int .i64 (Val.n r.1), .int .i64 (Val.step r.1), .str (Val.text r.1), .sl .own .val (Val.list r.1), .sl .own .str (Val.columns r.1), .sl .own .row (Val.rows r.1)]), (false, [.bool r.2.1])], [], []⟩
def yAC (r : Val × Bool × Bool) : CallO := bif r.2.2 then yBw r else yBv r
def yA0 (N : Nat) : Nat → (List Val) → Int → Int → Val → Option (Val × Bool × Bool)
  | 0, _, _, _, _ => none
  | n + 1, x6, x7, x8, b2 =>
    bif (decide ((x8 : Int) < x7)) then (
      if (0 : Int) ≤ x8 ∧ x8 < (List.length x6) then
      Option.bind (yEP N (List.getD x6 (Int.toNat x8) Ty.val.dflt)) fun r1 =>
      bif (!r1) then (
        Option.bind (yC9 N 4) fun r2 =>
        some (r2, true, false)
      ) else (
        bif (((Val.kind (List.getD x6 (Int.toNat x8) Ty.val.dflt)) : Int) == 6) then (
          some ((List.getD x6 (Int.toNat x8) Ty.val.dflt), true, true)
        ) else (
          (yA0 N n x6 x7 (IntKind.i64.wrap (x8 + 1)) b2)
        )
      )
      else none
    ) else (
      some ((Val.mk 0 0 0 [] [] [] []), false, false)
    )
def yDQ (N : Nat) (a0 : List Val) : Option (Val × Bool × Bool) :=
  (yA0 N N a0 (List.length a0 : Int) 0 (Val.mk 0 0 0 [] [] [] []))
def yCm (a0 : List Int) (a1 : List Val) : List Arg := [.val (.v false [.sl .ro .int a0]), .val (.v false [.sl .ro .val a1])]
def yEy (r : Val × Bool × Bool) : CallO := ⟨.tup [(true, [.int .i64 (Val.kind r.1), .int .i64 (Val.n r.1), .int .i64 (Val.step r.1), .str (Val.text r.1), .sl .ro .val (Val.list r.1), .sl .ro .str (Val.columns r.1), .sl .ro .row (Val.rows r.1)]), (false, [.bool r.2.1])], [], []⟩
def yFN (r : Val × Bool × Bool) : CallO := ⟨.tup [(true, [.int .i64 (Val.kind r.1), .int .i64 (Val.n r.1), .int .i64 (Val.step r.1), .str (Val.text r.1), .sl .own .val (Val.list r.1), .sl .own .str (Val.columns r.1), .sl .own .row (Val.rows r.1)]), (false, [.bool r.2.1])], [], []⟩
def impl_kindError_roE (r : Val × Bool × Bool) : CallO := ⟨.tup [(true, [.int .i64 (Val.kind r.1), .int .i64 (Val.n r.1), .int .i64 (Val.step r.1), .str (Val.text r.1), .sl .ro .val [], .sl .ro .str [], .sl .ro .row []]), (false, [.bool r.2.1])], [], []⟩
def yAD (r : Val × Bool × Bool) : CallO := bif r.2.2 then yEy r else yFN r
def yA8 (N : Nat) : Nat → (List Int) → (List Val) → Int → Int → Val → Option (Val × Bool × Bool)
  | 0, _, _, _, _, _ => none
  | n + 1, x0, x17, x18, x19, b4 =>
    bif (decide ((x19 : Int) < x18)) then (
      if (0 : Int) ≤ x19 ∧ x19 < (List.length x17) then
      if (0 : Int) ≤ x19 ∧ x19 < (List.length x0) then
      bif (((Val.kind (List.getD x17 (Int.toNat x19) Ty.val.dflt)) : Int) != (List.getD x0 (Int.toNat x19) Ty.int.dflt)) then (
        Option.bind (yC9 N 4) fun r1 =>
        some (r1, true, false)
      ) else (
        (yA8 N n x0 x17 x18 (IntKind.i64.wrap (x19 + 1)) b4)
      )
      else none
      else none
    ) else (
      some ((Val.mk 0 0 0 [] [] [] []), false, false)
    )
def yE3 (N : Nat) (a0 : List Int) (a1 : List Val) : Option (Val × Bool × Bool) :=
  Option.bind (yDQ N a1) fun r1 =>
  bif r1.2.2 then (
    bif r1.2.1 then (
      some (r1.1, true, true)
    ) else (
      (yA8 N N a0 a1 (List.length a1 : Int) 0 (Val.mk 0 0 0 [] [] [] []))
    )
  ) else (
    bif r1.2.1 then (
      some (r1.1, true, false)
    ) else (
      (yA8 N N a0 a1 (List.length a1 : Int) 0 (Val.mk 0 0 0 [] [] [] []))
    )
  )
def yGr (a0 : Str) (a1 : Str) : List Arg := [.val (.v false [.str a0]), .val (.v false [.str a1])]
def yFl (r : (List Str)) : CallO := ⟨.v false [.sl .own .str r], [], []⟩
def yFr (N : Nat) (a0 : Str) (a1 : Str) : Option (List Str) := splitP a0 a1
def yEQ (a0 : Str) (a1 : Int) : List Arg := [.val (.v false [.str a0]), .val (.v false [.int .u8 a1])]
def yER (r : (List Str)) : CallO := ⟨.v false [.sl .own .str r], [], []⟩
def yE2 (N : Nat) (a0 : Str) (a1 : Int) : Option ((List Str)) :=
  Option.bind (yFr N a0 (List.map (fun n => UInt8.ofNat (Int.toNat n)) [a1])) fun r1 =>
  some r1
def yBS (a0 : List Str) (a1 : List Str) : List Arg := [.val (.v false [.sl .ro .str a0]), .val (.v false [.sl .ro .str a1])]
def yAE (r : Bool) : CallO := ⟨.v false [.bool r], [], []⟩
def yCp (N : Nat) : Nat → (List Str) → (List Str) → Int → Option (Bool)
  | 0, _, _, _ => none
  | n + 1, x0, x1, x5 =>
    bif (decide ((x5 : Int) < (List.length x0 : Int))) then (
      if (0 : Int) ≤ x5 ∧ x5 < (List.length x0) then
      if (0 : Int) ≤ x5 ∧ x5 < (List.length x1) then
      bif (!(((List.getD x0 (Int.toNat x5) Ty.str.dflt) : Str) == (List.getD x1 (Int.toNat x5) Ty.str.dflt))) then (
        some false
      ) else (
        (yCp N n x0 x1 (IntKind.i64.wrap (x5 + 1)))
      )
      else none
      else none
    ) else (
      some true
    )
def yEa (N : Nat) (a0 : List Str) (a1 : List Str) : Option (Bool) :=
  bif (((List.length a0 : Int) : Int) != (List.length a1 : Int)) then (
    some false
  ) else (
    (yCp N N a0 a1 0)
  )
def yC3 (a0 : List Int) (a1 : List Int) : List Arg := [.val (.v false [.sl .ro .int a0]), .val (.v false [.sl .ro .int a1])]
def yA7 (r : Bool) : CallO := ⟨.v false [.bool r], [], []⟩
def yDx (N : Nat) : Nat → (List Int) → (List Int) → Int → Option (Bool)
  | 0, _, _, _ => none
  | n + 1, x0, x1, x5 =>
    bif (decide ((x5 : Int) < (List.length x0 : Int))) then (
      if (0 : Int) ≤ x5 ∧ x5 < (List.length x0) then
      if (0 : Int) ≤ x5 ∧ x5 < (List.length x1) then
      bif (((List.getD x0 (Int.toNat x5) Ty.int.dflt) : Int) != (List.getD x1 (Int.toNat x5) Ty.int.dflt)) then (
        some false
      ) else (
        (yDx N n x0 x1 (IntKind.i64.wrap (x5 + 1)))
      )
      else none
      else none
    ) else (
      some true
    )
def yFw (N : Nat) (a0 : List Int) (a1 : List Int) : Option (Bool) :=
  bif (((List.length a0 : Int) : Int) != (List.length a1 : Int)) then (
    some false
  ) else (
    (yDx N N a0 a1 0)
  )
def yCb (a0 : Org) (a1 : Org) : List Arg := [.val (.v true [.int .i64 (Org.cell a0), .int .i64 (Org.row a0)]), .val (.v true [.int .i64 (Org.cell a1), .int .i64 (Org.row a1)])]
def yBj (r : Bool) : CallO := ⟨.v false [.bool r], [], []⟩
def yEz (N : Nat) (a0 : Org) (a1 : Org) : Option (Bool) :=
  bif (((Org.cell a0) : Int) != (Org.cell a1)) then (
    some false
  ) else (
    bif (((Org.row a0) : Int) != (Org.row a1)) then (
      some false
    ) else (
      some true
    )
  )
def yCn (a0 : List Org) (a1 : List Org) : List Arg := [.val (.v false [.sl .ro .org a0]), .val (.v false [.sl .ro .org a1])]
def yAZ (r : Bool) : CallO := ⟨.v false [.bool r], [], []⟩
def yCo (N : Nat) : Nat → (List Org) → (List Org) → Int → Option (Bool)
  | 0, _, _, _ => none
  | n + 1, x0, x1, x5 =>
    bif (decide ((x5 : Int) < (List.length x0 : Int))) then (
      if (0 : Int) ≤ x5 ∧ x5 < (List.length x0) then
      if (0 : Int) ≤ x5 ∧ x5 < (List.length x1) then
      Option.bind (yEz N (List.getD x0 (Int.toNat x5) Ty.org.dflt) (List.getD x1 (Int.toNat x5) Ty.org.dflt)) fun r1 =>
      bif (!r1) then (
        some false
      ) else (
        (yCo N n x0 x1 (IntKind.i64.wrap (x5 + 1)))
      )
      else none
      else none
    ) else (
      some true
    )
def yD9 (N : Nat) (a0 : List Org) (a1 : List Org) : Option (Bool) :=
  bif (((List.length a0 : Int) : Int) != (List.length a1 : Int)) then (
    some false
  ) else (
    (yCo N N a0 a1 0)
  )
def yDk (a0 : Rowd) (a1 : Rowd) : List Arg := [.val (.v true [.sl .ro .int (Rowd.cells a0), .sl .ro .org (Rowd.frm a0)]), .val (.v true [.sl .ro .int (Rowd.cells a1), .sl .ro .org (Rowd.frm a1)])]
def yCi (r : Bool) : CallO := ⟨.v false [.bool r], [], []⟩
def yF2 (N : Nat) (a0 : Rowd) (a1 : Rowd) : Option (Bool) :=
  Option.bind (yFw N (Rowd.cells a0) (Rowd.cells a1)) fun r1 =>
  bif (!r1) then (
    some false
  ) else (
    Option.bind (yD9 N (Rowd.frm a0) (Rowd.frm a1)) fun r2 =>
    bif (!r2) then (
      some false
    ) else (
      some true
    )
  )
def yDy (a0 : List Rowd) (a1 : List Rowd) : List Arg := [.val (.v false [.sl .ro .row a0]), .val (.v false [.sl .ro .row a1])]
def yBB (r : Bool) : CallO := ⟨.v false [.bool r], [], []⟩
def yDz (N : Nat) : Nat → (List Rowd) → (List Rowd) → Int → Option (Bool)
  | 0, _, _, _ => none
  | n + 1, x0, x1, x5 =>
    bif (decide ((x5 : Int) < (List.length x0 : Int))) then (
      if (0 : Int) ≤ x5 ∧ x5 < (List.length x0) then
      if (0 : Int) ≤ x5 ∧ x5 < (List.length x1) then
      Option.bind (yF2 N (List.getD x0 (Int.toNat x5) Ty.row.dflt) (List.getD x1 (Int.toNat x5) Ty.row.dflt)) fun r1 =>
      bif (!r1) then (
        some false
      ) else (
        (yDz N n x0 x1 (IntKind.i64.wrap (x5 + 1)))
      )
      else none
      else none
    ) else (
      some true
    )
def yFx (N : Nat) (a0 : List Rowd) (a1 : List Rowd) : Option (Bool) :=
  bif (((List.length a0 : Int) : Int) != (List.length a1 : Int)) then (
    some false
  ) else (
    (yDz N N a0 a1 0)
  )
def yAJ (a0 : Val) (a1 : Val) : List Arg := [.val (.v true [.int .i64 (Val.kind a0), .int .i64 (Val.n a0), .int .i64 (Val.step a0), .str (Val.text a0), .sl .ro .val (Val.list a0), .sl .ro .str (Val.columns a0), .sl .ro .row (Val.rows a0)]), .val (.v true [.int .i64 (Val.kind a1), .int .i64 (Val.n a1), .int .i64 (Val.step a1), .str (Val.text a1), .sl .ro .val (Val.list a1), .sl .ro .str (Val.columns a1), .sl .ro .row (Val.rows a1)])]
def yAx (r : Bool) : CallO := ⟨.v false [.bool r], [], []⟩
def yDa (N : Nat) (q0 : Val → Val → Option (Bool)) (q1 : (List Val) → (List Val) → Option (Bool)) (a0 : Val) (a1 : Val) : Option (Bool) :=
  bif (((Val.kind a0) : Int) != (Val.kind a1)) then (
    some false
  ) else (
    bif (((Val.n a0) : Int) != (Val.n a1)) then (
      some false
    ) else (
      bif (((Val.step a0) : Int) != (Val.step a1)) then (
        some false
      ) else (
        bif (!(((Val.text a0) : Str) == (Val.text a1))) then (
          some false
        ) else (
          Option.bind (q1 (Val.list a0) (Val.list a1)) fun r1 =>
          bif (!r1) then (
            some false
          ) else (
            Option.bind (yEa N (Val.columns a0) (Val.columns a1)) fun r2 =>
            bif (!r2) then (
              some false
            ) else (
              Option.bind (yFx N (Val.rows a0) (Val.rows a1)) fun r3 =>
              bif (!r3) then (
                some false
              ) else (
                some true
              )
            )
          )
        )
      )
    )
  )
def yBk (a0 : List Val) (a1 : List Val) : List Arg := [.val (.v false [.sl .ro .val a0]), .val (.v false [.sl .ro .val a1])]
def yAu (r : Bool) : CallO := ⟨.v false [.bool r], [], []⟩
def yCL (N : Nat) (q0 : Val → Val → Option (Bool)) (q1 : (List Val) → (List Val) → Option (Bool)) : Nat → (List Val) → (List Val) → Int → Option (Bool)
  | 0, _, _, _ => none
  | n + 1, x0, x1, x5 =>
    bif (decide ((x5 : Int) < (List.length x0 : Int))) then (
      if (0 : Int) ≤ x5 ∧ x5 < (List.length x0) then
      if (0 : Int) ≤ x5 ∧ x5 < (List.length x1) then
      Option.bind (q0 (List.getD x0 (Int.toNat x5) Ty.val.dflt) (List.getD x1 (Int.toNat x5) Ty.val.dflt)) fun r1 =>
      bif (!r1) then (
        some false
      ) else (
        (yCL N q0 q1 n x0 x1 (IntKind.i64.wrap (x5 + 1)))
      )
      else none
      else none
    ) else (
      some true
    )
def yCX (N : Nat) (q0 : Val → Val → Option (Bool)) (q1 : (List Val) → (List Val) → Option (Bool)) (a0 : List Val) (a1 : List Val) : Option (Bool) :=
  bif (((List.length a0 : Int) : Int) != (List.length a1 : Int)) then (
    some false
  ) else (
    (yCL N q0 q1 N a0 a1 0)
  )
structure laws_eqValue_rec where
  c_laws_eqValue : Val → Val → Option (Bool)
  c_laws_eqValueS : (List Val) → (List Val) → Option (Bool)
def yAr (N : Nat) : Nat → laws_eqValue_rec
  | 0 => ⟨fun _ _ => none, fun _ _ => none⟩
  | d + 1 => ⟨yDa N (yAr N d).c_laws_eqValue (yAr N d).c_laws_eqValueS, yCX N (yAr N d).c_laws_eqValue (yAr N d).c_laws_eqValueS⟩
def yBc (N : Nat) (a0 : Val) (a1 : Val) : Option (Bool) := (yAr N N).c_laws_eqValue a0 a1
def yAF (a0 : Int) : List Arg := [.val (.v false [.int .i64 a0])]
def yAi (r : Str) : CallO := ⟨.v false [.str r], [], []⟩
def yCS (N : Nat) : Nat → Int → Str → Option (Str)
  | 0, _, _ => none
  | n + 1, x0, x3 =>
    bif (decide ((x0 : Int) > 0)) then (
      if List.length (List.map (fun n => UInt8.ofNat (Int.toNat n)) [(IntKind.u8.wrap ((IntKind.i64.wrap (48 + (Int.tmod x0 10)))))]) + List.length x3 ≤ Lim then
      (yCS N n (IntKind.i64.wrap (Int.tdiv x0 10)) ((List.map (fun n => UInt8.ofNat (Int.toNat n)) [(IntKind.u8.wrap ((IntKind.i64.wrap (48 + (Int.tmod x0 10)))))]) ++ x3))
      else none
    ) else (
      if List.length [109] + List.length x3 ≤ Lim then
      some ([109] ++ x3)
      else none
    )
def yCj (N : Nat) (a0 : Int) : Option (Str) :=
  bif (decide ((a0 : Int) ≤ 0)) then (
    some [109, 48]
  ) else (
    (yCS N N a0 [])
  )
def yCY (a0 : List Str) (a1 : Int) : List Arg := [.val (.v false [.sl .ro .str []]), .val (.v false [.int .i64 a1])]
def yBx (r : Int) : CallO := ⟨.v false [.int .i64 r], [], []⟩
def yDN (N : Nat) : Nat → Int → Int → Option (Int)
  | 0, _, _ => none
  | n + 1, x1, x5 =>
    bif (decide ((x5 : Int) < (0 : Int))) then (
      Option.bind (yCj N x1) fun r1 =>
      if (0 : Int) ≤ x5 ∧ x5 < (0) then
      none
      else none
    ) else (
      some x1
    )
def yDG (N : Nat) (a0 : List Str) (a1 : Int) : Option (Int) :=
  (yDN N N a1 0)
def yCE (a0 : List Str) (a1 : Int) : List Arg := [.val (.v false [.sl (.lnt 0) .str a0]), .val (.v false [.int .i64 a1])]
def yA3 (r : Int × (List Str)) : CallO := ⟨.v false [.int .i64 r.1], [], [.sl (.lnt 0) .str r.2]⟩
def yBY (N : Nat) : Nat → (List Str) → Int → Int → Option (Int × (List Str))
  | 0, _, _, _ => none
  | n + 1, x0, x1, x5 =>
    bif (decide ((x5 : Int) < (List.length x0 : Int))) then (
      Option.bind (yCj N x1) fun r1 =>
      if (0 : Int) ≤ x5 ∧ x5 < (List.length x0) then
      (yBY N n (List.set x0 (Int.toNat x5) r1) (IntKind.i64.wrap (x1 + 1)) (IntKind.i64.wrap (x5 + 1)))
      else none
    ) else (
      some (x1, x0)
    )
def yDs (N : Nat) (a0 : List Str) (a1 : Int) : Option (Int × (List Str)) :=
  (yBY N N a0 a1 0)
def yEi (a0 : List Int) (a1 : Int) : List Arg := [.val (.v false [.sl (.lnt 0) .int a0]), .val (.v false [.int .i64 a1])]
def yCQ (r : Int × (List Int)) : CallO := ⟨.v false [.int .i64 r.1], [], [.sl (.lnt 0) .int r.2]⟩
def yCP (N : Nat) : Nat → (List Int) → Int → Int → Option (Int × (List Int))
  | 0, _, _, _ => none
  | n + 1, x0, x1, x5 =>
    bif (decide ((x5 : Int) < (List.length x0 : Int))) then (
      if (0 : Int) ≤ x5 ∧ x5 < (List.length x0) then
      (yCP N n (List.set x0 (Int.toNat x5) x1) (IntKind.i64.wrap (x1 + 1)) (IntKind.i64.wrap (x5 + 1)))
      else none
    ) else (
      some (x1, x0)
    )
def yFo (N : Nat) (a0 : List Int) (a1 : Int) : Option (Int × (List Int)) :=
  (yCP N N a0 a1 0)
def yDF (a0 : List Rowd) (a1 : Int) : List Arg := [.val (.v false [.sl .ro .row []]), .val (.v false [.int .i64 a1])]
def yB7 (r : Int) : CallO := ⟨.v false [.int .i64 r], [], []⟩
def yED (N : Nat) : Nat → Int → Int → Option (Int)
  | 0, _, _ => none
  | n + 1, x1, x5 =>
    bif (decide ((x5 : Int) < (0 : Int))) then (
      if (0 : Int) ≤ x5 ∧ x5 < (0) then
      none
      else none
    ) else (
      some x1
    )
def yEC (N : Nat) (a0 : List Rowd) (a1 : Int) : Option (Int) :=
  (yED N N a1 0)
def yEq (a0 : Val) (a1 : Int) : List Arg := [.val (.v true [.int .i64 (Val.kind a0), .int .i64 (Val.n a0), .int .i64 (Val.step a0), .str (Val.text a0), .sl .ro .val [], .sl .ro .str [], .sl .ro .row []]), .val (.v false [.int .i64 a1])]
def yEr (r : Int) : CallO := ⟨.v false [.int .i64 r], [], []⟩
def yDt (N : Nat) (a0 : Val) (a1 : Int) : Option (Int) :=
  Option.bind (yDT N [] a1) fun r1 =>
  Option.bind (yDG N [] r1) fun r2 =>
  Option.bind (yEC N [] r2) fun r3 =>
  some r3
def yDl (a0 : List Org) (a1 : Int) : List Arg := [.val (.v false [.sl (.lnt 0) .org a0]), .val (.v false [.int .i64 a1])]
def yBX (r : Int × (List Org)) : CallO := ⟨.v false [.int .i64 r.1], [], [.sl (.lnt 0) .org r.2]⟩
def yBW (N : Nat) : Nat → (List Org) → Int → Int → Option (Int × (List Org))
  | 0, _, _, _ => none
  | n + 1, x0, x1, x5 =>
    bif (decide ((x5 : Int) < (List.length x0 : Int))) then (
      if (0 : Int) ≤ x5 ∧ x5 < (List.length x0) then
      if (0 : Int) ≤ x5 ∧ x5 < (List.length (List.set x0 (Int.toNat x5) (Org.mk x1 (Org.row (List.getD x0 (Int.toNat x5) Ty.org.dflt))))) then
      (yBW N n ((fun (z1 : List Org) => List.set z1 (Int.toNat x5) (Org.mk (Org.cell (List.getD z1 (Int.toNat x5) Ty.org.dflt)) (IntKind.i64.wrap (x1 + 1)))) (List.set x0 (Int.toNat x5) (Org.mk x1 (Org.row (List.getD x0 (Int.toNat x5) Ty.org.dflt))))) (IntKind.i64.wrap ((IntKind.i64.wrap (x1 + 1)) + 1)) (IntKind.i64.wrap (x5 + 1)))
      else none
      else none
    ) else (
      some (x1, x0)
    )
def yEj (N : Nat) (a0 : List Org) (a1 : Int) : Option (Int × (List Org)) :=
  (yBW N N a0 a1 0)
def yDr (a0 : List Rowd) (a1 : Int) : List Arg := [.val (.v false [.sl (.lnt 0) .row a0]), .val (.v false [.int .i64 a1])]
def yBN (r : Int × (List Rowd)) : CallO := ⟨.v false [.int .i64 r.1], [], [.sl (.lnt 0) .row r.2]⟩
def yCR (N : Nat) : Nat → (List Rowd) → Int → Int → Option (Int × (List Rowd))
  | 0, _, _, _ => none
  | n + 1, x0, x1, x5 =>
    bif (decide ((x5 : Int) < (List.length x0 : Int))) then (
      if (0 : Int) ≤ x5 ∧ x5 < (List.length x0) then
      Option.bind (yFo N (Rowd.cells (List.getD x0 (Int.toNat x5) Ty.row.dflt)) x1) fun r1 =>
      if List.length r1.2 = List.length (Rowd.cells (List.getD x0 (Int.toNat x5) Ty.row.dflt)) then
      if (0 : Int) ≤ x5 ∧ x5 < (List.length (List.set x0 (Int.toNat x5) (Rowd.mk r1.2 (Rowd.frm (List.getD x0 (Int.toNat x5) Ty.row.dflt))))) then
      Option.bind (yEj N (Rowd.frm (List.getD (List.set x0 (Int.toNat x5) (Rowd.mk r1.2 (Rowd.frm (List.getD x0 (Int.toNat x5) Ty.row.dflt)))) (Int.toNat x5) Ty.row.dflt)) r1.1) fun r2 =>
      if List.length r2.2 = List.length (Rowd.frm (List.getD (List.set x0 (Int.toNat x5) (Rowd.mk r1.2 (Rowd.frm (List.getD x0 (Int.toNat x5) Ty.row.dflt)))) (Int.toNat x5) Ty.row.dflt)) then
      (yCR N n ((fun (z1 : List Rowd) => List.set z1 (Int.toNat x5) (Rowd.mk (Rowd.cells (List.getD z1 (Int.toNat x5) Ty.row.dflt)) r2.2)) (List.set x0 (Int.toNat x5) (Rowd.mk r1.2 (Rowd.frm (List.getD x0 (Int.toNat x5) Ty.row.dflt))))) r2.1 (IntKind.i64.wrap (x5 + 1)))
      else none
      else none
      else none
      else none
    ) else (
      some (x1, x0)
    )
def yEB (N : Nat) (a0 : List Rowd) (a1 : Int) : Option (Int × (List Rowd)) :=
  (yCR N N a0 a1 0)
def yBJ (a0 : List Val) (a1 : Int) : List Arg := [.val (.v false [.sl (.lnt 0) .val a0]), .val (.v false [.int .i64 a1])]
def yAS (r : Int × (List Val)) : CallO := ⟨.v false [.int .i64 r.1], [], [.sl (.lnt 0) .val r.2]⟩
def yB8 (N : Nat) (q0 : (List Val) → Int → Option (Int × (List Val))) : Nat → (List Val) → Int → Int → Option (Int × (List Val))
  | 0, _, _, _ => none
  | n + 1, x0, x1, x5 =>
    bif (decide ((x5 : Int) < (List.length x0 : Int))) then (
      if (0 : Int) ≤ x5 ∧ x5 < (List.length x0) then
      if (0 : Int) ≤ x5 ∧ x5 < (List.length (List.set x0 (Int.toNat x5) (Val.mk x1 (Val.n (List.getD x0 (Int.toNat x5) Ty.val.dflt)) (Val.step (List.getD x0 (Int.toNat x5) Ty.val.dflt)) (Val.text (List.getD x0 (Int.toNat x5) Ty.val.dflt)) (Val.list (List.getD x0 (Int.toNat x5) Ty.val.dflt)) (Val.columns (List.getD x0 (Int.toNat x5) Ty.val.dflt)) (Val.rows (List.getD x0 (Int.toNat x5) Ty.val.dflt))))) then
      if (0 : Int) ≤ x5 ∧ x5 < (List.length ((fun (z40 : List Val) => List.set z40 (Int.toNat x5) (Val.mk (Val.kind (List.getD z40 (Int.toNat x5) Ty.val.dflt)) (IntKind.i64.wrap (x1 + 1)) (Val.step (List.getD z40 (Int.toNat x5) Ty.val.dflt)) (Val.text (List.getD z40 (Int.toNat x5) Ty.val.dflt)) (Val.list (List.getD z40 (Int.toNat x5) Ty.val.dflt)) (Val.columns (List.getD z40 (Int.toNat x5) Ty.val.dflt)) (Val.rows (List.getD z40 (Int.toNat x5) Ty.val.dflt)))) (List.set x0 (Int.toNat x5) (Val.mk x1 (Val.n (List.getD x0 (Int.toNat x5) Ty.val.dflt)) (Val.step (List.getD x0 (Int.toNat x5) Ty.val.dflt)) (Val.text (List.getD x0 (Int.toNat x5) Ty.val.dflt)) (Val.list (List.getD x0 (Int.toNat x5) Ty.val.dflt)) (Val.columns (List.getD x0 (Int.toNat x5) Ty.val.dflt)) (Val.rows (List.getD x0 (Int.toNat x5) Ty.val.dflt)))))) then
      Option.bind (yCj N (IntKind.i64.wrap ((IntKind.i64.wrap ((IntKind.i64.wrap (x1 + 1)) + 1)) + 1))) fun r1 =>
      if (0 : Int) ≤ x5 ∧ x5 < (List.length ((fun (z41 : List Val) => List.set z41 (Int.toNat x5) (Val.mk (Val.kind (List.getD z41 (Int.toNat x5) Ty.val.dflt)) (Val.n (List.getD z41 (Int.toNat x5) Ty.val.dflt)) (IntKind.i64.wrap ((IntKind.i64.wrap (x1 + 1)) + 1)) (Val.text (List.getD z41 (Int.toNat x5) Ty.val.dflt)) (Val.list (List.getD z41 (Int.toNat x5) Ty.val.dflt)) (Val.columns (List.getD z41 (Int.toNat x5) Ty.val.dflt)) (Val.rows (List.getD z41 (Int.toNat x5) Ty.val.dflt)))) ((fun (z40 : List Val) => List.set z40 (Int.toNat x5) (Val.mk (Val.kind (List.getD z40 (Int.toNat x5) Ty.val.dflt)) (IntKind.i64.wrap (x1 + 1)) (Val.step (List.getD z40 (Int.toNat x5) Ty.val.dflt)) (Val.text (List.getD z40 (Int.toNat x5) Ty.val.dflt)) (Val.list (List.getD z40 (Int.toNat x5) Ty.val.dflt)) (Val.columns (List.getD z40 (Int.toNat x5) Ty.val.dflt)) (Val.rows (List.getD z40 (Int.toNat x5) Ty.val.dflt)))) (List.set x0 (Int.toNat x5) (Val.mk x1 (Val.n (List.getD x0 (Int.toNat x5) Ty.val.dflt)) (Val.step (List.getD x0 (Int.toNat x5) Ty.val.dflt)) (Val.text (List.getD x0 (Int.toNat x5) Ty.val.dflt)) (Val.list (List.getD x0 (Int.toNat x5) Ty.val.dflt)) (Val.columns (List.getD x0 (Int.toNat x5) Ty.val.dflt)) (Val.rows (List.getD x0 (Int.toNat x5) Ty.val.dflt))))))) then
      if (0 : Int) ≤ x5 ∧ x5 < (List.length ((fun (z42 : List Val) => List.set z42 (Int.toNat x5) (Val.mk (Val.kind (List.getD z42 (Int.toNat x5) Ty.val.dflt)) (Val.n (List.getD z42 (Int.toNat x5) Ty.val.dflt)) (Val.step (List.getD z42 (Int.toNat x5) Ty.val.dflt)) r1 (Val.list (List.getD z42 (Int.toNat x5) Ty.val.dflt)) (Val.columns (List.getD z42 (Int.toNat x5) Ty.val.dflt)) (Val.rows (List.getD z42 (Int.toNat x5) Ty.val.dflt)))) ((fun (z41 : List Val) => List.set z41 (Int.toNat x5) (Val.mk (Val.kind (List.getD z41 (Int.toNat x5) Ty.val.dflt)) (Val.n (List.getD z41 (Int.toNat x5) Ty.val.dflt)) (IntKind.i64.wrap ((IntKind.i64.wrap (x1 + 1)) + 1)) (Val.text (List.getD z41 (Int.toNat x5) Ty.val.dflt)) (Val.list (List.getD z41 (Int.toNat x5) Ty.val.dflt)) (Val.columns (List.getD z41 (Int.toNat x5) Ty.val.dflt)) (Val.rows (List.getD z41 (Int.toNat x5) Ty.val.dflt)))) ((fun (z40 : List Val) => List.set z40 (Int.toNat x5) (Val.mk (Val.kind (List.getD z40 (Int.toNat x5) Ty.val.dflt)) (IntKind.i64.wrap (x1 + 1)) (Val.step (List.getD z40 (Int.toNat x5) Ty.val.dflt)) (Val.text (List.getD z40 (Int.toNat x5) Ty.val.dflt)) (Val.list (List.getD z40 (Int.toNat x5) Ty.val.dflt)) (Val.columns (List.getD z40 (Int.toNat x5) Ty.val.dflt)) (Val.rows (List.getD z40 (Int.toNat x5) Ty.val.dflt)))) (List.set x0 (Int.toNat x5) (Val.mk x1 (Val.n (List.getD x0 (Int.toNat x5) Ty.val.dflt)) (Val.step (List.getD x0 (Int.toNat x5) Ty.val.dflt)) (Val.text (List.getD x0 (Int.toNat x5) Ty.val.dflt)) (Val.list (List.getD x0 (Int.toNat x5) Ty.val.dflt)) (Val.columns (List.getD x0 (Int.toNat x5) Ty.val.dflt)) (Val.rows (List.getD x0 (Int.toNat x5) Ty.val.dflt)))))))) then
      Option.bind (q0 (Val.list (List.getD ((fun (z42 : List Val) => List.set z42 (Int.toNat x5) (Val.mk (Val.kind (List.getD z42 (Int.toNat x5) Ty.val.dflt)) (Val.n (List.getD z42 (Int.toNat x5) Ty.val.dflt)) (Val.step (List.getD z42 (Int.toNat x5) Ty.val.dflt)) r1 (Val.list (List.getD z42 (Int.toNat x5) Ty.val.dflt)) (Val.columns (List.getD z42 (Int.toNat x5) Ty.val.dflt)) (Val.rows (List.getD z42 (Int.toNat x5) Ty.val.dflt)))) ((fun (z41 : List Val) => List.set z41 (Int.toNat x5) (Val.mk (Val.kind (List.getD z41 (Int.toNat x5) Ty.val.dflt)) (Val.n (List.getD z41 (Int.toNat x5) Ty.val.dflt)) (IntKind.i64.wrap ((IntKind.i64.wrap (x1 + 1)) + 1)) (Val.text (List.getD z41 (Int.toNat x5) Ty.val.dflt)) (Val.list (List.getD z41 (Int.toNat x5) Ty.val.dflt)) (Val.columns (List.getD z41 (Int.toNat x5) Ty.val.dflt)) (Val.rows (List.getD z41 (Int.toNat x5) Ty.val.dflt)))) ((fun (z40 : List Val) => List.set z40 (Int.toNat x5) (Val.mk (Val.kind (List.getD z40 (Int.toNat x5) Ty.val.dflt)) (IntKind.i64.wrap (x1 + 1)) (Val.step (List.getD z40 (Int.toNat x5) Ty.val.dflt)) (Val.text (List.getD z40 (Int.toNat x5) Ty.val.dflt)) (Val.list (List.getD z40 (Int.toNat x5) Ty.val.dflt)) (Val.columns (List.getD z40 (Int.toNat x5) Ty.val.dflt)) (Val.rows (List.getD z40 (Int.toNat x5) Ty.val.dflt)))) (List.set x0 (Int.toNat x5) (Val.mk x1 (Val.n (List.getD x0 (Int.toNat x5) Ty.val.dflt)) (Val.step (List.getD x0 (Int.toNat x5) Ty.val.dflt)) (Val.text (List.getD x0 (Int.toNat x5) Ty.val.dflt)) (Val.list (List.getD x0 (Int.toNat x5) Ty.val.dflt)) (Val.columns (List.getD x0 (Int.toNat x5) Ty.val.dflt)) (Val.rows (List.getD x0 (Int.toNat x5) Ty.val.dflt))))))) (Int.toNat x5) Ty.val.dflt)) (IntKind.i64.wrap ((IntKind.i64.wrap ((IntKind.i64.wrap ((IntKind.i64.wrap (x1 + 1)) + 1)) + 1)) + 1))) fun r2 =>
      if List.length r2.2 = List.length (Val.list (List.getD ((fun (z42 : List Val) => List.set z42 (Int.toNat x5) (Val.mk (Val.kind (List.getD z42 (Int.toNat x5) Ty.val.dflt)) (Val.n (List.getD z42 (Int.toNat x5) Ty.val.dflt)) (Val.step (List.getD z42 (Int.toNat x5) Ty.val.dflt)) r1 (Val.list (List.getD z42 (Int.toNat x5) Ty.val.dflt)) (Val.columns (List.getD z42 (Int.toNat x5) Ty.val.dflt)) (Val.rows (List.getD z42 (Int.toNat x5) Ty.val.dflt)))) ((fun (z41 : List Val) => List.set z41 (Int.toNat x5) (Val.mk (Val.kind (List.getD z41 (Int.toNat x5) Ty.val.dflt)) (Val.n (List.getD z41 (Int.toNat x5) Ty.val.dflt)) (IntKind.i64.wrap ((IntKind.i64.wrap (x1 + 1)) + 1)) (Val.text (List.getD z41 (Int.toNat x5) Ty.val.dflt)) (Val.list (List.getD z41 (Int.toNat x5) Ty.val.dflt)) (Val.columns (List.getD z41 (Int.toNat x5) Ty.val.dflt)) (Val.rows (List.getD z41 (Int.toNat x5) Ty.val.dflt)))) ((fun (z40 : List Val) => List.set z40 (Int.toNat x5) (Val.mk (Val.kind (List.getD z40 (Int.toNat x5) Ty.val.dflt)) (IntKind.i64.wrap (x1 + 1)) (Val.step (List.getD z40 (Int.toNat x5) Ty.val.dflt)) (Val.text (List.getD z40 (Int.toNat x5) Ty.val.dflt)) (Val.list (List.getD z40 (Int.toNat x5) Ty.val.dflt)) (Val.columns (List.getD z40 (Int.toNat x5) Ty.val.dflt)) (Val.rows (List.getD z40 (Int.toNat x5) Ty.val.dflt)))) (List.set x0 (Int.toNat x5) (Val.mk x1 (Val.n (List.getD x0 (Int.toNat x5) Ty.val.dflt)) (Val.step (List.getD x0 (Int.toNat x5) Ty.val.dflt)) (Val.text (List.getD x0 (Int.toNat x5) Ty.val.dflt)) (Val.list (List.getD x0 (Int.toNat x5) Ty.val.dflt)) (Val.columns (List.getD x0 (Int.toNat x5) Ty.val.dflt)) (Val.rows (List.getD x0 (Int.toNat x5) Ty.val.dflt))))))) (Int.toNat x5) Ty.val.dflt)) then
      if (0 : Int) ≤ x5 ∧ x5 < (List.length ((fun (z43 : List Val) => List.set z43 (Int.toNat x5) (Val.mk (Val.kind (List.getD z43 (Int.toNat x5) Ty.val.dflt)) (Val.n (List.getD z43 (Int.toNat x5) Ty.val.dflt)) (Val.step (List.getD z43 (Int.toNat x5) Ty.val.dflt)) (Val.text (List.getD z43 (Int.toNat x5) Ty.val.dflt)) r2.2 (Val.columns (List.getD z43 (Int.toNat x5) Ty.val.dflt)) (Val.rows (List.getD z43 (Int.toNat x5) Ty.val.dflt)))) ((fun (z42 : List Val) => List.set z42 (Int.toNat x5) (Val.mk (Val.kind (List.getD z42 (Int.toNat x5) Ty.val.dflt)) (Val.n (List.getD z42 (Int.toNat x5) Ty.val.dflt)) (Val.step (List.getD z42 (Int.toNat x5) Ty.val.dflt)) r1 (Val.list (List.getD z42 (Int.toNat x5) Ty.val.dflt)) (Val.columns (List.getD z42 (Int.toNat x5) Ty.val.dflt)) (Val.rows (List.getD z42 (Int.toNat x5) Ty.val.dflt)))) ((fun (z41 : List Val) => List.set z41 (Int.toNat x5) (Val.mk (Val.kind (List.getD z41 (Int.toNat x5) Ty.val.dflt)) (Val.n (List.getD z41 (Int.toNat x5) Ty.val.dflt)) (IntKind.i64.wrap ((IntKind.i64.wrap (x1 + 1)) + 1)) (Val.text (List.getD z41 (Int.toNat x5) Ty.val.dflt)) (Val.list (List.getD z41 (Int.toNat x5) Ty.val.dflt)) (Val.columns (List.getD z41 (Int.toNat x5) Ty.val.dflt)) (Val.rows (List.getD z41 (Int.toNat x5) Ty.val.dflt)))) ((fun (z40 : List Val) => List.set z40 (Int.toNat x5) (Val.mk (Val.kind (List.getD z40 (Int.toNat x5) Ty.val.dflt)) (IntKind.i64.wrap (x1 + 1)) (Val.step (List.getD z40 (Int.toNat x5) Ty.val.dflt)) (Val.text (List.getD z40 (Int.toNat x5) Ty.val.dflt)) (Val.list (List.getD z40 (Int.toNat x5) Ty.val.dflt)) (Val.columns (List.getD z40 (Int.toNat x5) Ty.val.dflt)) (Val.rows (List.getD z40 (Int.toNat x5) Ty.val.dflt)))) (List.set x0 (Int.toNat x5) (Val.mk x1 (Val.n (List.getD x0 (Int.toNat x5) Ty.val.dflt)) (Val.step (List.getD x0 (Int.toNat x5) Ty.val.dflt)) (Val.text (List.getD x0 (Int.toNat x5) Ty.val.dflt)) (Val.list (List.getD x0 (Int.toNat x5) Ty.val.dflt)) (Val.columns (List.getD x0 (Int.toNat x5) Ty.val.dflt)) (Val.rows (List.getD x0 (Int.toNat x5) Ty.val.dflt))))))))) then
      Option.bind (yDs N (Val.columns (List.getD ((fun (z43 : List Val) => List.set z43 (Int.toNat x5) (Val.mk (Val.kind (List.getD z43 (Int.toNat x5) Ty.val.dflt)) (Val.n (List.getD z43 (Int.toNat x5) Ty.val.dflt)) (Val.step (List.getD z43 (Int.toNat x5) Ty.val.dflt)) (Val.text (List.getD z43 (Int.toNat x5) Ty.val.dflt)) r2.2 (Val.columns (List.getD z43 (Int.toNat x5) Ty.val.dflt)) (Val.rows (List.getD z43 (Int.toNat x5) Ty.val.dflt)))) ((fun (z42 : List Val) => List.set z42 (Int.toNat x5) (Val.mk (Val.kind (List.getD z42 (Int.toNat x5) Ty.val.dflt)) (Val.n (List.getD z42 (Int.toNat x5) Ty.val.dflt)) (Val.step (List.getD z42 (Int.toNat x5) Ty.val.dflt)) r1 (Val.list (List.getD z42 (Int.toNat x5) Ty.val.dflt)) (Val.columns (List.getD z42 (Int.toNat x5) Ty.val.dflt)) (Val.rows (List.getD z42 (Int.toNat x5) Ty.val.dflt)))) ((fun (z41 : List Val) => List.set z41 (Int.toNat x5) (Val.mk (Val.kind (List.getD z41 (Int.toNat x5) Ty.val.dflt)) (Val.n (List.getD z41 (Int.toNat x5) Ty.val.dflt)) (IntKind.i64.wrap ((IntKind.i64.wrap (x1 + 1)) + 1)) (Val.text (List.getD z41 (Int.toNat x5) Ty.val.dflt)) (Val.list (List.getD z41 (Int.toNat x5) Ty.val.dflt)) (Val.columns (List.getD z41 (Int.toNat x5) Ty.val.dflt)) (Val.rows (List.getD z41 (Int.toNat x5) Ty.val.dflt)))) ((fun (z40 : List Val) => List.set z40 (Int.toNat x5) (Val.mk (Val.kind (List.getD z40 (Int.toNat x5) Ty.val.dflt)) (IntKind.i64.wrap (x1 + 1)) (Val.step (List.getD z40 (Int.toNat x5) Ty.val.dflt)) (Val.text (List.getD z40 (Int.toNat x5) Ty.val.dflt)) (Val.list (List.getD z40 (Int.toNat x5) Ty.val.dflt)) (Val.columns (List.getD z40 (Int.toNat x5) Ty.val.dflt)) (Val.rows (List.getD z40 (Int.toNat x5) Ty.val.dflt)))) (List.set x0 (Int.toNat x5) (Val.mk x1 (Val.n (List.getD x0 (Int.toNat x5) Ty.val.dflt)) (Val.step (List.getD x0 (Int.toNat x5) Ty.val.dflt)) (Val.text (List.getD x0 (Int.toNat x5) Ty.val.dflt)) (Val.list (List.getD x0 (Int.toNat x5) Ty.val.dflt)) (Val.columns (List.getD x0 (Int.toNat x5) Ty.val.dflt)) (Val.rows (List.getD x0 (Int.toNat x5) Ty.val.dflt)))))))) (Int.toNat x5) Ty.val.dflt)) r2.1) fun r3 =>
      if List.length r3.2 = List.length (Val.columns (List.getD ((fun (z43 : List Val) => List.set z43 (Int.toNat x5) (Val.mk (Val.kind (List.getD z43 (Int.toNat x5) Ty.val.dflt)) (Val.n (List.getD z43 (Int.toNat x5) Ty.val.dflt)) (Val.step (List.getD z43 (Int.toNat x5) Ty.val.dflt)) (Val.text (List.getD z43 (Int.toNat x5) Ty.val.dflt)) r2.2 (Val.columns (List.getD z43 (Int.toNat x5) Ty.val.dflt)) (Val.rows (List.getD z43 (Int.toNat x5) Ty.val.dflt)))) ((fun (z42 : List Val) => List.set z42 (Int.toNat x5) (Val.mk (Val.kind (List.getD z42 (Int.toNat x5) Ty.val.dflt)) (Val.n (List.getD z42 (Int.toNat x5) Ty.val.dflt)) (Val.step (List.getD z42 (Int.toNat x5) Ty.val.dflt)) r1 (Val.list (List.getD z42 (Int.toNat x5) Ty.val.dflt)) (Val.columns (List.getD z42 (Int.toNat x5) Ty.val.dflt)) (Val.rows (List.getD z42 (Int.toNat x5) Ty.val.dflt)))) ((fun (z41 : List Val) => List.set z41 (Int.toNat x5) (Val.mk (Val.kind (List.getD z41 (Int.toNat x5) Ty.val.dflt)) (Val.n (List.getD z41 (Int.toNat x5) Ty.val.dflt)) (IntKind.i64.wrap ((IntKind.i64.wrap (x1 + 1)) + 1)) (Val.text (List.getD z41 (Int.toNat x5) Ty.val.dflt)) (Val.list (List.getD z41 (Int.toNat x5) Ty.val.dflt)) (Val.columns (List.getD z41 (Int.toNat x5) Ty.val.dflt)) (Val.rows (List.getD z41 (Int.toNat x5) Ty.val.dflt)))) ((fun (z40 : List Val) => List.set z40 (Int.toNat x5) (Val.mk (Val.kind (List.getD z40 (Int.toNat x5) Ty.val.dflt)) (IntKind.i64.wrap (x1 + 1)) (Val.step (List.getD z40 (Int.toNat x5) Ty.val.dflt)) (Val.text (List.getD z40 (Int.toNat x5) Ty.val.dflt)) (Val.list (List.getD z40 (Int.toNat x5) Ty.val.dflt)) (Val.columns (List.getD z40 (Int.toNat x5) Ty.val.dflt)) (Val.rows (List.getD z40 (Int.toNat x5) Ty.val.dflt)))) (List.set x0 (Int.toNat x5) (Val.mk x1 (Val.n (List.getD x0 (Int.toNat x5) Ty.val.dflt)) (Val.step (List.getD x0 (Int.toNat x5) Ty.val.dflt)) (Val.text (List.getD x0 (Int.toNat x5) Ty.val.dflt)) (Val.list (List.getD x0 (Int.toNat x5) Ty.val.dflt)) (Val.columns (List.getD x0 (Int.toNat x5) Ty.val.dflt)) (Val.rows (List.getD x0 (Int.toNat x5) Ty.val.dflt)))))))) (Int.toNat x5) Ty.val.dflt)) then
      if (0 : Int) ≤ x5 ∧ x5 < (List.length ((fun (z44 : List Val) => List.set z44 (Int.toNat x5) (Val.mk (Val.kind (List.getD z44 (Int.toNat x5) Ty.val.dflt)) (Val.n (List.getD z44 (Int.toNat x5) Ty.val.dflt)) (Val.step (List.getD z44 (Int.toNat x5) Ty.val.dflt)) (Val.text (List.getD z44 (Int.toNat x5) Ty.val.dflt)) (Val.list (List.getD z44 (Int.toNat x5) Ty.val.dflt)) r3.2 (Val.rows (List.getD z44 (Int.toNat x5) Ty.val.dflt)))) ((fun (z43 : List Val) => List.set z43 (Int.toNat x5) (Val.mk (Val.kind (List.getD z43 (Int.toNat x5) Ty.val.dflt)) (Val.n (List.getD z43 (Int.toNat x5) Ty.val.dflt)) (Val.step (List.getD z43 (Int.toNat x5) Ty.val.dflt)) (Val.text (List.getD z43 (Int.toNat x5) Ty.val.dflt)) r2.2 (Val.columns (List.getD z43 (Int.toNat x5) Ty.val.dflt)) (Val.rows (List.getD z43 (Int.toNat x5) Ty.val.dflt)))) ((fun (z42 : List Val) => List.set z42 (Int.toNat x5) (Val.mk (Val.kind (List.getD z42 (Int.toNat x5) Ty.val.dflt)) (Val.n (List.getD z42 (Int.toNat x5) Ty.val.dflt)) (Val.step (List.getD z42 (Int.toNat x5) Ty.val.dflt)) r1 (Val.list (List.getD z42 (Int.toNat x5) Ty.val.dflt)) (Val.columns (List.getD z42 (Int.toNat x5) Ty.val.dflt)) (Val.rows (List.getD z42 (Int.toNat x5) Ty.val.dflt)))) ((fun (z41 : List Val) => List.set z41 (Int.toNat x5) (Val.mk (Val.kind (List.getD z41 (Int.toNat x5) Ty.val.dflt)) (Val.n (List.getD z41 (Int.toNat x5) Ty.val.dflt)) (IntKind.i64.wrap ((IntKind.i64.wrap (x1 + 1)) + 1)) (Val.text (List.getD z41 (Int.toNat x5) Ty.val.dflt)) (Val.list (List.getD z41 (Int.toNat x5) Ty.val.dflt)) (Val.columns (List.getD z41 (Int.toNat x5) Ty.val.dflt)) (Val.rows (List.getD z41 (Int.toNat x5) Ty.val.dflt)))) ((fun (z40 : List Val) => List.set z40 (Int.toNat x5) (Val.mk (Val.kind (List.getD z40 (Int.toNat x5) Ty.val.dflt)) (IntKind.i64.wrap (x1 + 1)) (Val.step (List.getD z40 (Int.toNat x5) Ty.val.dflt)) (Val.text (List.getD z40 (Int.toNat x5) Ty.val.dflt)) (Val.list (List.getD z40 (Int.toNat x5) Ty.val.dflt)) (Val.columns (List.getD z40 (Int.toNat x5) Ty.val.dflt)) (Val.rows (List.getD z40 (Int.toNat x5) Ty.val.dflt)))) (List.set x0 (Int.toNat x5) (Val.mk x1 (Val.n (List.getD x0 (Int.toNat x5) Ty.val.dflt)) (Val.step (List.getD x0 (Int.toNat x5) Ty.val.dflt)) (Val.text (List.getD x0 (Int.toNat x5) Ty.val.dflt)) (Val.list (List.getD x0 (Int.toNat x5) Ty.val.dflt)) (Val.columns (List.getD x0 (Int.toNat x5) Ty.val.dflt)) (Val.rows (List.getD x0 (Int.toNat x5) Ty.val.dflt)))))))))) then
      Option.bind (yEB N (Val.rows (List.getD ((fun (z44 : List Val) => List.set z44 (Int.toNat x5) (Val.mk (Val.kind (List.getD z44 (Int.toNat x5) Ty.val.dflt)) (Val.n (List.getD z44 (Int.toNat x5) Ty.val.dflt)) (Val.step (List.getD z44 (Int.toNat x5) Ty.val.dflt)) (Val.text (List.getD z44 (Int.toNat x5) Ty.val.dflt)) (Val.list (List.getD z44 (Int.toNat x5) Ty.val.dflt)) r3.2 (Val.rows (List.getD z44 (Int.toNat x5) Ty.val.dflt)))) ((fun (z43 : List Val) => List.set z43 (Int.toNat x5) (Val.mk (Val.kind (List.getD z43 (Int.toNat x5) Ty.val.dflt)) (Val.n (List.getD z43 (Int.toNat x5) Ty.val.dflt)) (Val.step (List.getD z43 (Int.toNat x5) Ty.val.dflt)) (Val.text (List.getD z43 (Int.toNat x5) Ty.val.dflt)) r2.2 (Val.columns (List.getD z43 (Int.toNat x5) Ty.val.dflt)) (Val.rows (List.getD z43 (Int.toNat x5) Ty.val.dflt)))) ((fun (z42 : List Val) => List.set z42 (Int.toNat x5) (Val.mk (Val.kind (List.getD z42 (Int.toNat x5) Ty.val.dflt)) (Val.n (List.getD z42 (Int.toNat x5) Ty.val.dflt)) (Val.step (List.getD z42 (Int.toNat x5) Ty.val.dflt)) r1 (Val.list (List.getD z42 (Int.toNat x5) Ty.val.dflt)) (Val.columns (List.getD z42 (Int.toNat x5) Ty.val.dflt)) (Val.rows (List.getD z42 (Int.toNat x5) Ty.val.dflt)))) ((fun (z41 : List Val) => List.set z41 (Int.toNat x5) (Val.mk (Val.kind (List.getD z41 (Int.toNat x5) Ty.val.dflt)) (Val.n (List.getD z41 (Int.toNat x5) Ty.val.dflt)) (IntKind.i64.wrap ((IntKind.i64.wrap (x1 + 1)) + 1)) (Val.text (List.getD z41 (Int.toNat x5) Ty.val.dflt)) (Val.list (List.getD z41 (Int.toNat x5) Ty.val.dflt)) (Val.columns (List.getD z41 (Int.toNat x5) Ty.val.dflt)) (Val.rows (List.getD z41 (Int.toNat x5) Ty.val.dflt)))) ((fun (z40 : List Val) => List.set z40 (Int.toNat x5) (Val.mk (Val.kind (List.getD z40 (Int.toNat x5) Ty.val.dflt)) (IntKind.i64.wrap (x1 + 1)) (Val.step (List.getD z40 (Int.toNat x5) Ty.val.dflt)) (Val.text (List.getD z40 (Int.toNat x5) Ty.val.dflt)) (Val.list (List.getD z40 (Int.toNat x5) Ty.val.dflt)) (Val.columns (List.getD z40 (Int.toNat x5) Ty.val.dflt)) (Val.rows (List.getD z40 (Int.toNat x5) Ty.val.dflt)))) (List.set x0 (Int.toNat x5) (Val.mk x1 (Val.n (List.getD x0 (Int.toNat x5) Ty.val.dflt)) (Val.step (List.getD x0 (Int.toNat x5) Ty.val.dflt)) (Val.text (List.getD x0 (Int.toNat x5) Ty.val.dflt)) (Val.list (List.getD x0 (Int.toNat x5) Ty.val.dflt)) (Val.columns (List.getD x0 (Int.toNat x5) Ty.val.dflt)) (Val.rows (List.getD x0 (Int.toNat x5) Ty.val.dflt))))))))) (Int.toNat x5) Ty.val.dflt)) r3.1) fun r4 =>
      if List.length r4.2 = List.length (Val.rows (List.getD ((fun (z44 : List Val) => List.set z44 (Int.toNat x5) (Val.mk (Val.kind (List.getD z44 (Int.toNat x5) Ty.val.dflt)) (Val.n (List.getD z44 (Int.toNat x5) Ty.val.dflt)) (Val.step (List.getD z44 (Int.toNat x5) Ty.val.dflt)) (Val.text (List.getD z44 (Int.toNat x5) Ty.val.dflt)) (Val.list (List.getD z44 (Int.toNat x5) Ty.val.dflt)) r3.2 (Val.rows (List.getD z44 (Int.toNat x5) Ty.val.dflt)))) ((fun (z43 : List Val) => List.set z43 (Int.toNat x5) (Val.mk (Val.kind (List.getD z43 (Int.toNat x5) Ty.val.dflt)) (Val.n (List.getD z43 (Int.toNat x5) Ty.val.dflt)) (Val.step (List.getD z43 (Int.toNat x5) Ty.val.dflt)) (Val.text (List.getD z43 (Int.toNat x5) Ty.val.dflt)) r2.2 (Val.columns (List.getD z43 (Int.toNat x5) Ty.val.dflt)) (Val.rows (List.getD z43 (Int.toNat x5) Ty.val.dflt)))) ((fun (z42 : List Val) => List.set z42 (Int.toNat x5) (Val.mk (Val.kind (List.getD z42 (Int.toNat x5) Ty.val.dflt)) (Val.n (List.getD z42 (Int.toNat x5) Ty.val.dflt)) (Val.step (List.getD z42 (Int.toNat x5) Ty.val.dflt)) r1 (Val.list (List.getD z42 (Int.toNat x5) Ty.val.dflt)) (Val.columns (List.getD z42 (Int.toNat x5) Ty.val.dflt)) (Val.rows (List.getD z42 (Int.toNat x5) Ty.val.dflt)))) ((fun (z41 : List Val) => List.set z41 (Int.toNat x5) (Val.mk (Val.kind (List.getD z41 (Int.toNat x5) Ty.val.dflt)) (Val.n (List.getD z41 (Int.toNat x5) Ty.val.dflt)) (IntKind.i64.wrap ((IntKind.i64.wrap (x1 + 1)) + 1)) (Val.text (List.getD z41 (Int.toNat x5) Ty.val.dflt)) (Val.list (List.getD z41 (Int.toNat x5) Ty.val.dflt)) (Val.columns (List.getD z41 (Int.toNat x5) Ty.val.dflt)) (Val.rows (List.getD z41 (Int.toNat x5) Ty.val.dflt)))) ((fun (z40 : List Val) => List.set z40 (Int.toNat x5) (Val.mk (Val.kind (List.getD z40 (Int.toNat x5) Ty.val.dflt)) (IntKind.i64.wrap (x1 + 1)) (Val.step (List.getD z40 (Int.toNat x5) Ty.val.dflt)) (Val.text (List.getD z40 (Int.toNat x5) Ty.val.dflt)) (Val.list (List.getD z40 (Int.toNat x5) Ty.val.dflt)) (Val.columns (List.getD z40 (Int.toNat x5) Ty.val.dflt)) (Val.rows (List.getD z40 (Int.toNat x5) Ty.val.dflt)))) (List.set x0 (Int.toNat x5) (Val.mk x1 (Val.n (List.getD x0 (Int.toNat x5) Ty.val.dflt)) (Val.step (List.getD x0 (Int.toNat x5) Ty.val.dflt)) (Val.text (List.getD x0 (Int.toNat x5) Ty.val.dflt)) (Val.list (List.getD x0 (Int.toNat x5) Ty.val.dflt)) (Val.columns (List.getD x0 (Int.toNat x5) Ty.val.dflt)) (Val.rows (List.getD x0 (Int.toNat x5) Ty.val.dflt))))))))) (Int.toNat x5) Ty.val.dflt)) then
      (yB8 N q0 n ((fun (z45 : List Val) => List.set z45 (Int.toNat x5) (Val.mk (Val.kind (List.getD z45 (Int.toNat x5) Ty.val.dflt)) (Val.n (List.getD z45 (Int.toNat x5) Ty.val.dflt)) (Val.step (List.getD z45 (Int.toNat x5) Ty.val.dflt)) (Val.text (List.getD z45 (Int.toNat x5) Ty.val.dflt)) (Val.list (List.getD z45 (Int.toNat x5) Ty.val.dflt)) (Val.columns (List.getD z45 (Int.toNat x5) Ty.val.dflt)) r4.2)) ((fun (z44 : List Val) => List.set z44 (Int.toNat x5) (Val.mk (Val.kind (List.getD z44 (Int.toNat x5) Ty.val.dflt)) (Val.n (List.getD z44 (Int.toNat x5) Ty.val.dflt)) (Val.step (List.getD z44 (Int.toNat x5) Ty.val.dflt)) (Val.text (List.getD z44 (Int.toNat x5) Ty.val.dflt)) (Val.list (List.getD z44 (Int.toNat x5) Ty.val.dflt)) r3.2 (Val.rows (List.getD z44 (Int.toNat x5) Ty.val.dflt)))) ((fun (z43 : List Val) => List.set z43 (Int.toNat x5) (Val.mk (Val.kind (List.getD z43 (Int.toNat x5) Ty.val.dflt)) (Val.n (List.getD z43 (Int.toNat x5) Ty.val.dflt)) (Val.step (List.getD z43 (Int.toNat x5) Ty.val.dflt)) (Val.text (List.getD z43 (Int.toNat x5) Ty.val.dflt)) r2.2 (Val.columns (List.getD z43 (Int.toNat x5) Ty.val.dflt)) (Val.rows (List.getD z43 (Int.toNat x5) Ty.val.dflt)))) ((fun (z42 : List Val) => List.set z42 (Int.toNat x5) (Val.mk (Val.kind (List.getD z42 (Int.toNat x5) Ty.val.dflt)) (Val.n (List.getD z42 (Int.toNat x5) Ty.val.dflt)) (Val.step (List.getD z42 (Int.toNat x5) Ty.val.dflt)) r1 (Val.list (List.getD z42 (Int.toNat x5) Ty.val.dflt)) (Val.columns (List.getD z42 (Int.toNat x5) Ty.val.dflt)) (Val.rows (List.getD z42 (Int.toNat x5) Ty.val.dflt)))) ((fun (z41 : List Val) => List.set z41 (Int.toNat x5) (Val.mk (Val.kind (List.getD z41 (Int.toNat x5) Ty.val.dflt)) (Val.n (List.getD z41 (Int.toNat x5) Ty.val.dflt)) (IntKind.i64.wrap ((IntKind.i64.wrap (x1 + 1)) + 1)) (Val.text (List.getD z41 (Int.toNat x5) Ty.val.dflt)) (Val.list (List.getD z41 (Int.toNat x5) Ty.val.dflt)) (Val.columns (List.getD z41 (Int.toNat x5) Ty.val.dflt)) (Val.rows (List.getD z41 (Int.toNat x5) Ty.val.dflt)))) ((fun (z40 : List Val) => List.set z40 (Int.toNat x5) (Val.mk (Val.kind (List.getD z40 (Int.toNat x5) Ty.val.dflt)) (IntKind.i64.wrap (x1 + 1)) (Val.step (List.getD z40 (Int.toNat x5) Ty.val.dflt)) (Val.text (List.getD z40 (Int.toNat x5) Ty.val.dflt)) (Val.list (List.getD z40 (Int.toNat x5) Ty.val.dflt)) (Val.columns (List.getD z40 (Int.toNat x5) Ty.val.dflt)) (Val.rows (List.getD z40 (Int.toNat x5) Ty.val.dflt)))) (List.set x0 (Int.toNat x5) (Val.mk x1 (Val.n (List.getD x0 (Int.toNat x5) Ty.val.dflt)) (Val.step (List.getD x0 (Int.toNat x5) Ty.val.dflt)) (Val.text (List.getD x0 (Int.toNat x5) Ty.val.dflt)) (Val.list (List.getD x0 (Int.toNat x5) Ty.val.dflt)) (Val.columns (List.getD x0 (Int.toNat x5) Ty.val.dflt)) (Val.rows (List.getD x0 (Int.toNat x5) Ty.val.dflt)))))))))) r4.1 (IntKind.i64.wrap (x5 + 1)))
      else none
      else none
      else none
      else none
      else none
      else none
      else none
      else none
      else none
      else none
    ) else (
      some (x1, x0)
    )
def yD4 (N : Nat) (q0 : (List Val) → Int → Option (Int × (List Val))) (a0 : List Val) (a1 : Int) : Option (Int × (List Val)) :=
  (yB8 N q0 N a0 a1 0)
def yCF (N : Nat) : Nat → (List Val) → Int → Option (Int × (List Val))
  | 0, _, _ => none
  | d + 1, a0, a1 => yD4 N (yCF N d) a0 a1
def yFA (N : Nat) (a0 : List Val) (a1 : Int) : Option (Int × (List Val)) := yCF N N a0 a1
def yET (a0 : Val) (a1 : Int) : List Arg := [.val (.v true [.int .i64 (Val.kind a0), .int .i64 (Val.n a0), .int .i64 (Val.step a0), .str (Val.text a0), .sl (.lnt 0) .val (Val.list a0), .sl (.lnt 1) .str (Val.columns a0), .sl (.lnt 2) .row (Val.rows a0)]), .val (.v false [.int .i64 a1])]
def yEU (r : Int × (List Val) × (List Str) × (List Rowd)) : CallO := ⟨.v false [.int .i64 r.1], [], [.sl (.lnt 0) .val r.2.1, .sl (.lnt 1) .str r.2.2.1, .sl (.lnt 2) .row r.2.2.2]⟩
def yBC (N : Nat) (a0 : Val) (a1 : Int) : Option (Int × (List Val) × (List Str) × (List Rowd)) :=
  Option.bind (yFA N (Val.list a0) a1) fun r1 =>
  if List.length r1.2 = List.length (Val.list a0) then
  Option.bind (yDs N (Val.columns a0) r1.1) fun r2 =>
  if List.length r2.2 = List.length (Val.columns a0) then
  Option.bind (yEB N (Val.rows a0) r2.1) fun r3 =>
  if List.length r3.2 = List.length (Val.rows a0) then
  some (r3.1, r1.2, r2.2, r3.2)
  else none
  else none
  else none
def yAU (a0 : List Str) (a1 : Int) : List Arg := [.val (.v false [.sl .ro .str a0]), .val (.v false [.int .i64 a1])]
def yAj (r : Int) : CallO := ⟨.v false [.int .i64 r], [], []⟩
def yBr (N : Nat) : Nat → (List Str) → Int → Int → Option (Int)
  | 0, _, _, _ => none
  | n + 1, x0, x1, x5 =>
    bif (decide ((x5 : Int) < (List.length x0 : Int))) then (
      if (0 : Int) ≤ x5 ∧ x5 < (List.length x0) then
      Option.bind (yCj N x1) fun r1 =>
      bif (!(((List.getD x0 (Int.toNat x5) Ty.str.dflt) : Str) == r1)) then (
        some (-1)
      ) else (
        (yBr N n x0 (IntKind.i64.wrap (x1 + 1)) (IntKind.i64.wrap (x5 + 1)))
      )
      else none
    ) else (
      some x1
    )
def yCO (N : Nat) (a0 : List Str) (a1 : Int) : Option (Int) :=
  (yBr N N a0 a1 0)
def yCM (a0 : List Int) (a1 : Int) : List Arg := [.val (.v false [.sl .ro .int a0]), .val (.v false [.int .i64 a1])]
def yAX (r : Int) : CallO := ⟨.v false [.int .i64 r], [], []⟩
def yCN (N : Nat) : Nat → (List Int) → Int → Int → Option (Int)
  | 0, _, _, _ => none
  | n + 1, x0, x1, x5 =>
    bif (decide ((x5 : Int) < (List.length x0 : Int))) then (
      if (0 : Int) ≤ x5 ∧ x5 < (List.length x0) then
      bif (((List.getD x0 (Int.toNat x5) Ty.int.dflt) : Int) != x1) then (
        some (-1)
      ) else (
        (yCN N n x0 (IntKind.i64.wrap (x1 + 1)) (IntKind.i64.wrap (x5 + 1)))
      )
      else none
    ) else (
      some x1
    )
def yFn (N : Nat) (a0 : List Int) (a1 : Int) : Option (Int) :=
  (yCN N N a0 a1 0)
def yCD (a0 : List Org) (a1 : Int) : List Arg := [.val (.v false [.sl .ro .org a0]), .val (.v false [.int .i64 a1])]
def yAK (r : Int) : CallO := ⟨.v false [.int .i64 r], [], []⟩
def yBT (N : Nat) : Nat → (List Org) → Int → Int → Option (Int)
  | 0, _, _, _ => none
  | n + 1, x0, x1, x5 =>
    bif (decide ((x5 : Int) < (List.length x0 : Int))) then (
      if (0 : Int) ≤ x5 ∧ x5 < (List.length x0) then
      bif (((Org.cell (List.getD x0 (Int.toNat x5) Ty.org.dflt)) : Int) != x1) then (
        some (-1)
      ) else (
        bif (((Org.row (List.getD x0 (Int.toNat x5) Ty.org.dflt)) : Int) != (IntKind.i64.wrap (x1 + 1))) then (
          some (-1)
        ) else (
          (yBT N n x0 (IntKind.i64.wrap ((IntKind.i64.wrap (x1 + 1)) + 1)) (IntKind.i64.wrap (x5 + 1)))
        )
      )
      else none
    ) else (
      some x1
    )
def yEg (N : Nat) (a0 : List Org) (a1 : Int) : Option (Int) :=
  (yBT N N a0 a1 0)
def yCc (a0 : List Rowd) (a1 : Int) : List Arg := [.val (.v false [.sl .ro .row a0]), .val (.v false [.int .i64 a1])]
def yAA (r : Int) : CallO := ⟨.v false [.int .i64 r], [], []⟩
def yCd (N : Nat) : Nat → (List Rowd) → Int → Int → Option (Int)
  | 0, _, _, _ => none
  | n + 1, x0, x1, x5 =>
    bif (decide ((x5 : Int) < (List.length x0 : Int))) then (
      if (0 : Int) ≤ x5 ∧ x5 < (List.length x0) then
      Option.bind (yFn N (Rowd.cells (List.getD x0 (Int.toNat x5) Ty.row.dflt)) x1) fun r1 =>
      bif (decide ((r1 : Int) < 0)) then (
        some (-1)
      ) else (
        Option.bind (yEg N (Rowd.frm (List.getD x0 (Int.toNat x5) Ty.row.dflt)) r1) fun r2 =>
        bif (decide ((r2 : Int) < 0)) then (
          some (-1)
        ) else (
          (yCd N n x0 r2 (IntKind.i64.wrap (x5 + 1)))
        )
      )
      else none
    ) else (
      some x1
    )
def yDS (N : Nat) (a0 : List Rowd) (a1 : Int) : Option (Int) :=
  (yCd N N a0 a1 0)
def yAs (a0 : List Val) (a1 : Int) : List Arg := [.val (.v false [.sl .ro .val a0]), .val (.v false [.int .i64 a1])]
def yAe (r : Int) : CallO := ⟨.v false [.int .i64 r], [], []⟩
def yBI (N : Nat) (q0 : (List Val) → Int → Option (Int)) : Nat → (List Val) → Int → Int → Option (Int)
  | 0, _, _, _ => none
  | n + 1, x0, x1, x5 =>
    bif (decide ((x5 : Int) < (List.length x0 : Int))) then (
      if (0 : Int) ≤ x5 ∧ x5 < (List.length x0) then
      bif (((Val.kind (List.getD x0 (Int.toNat x5) Ty.val.dflt)) : Int) != x1) then (
        some (-1)
      ) else (
        bif (((Val.n (List.getD x0 (Int.toNat x5) Ty.val.dflt)) : Int) != (IntKind.i64.wrap (x1 + 1))) then (
          some (-1)
        ) else (
          bif (((Val.step (List.getD x0 (Int.toNat x5) Ty.val.dflt)) : Int) != (IntKind.i64.wrap ((IntKind.i64.wrap (x1 + 1)) + 1))) then (
            some (-1)
          ) else (
            Option.bind (yCj N (IntKind.i64.wrap ((IntKind.i64.wrap ((IntKind.i64.wrap (x1 + 1)) + 1)) + 1))) fun r1 =>
            bif (!(((Val.text (List.getD x0 (Int.toNat x5) Ty.val.dflt)) : Str) == r1)) then (
              some (-1)
            ) else (
              Option.bind (q0 (Val.list (List.getD x0 (Int.toNat x5) Ty.val.dflt)) (IntKind.i64.wrap ((IntKind.i64.wrap ((IntKind.i64.wrap ((IntKind.i64.wrap (x1 + 1)) + 1)) + 1)) + 1))) fun r2 =>
              bif (decide ((r2 : Int) < 0)) then (
                some (-1)
              ) else (
                Option.bind (yCO N (Val.columns (List.getD x0 (Int.toNat x5) Ty.val.dflt)) r2) fun r3 =>
                bif (decide ((r3 : Int) < 0)) then (
                  some (-1)
                ) else (
                  Option.bind (yDS N (Val.rows (List.getD x0 (Int.toNat x5) Ty.val.dflt)) r3) fun r4 =>
                  bif (decide ((r4 : Int) < 0)) then (
                    some (-1)
                  ) else (
                    (yBI N q0 n x0 r4 (IntKind.i64.wrap (x5 + 1)))
                  )
                )
              )
            )
          )
        )
      )
      else none
    ) else (
      some x1
    )
def yC6 (N : Nat) (q0 : (List Val) → Int → Option (Int)) (a0 : List Val) (a1 : Int) : Option (Int) :=
  (yBI N q0 N a0 a1 0)
def yBV (N : Nat) : Nat → (List Val) → Int → Option (Int)
  | 0, _, _ => none
  | d + 1, a0, a1 => yC6 N (yBV N d) a0 a1
def yEA (N : Nat) (a0 : List Val) (a1 : Int) : Option (Int) := yBV N N a0 a1
def yCq (a0 : Val) (a1 : Int) : List Arg := [.val (.v true [.int .i64 (Val.kind a0), .int .i64 (Val.n a0), .int .i64 (Val.step a0), .str (Val.text a0), .sl .ro .val (Val.list a0), .sl .ro .str (Val.columns a0), .sl .ro .row (Val.rows a0)]), .val (.v false [.int .i64 a1])]
def yCr (r : Int) : CallO := ⟨.v false [.int .i64 r], [], []⟩
def yAR (N : Nat) (a0 : Val) (a1 : Int) : Option (Int) :=
  Option.bind (yEA N (Val.list a0) a1) fun r1 =>
  bif (decide ((r1 : Int) < 0)) then (
    some (-1)
  ) else (
    Option.bind (yCO N (Val.columns a0) r1) fun r2 =>
    bif (decide ((r2 : Int) < 0)) then (
      some (-1)
    ) else (
      Option.bind (yDS N (Val.rows a0) r2) fun r3 =>
      bif (decide ((r3 : Int) < 0)) then (
        some (-1)
      ) else (
        some r3
      )
    )
  )
end Go.Ab
end
section
namespace Go.Ab
open Go.Proofs Go.Shelf Go.RowKit Go.Lib
variable {P : Program} {ρ : Ren}
theorem index_one (s : List UInt8) (c : UInt8) : Lib.index s [c] = Lib.indexByte s c := by
  induction s with
  | nil => rfl
  | cons b l ih =>
    unfold Lib.index Lib.indexByte
    rw [ih]
    by_cases h : b = c
    · subst h; simp [List.isPrefixOf]
    · have h2 : ¬ c = b := fun e => h e.symm
      simp [List.isPrefixOf, h, h2]
set_option maxHeartbeats 1000000 in
theorem split_one (L : Lays.n146 P ρ) (hi9 : (P.info? (ρ.t 9)).map (fun i => (i.zero, i.size, i.bytes)) = some (some (.string ByteArray.empty), 1, 16)) (s : ByteArray) (c : UInt8) (w : World) (hs : s.size < 4294967281) :
    Calls P (ρ.f 146) #[.string s, .string ⟨#[c]⟩] w fun e w' =>
      e = .returned (.slice (some ⟨w.heap.size, 0, none⟩) (Lib.countB s ⟨#[c]⟩ + 1) (Lib.countB s ⟨#[c]⟩ + 1)) ∧ w' = w.alloc (.cells ((Lib.splitB ⟨#[c]⟩ 0 (Lib.countB s ⟨#[c]⟩) s).map Value.string).toArray (ρ.t 9)) := by
  have h1 : 1 ≤ (⟨#[c]⟩ : ByteArray).size := Nat.le_refl 1
  have hle := Lib.countB_le ⟨#[c]⟩ h1 s.size s (Nat.le_refl _)
  have hlen := Lib.splitB_all ⟨#[c]⟩ h1 0 _ s rfl
  have hI : ∀ (x : ByteArray) (cc : Array Value), x.size ≤ s.size → Calls P (ρ.f 143) #[.string x, .string ⟨#[c]⟩] (w.alloc (.cells cc (ρ.t 9))) fun e w' => e = .returned (.int .i64 (Lib.indexB x ⟨#[c]⟩)) ∧ w' = w.alloc (.cells cc (ρ.t 9)) := by
    intro x cc _
    refine (Any.strings_Index_one { L with } x c _).mono fun e w' ⟨he, hw⟩ => ⟨?_, hw⟩
    rw [he]
    show _ = Ending.returned (Value.int .i64 (Lib.index x.data.toList [c]))
    rw [index_one]
  have hC : Calls P (ρ.f 138) #[.string s, .string ⟨#[c]⟩] w fun e w' => e = .returned (.int .i64 (Lib.countB s ⟨#[c]⟩)) ∧ w' = w := by
    refine (Any.strings_Count_one { L with } s c w).mono fun e w' ⟨he, hw⟩ => ⟨?_, hw⟩
    rw [he]
    show _ = Ending.returned (Value.int .i64 ((Lib.count s.data.toList [c] : Nat) : Int))
    rw [Lib.count_one]
    rfl
  have cc := Any.strings_genSplit_core { L with } hi9 s ⟨#[c]⟩ 0 (-1) (Lib.countB s ⟨#[c]⟩ + 1) w hs h1 (Nat.zero_le _) hI hC (by decide) (by decide) (by rw [if_pos (by decide)]; omega)
  rw [Nat.add_sub_cancel, hlen] at cc
  have e2 : Lib.cellsOf (Lib.splitB ⟨#[c]⟩ 0 (Lib.countB s ⟨#[c]⟩) s) (Lib.countB s ⟨#[c]⟩ + 1) = ((Lib.splitB ⟨#[c]⟩ 0 (Lib.countB s ⟨#[c]⟩) s).map Value.string).toArray := by rw [← hlen]; exact Lib.cellsOf_full _
  rw [e2] at cc
  have t3 := L.t3; have t9 := L.t9; have t31 := L.t31
  have a3 := L.a3; have a9 := L.a9; have a31 := L.a31
  have z3 := L.z3; have v3 := L.v3; have z9 := L.z9; have v9 := L.v9; have z31 := L.z31; have v31 := L.v31
  have e221 : ∀ args w, (callFunc (ρ.f 221) args).run P w = .ok (.enter (ρ.f 221) args) w := enters_of L.f221 (by kernel_rfl) rfl
  go_enter L.f146, Body.n146_ntmps ρ
  go_wp2_with (go_at_fn (ρ.f 221); refine cc.mono ?_; rintro e w' ⟨rfl, hw⟩; rw [hw])
  go_ret
  exact ⟨rfl, rfl⟩
theorem enter_Split (L : Lays.n146 P ρ) : ∀ args w, (callFunc (ρ.f 146) args).run P w = .ok (.enter (ρ.f 146) args) w := enters_of L.f146 (by kernel_rfl) rfl
end Go.Ab
end
section
namespace Go.Proofs
open Go.Shelf
def Tryd.lays146_ren : Go.Shelf.Ren := ⟨fun | 146 => 71 | 221 => 117 | 268 => 136 | 138 => 137 | 143 => 138 | 195 => 146 | 197 => 147 | 218 => 148 | 219 => 149 | 260 => 156 | 217 => 157 | 225 => 158 | 224 => 159 | 267 => 160 | 266 => 166 | 314 => 167 | n => n, fun | 9 => 9 | 31 => 23 | 3 => 3 | 4 => 4 | 0 => 0 | 105 => 133 | 21 => 21 | 5 => 5 | 46 => 146 | 119 => 152 | 139 => 155 | 138 => 154 | 146 => 156 | 51 => 149 | n => n, fun | 1 => 1 | 3 => 3 | 4 => 4 | n => n⟩
theorem Tryd.lays146 : Go.Proofs.Lays.n146 Tryd.prog Tryd.lays146_ren := {
  mixed := by kernel_rfl
  f138 := Tryd.func137.trans (congrArg some (by kernel_rfl))
  f143 := Tryd.func138.trans (congrArg some (by kernel_rfl))
  f146 := Tryd.func71.trans (congrArg some (by kernel_rfl))
  f195 := Tryd.func146.trans (congrArg some (by kernel_rfl))
  f197 := Tryd.func147.trans (congrArg some (by kernel_rfl))
  f217 := Tryd.func157.trans (congrArg some (by kernel_rfl))
  f218 := Tryd.func148.trans (congrArg some (by kernel_rfl))
  f219 := Tryd.func149.trans (congrArg some (by kernel_rfl))
  f221 := Tryd.func117.trans (congrArg some (by kernel_rfl))
  f224 := Tryd.func159.trans (congrArg some (by kernel_rfl))
  f225 := Tryd.func158.trans (congrArg some (by kernel_rfl))
  f260 := Tryd.func156.trans (congrArg some (by kernel_rfl))
  f266 := Tryd.func166.trans (congrArg some (by kernel_rfl))
  f267 := Tryd.func160.trans (congrArg some (by kernel_rfl))
  f268 := Tryd.func136.trans (congrArg some (by kernel_rfl))
  f314 := Tryd.func167.trans (congrArg some (by kernel_rfl))
  t0 := Tryd.underlying0
  a0 := Tryd.isAgg0
  z0 := Tryd.sizeOf0
  v0 := Tryd.zeroValue0
  t3 := Tryd.underlying3
  a3 := Tryd.isAgg3
  z3 := Tryd.sizeOf3
  v3 := Tryd.zeroValue3
  t4 := Tryd.underlying4
  a4 := Tryd.isAgg4
  z4 := Tryd.sizeOf4
  v4 := Tryd.zeroValue4
  t5 := Tryd.underlying5
  a5 := Tryd.isAgg5
  z5 := Tryd.sizeOf5
  v5 := Tryd.zeroValue5
  t9 := Tryd.underlying9
  a9 := Tryd.isAgg9
  z9 := Tryd.sizeOf9
  v9 := Tryd.zeroValue9
  t21 := Tryd.underlying21
  a21 := Tryd.isAgg21
  z21 := Tryd.sizeOf21
  v21 := Tryd.zeroValue21
  t31 := Tryd.underlying23
  a31 := Tryd.isAgg23
  z31 := Tryd.sizeOf23
  v31 := Tryd.zeroValue23
  t46 := Tryd.underlying146
  a46 := Tryd.isAgg146
  z46 := Tryd.sizeOf146
  v46 := Tryd.zeroValue146
  t51 := Tryd.underlying149
  a51 := Tryd.isAgg149
  z51 := Tryd.sizeOf149
  v51 := Tryd.zeroValue149
  t105 := Tryd.underlying133
  a105 := Tryd.isAgg133
  z105 := Tryd.sizeOf133
  v105 := Tryd.zeroValue133
  t119 := Tryd.underlying152
  a119 := Tryd.isAgg152
  z119 := Tryd.sizeOf152
  t138 := Tryd.underlying154
  a138 := Tryd.isAgg154
  z138 := Tryd.sizeOf154
  v138 := Tryd.zeroValue154
  t139 := Tryd.underlying155
  a139 := Tryd.isAgg155
  z139 := Tryd.sizeOf155
  v139 := Tryd.zeroValue155
  t146 := Tryd.underlying156
  a146 := Tryd.isAgg156
  z146 := Tryd.sizeOf156
  v146 := Tryd.zeroValue156
  g1 := by kernel_rfl
  g3 := by kernel_rfl
  g4 := by kernel_rfl }
end Go.Proofs
end
section
open Go.Proofs
namespace Go.Ab.T
abbrev AbC (f : FuncId) (a : List Arg) (r : CallO) : Prop := AbsCalls Tryd.prog f a r
abbrev W (x : Int) : Int := IntKind.i64.wrap x
abbrev Ln {α : Type} (l : List α) : Nat := List.length l
abbrev tN (x : Int) : Nat := Int.toNat x
abbrev gD {α : Type} (l : List α) (i : Nat) (d : α) : α := List.getD l i d
abbrev vd : Val := Ty.val.dflt
abbrev rd : Rowd := Ty.row.dflt
end Go.Ab.T
end
section
open Go.Proofs
namespace Go.Ab.T
set_option linter.unusedVariables false
set_option maxRecDepth 100000
def tt : TT := [(3, { zero := some [.int .i64 0], ik := some .i64 }),
 (4, { zero := some [.bool false], isBool := true }),
 (5, { zero := some [.int .u8 0], ik := some .u8 }),
 (9, { zero := some [.str []], isStr := true }),
 (22, { zero := some [.sl .own .val []], elem := some (26, .val) }),
 (23, { zero := some [.sl .own .str []], elem := some (9, .str) }),
 (24, { zero := some [.sl .own .row []], elem := some (85, .row) }),
 (26, { sz := 7, agg := true, zero := some [.int .i64 0, .int .i64 0, .int .i64 0, .str [], .sl .own .val [], .sl .own .str [], .sl .own .row []], offs := [0, 1, 2, 3, 4, 5, 6], fsz := [1, 1, 1, 1, 1, 1, 1] }),
 (28, { zero := some [.sl .own .val []], elem := some (31, .val) }),
 (29, { zero := some [.sl .own .row []], elem := some (63, .row) }),
 (31, { sz := 7, agg := true, zero := some [.int .i64 0, .int .i64 0, .int .i64 0, .str [], .sl .own .val [], .sl .own .str [], .sl .own .row []], offs := [0, 1, 2, 3, 4, 5, 6], fsz := [1, 1, 1, 1, 1, 1, 1] }),
 (55, { zero := some [.sl .own .int []], elem := some (3, .int) }),
 (61, { zero := some [.sl .own .org []], elem := some (112, .org) }),
 (63, { sz := 2, agg := true, zero := some [.sl .own .int [], .sl .own .org []], offs := [0, 1], fsz := [1, 1] }),
 (83, { zero := some [.sl .own .org []], elem := some (127, .org) }),
 (85, { sz := 2, agg := true, zero := some [.sl .own .int [], .sl .own .org []], offs := [0, 1], fsz := [1, 1] }),
 (92, { zero := some [.sl .own .byte []], elem := some (5, .byte) }),
 (112, { sz := 2, agg := true, zero := some [.int .i64 0, .int .i64 0], offs := [0, 1], fsz := [1, 1] }),
 (127, { sz := 2, agg := true, zero := some [.int .i64 0, .int .i64 0], offs := [0, 1], fsz := [1, 1] })]
theorem ttok : TTok Tryd.prog tt := ttChk_ok (by kernel_rfl)
theorem mix : Tryd.prog.follows .mixedOrders = true := by kernel_rfl
def F : Bool := false
def Y : Bool := true
noncomputable def rE (I : Info) (ag : List Arg) (bs : List Bool) (cs : List CallO) : Option Res := run tt (AbsCalls Tryd.prog) I 3000 false [.code I.body] ⟨zBm 0 ag, bs, cs, []⟩
noncomputable def rS (k : Nat) (I : Info) (σ : St) (bs : List Bool) (cs : List CallO) : Option Res := run tt (AbsCalls Tryd.prog) I 3000 true (stkAt k I.body) ⟨σ, bs, cs, []⟩
noncomputable def dn (r : CallO) (ob : List Prop) : Option Res := some (.done r ob)
noncomputable def st (k : Nat) (I : Info) (σ : St) (ob : List Prop) : Option Res := some (.stop (stkAt k I.body) σ ob)
def RE (fn : Func) (I : Info) (ag : List Arg) (r : CallO) : Prop := Reach Tryd.prog fn I [.code I.body] (zBm 0 ag) r
def RS (fn : Func) (I : Info) (k : Nat) (σ : St) (r : CallO) : Prop := Reach Tryd.prog fn I (stkAt k I.body) σ r
section
variable {ρ : Type} {f : FuncId} {fn : Func} {I : Info} {ag : List Arg} {bs : List Bool} {cs : List CallO} {k j : Nat} {σ σ' : St} {ob : List Prop} {ro : ρ → CallO} {x r : ρ} {q : CallO}
theorem dE (e : some x = some r) (hf : FnOk Tryd.prog f fn I) (h : rE I ag bs cs = dn (ro x) ob) (o : ∀ p ∈ ob, p) : RE fn I ag (ro r) := by
 cases e; exact Reach.done ttok mix hf h o
theorem dS (e : some x = some r) (hf : FnOk Tryd.prog f fn I) (h : rS k I σ bs cs = dn (ro x) ob) (o : ∀ p ∈ ob, p) : RS fn I k σ (ro r) := by
 cases e; exact Reach.done ttok mix hf h o
theorem tE (hf : FnOk Tryd.prog f fn I) (h : rE I ag bs cs = st k I σ ob) (o : ∀ p ∈ ob, p) (t : RS fn I k σ q) : RE fn I ag q := Reach.stop ttok mix hf h o t
theorem tS (hf : FnOk Tryd.prog f fn I) (h : rS j I σ' bs cs = st k I σ ob) (o : ∀ p ∈ ob, p) (t : RS fn I k σ q) : RS fn I j σ' q := Reach.stop ttok mix hf h o t
end
theorem oc {p : Prop} {l : List Prop} (h : p) (t : ∀ q ∈ l, q) : ∀ q ∈ p :: l, q := obs_cons h t
theorem on : ∀ q ∈ ([] : List Prop), q := obs_nil
theorem cE {α : Type} {C : Prop} {b : Bool} {x y : Option α} {r : α} (h : cond b x y = some r) (f : b = true → x = some r → C) (g : b = false → y = some r → C) : C := (cond_inv h).elim (fun h => f h.1 h.2) fun h => g h.1 h.2
theorem bE {α β : Type} {C : Prop} {o : Option α} {f : α → Option β} {r : β} (h : Option.bind o f = some r) (g : ∀ a, o = some a → f a = some r → C) : C := (bind_inv h).elim fun a h => g a h.1 h.2
theorem iE {α : Type} {C p : Prop} [Decidable p] {x : Option α} {r : α} (h : (if p then x else none) = some r) (g : p → x = some r → C) : C := (ite_inv h).elim g
theorem nE {α : Type} {C : Prop} {r : α} (h : none = some r) : C := nomatch h
noncomputable def yGG : Info := { body := (Tryd.f41.body).getD .skip, nt := 63, results := [.tmp 4], keep := [0, 2, 8, 10, 18], live := [(2, [0, 2, 10])], modes := [] }
theorem fk1000041 : FnOk Tryd.prog 41 Tryd.f41 yGG := ⟨Tryd.func41, by kernel_rfl, by kernel_rfl, by kernel_rfl, by kernel_rfl⟩
def S1000041_2 (x1 x5 : Int) : St := [(0, .v false [.sl .ro .val []]), (2, .v false [.int .i64 x1]), (10, .v false [.int .i64 x5])]
theorem p1000041_2_0 (x1 x5 : Int) : rS 2 yGG (S1000041_2 x1 x5) [F] [] = dn (yBL x1) [(decide ((x5 : Int) < (0 : Int))) = false] := by kernel_rfl
theorem p1000041_e_1 (a0 : List Val) (a1 : Int) : rE yGG (yC7 a0 a1) [] [] = st 2 yGG (S1000041_2 a1 0) [] := by kernel_rfl
theorem c1000041_2 {N : Nat} : ∀ n x1 x5 r, yD3 N n x1 x5 = some r → RS Tryd.f41 yGG 2 (S1000041_2 x1 x5) (yBL r) := by
 intro n
 induction n with
 | zero => exact fun _ _ _ h => nE h
 | succ n ih =>
  exact fun x1 x5 r h =>
   cE h (fun h0 h => iE h fun h1 h => nE h) fun h0 h =>
   dS h fk1000041 (p1000041_2_0 x1 x5) (oc h0 on)
theorem c1000041_e {N : Nat} : ∀ a0 a1 r, yDT N a0 a1 = some r → RE Tryd.f41 yGG (yC7 a0 a1) (yBL r) := fun a0 a1 r h =>
 tE fk1000041 (p1000041_e_1 a0 a1) on (c1000041_2 _ _ _ _ h)
theorem yGO {N : Nat} {a0 : List Val} {a1 : Int} {r : Int} (h : yDT N  a0 a1 = some r) : AbC 41 (yC7 a0 a1) (yBL r) :=
 AbsCalls.of_reach fk1000041 rfl rfl (Nat.le_of_ble_eq_true rfl) (c1000041_e a0 a1 r h)
noncomputable def I24 : Info := { body := (Tryd.f24.body).getD .skip, nt := 28, results := [.tmp 4], keep := [0, 2, 8, 10, 22, 30, 52], live := [(5, [0, 2, 10])], modes := [] }
theorem fk24 : FnOk Tryd.prog 24 Tryd.f24 I24 := ⟨Tryd.func24, by kernel_rfl, by kernel_rfl, by kernel_rfl, by kernel_rfl⟩
def S24_5 (x0 : List Str) (x1 x5 : Int) : St := [(0, .v false [.sl .ro .str x0]), (2, .v false [.int .i64 x1]), (10, .v false [.int .i64 x5])]
theorem p24_5_0 (x0 : List Str) (x1 x5 : Int) : rS 5 I24 (S24_5 x0 x1 x5) [Y, Y] [] = dn (yAG (-1)) [(decide ((x5 : Int) < (Ln x0 : Int))) = true, (0 : Int) ≤ x5 ∧ x5 < (Ln x0), (decide (((W (x1 - (Ln (gD x0 (tN x5) Ty.str.dflt) : Int))) : Int) < 0)) = true] := by kernel_rfl
theorem p24_5_1 (x0 : List Str) (x1 x5 : Int) : rS 5 I24 (S24_5 x0 x1 x5) [Y, F] [] = st 5 I24 (S24_5 x0 (W (x1 - (Ln (gD x0 (tN x5) Ty.str.dflt) : Int))) (W (x5 + 1))) [(decide ((x5 : Int) < (Ln x0 : Int))) = true, (0 : Int) ≤ x5 ∧ x5 < (Ln x0), (decide (((W (x1 - (Ln (gD x0 (tN x5) Ty.str.dflt) : Int))) : Int) < 0)) = false] := by kernel_rfl
theorem p24_5_2 (x0 : List Str) (x1 x5 : Int) : rS 5 I24 (S24_5 x0 x1 x5) [F] [] = dn (yAG x1) [(decide ((x5 : Int) < (Ln x0 : Int))) = false] := by kernel_rfl
theorem p24_e_3 (a0 : List Str) (a1 : Int) : rE I24 (yBZ a0 a1) [Y] [] = dn (yAG (-1)) [(decide (((W (a1 - (Ln a0 : Int))) : Int) < 0)) = true] := by kernel_rfl
theorem p24_e_4 (a0 : List Str) (a1 : Int) : rE I24 (yBZ a0 a1) [F] [] = st 5 I24 (S24_5 a0 (W (a1 - (Ln a0 : Int))) 0) [(decide (((W (a1 - (Ln a0 : Int))) : Int) < 0)) = false] := by kernel_rfl
theorem c24_5 {N : Nat} : ∀ n x0 x1 x5 r, yDU N n x0 x1 x5 = some r → RS Tryd.f24 I24 5 (S24_5 x0 x1 x5) (yAG r) := by
 intro n
 induction n with
 | zero => exact fun _ _ _ _ h => nE h
 | succ n ih =>
  exact fun x0 x1 x5 r h =>
   cE h (fun h0 h => iE h fun h1 h => cE h (fun h2 h => dS h fk24 (p24_5_0 x0 x1 x5) (oc h0 (oc h1 (oc h2 on)))) fun h2 h =>
   tS fk24 (p24_5_1 x0 x1 x5) (oc h0 (oc h1 (oc h2 on))) (ih _ _ _ _ h)) fun h0 h =>
   dS h fk24 (p24_5_2 x0 x1 x5) (oc h0 on)
theorem c24_e {N : Nat} : ∀ a0 a1 r, yE7 N a0 a1 = some r → RE Tryd.f24 I24 (yBZ a0 a1) (yAG r) := fun a0 a1 r h =>
 cE h (fun h0 h => dE h fk24 (p24_e_3 a0 a1) (oc h0 on)) fun h0 h =>
 tE fk24 (p24_e_4 a0 a1) (oc h0 on) (c24_5 _ _ _ _ _ h)
theorem yEV {N : Nat} {a0 : List Str} {a1 : Int} {r : Int} (h : yE7 N  a0 a1 = some r) : AbC 24 (yBZ a0 a1) (yAG r) :=
 AbsCalls.of_reach fk24 rfl rfl (Nat.le_of_ble_eq_true rfl) (c24_e a0 a1 r h)
noncomputable def I111 : Info := { body := (Tryd.f111.body).getD .skip, nt := 12, results := [.tmp 4], keep := [0, 2, 8, 20], live := [], modes := [] }
theorem fk111 : FnOk Tryd.prog 111 Tryd.f111 I111 := ⟨Tryd.func111, by kernel_rfl, by kernel_rfl, by kernel_rfl, by kernel_rfl⟩
theorem p111_e_0 (a0 : List Int) (a1 : Int) : rE I111 (yC4 a0 a1) [Y] [] = dn (yBD (-1)) [(decide (((W (a1 - (Ln a0 : Int))) : Int) < 0)) = true] := by kernel_rfl
theorem p111_e_1 (a0 : List Int) (a1 : Int) : rE I111 (yC4 a0 a1) [F] [] = dn (yBD (W (a1 - (Ln a0 : Int)))) [(decide (((W (a1 - (Ln a0 : Int))) : Int) < 0)) = false] := by kernel_rfl
theorem c111_e {N : Nat} : ∀ a0 a1 r, yGf N a0 a1 = some r → RE Tryd.f111 I111 (yC4 a0 a1) (yBD r) := fun a0 a1 r h =>
 cE h (fun h0 h => dE h fk111 (p111_e_0 a0 a1) (oc h0 on)) fun h0 h =>
 dE h fk111 (p111_e_1 a0 a1) (oc h0 on)
theorem yFZ {N : Nat} {a0 : List Int} {a1 : Int} {r : Int} (h : yGf N  a0 a1 = some r) : AbC 111 (yC4 a0 a1) (yBD r) :=
 AbsCalls.of_reach fk111 rfl rfl (Nat.le_of_ble_eq_true rfl) (c111_e a0 a1 r h)
noncomputable def I112 : Info := { body := (Tryd.f112.body).getD .skip, nt := 12, results := [.tmp 4], keep := [0, 2, 8, 20], live := [], modes := [] }
theorem fk112 : FnOk Tryd.prog 112 Tryd.f112 I112 := ⟨Tryd.func112, by kernel_rfl, by kernel_rfl, by kernel_rfl, by kernel_rfl⟩
theorem p112_e_0 (a0 : List Org) (a1 : Int) : rE I112 (yCs a0 a1) [Y] [] = dn (yBy (-1)) [(decide (((W (a1 - (Ln a0 : Int))) : Int) < 0)) = true] := by kernel_rfl
theorem p112_e_1 (a0 : List Org) (a1 : Int) : rE I112 (yCs a0 a1) [F] [] = dn (yBy (W (a1 - (Ln a0 : Int)))) [(decide (((W (a1 - (Ln a0 : Int))) : Int) < 0)) = false] := by kernel_rfl
theorem c112_e {N : Nat} : ∀ a0 a1 r, yE5 N a0 a1 = some r → RE Tryd.f112 I112 (yCs a0 a1) (yBy r) := fun a0 a1 r h =>
 cE h (fun h0 h => dE h fk112 (p112_e_0 a0 a1) (oc h0 on)) fun h0 h =>
 dE h fk112 (p112_e_1 a0 a1) (oc h0 on)
theorem yF3 {N : Nat} {a0 : List Org} {a1 : Int} {r : Int} (h : yE5 N  a0 a1 = some r) : AbC 112 (yCs a0 a1) (yBy r) :=
 AbsCalls.of_reach fk112 rfl rfl (Nat.le_of_ble_eq_true rfl) (c112_e a0 a1 r h)
noncomputable def I65 : Info := { body := (Tryd.f65.body).getD .skip, nt := 18, results := [.tmp 4], keep := [0, 2, 4, 8, 20, 32, 5], live := [], modes := [] }
theorem fk65 : FnOk Tryd.prog 65 Tryd.f65 I65 := ⟨Tryd.func65, by kernel_rfl, by kernel_rfl, by kernel_rfl, by kernel_rfl⟩
theorem p65_e_0 (a0 : Rowd) (a1 r1 : Int) : rE I65 (yDm a0 a1) [Y] [yBD r1] = dn (yCk (-1)) [AbC 111 (yC4 (Rowd.cells a0) a1) (yBD r1), (decide ((r1 : Int) < 0)) = true] := by kernel_rfl
theorem p65_e_1 (a0 : Rowd) (a1 r1 r2 : Int) : rE I65 (yDm a0 a1) [F, Y] [yBD r1, yBy r2] = dn (yCk (-1)) [AbC 111 (yC4 (Rowd.cells a0) a1) (yBD r1), (decide ((r1 : Int) < 0)) = false, AbC 112 (yCs (Rowd.frm a0) r1) (yBy r2), (decide ((r2 : Int) < 0)) = true] := by kernel_rfl
theorem p65_e_2 (a0 : Rowd) (a1 r1 r2 : Int) : rE I65 (yDm a0 a1) [F, F] [yBD r1, yBy r2] = dn (yCk r2) [AbC 111 (yC4 (Rowd.cells a0) a1) (yBD r1), (decide ((r1 : Int) < 0)) = false, AbC 112 (yCs (Rowd.frm a0) r1) (yBy r2), (decide ((r2 : Int) < 0)) = false] := by kernel_rfl
theorem c65_e {N : Nat} : ∀ a0 a1 r, yF4 N a0 a1 = some r → RE Tryd.f65 I65 (yDm a0 a1) (yCk r) := fun a0 a1 r h =>
 bE h fun r1 h0 h => cE h (fun h1 h => dE h fk65 (p65_e_0 a0 a1 r1) (oc (yFZ h0) (oc h1 on))) fun h1 h =>
 bE h fun r2 h2 h => cE h (fun h3 h => dE h fk65 (p65_e_1 a0 a1 r1 r2) (oc (yFZ h0) (oc h1 (oc (yF3 h2) (oc h3 on))))) fun h3 h =>
 dE h fk65 (p65_e_2 a0 a1 r1 r2) (oc (yFZ h0) (oc h1 (oc (yF3 h2) (oc h3 on))))
theorem laws_szRow_ok {N : Nat} {a0 : Rowd} {a1 : Int} {r : Int} (h : yF4 N  a0 a1 = some r) : AbC 65 (yDm a0 a1) (yCk r) :=
 AbsCalls.of_reach fk65 rfl rfl (Nat.le_of_ble_eq_true rfl) (c65_e a0 a1 r h)
noncomputable def I25 : Info := { body := (Tryd.f25.body).getD .skip, nt := 27, results := [.tmp 4], keep := [0, 2, 8, 10, 22, 30, 50], live := [(5, [0, 2, 10])], modes := [] }
theorem fk25 : FnOk Tryd.prog 25 Tryd.f25 I25 := ⟨Tryd.func25, by kernel_rfl, by kernel_rfl, by kernel_rfl, by kernel_rfl⟩
def S25_5 (x0 : List Rowd) (x1 x5 : Int) : St := [(0, .v false [.sl .ro .row x0]), (2, .v false [.int .i64 x1]), (10, .v false [.int .i64 x5])]
theorem p25_5_0 (x0 : List Rowd) (x1 x5 r1 : Int) : rS 5 I25 (S25_5 x0 x1 x5) [Y, Y] [yCk r1] = dn (yBE (-1)) [(decide ((x5 : Int) < (Ln x0 : Int))) = true, (0 : Int) ≤ x5 ∧ x5 < (Ln x0), AbC 65 (yDm (gD x0 (tN x5) rd) x1) (yCk r1), (decide ((r1 : Int) < 0)) = true] := by kernel_rfl
theorem p25_5_1 (x0 : List Rowd) (x1 x5 r1 : Int) : rS 5 I25 (S25_5 x0 x1 x5) [Y, F] [yCk r1] = st 5 I25 (S25_5 x0 r1 (W (x5 + 1))) [(decide ((x5 : Int) < (Ln x0 : Int))) = true, (0 : Int) ≤ x5 ∧ x5 < (Ln x0), AbC 65 (yDm (gD x0 (tN x5) rd) x1) (yCk r1), (decide ((r1 : Int) < 0)) = false] := by kernel_rfl
theorem p25_5_2 (x0 : List Rowd) (x1 x5 : Int) : rS 5 I25 (S25_5 x0 x1 x5) [F] [] = dn (yBE x1) [(decide ((x5 : Int) < (Ln x0 : Int))) = false] := by kernel_rfl
theorem p25_e_3 (a0 : List Rowd) (a1 : Int) : rE I25 (yDA a0 a1) [Y] [] = dn (yBE (-1)) [(decide (((W (a1 - (Ln a0 : Int))) : Int) < 0)) = true] := by kernel_rfl
theorem p25_e_4 (a0 : List Rowd) (a1 : Int) : rE I25 (yDA a0 a1) [F] [] = st 5 I25 (S25_5 a0 (W (a1 - (Ln a0 : Int))) 0) [(decide (((W (a1 - (Ln a0 : Int))) : Int) < 0)) = false] := by kernel_rfl
theorem c25_5 {N : Nat} : ∀ n x0 x1 x5 r, yE6 N n x0 x1 x5 = some r → RS Tryd.f25 I25 5 (S25_5 x0 x1 x5) (yBE r) := by
 intro n
 induction n with
 | zero => exact fun _ _ _ _ h => nE h
 | succ n ih =>
  exact fun x0 x1 x5 r h =>
   cE h (fun h0 h => iE h fun h1 h => bE h fun r1 h2 h => cE h (fun h3 h => dS h fk25 (p25_5_0 x0 x1 x5 r1) (oc h0 (oc h1 (oc (laws_szRow_ok h2) (oc h3 on))))) fun h3 h =>
   tS fk25 (p25_5_1 x0 x1 x5 r1) (oc h0 (oc h1 (oc (laws_szRow_ok h2) (oc h3 on)))) (ih _ _ _ _ h)) fun h0 h =>
   dS h fk25 (p25_5_2 x0 x1 x5) (oc h0 on)
theorem c25_e {N : Nat} : ∀ a0 a1 r, yGg N a0 a1 = some r → RE Tryd.f25 I25 (yDA a0 a1) (yBE r) := fun a0 a1 r h =>
 cE h (fun h0 h => dE h fk25 (p25_e_3 a0 a1) (oc h0 on)) fun h0 h =>
 tE fk25 (p25_e_4 a0 a1) (oc h0 on) (c25_5 _ _ _ _ _ h)
theorem yGV {N : Nat} {a0 : List Rowd} {a1 : Int} {r : Int} (h : yGg N  a0 a1 = some r) : AbC 25 (yDA a0 a1) (yBE r) :=
 AbsCalls.of_reach fk25 rfl rfl (Nat.le_of_ble_eq_true rfl) (c25_e a0 a1 r h)
def G7 (q : Val → Int → Option (Int)) : Prop := ∀ a0 a1 r, q a0 a1 = some r → AbC 7 (yA4 a0 a1) (yAM r)
def G23 (q : (List Val) → Int → Option (Int)) : Prop := ∀ a0 a1 r, q a0 a1 = some r → AbC 23 (yBm a0 a1) (yAv r)
noncomputable def I7 : Info := { body := (Tryd.f7.body).getD .skip, nt := 31, results := [.tmp 4], keep := [0, 2, 4, 8, 22, 34, 46, 58, 5], live := [], modes := [] }
theorem fk7 : FnOk Tryd.prog 7 Tryd.f7 I7 := ⟨Tryd.func7, by kernel_rfl, by kernel_rfl, by kernel_rfl, by kernel_rfl⟩
theorem p7_e_0 (a0 : Val) (a1 : Int) : rE I7 (yA4 a0 a1) [Y] [] = dn (yAM (-1)) [(decide (((W (a1 - (Ln (Val.text a0) : Int))) : Int) < 0)) = true] := by kernel_rfl
theorem p7_e_1 (a0 : Val) (a1 r1 : Int) : rE I7 (yA4 a0 a1) [F, Y] [yAv r1] = dn (yAM (-1)) [(decide (((W (a1 - (Ln (Val.text a0) : Int))) : Int) < 0)) = false, AbC 23 (yBm (Val.list a0) (W (a1 - (Ln (Val.text a0) : Int)))) (yAv r1), (decide ((r1 : Int) < 0)) = true] := by kernel_rfl
theorem p7_e_2 (a0 : Val) (a1 r1 r2 : Int) : rE I7 (yA4 a0 a1) [F, F, Y] [yAv r1, yAG r2] = dn (yAM (-1)) [(decide (((W (a1 - (Ln (Val.text a0) : Int))) : Int) < 0)) = false, AbC 23 (yBm (Val.list a0) (W (a1 - (Ln (Val.text a0) : Int)))) (yAv r1), (decide ((r1 : Int) < 0)) = false, AbC 24 (yBZ (Val.columns a0) r1) (yAG r2), (decide ((r2 : Int) < 0)) = true] := by kernel_rfl
theorem p7_e_3 (a0 : Val) (a1 r1 r2 r3 : Int) : rE I7 (yA4 a0 a1) [F, F, F, Y] [yAv r1, yAG r2, yBE r3] = dn (yAM (-1)) [(decide (((W (a1 - (Ln (Val.text a0) : Int))) : Int) < 0)) = false, AbC 23 (yBm (Val.list a0) (W (a1 - (Ln (Val.text a0) : Int)))) (yAv r1), (decide ((r1 : Int) < 0)) = false, AbC 24 (yBZ (Val.columns a0) r1) (yAG r2), (decide ((r2 : Int) < 0)) = false, AbC 25 (yDA (Val.rows a0) r2) (yBE r3), (decide ((r3 : Int) < 0)) = true] := by kernel_rfl
theorem p7_e_4 (a0 : Val) (a1 r1 r2 r3 : Int) : rE I7 (yA4 a0 a1) [F, F, F, F] [yAv r1, yAG r2, yBE r3] = dn (yAM r3) [(decide (((W (a1 - (Ln (Val.text a0) : Int))) : Int) < 0)) = false, AbC 23 (yBm (Val.list a0) (W (a1 - (Ln (Val.text a0) : Int)))) (yAv r1), (decide ((r1 : Int) < 0)) = false, AbC 24 (yBZ (Val.columns a0) r1) (yAG r2), (decide ((r2 : Int) < 0)) = false, AbC 25 (yDA (Val.rows a0) r2) (yBE r3), (decide ((r3 : Int) < 0)) = false] := by kernel_rfl
theorem c7_e {N : Nat} {q0 : Val → Int → Option (Int)} (g0 : G7 q0) {q1 : (List Val) → Int → Option (Int)} (g1 : G23 q1) : ∀ a0 a1 r, yEW N q0 q1 a0 a1 = some r → RE Tryd.f7 I7 (yA4 a0 a1) (yAM r) := fun a0 a1 r h =>
 cE h (fun h0 h => dE h fk7 (p7_e_0 a0 a1) (oc h0 on)) fun h0 h =>
 bE h fun r1 h1 h => cE h (fun h2 h => dE h fk7 (p7_e_1 a0 a1 r1) (oc h0 (oc (g1 _ _ _ h1) (oc h2 on)))) fun h2 h =>
 bE h fun r2 h3 h => cE h (fun h4 h => dE h fk7 (p7_e_2 a0 a1 r1 r2) (oc h0 (oc (g1 _ _ _ h1) (oc h2 (oc (yEV h3) (oc h4 on)))))) fun h4 h =>
 bE h fun r3 h5 h => cE h (fun h6 h => dE h fk7 (p7_e_3 a0 a1 r1 r2 r3) (oc h0 (oc (g1 _ _ _ h1) (oc h2 (oc (yEV h3) (oc h4 (oc (yGV h5) (oc h6 on)))))))) fun h6 h =>
 dE h fk7 (p7_e_4 a0 a1 r1 r2 r3) (oc h0 (oc (g1 _ _ _ h1) (oc h2 (oc (yEV h3) (oc h4 (oc (yGV h5) (oc h6 on)))))))
theorem yGP {N : Nat} {q0 : Val → Int → Option (Int)} (g0 : G7 q0) {q1 : (List Val) → Int → Option (Int)} (g1 : G23 q1) {a0 : Val} {a1 : Int} {r : Int} (h : yEW N q0 q1 a0 a1 = some r) : AbC 7 (yA4 a0 a1) (yAM r) :=
 AbsCalls.of_reach fk7 rfl rfl (Nat.le_of_ble_eq_true rfl) (c7_e g0 g1 a0 a1 r h)
noncomputable def I23 : Info := { body := (Tryd.f23.body).getD .skip, nt := 27, results := [.tmp 4], keep := [0, 2, 8, 10, 22, 30, 50], live := [(5, [0, 2, 10])], modes := [] }
theorem fk23 : FnOk Tryd.prog 23 Tryd.f23 I23 := ⟨Tryd.func23, by kernel_rfl, by kernel_rfl, by kernel_rfl, by kernel_rfl⟩
def S23_5 (x0 : List Val) (x1 x5 : Int) : St := [(0, .v false [.sl .ro .val x0]), (2, .v false [.int .i64 x1]), (10, .v false [.int .i64 x5])]
theorem p23_5_0 (x0 : List Val) (x1 x5 r1 : Int) : rS 5 I23 (S23_5 x0 x1 x5) [Y, Y] [yAM r1] = dn (yAv (-1)) [(decide ((x5 : Int) < (Ln x0 : Int))) = true, (0 : Int) ≤ x5 ∧ x5 < (Ln x0), AbC 7 (yA4 (gD x0 (tN x5) vd) x1) (yAM r1), (decide ((r1 : Int) < 0)) = true] := by kernel_rfl
theorem p23_5_1 (x0 : List Val) (x1 x5 r1 : Int) : rS 5 I23 (S23_5 x0 x1 x5) [Y, F] [yAM r1] = st 5 I23 (S23_5 x0 r1 (W (x5 + 1))) [(decide ((x5 : Int) < (Ln x0 : Int))) = true, (0 : Int) ≤ x5 ∧ x5 < (Ln x0), AbC 7 (yA4 (gD x0 (tN x5) vd) x1) (yAM r1), (decide ((r1 : Int) < 0)) = false] := by kernel_rfl
theorem p23_5_2 (x0 : List Val) (x1 x5 : Int) : rS 5 I23 (S23_5 x0 x1 x5) [F] [] = dn (yAv x1) [(decide ((x5 : Int) < (Ln x0 : Int))) = false] := by kernel_rfl
theorem p23_e_3 (a0 : List Val) (a1 : Int) : rE I23 (yBm a0 a1) [Y] [] = dn (yAv (-1)) [(decide (((W (a1 - (Ln a0 : Int))) : Int) < 0)) = true] := by kernel_rfl
theorem p23_e_4 (a0 : List Val) (a1 : Int) : rE I23 (yBm a0 a1) [F] [] = st 5 I23 (S23_5 a0 (W (a1 - (Ln a0 : Int))) 0) [(decide (((W (a1 - (Ln a0 : Int))) : Int) < 0)) = false] := by kernel_rfl
theorem c23_5 {N : Nat} {q0 : Val → Int → Option (Int)} (g0 : G7 q0) {q1 : (List Val) → Int → Option (Int)} (g1 : G23 q1) : ∀ n x0 x1 x5 r, yEk N q0 q1 n x0 x1 x5 = some r → RS Tryd.f23 I23 5 (S23_5 x0 x1 x5) (yAv r) := by
 intro n
 induction n with
 | zero => exact fun _ _ _ _ h => nE h
 | succ n ih =>
  exact fun x0 x1 x5 r h =>
   cE h (fun h0 h => iE h fun h1 h => bE h fun r1 h2 h => cE h (fun h3 h => dS h fk23 (p23_5_0 x0 x1 x5 r1) (oc h0 (oc h1 (oc (g0 _ _ _ h2) (oc h3 on))))) fun h3 h =>
   tS fk23 (p23_5_1 x0 x1 x5 r1) (oc h0 (oc h1 (oc (g0 _ _ _ h2) (oc h3 on)))) (ih _ _ _ _ h)) fun h0 h =>
   dS h fk23 (p23_5_2 x0 x1 x5) (oc h0 on)
theorem c23_e {N : Nat} {q0 : Val → Int → Option (Int)} (g0 : G7 q0) {q1 : (List Val) → Int → Option (Int)} (g1 : G23 q1) : ∀ a0 a1 r, yEE N q0 q1 a0 a1 = some r → RE Tryd.f23 I23 (yBm a0 a1) (yAv r) := fun a0 a1 r h =>
 cE h (fun h0 h => dE h fk23 (p23_e_3 a0 a1) (oc h0 on)) fun h0 h =>
 tE fk23 (p23_e_4 a0 a1) (oc h0 on) (c23_5 g0 g1 _ _ _ _ _ h)
theorem yGB {N : Nat} {q0 : Val → Int → Option (Int)} (g0 : G7 q0) {q1 : (List Val) → Int → Option (Int)} (g1 : G23 q1) {a0 : List Val} {a1 : Int} {r : Int} (h : yEE N q0 q1 a0 a1 = some r) : AbC 23 (yBm a0 a1) (yAv r) :=
 AbsCalls.of_reach fk23 rfl rfl (Nat.le_of_ble_eq_true rfl) (c23_e g0 g1 a0 a1 r h)
theorem yG5 {N : Nat} : ∀ d, G7 (yAY N d).c_laws_szValue ∧ G23 (yAY N d).c_laws_szValueS := by
 intro d
 induction d with
 | zero => exact ⟨fun _ _ _ h => nE h, fun _ _ _ h => nE h⟩
 | succ d ih =>
  obtain ⟨ih0, ih1⟩ := ih
  exact ⟨fun _ _ _ h => yGP (N := N) ih0 ih1 h, fun _ _ _ h => yGB (N := N) ih0 ih1 h⟩
theorem laws_szValue_ok {N : Nat} {a0 : Val} {a1 : Int} {r : Int} (h : yFO N a0 a1 = some r) : AbC 7 (yA4 a0 a1) (yAM r) := (yG5 N).1 _ _ r h
noncomputable def I32 : Info := { body := (Tryd.f32.body).getD .skip, nt := 22, results := [.tmp 2], keep := [0, 4, 6, 8, 22], live := [(3, [0, 6, 8])], modes := [(5, [(0, .ref, false)]), (6, [(0, .take, false)])] }
theorem fk32 : FnOk Tryd.prog 32 Tryd.f32 I32 := ⟨Tryd.func32, by kernel_rfl, by kernel_rfl, by kernel_rfl, by kernel_rfl⟩
def S32_3 (x0 x3 : List Str) (x4 : Int) : St := [(0, .v false [.sl .ro .str x0]), (6, .v false [.sl .own .str x3]), (8, .v false [.int .i64 x4])]
theorem p32_3_0 (x0 x3 : List Str) (x4 : Int) : rS 3 I32 (S32_3 x0 x3 x4) [Y] [] = st 3 I32 (S32_3 x0 (List.set x3 (tN x4) (gD x0 (tN x4) Ty.str.dflt)) (W (x4 + 1))) [(decide ((x4 : Int) < (Ln x0 : Int))) = true, (0 : Int) ≤ x4 ∧ x4 < (Ln x0), (0 : Int) ≤ x4 ∧ x4 < (Ln x3)] := by kernel_rfl
theorem p32_3_1 (x0 x3 : List Str) (x4 : Int) : rS 3 I32 (S32_3 x0 x3 x4) [F] [] = dn (yCu x3) [(decide ((x4 : Int) < (Ln x0 : Int))) = false] := by kernel_rfl
theorem p32_e_2 (a0 : List Str) : rE I32 (yDX a0) [] [] = st 3 I32 (S32_3 a0 (List.replicate (tN (Ln a0 : Int)) Ty.str.dflt) 0) [(0 : Int) ≤ (Ln a0 : Int) ∧ (Ln a0 : Int) = (Ln a0 : Int) ∧ (Ln a0 : Int) ≤ Lim] := by kernel_rfl
theorem c32_3 {N : Nat} : ∀ n x0 x3 x4 r, yDY N n x0 x3 x4 = some r → RS Tryd.f32 I32 3 (S32_3 x0 x3 x4) (yCu r) := by
 intro n
 induction n with
 | zero => exact fun _ _ _ _ h => nE h
 | succ n ih =>
  exact fun x0 x3 x4 r h =>
   cE h (fun h0 h => iE h fun h1 h => iE h fun h2 h => tS fk32 (p32_3_0 x0 x3 x4) (oc h0 (oc h1 (oc h2 on))) (ih _ _ _ _ h)) fun h0 h =>
   dS h fk32 (p32_3_1 x0 x3 x4) (oc h0 on)
theorem c32_e {N : Nat} : ∀ a0 r, yEc N a0 = some r → RE Tryd.f32 I32 (yDX a0) (yCu r) := fun a0 r h =>
 iE h fun h0 h => tE fk32 (p32_e_2 a0) (oc h0 on) (c32_3 _ _ _ _ _ h)
theorem laws_toStringS_ok {N : Nat} {a0 : List Str} {r : (List Str)} (h : yEc N  a0 = some r) : AbC 32 (yDX a0) (yCu r) :=
 AbsCalls.of_reach fk32 rfl rfl (Nat.le_of_ble_eq_true rfl) (c32_e a0 r h)
noncomputable def I115 : Info := { body := (Tryd.f115.body).getD .skip, nt := 22, results := [.tmp 2], keep := [0, 4, 6, 8, 22], live := [(3, [0, 6, 8])], modes := [(5, [(0, .ref, false)]), (6, [(0, .take, false)])] }
theorem fk115 : FnOk Tryd.prog 115 Tryd.f115 I115 := ⟨Tryd.func115, by kernel_rfl, by kernel_rfl, by kernel_rfl, by kernel_rfl⟩
def S115_3 (x0 x3 : List Int) (x4 : Int) : St := [(0, .v false [.sl .ro .int x0]), (6, .v false [.sl .own .int x3]), (8, .v false [.int .i64 x4])]
theorem p115_3_0 (x0 x3 : List Int) (x4 : Int) : rS 3 I115 (S115_3 x0 x3 x4) [Y] [] = st 3 I115 (S115_3 x0 (List.set x3 (tN x4) (gD x0 (tN x4) Ty.int.dflt)) (W (x4 + 1))) [(decide ((x4 : Int) < (Ln x0 : Int))) = true, (0 : Int) ≤ x4 ∧ x4 < (Ln x0), (0 : Int) ≤ x4 ∧ x4 < (Ln x3)] := by kernel_rfl
theorem p115_3_1 (x0 x3 : List Int) (x4 : Int) : rS 3 I115 (S115_3 x0 x3 x4) [F] [] = dn (yDB x3) [(decide ((x4 : Int) < (Ln x0 : Int))) = false] := by kernel_rfl
theorem p115_e_2 (a0 : List Int) : rE I115 (yE8 a0) [] [] = st 3 I115 (S115_3 a0 (List.replicate (tN (Ln a0 : Int)) Ty.int.dflt) 0) [(0 : Int) ≤ (Ln a0 : Int) ∧ (Ln a0 : Int) = (Ln a0 : Int) ∧ (Ln a0 : Int) ≤ Lim] := by kernel_rfl
theorem c115_3 {N : Nat} : ∀ n x0 x3 x4 r, yE9 N n x0 x3 x4 = some r → RS Tryd.f115 I115 3 (S115_3 x0 x3 x4) (yDB r) := by
 intro n
 induction n with
 | zero => exact fun _ _ _ _ h => nE h
 | succ n ih =>
  exact fun x0 x3 x4 r h =>
   cE h (fun h0 h => iE h fun h1 h => iE h fun h2 h => tS fk115 (p115_3_0 x0 x3 x4) (oc h0 (oc h1 (oc h2 on))) (ih _ _ _ _ h)) fun h0 h =>
   dS h fk115 (p115_3_1 x0 x3 x4) (oc h0 on)
theorem c115_e {N : Nat} : ∀ a0 r, yFB N a0 = some r → RE Tryd.f115 I115 (yE8 a0) (yDB r) := fun a0 r h =>
 iE h fun h0 h => tE fk115 (p115_e_2 a0) (oc h0 on) (c115_3 _ _ _ _ _ h)
theorem laws_toIntS_ok {N : Nat} {a0 : List Int} {r : (List Int)} (h : yFB N  a0 = some r) : AbC 115 (yE8 a0) (yDB r) :=
 AbsCalls.of_reach fk115 rfl rfl (Nat.le_of_ble_eq_true rfl) (c115_e a0 r h)
noncomputable def I135 : Info := { body := (Tryd.f135.body).getD .skip, nt := 11, results := [.cell 2 112], keep := [0, 2, 4, 6, 3, 5, 7], live := [], modes := [] }
theorem fk135 : FnOk Tryd.prog 135 Tryd.f135 I135 := ⟨Tryd.func135, by kernel_rfl, by kernel_rfl, by kernel_rfl, by kernel_rfl⟩
theorem p135_e_0 (a0 : Org) : rE I135 (yEl a0) [] [] = dn (yDu a0) [] := by kernel_rfl
theorem c135_e {N : Nat} : ∀ a0 r, yFp N a0 = some r → RE Tryd.f135 I135 (yEl a0) (yDu r) := fun a0 r h =>
 dE h fk135 (p135_e_0 a0) on
theorem laws_toOrigin_ok {N : Nat} {a0 : Org} {r : Org} (h : yFp N  a0 = some r) : AbC 135 (yEl a0) (yDu r) :=
 AbsCalls.of_reach fk135 rfl rfl (Nat.le_of_ble_eq_true rfl) (c135_e a0 r h)
noncomputable def I116 : Info := { body := (Tryd.f116.body).getD .skip, nt := 23, results := [.tmp 2], keep := [0, 4, 6, 8, 22], live := [(3, [0, 6, 8])], modes := [(5, [(0, .ref, false)]), (6, [(0, .take, false)])] }
theorem fk116 : FnOk Tryd.prog 116 Tryd.f116 I116 := ⟨Tryd.func116, by kernel_rfl, by kernel_rfl, by kernel_rfl, by kernel_rfl⟩
def S116_3 (x0 x3 : List Org) (x4 : Int) : St := [(0, .v false [.sl .ro .org x0]), (6, .v false [.sl .own .org x3]), (8, .v false [.int .i64 x4])]
theorem p116_3_0 (x0 x3 : List Org) (x4 : Int) (r1 : Org) : rS 3 I116 (S116_3 x0 x3 x4) [Y] [yDu r1] = st 3 I116 (S116_3 x0 (List.set x3 (tN x4) r1) (W (x4 + 1))) [(decide ((x4 : Int) < (Ln x0 : Int))) = true, (0 : Int) ≤ x4 ∧ x4 < (Ln x0), AbC 135 (yEl (gD x0 (tN x4) Ty.org.dflt)) (yDu r1), (0 : Int) ≤ x4 ∧ x4 < (Ln x3)] := by kernel_rfl
theorem p116_3_1 (x0 x3 : List Org) (x4 : Int) : rS 3 I116 (S116_3 x0 x3 x4) [F] [] = dn (yCt x3) [(decide ((x4 : Int) < (Ln x0 : Int))) = false] := by kernel_rfl
theorem p116_e_2 (a0 : List Org) : rE I116 (yDV a0) [] [] = st 3 I116 (S116_3 a0 (List.replicate (tN (Ln a0 : Int)) Ty.org.dflt) 0) [(0 : Int) ≤ (Ln a0 : Int) ∧ (Ln a0 : Int) = (Ln a0 : Int) ∧ (Ln a0 : Int) ≤ Lim] := by kernel_rfl
theorem c116_3 {N : Nat} : ∀ n x0 x3 x4 r, yDW N n x0 x3 x4 = some r → RS Tryd.f116 I116 3 (S116_3 x0 x3 x4) (yCt r) := by
 intro n
 induction n with
 | zero => exact fun _ _ _ _ h => nE h
 | succ n ih =>
  exact fun x0 x3 x4 r h =>
   cE h (fun h0 h => iE h fun h1 h => bE h fun r1 h2 h => iE h fun h3 h => tS fk116 (p116_3_0 x0 x3 x4 r1) (oc h0 (oc h1 (oc (laws_toOrigin_ok h2) (oc h3 on)))) (ih _ _ _ _ h)) fun h0 h =>
   dS h fk116 (p116_3_1 x0 x3 x4) (oc h0 on)
theorem c116_e {N : Nat} : ∀ a0 r, yEb N a0 = some r → RE Tryd.f116 I116 (yDV a0) (yCt r) := fun a0 r h =>
 iE h fun h0 h => tE fk116 (p116_e_2 a0) (oc h0 on) (c116_3 _ _ _ _ _ h)
theorem laws_toOriginS_ok {N : Nat} {a0 : List Org} {r : (List Org)} (h : yEb N  a0 = some r) : AbC 116 (yDV a0) (yCt r) :=
 AbsCalls.of_reach fk116 rfl rfl (Nat.le_of_ble_eq_true rfl) (c116_e a0 r h)
noncomputable def I69 : Info := { body := (Tryd.f69.body).getD .skip, nt := 13, results := [.cell 2 63], keep := [0, 2, 4, 6, 3, 5, 7], live := [], modes := [(4, [(0, .take, false)])] }
theorem fk69 : FnOk Tryd.prog 69 Tryd.f69 I69 := ⟨Tryd.func69, by kernel_rfl, by kernel_rfl, by kernel_rfl, by kernel_rfl⟩
theorem p69_e_0 (a0 : Rowd) (r1 : (List Int)) (r2 : (List Org)) : rE I69 (yFq a0) [] [yDB r1, yCt r2] = dn (yEF (Rowd.mk r1 r2)) [AbC 115 (yE8 (Rowd.cells a0)) (yDB r1), AbC 116 (yDV (Rowd.frm a0)) (yCt r2)] := by kernel_rfl
theorem c69_e {N : Nat} : ∀ a0 r, yFs N a0 = some r → RE Tryd.f69 I69 (yFq a0) (yEF r) := fun a0 r h =>
 bE h fun r1 h0 h => bE h fun r2 h1 h => dE h fk69 (p69_e_0 a0 r1 r2) (oc (laws_toIntS_ok h0) (oc (laws_toOriginS_ok h1) on))
theorem laws_toRow_ok {N : Nat} {a0 : Rowd} {r : Rowd} (h : yFs N  a0 = some r) : AbC 69 (yFq a0) (yEF r) :=
 AbsCalls.of_reach fk69 rfl rfl (Nat.le_of_ble_eq_true rfl) (c69_e a0 r h)
noncomputable def I33 : Info := { body := (Tryd.f33.body).getD .skip, nt := 23, results := [.tmp 2], keep := [0, 4, 6, 8, 22], live := [(3, [0, 6, 8])], modes := [(5, [(0, .ref, false)]), (6, [(0, .take, false)])] }
theorem fk33 : FnOk Tryd.prog 33 Tryd.f33 I33 := ⟨Tryd.func33, by kernel_rfl, by kernel_rfl, by kernel_rfl, by kernel_rfl⟩
def S33_3 (x0 x3 : List Rowd) (x4 : Int) : St := [(0, .v false [.sl .ro .row x0]), (6, .v false [.sl .own .row x3]), (8, .v false [.int .i64 x4])]
theorem p33_3_0 (x0 x3 : List Rowd) (x4 : Int) (r1 : Rowd) : rS 3 I33 (S33_3 x0 x3 x4) [Y] [yEF r1] = st 3 I33 (S33_3 x0 (List.set x3 (tN x4) r1) (W (x4 + 1))) [(decide ((x4 : Int) < (Ln x0 : Int))) = true, (0 : Int) ≤ x4 ∧ x4 < (Ln x0), AbC 69 (yFq (gD x0 (tN x4) rd)) (yEF r1), (0 : Int) ≤ x4 ∧ x4 < (Ln x3)] := by kernel_rfl
theorem p33_3_1 (x0 x3 : List Rowd) (x4 : Int) : rS 3 I33 (S33_3 x0 x3 x4) [F] [] = dn (yDC x3) [(decide ((x4 : Int) < (Ln x0 : Int))) = false] := by kernel_rfl
theorem p33_e_2 (a0 : List Rowd) : rE I33 (yFa a0) [] [] = st 3 I33 (S33_3 a0 (List.replicate (tN (Ln a0 : Int)) rd) 0) [(0 : Int) ≤ (Ln a0 : Int) ∧ (Ln a0 : Int) = (Ln a0 : Int) ∧ (Ln a0 : Int) ≤ Lim] := by kernel_rfl
theorem c33_3 {N : Nat} : ∀ n x0 x3 x4 r, yFb N n x0 x3 x4 = some r → RS Tryd.f33 I33 3 (S33_3 x0 x3 x4) (yDC r) := by
 intro n
 induction n with
 | zero => exact fun _ _ _ _ h => nE h
 | succ n ih =>
  exact fun x0 x3 x4 r h =>
   cE h (fun h0 h => iE h fun h1 h => bE h fun r1 h2 h => iE h fun h3 h => tS fk33 (p33_3_0 x0 x3 x4 r1) (oc h0 (oc h1 (oc (laws_toRow_ok h2) (oc h3 on)))) (ih _ _ _ _ h)) fun h0 h =>
   dS h fk33 (p33_3_1 x0 x3 x4) (oc h0 on)
theorem c33_e {N : Nat} : ∀ a0 r, yFC N a0 = some r → RE Tryd.f33 I33 (yFa a0) (yDC r) := fun a0 r h =>
 iE h fun h0 h => tE fk33 (p33_e_2 a0) (oc h0 on) (c33_3 _ _ _ _ _ h)
theorem laws_toRowS_ok {N : Nat} {a0 : List Rowd} {r : (List Rowd)} (h : yFC N  a0 = some r) : AbC 33 (yFa a0) (yDC r) :=
 AbsCalls.of_reach fk33 rfl rfl (Nat.le_of_ble_eq_true rfl) (c33_e a0 r h)
def G9 (q : Val → Option (Val)) : Prop := ∀ a0 r, q a0 = some r → AbC 9 (yDb a0) (yCG r)
def G31 (q : (List Val) → Option ((List Val))) : Prop := ∀ a0 r, q a0 = some r → AbC 31 (yDv a0) (yCe r)
noncomputable def I9 : Info := { body := (Tryd.f9.body).getD .skip, nt := 29, results := [.cell 2 31], keep := [0, 2, 4, 6, 3, 5, 7], live := [], modes := [(9, [(0, .take, false)])] }
theorem fk9 : FnOk Tryd.prog 9 Tryd.f9 I9 := ⟨Tryd.func9, by kernel_rfl, by kernel_rfl, by kernel_rfl, by kernel_rfl⟩
theorem p9_e_0 (a0 : Val) (r1 : (List Val)) (r2 : (List Str)) (r3 : (List Rowd)) : rE I9 (yDb a0) [] [yCe r1, yCu r2, yDC r3] = dn (yCG (Val.mk (Val.kind a0) (Val.n a0) (Val.step a0) (Val.text a0) r1 r2 r3)) [AbC 31 (yDv (Val.list a0)) (yCe r1), AbC 32 (yDX (Val.columns a0)) (yCu r2), AbC 33 (yFa (Val.rows a0)) (yDC r3)] := by kernel_rfl
theorem c9_e {N : Nat} {q0 : Val → Option (Val)} (g0 : G9 q0) {q1 : (List Val) → Option ((List Val))} (g1 : G31 q1) : ∀ a0 r, yDc N q0 q1 a0 = some r → RE Tryd.f9 I9 (yDb a0) (yCG r) := fun a0 r h =>
 bE h fun r1 h0 h => bE h fun r2 h1 h => bE h fun r3 h2 h => dE h fk9 (p9_e_0 a0 r1 r2 r3) (oc (g1 _ _ h0) (oc (laws_toStringS_ok h1) (oc (laws_toRowS_ok h2) on)))
theorem yGQ {N : Nat} {q0 : Val → Option (Val)} (g0 : G9 q0) {q1 : (List Val) → Option ((List Val))} (g1 : G31 q1) {a0 : Val} {r : Val} (h : yDc N q0 q1 a0 = some r) : AbC 9 (yDb a0) (yCG r) :=
 AbsCalls.of_reach fk9 rfl rfl (Nat.le_of_ble_eq_true rfl) (c9_e g0 g1 a0 r h)
noncomputable def I31 : Info := { body := (Tryd.f31.body).getD .skip, nt := 23, results := [.tmp 2], keep := [0, 4, 6, 8, 22], live := [(3, [0, 6, 8])], modes := [(5, [(0, .ref, false)]), (6, [(0, .take, false)])] }
theorem fk31 : FnOk Tryd.prog 31 Tryd.f31 I31 := ⟨Tryd.func31, by kernel_rfl, by kernel_rfl, by kernel_rfl, by kernel_rfl⟩
def S31_3 (x0 x3 : List Val) (x4 : Int) : St := [(0, .v false [.sl .ro .val x0]), (6, .v false [.sl .own .val x3]), (8, .v false [.int .i64 x4])]
theorem p31_3_0 (x0 x3 : List Val) (x4 : Int) (r1 : Val) : rS 3 I31 (S31_3 x0 x3 x4) [Y] [yCG r1] = st 3 I31 (S31_3 x0 (List.set x3 (tN x4) (Val.re r1)) (W (x4 + 1))) [(decide ((x4 : Int) < (Ln x0 : Int))) = true, (0 : Int) ≤ x4 ∧ x4 < (Ln x0), AbC 9 (yDb (gD x0 (tN x4) vd)) (yCG r1), (0 : Int) ≤ x4 ∧ x4 < (Ln x3)] := by kernel_rfl
theorem p31_3_1 (x0 x3 : List Val) (x4 : Int) : rS 3 I31 (S31_3 x0 x3 x4) [F] [] = dn (yCe x3) [(decide ((x4 : Int) < (Ln x0 : Int))) = false] := by kernel_rfl
theorem p31_e_2 (a0 : List Val) : rE I31 (yDv a0) [] [] = st 3 I31 (S31_3 a0 (List.replicate (tN (Ln a0 : Int)) vd) 0) [(0 : Int) ≤ (Ln a0 : Int) ∧ (Ln a0 : Int) = (Ln a0 : Int) ∧ (Ln a0 : Int) ≤ Lim] := by kernel_rfl
theorem c31_3 {N : Nat} {q0 : Val → Option (Val)} (g0 : G9 q0) {q1 : (List Val) → Option ((List Val))} (g1 : G31 q1) : ∀ n x0 x3 x4 r, yEm N q0 q1 n x0 x3 x4 = some r → RS Tryd.f31 I31 3 (S31_3 x0 x3 x4) (yCe r) := by
 intro n
 induction n with
 | zero => exact fun _ _ _ _ h => nE h
 | succ n ih =>
  exact fun x0 x3 x4 r h =>
   cE h (fun h0 h => iE h fun h1 h => bE h fun r1 h2 h => iE h fun h3 h => tS fk31 (p31_3_0 x0 x3 x4 r1) (oc h0 (oc h1 (oc (g0 _ _ h2) (oc h3 on)))) (ih _ _ _ _ h)) fun h0 h =>
   dS h fk31 (p31_3_1 x0 x3 x4) (oc h0 on)
theorem c31_e {N : Nat} {q0 : Val → Option (Val)} (g0 : G9 q0) {q1 : (List Val) → Option ((List Val))} (g1 : G31 q1) : ∀ a0 r, yCZ N q0 q1 a0 = some r → RE Tryd.f31 I31 (yDv a0) (yCe r) := fun a0 r h =>
 iE h fun h0 h => tE fk31 (p31_e_2 a0) (oc h0 on) (c31_3 g0 g1 _ _ _ _ _ h)
theorem yGC {N : Nat} {q0 : Val → Option (Val)} (g0 : G9 q0) {q1 : (List Val) → Option ((List Val))} (g1 : G31 q1) {a0 : List Val} {r : (List Val)} (h : yCZ N q0 q1 a0 = some r) : AbC 31 (yDv a0) (yCe r) :=
 AbsCalls.of_reach fk31 rfl rfl (Nat.le_of_ble_eq_true rfl) (c31_e g0 g1 a0 r h)
theorem yG6 {N : Nat} : ∀ d, G9 (yAo N d).c_laws_toValue ∧ G31 (yAo N d).c_laws_toValueS := by
 intro d
 induction d with
 | zero => exact ⟨fun _ _ h => nE h, fun _ _ h => nE h⟩
 | succ d ih =>
  obtain ⟨ih0, ih1⟩ := ih
  exact ⟨fun _ _ h => yGQ (N := N) ih0 ih1 h, fun _ _ h => yGC (N := N) ih0 ih1 h⟩
theorem laws_toValue_ok {N : Nat} {a0 : Val} {r : Val} (h : yBd N a0 = some r) : AbC 9 (yDb a0) (yCG r) := (yG6 N).1 _ r h
noncomputable def I68 : Info := { body := (Tryd.f68.body).getD .skip, nt := 15, results := [.tmp 6], keep := [0, 2, 4, 12], live := [], modes := [(1, [(3, .take, false)])] }
theorem fk68 : FnOk Tryd.prog 68 Tryd.f68 I68 := ⟨Tryd.func68, by kernel_rfl, by kernel_rfl, by kernel_rfl, by kernel_rfl⟩
theorem p68_e_0 (a0 a1 a2 : Int) : rE I68 (yDh a0 a1 a2) [Y] [] = dn (yBO (decide ((a0 : Int) ≤ a2))) [(decide ((a0 : Int) ≥ a1)) = true] := by kernel_rfl
theorem p68_e_1 (a0 a1 a2 : Int) : rE I68 (yDh a0 a1 a2) [F] [] = dn (yBO false) [(decide ((a0 : Int) ≥ a1)) = false] := by kernel_rfl
theorem c68_e {N : Nat} : ∀ a0 a1 a2 r, yFG N a0 a1 a2 = some r → RE Tryd.f68 I68 (yDh a0 a1 a2) (yBO r) := fun a0 a1 a2 r h =>
 cE h (fun h0 h => dE h fk68 (p68_e_0 a0 a1 a2) (oc h0 on)) fun h0 h =>
 dE h fk68 (p68_e_1 a0 a1 a2) (oc h0 on)
theorem yFR {N : Nat} {a0 : Int} {a1 : Int} {a2 : Int} {r : Bool} (h : yFG N  a0 a1 a2 = some r) : AbC 68 (yDh a0 a1 a2) (yBO r) :=
 AbsCalls.of_reach fk68 rfl rfl (Nat.le_of_ble_eq_true rfl) (c68_e a0 a1 a2 r h)
noncomputable def I98 : Info := { body := (Tryd.f98.body).getD .skip, nt := 5, results := [.tmp 2], keep := [0, 4], live := [], modes := [] }
theorem fk98 : FnOk Tryd.prog 98 Tryd.f98 I98 := ⟨Tryd.func98, by kernel_rfl, by kernel_rfl, by kernel_rfl, by kernel_rfl⟩
theorem p98_e_0 (a0 : Int) (r1 : Bool) : rE I98 (yBo a0) [] [yBO r1] = dn (yAw r1) [AbC 68 (yDh a0 (-1000000000) 1000000000) (yBO r1)] := by kernel_rfl
theorem c98_e {N : Nat} : ∀ a0 r, yC2 N a0 = some r → RE Tryd.f98 I98 (yBo a0) (yAw r) := fun a0 r h =>
 bE h fun r1 h0 h => dE h fk98 (p98_e_0 a0 r1) (oc (yFR h0) on)
theorem yCT {N : Nat} {a0 : Int} {r : Bool} (h : yC2 N  a0 = some r) : AbC 98 (yBo a0) (yAw r) :=
 AbsCalls.of_reach fk98 rfl rfl (Nat.le_of_ble_eq_true rfl) (c98_e a0 r h)
noncomputable def I99 : Info := { body := (Tryd.f99.body).getD .skip, nt := 29, results := [.tmp 2], keep := [0, 4, 6, 14, 50], live := [(2, [0, 6])], modes := [(4, [(4, .take, false), (10, .take, false)])] }
theorem fk99 : FnOk Tryd.prog 99 Tryd.f99 I99 := ⟨Tryd.func99, by kernel_rfl, by kernel_rfl, by kernel_rfl, by kernel_rfl⟩
def S99_2 (x0 : Str) (x3 : Int) : St := [(0, .v false [.str x0]), (6, .v false [.int .i64 x3])]
theorem p99_2_0 (x0 : Str) (x3 : Int) : rS 2 I99 (S99_2 x0 x3) [Y, Y, Y, Y] [] = dn (yAW false) [(decide ((x3 : Int) < (Ln x0 : Int))) = true, (0 : Int) ≤ x3 ∧ x3 < (Ln x0), (decide ((((gD x0 (tN x3) 0).toNat : Int) : Int) < 32)) = true, true = true, true = true] := by kernel_rfl
theorem p99_2_1 (x0 : Str) (x3 : Int) : rS 2 I99 (S99_2 x0 x3) [Y, F, Y, Y] [] = dn (yAW false) [(decide ((x3 : Int) < (Ln x0 : Int))) = true, (0 : Int) ≤ x3 ∧ x3 < (Ln x0), (decide ((((gD x0 (tN x3) 0).toNat : Int) : Int) < 32)) = false, (0 : Int) ≤ x3 ∧ x3 < (Ln x0), (decide ((((gD x0 (tN x3) 0).toNat : Int) : Int) > 126)) = true, true = true] := by kernel_rfl
theorem p99_2_2 (x0 : Str) (x3 : Int) : rS 2 I99 (S99_2 x0 x3) [Y, F, F, Y] [] = dn (yAW false) [(decide ((x3 : Int) < (Ln x0 : Int))) = true, (0 : Int) ≤ x3 ∧ x3 < (Ln x0), (decide ((((gD x0 (tN x3) 0).toNat : Int) : Int) < 32)) = false, (0 : Int) ≤ x3 ∧ x3 < (Ln x0), (decide ((((gD x0 (tN x3) 0).toNat : Int) : Int) > 126)) = false, (0 : Int) ≤ x3 ∧ x3 < (Ln x0), ((((gD x0 (tN x3) 0).toNat : Int) : Int) == 34) = true] := by kernel_rfl
theorem p99_2_3 (x0 : Str) (x3 : Int) : rS 2 I99 (S99_2 x0 x3) [Y, F, F, F] [] = st 2 I99 (S99_2 x0 (W (x3 + 1))) [(decide ((x3 : Int) < (Ln x0 : Int))) = true, (0 : Int) ≤ x3 ∧ x3 < (Ln x0), (decide ((((gD x0 (tN x3) 0).toNat : Int) : Int) < 32)) = false, (0 : Int) ≤ x3 ∧ x3 < (Ln x0), (decide ((((gD x0 (tN x3) 0).toNat : Int) : Int) > 126)) = false, (0 : Int) ≤ x3 ∧ x3 < (Ln x0), ((((gD x0 (tN x3) 0).toNat : Int) : Int) == 34) = false] := by kernel_rfl
theorem p99_2_4 (x0 : Str) (x3 : Int) : rS 2 I99 (S99_2 x0 x3) [F] [] = dn (yAW (decide (((Ln x0 : Int) : Int) ≤ 20))) [(decide ((x3 : Int) < (Ln x0 : Int))) = false] := by kernel_rfl
theorem p99_e_5 (a0 : Str) : rE I99 (yDo a0) [] [] = st 2 I99 (S99_2 a0 0) [] := by kernel_rfl
theorem c99_2 {N : Nat} : ∀ n x0 x3 r, yA5 N n x0 x3 = some r → RS Tryd.f99 I99 2 (S99_2 x0 x3) (yAW r) := by
 intro n
 induction n with
 | zero => exact fun _ _ _ h => nE h
 | succ n ih =>
  exact fun x0 x3 r h =>
   cE h (fun h0 h => iE h fun h1 h => cE h (fun h2 h => dS h fk99 (p99_2_0 x0 x3) (oc h0 (oc h1 (oc h2 (oc rfl (oc rfl on)))))) fun h2 h =>
   cE h (fun h4 h => dS h fk99 (p99_2_1 x0 x3) (oc h0 (oc h1 (oc h2 (oc h1 (oc h4 (oc rfl on))))))) fun h4 h =>
   cE h (fun h6 h => dS h fk99 (p99_2_2 x0 x3) (oc h0 (oc h1 (oc h2 (oc h1 (oc h4 (oc h1 (oc h6 on)))))))) fun h6 h =>
   tS fk99 (p99_2_3 x0 x3) (oc h0 (oc h1 (oc h2 (oc h1 (oc h4 (oc h1 (oc h6 on))))))) (ih _ _ _ h)) fun h0 h =>
   dS h fk99 (p99_2_4 x0 x3) (oc h0 on)
theorem c99_e {N : Nat} : ∀ a0 r, yEo N a0 = some r → RE Tryd.f99 I99 (yDo a0) (yAW r) := fun a0 r h =>
 tE fk99 (p99_e_5 a0) on (c99_2 _ _ _ _ h)
theorem yHb {N : Nat} {a0 : Str} {r : Bool} (h : yEo N  a0 = some r) : AbC 99 (yDo a0) (yAW r) :=
 AbsCalls.of_reach fk99 rfl rfl (Nat.le_of_ble_eq_true rfl) (c99_e a0 r h)
noncomputable def I125 : Info := { body := (Tryd.f125.body).getD .skip, nt := 16, results := [.tmp 2], keep := [0, 2, 4, 3], live := [], modes := [(1, [(3, .take, false), (8, .take, false)])] }
theorem fk125 : FnOk Tryd.prog 125 Tryd.f125 I125 := ⟨Tryd.func125, by kernel_rfl, by kernel_rfl, by kernel_rfl, by kernel_rfl⟩
theorem p125_e_0 (a0 : Val) : rE I125 (yBz a0) [Y, Y] [] = dn (yAN true) [(((Val.kind a0) : Int) == 1) = true, true = true] := by kernel_rfl
theorem p125_e_1 (a0 : Val) : rE I125 (yBz a0) [F, Y] [] = dn (yAN true) [(((Val.kind a0) : Int) == 1) = false, (((Val.kind a0) : Int) == 2) = true] := by kernel_rfl
theorem p125_e_2 (a0 : Val) : rE I125 (yBz a0) [F, F] [] = dn (yAN (((Val.kind a0) : Int) == 3)) [(((Val.kind a0) : Int) == 1) = false, (((Val.kind a0) : Int) == 2) = false] := by kernel_rfl
theorem c125_e {N : Nat} : ∀ a0 r, yFe N a0 = some r → RE Tryd.f125 I125 (yBz a0) (yAN r) := fun a0 r h =>
 cE h (fun h0 h => dE h fk125 (p125_e_0 a0) (oc h0 (oc rfl on))) fun h0 h =>
 cE h (fun h1 h => dE h fk125 (p125_e_1 a0) (oc h0 (oc h1 on))) fun h1 h =>
 dE h fk125 (p125_e_2 a0) (oc h0 (oc h1 on))
theorem yE1 {N : Nat} {a0 : Val} {r : Bool} (h : yFe N  a0 = some r) : AbC 125 (yBz a0) (yAN r) :=
 AbsCalls.of_reach fk125 rfl rfl (Nat.le_of_ble_eq_true rfl) (c125_e a0 r h)
noncomputable def I122 : Info := { body := (Tryd.f122.body).getD .skip, nt := 10, results := [.tmp 4], keep := [0, 2, 8, 14], live := [], modes := [] }
theorem fk122 : FnOk Tryd.prog 122 Tryd.f122 I122 := ⟨Tryd.func122, by kernel_rfl, by kernel_rfl, by kernel_rfl, by kernel_rfl⟩
theorem p122_e_0 (a0 a1 : Int) : rE I122 (yEH a0 a1) [Y] [] = dn (yD1 a0) [(decide ((a0 : Int) > a1)) = true] := by kernel_rfl
theorem p122_e_1 (a0 a1 : Int) : rE I122 (yEH a0 a1) [F] [] = dn (yD1 a1) [(decide ((a0 : Int) > a1)) = false] := by kernel_rfl
theorem c122_e {N : Nat} : ∀ a0 a1 r, yF8 N a0 a1 = some r → RE Tryd.f122 I122 (yEH a0 a1) (yD1 r) := fun a0 a1 r h =>
 cE h (fun h0 h => dE h fk122 (p122_e_0 a0 a1) (oc h0 on)) fun h0 h =>
 dE h fk122 (p122_e_1 a0 a1) (oc h0 on)
theorem spec_l1Max_ok {N : Nat} {a0 : Int} {a1 : Int} {r : Int} (h : yF8 N  a0 a1 = some r) : AbC 122 (yEH a0 a1) (yD1 r) :=
 AbsCalls.of_reach fk122 rfl rfl (Nat.le_of_ble_eq_true rfl) (c122_e a0 a1 r h)
def G126 (q : Val → Option (Int)) : Prop := ∀ a0 r, q a0 = some r → AbC 126 (yCH a0) (yBf r)
noncomputable def I126 : Info := { body := (Tryd.f126.body).getD .skip, nt := 22, results := [.tmp 2], keep := [0, 2, 4, 6, 8, 18, 3], live := [(3, [2, 6, 8, 3])], modes := [] }
theorem fk126 : FnOk Tryd.prog 126 Tryd.f126 I126 := ⟨Tryd.func126, by kernel_rfl, by kernel_rfl, by kernel_rfl, by kernel_rfl⟩
def S126_3 (x3 x4 : Int) (b1 : Val) : St := [(2, .v false [.ptr 1 0]), (6, .v false [.int .i64 x3]), (8, .v false [.int .i64 x4]), (3, .v true [.int .i64 (Val.kind b1), .int .i64 (Val.n b1), .int .i64 (Val.step b1), .str (Val.text b1), .sl .ro .val (Val.list b1), .sl .ro .str (Val.columns b1), .sl .ro .row (Val.rows b1)])]
theorem p126_3_0 (x3 x4 : Int) (b1 : Val) (r1 r2 : Int) : rS 3 I126 (S126_3 x3 x4 b1) [Y] [yBf r1, yD1 r2] = st 3 I126 (S126_3 r2 (W (x4 + 1)) b1) [(decide ((x4 : Int) < (Ln (Val.list b1) : Int))) = true, (0 : Int) ≤ x4 ∧ x4 < (Ln (Val.list b1)), AbC 126 (yCH (gD (Val.list b1) (tN x4) vd)) (yBf r1), AbC 122 (yEH x3 r1) (yD1 r2)] := by kernel_rfl
theorem p126_3_1 (x3 x4 : Int) (b1 : Val) : rS 3 I126 (S126_3 x3 x4 b1) [F] [] = dn (yBf (W (x3 + 1))) [(decide ((x4 : Int) < (Ln (Val.list b1) : Int))) = false] := by kernel_rfl
theorem p126_e_2 (a0 : Val) : rE I126 (yCH a0) [] [] = st 3 I126 (S126_3 0 0 a0) [] := by kernel_rfl
theorem c126_3 {N : Nat} {q0 : Val → Option (Int)} (g0 : G126 q0) : ∀ n x3 x4 b1 r, yDd N q0 n x3 x4 b1 = some r → RS Tryd.f126 I126 3 (S126_3 x3 x4 b1) (yBf r) := by
 intro n
 induction n with
 | zero => exact fun _ _ _ _ h => nE h
 | succ n ih =>
  exact fun x3 x4 b1 r h =>
   cE h (fun h0 h => iE h fun h1 h => bE h fun r1 h2 h => bE h fun r2 h3 h => tS fk126 (p126_3_0 x3 x4 b1 r1 r2) (oc h0 (oc h1 (oc (g0 _ _ h2) (oc (spec_l1Max_ok h3) on)))) (ih _ _ _ _ h)) fun h0 h =>
   dS h fk126 (p126_3_1 x3 x4 b1) (oc h0 on)
theorem c126_e {N : Nat} {q0 : Val → Option (Int)} (g0 : G126 q0) : ∀ a0 r, yEX N q0 a0 = some r → RE Tryd.f126 I126 (yCH a0) (yBf r) := fun a0 r h =>
 tE fk126 (p126_e_2 a0) on (c126_3 g0 _ _ _ _ _ h)
theorem yGR {N : Nat} {q0 : Val → Option (Int)} (g0 : G126 q0) {a0 : Val} {r : Int} (h : yEX N q0 a0 = some r) : AbC 126 (yCH a0) (yBf r) :=
 AbsCalls.of_reach fk126 rfl rfl (Nat.le_of_ble_eq_true rfl) (c126_e g0 a0 r h)
theorem yFD {N : Nat} : ∀ d, G126 (yCf N d)
 | 0 => fun _ _ h => nE h
 | d + 1 => fun _ _ h => yGR (N := N) (yFD d) h
theorem spec_DepthOf_ok {N : Nat} {a0 : Val} {r : Int} (h : yFQ N a0 = some r) : AbC 126 (yCH a0) (yBf r) := yFD N _ r h
noncomputable def I113 : Info := { body := (Tryd.f113.body).getD .skip, nt := 45, results := [.tmp 2], keep := [0, 4, 6, 8, 10, 18, 82], live := [(2, [0, 6])], modes := [(4, [(4, .take, false)]), (5, [(4, .take, false)]), (6, [(0, .take, false), (2, .take, false), (5, .take, false), (6, .take, false)])] }
theorem yGW : FnOk Tryd.prog 113 Tryd.f113 I113 := ⟨Tryd.func113, by kernel_rfl, by kernel_rfl, by kernel_rfl, by kernel_rfl⟩
def yEu (x0 : Str) (x3 : Int) : St := [(0, .v false [.str x0]), (6, .v false [.int .i64 x3])]
theorem p113_2_0 (x0 : Str) (x3 : Int) : rS 2 I113 (yEu x0 x3) [Y, Y, Y, Y, Y, Y] [] = dn (yAq false) [(decide ((x3 : Int) < (Ln x0 : Int))) = true, (0 : Int) ≤ x3 ∧ x3 < (Ln x0), (decide ((((gD x0 (tN x3) 0).toNat : Int) : Int) ≥ 97)) = true, (0 : Int) ≤ x3 ∧ x3 < (Ln x0), (0 : Int) ≤ x3 ∧ x3 < (Ln x0), (decide ((((gD x0 (tN x3) 0).toNat : Int) : Int) ≥ 48)) = true, (0 : Int) ≤ x3 ∧ x3 < (Ln x0), (!(decide ((((gD x0 (tN x3) 0).toNat : Int) : Int) ≤ 122))) = true, ((x3 : Int) == 0) = true, true = true] := by kernel_rfl
theorem p113_2_1 (x0 : Str) (x3 : Int) : rS 2 I113 (yEu x0 x3) [Y, Y, Y, Y, F, Y] [] = dn (yAq false) [(decide ((x3 : Int) < (Ln x0 : Int))) = true, (0 : Int) ≤ x3 ∧ x3 < (Ln x0), (decide ((((gD x0 (tN x3) 0).toNat : Int) : Int) ≥ 97)) = true, (0 : Int) ≤ x3 ∧ x3 < (Ln x0), (0 : Int) ≤ x3 ∧ x3 < (Ln x0), (decide ((((gD x0 (tN x3) 0).toNat : Int) : Int) ≥ 48)) = true, (0 : Int) ≤ x3 ∧ x3 < (Ln x0), (!(decide ((((gD x0 (tN x3) 0).toNat : Int) : Int) ≤ 122))) = true, ((x3 : Int) == 0) = false, (!(decide ((((gD x0 (tN x3) 0).toNat : Int) : Int) ≤ 57))) = true] := by kernel_rfl
theorem p113_2_2 (x0 : Str) (x3 : Int) : rS 2 I113 (yEu x0 x3) [Y, Y, Y, Y, F, F] [] = st 2 I113 (yEu x0 (W (x3 + 1))) [(decide ((x3 : Int) < (Ln x0 : Int))) = true, (0 : Int) ≤ x3 ∧ x3 < (Ln x0), (decide ((((gD x0 (tN x3) 0).toNat : Int) : Int) ≥ 97)) = true, (0 : Int) ≤ x3 ∧ x3 < (Ln x0), (0 : Int) ≤ x3 ∧ x3 < (Ln x0), (decide ((((gD x0 (tN x3) 0).toNat : Int) : Int) ≥ 48)) = true, (0 : Int) ≤ x3 ∧ x3 < (Ln x0), (!(decide ((((gD x0 (tN x3) 0).toNat : Int) : Int) ≤ 122))) = true, ((x3 : Int) == 0) = false, (!(decide ((((gD x0 (tN x3) 0).toNat : Int) : Int) ≤ 57))) = false] := by kernel_rfl
theorem p113_2_3 (x0 : Str) (x3 : Int) : rS 2 I113 (yEu x0 x3) [Y, Y, Y, F, F] [] = st 2 I113 (yEu x0 (W (x3 + 1))) [(decide ((x3 : Int) < (Ln x0 : Int))) = true, (0 : Int) ≤ x3 ∧ x3 < (Ln x0), (decide ((((gD x0 (tN x3) 0).toNat : Int) : Int) ≥ 97)) = true, (0 : Int) ≤ x3 ∧ x3 < (Ln x0), (0 : Int) ≤ x3 ∧ x3 < (Ln x0), (decide ((((gD x0 (tN x3) 0).toNat : Int) : Int) ≥ 48)) = true, (0 : Int) ≤ x3 ∧ x3 < (Ln x0), (!(decide ((((gD x0 (tN x3) 0).toNat : Int) : Int) ≤ 122))) = false, false = false] := by kernel_rfl
theorem p113_2_4 (x0 : Str) (x3 : Int) : rS 2 I113 (yEu x0 x3) [Y, Y, F, Y, Y, Y] [] = dn (yAq false) [(decide ((x3 : Int) < (Ln x0 : Int))) = true, (0 : Int) ≤ x3 ∧ x3 < (Ln x0), (decide ((((gD x0 (tN x3) 0).toNat : Int) : Int) ≥ 97)) = true, (0 : Int) ≤ x3 ∧ x3 < (Ln x0), (0 : Int) ≤ x3 ∧ x3 < (Ln x0), (decide ((((gD x0 (tN x3) 0).toNat : Int) : Int) ≥ 48)) = false, (!(decide ((((gD x0 (tN x3) 0).toNat : Int) : Int) ≤ 122))) = true, ((x3 : Int) == 0) = true, true = true] := by kernel_rfl
theorem p113_2_5 (x0 : Str) (x3 : Int) : rS 2 I113 (yEu x0 x3) [Y, Y, F, Y, F, Y] [] = dn (yAq false) [(decide ((x3 : Int) < (Ln x0 : Int))) = true, (0 : Int) ≤ x3 ∧ x3 < (Ln x0), (decide ((((gD x0 (tN x3) 0).toNat : Int) : Int) ≥ 97)) = true, (0 : Int) ≤ x3 ∧ x3 < (Ln x0), (0 : Int) ≤ x3 ∧ x3 < (Ln x0), (decide ((((gD x0 (tN x3) 0).toNat : Int) : Int) ≥ 48)) = false, (!(decide ((((gD x0 (tN x3) 0).toNat : Int) : Int) ≤ 122))) = true, ((x3 : Int) == 0) = false, (!false) = true] := by kernel_rfl
theorem p113_2_6 (x0 : Str) (x3 : Int) : rS 2 I113 (yEu x0 x3) [Y, Y, F, F, F] [] = st 2 I113 (yEu x0 (W (x3 + 1))) [(decide ((x3 : Int) < (Ln x0 : Int))) = true, (0 : Int) ≤ x3 ∧ x3 < (Ln x0), (decide ((((gD x0 (tN x3) 0).toNat : Int) : Int) ≥ 97)) = true, (0 : Int) ≤ x3 ∧ x3 < (Ln x0), (0 : Int) ≤ x3 ∧ x3 < (Ln x0), (decide ((((gD x0 (tN x3) 0).toNat : Int) : Int) ≥ 48)) = false, (!(decide ((((gD x0 (tN x3) 0).toNat : Int) : Int) ≤ 122))) = false, false = false] := by kernel_rfl
theorem p113_2_7 (x0 : Str) (x3 : Int) : rS 2 I113 (yEu x0 x3) [Y, F, Y, Y, Y, Y] [] = dn (yAq false) [(decide ((x3 : Int) < (Ln x0 : Int))) = true, (0 : Int) ≤ x3 ∧ x3 < (Ln x0), (decide ((((gD x0 (tN x3) 0).toNat : Int) : Int) ≥ 97)) = false, (0 : Int) ≤ x3 ∧ x3 < (Ln x0), (decide ((((gD x0 (tN x3) 0).toNat : Int) : Int) ≥ 48)) = true, (0 : Int) ≤ x3 ∧ x3 < (Ln x0), (!false) = true, ((x3 : Int) == 0) = true, true = true] := by kernel_rfl
theorem p113_2_8 (x0 : Str) (x3 : Int) : rS 2 I113 (yEu x0 x3) [Y, F, Y, Y, F, Y] [] = dn (yAq false) [(decide ((x3 : Int) < (Ln x0 : Int))) = true, (0 : Int) ≤ x3 ∧ x3 < (Ln x0), (decide ((((gD x0 (tN x3) 0).toNat : Int) : Int) ≥ 97)) = false, (0 : Int) ≤ x3 ∧ x3 < (Ln x0), (decide ((((gD x0 (tN x3) 0).toNat : Int) : Int) ≥ 48)) = true, (0 : Int) ≤ x3 ∧ x3 < (Ln x0), (!false) = true, ((x3 : Int) == 0) = false, (!(decide ((((gD x0 (tN x3) 0).toNat : Int) : Int) ≤ 57))) = true] := by kernel_rfl
theorem p113_2_9 (x0 : Str) (x3 : Int) : rS 2 I113 (yEu x0 x3) [Y, F, Y, Y, F, F] [] = st 2 I113 (yEu x0 (W (x3 + 1))) [(decide ((x3 : Int) < (Ln x0 : Int))) = true, (0 : Int) ≤ x3 ∧ x3 < (Ln x0), (decide ((((gD x0 (tN x3) 0).toNat : Int) : Int) ≥ 97)) = false, (0 : Int) ≤ x3 ∧ x3 < (Ln x0), (decide ((((gD x0 (tN x3) 0).toNat : Int) : Int) ≥ 48)) = true, (0 : Int) ≤ x3 ∧ x3 < (Ln x0), (!false) = true, ((x3 : Int) == 0) = false, (!(decide ((((gD x0 (tN x3) 0).toNat : Int) : Int) ≤ 57))) = false] := by kernel_rfl
theorem p113_2_10 (x0 : Str) (x3 : Int) : rS 2 I113 (yEu x0 x3) [Y, F, F, Y, Y, Y] [] = dn (yAq false) [(decide ((x3 : Int) < (Ln x0 : Int))) = true, (0 : Int) ≤ x3 ∧ x3 < (Ln x0), (decide ((((gD x0 (tN x3) 0).toNat : Int) : Int) ≥ 97)) = false, (0 : Int) ≤ x3 ∧ x3 < (Ln x0), (decide ((((gD x0 (tN x3) 0).toNat : Int) : Int) ≥ 48)) = false, (!false) = true, ((x3 : Int) == 0) = true, true = true] := by kernel_rfl
theorem p113_2_11 (x0 : Str) (x3 : Int) : rS 2 I113 (yEu x0 x3) [Y, F, F, Y, F, Y] [] = dn (yAq false) [(decide ((x3 : Int) < (Ln x0 : Int))) = true, (0 : Int) ≤ x3 ∧ x3 < (Ln x0), (decide ((((gD x0 (tN x3) 0).toNat : Int) : Int) ≥ 97)) = false, (0 : Int) ≤ x3 ∧ x3 < (Ln x0), (decide ((((gD x0 (tN x3) 0).toNat : Int) : Int) ≥ 48)) = false, (!false) = true, ((x3 : Int) == 0) = false, (!false) = true] := by kernel_rfl
theorem p113_2_12 (x0 : Str) (x3 : Int) : rS 2 I113 (yEu x0 x3) [F] [] = dn (yAq (decide (((Ln x0 : Int) : Int) > 0))) [(decide ((x3 : Int) < (Ln x0 : Int))) = false] := by kernel_rfl
theorem p113_e_13 (a0 : Str) : rE I113 (yDe a0) [] [] = st 2 I113 (yEu a0 0) [] := by kernel_rfl
theorem c113_2 {N : Nat} : ∀ n x0 x3 r, yBg N n x0 x3 = some r → RS Tryd.f113 I113 2 (yEu x0 x3) (yAq r) := by
 intro n
 induction n with
 | zero => exact fun _ _ _ h => nE h
 | succ n ih =>
  exact fun x0 x3 r h =>
   cE h (fun h0 h => iE h fun h1 h => cE h (fun h2 h => cE h (fun h5 h => cE h (fun h7 h => cE h (fun h8 h => dS h yGW (p113_2_0 x0 x3) (oc h0 (oc h1 (oc h2 (oc h1 (oc h1 (oc h5 (oc h1 (oc h7 (oc h8 (oc rfl on))))))))))) fun h8 h =>
   cE h (fun h9 h => dS h yGW (p113_2_1 x0 x3) (oc h0 (oc h1 (oc h2 (oc h1 (oc h1 (oc h5 (oc h1 (oc h7 (oc h8 (oc h9 on))))))))))) fun h9 h =>
   tS yGW (p113_2_2 x0 x3) (oc h0 (oc h1 (oc h2 (oc h1 (oc h1 (oc h5 (oc h1 (oc h7 (oc h8 (oc h9 on)))))))))) (ih _ _ _ h)) fun h7 h =>
   tS yGW (p113_2_3 x0 x3) (oc h0 (oc h1 (oc h2 (oc h1 (oc h1 (oc h5 (oc h1 (oc h7 (oc rfl on))))))))) (ih _ _ _ h)) fun h5 h =>
   cE h (fun h6 h => cE h (fun h7 h => dS h yGW (p113_2_4 x0 x3) (oc h0 (oc h1 (oc h2 (oc h1 (oc h1 (oc h5 (oc h6 (oc h7 (oc rfl on)))))))))) fun h7 h =>
   dS h yGW (p113_2_5 x0 x3) (oc h0 (oc h1 (oc h2 (oc h1 (oc h1 (oc h5 (oc h6 (oc h7 (oc rfl on)))))))))) fun h6 h =>
   tS yGW (p113_2_6 x0 x3) (oc h0 (oc h1 (oc h2 (oc h1 (oc h1 (oc h5 (oc h6 (oc rfl on)))))))) (ih _ _ _ h)) fun h2 h =>
   cE h (fun h4 h => cE h (fun h7 h => dS h yGW (p113_2_7 x0 x3) (oc h0 (oc h1 (oc h2 (oc h1 (oc h4 (oc h1 (oc rfl (oc h7 (oc rfl on)))))))))) fun h7 h =>
   cE h (fun h8 h => dS h yGW (p113_2_8 x0 x3) (oc h0 (oc h1 (oc h2 (oc h1 (oc h4 (oc h1 (oc rfl (oc h7 (oc h8 on)))))))))) fun h8 h =>
   tS yGW (p113_2_9 x0 x3) (oc h0 (oc h1 (oc h2 (oc h1 (oc h4 (oc h1 (oc rfl (oc h7 (oc h8 on))))))))) (ih _ _ _ h)) fun h4 h =>
   cE h (fun h6 h => dS h yGW (p113_2_10 x0 x3) (oc h0 (oc h1 (oc h2 (oc h1 (oc h4 (oc rfl (oc h6 (oc rfl on))))))))) fun h6 h =>
   dS h yGW (p113_2_11 x0 x3) (oc h0 (oc h1 (oc h2 (oc h1 (oc h4 (oc rfl (oc h6 (oc rfl on))))))))) fun h0 h =>
   dS h yGW (p113_2_12 x0 x3) (oc h0 on)
theorem c113_e {N : Nat} : ∀ a0 r, yFS N a0 = some r → RE Tryd.f113 I113 (yDe a0) (yAq r) := fun a0 r h =>
 tE yGW (p113_e_13 a0) on (c113_2 _ _ _ _ h)
theorem yFH {N : Nat} {a0 : Str} {r : Bool} (h : yFS N  a0 = some r) : AbC 113 (yDe a0) (yAq r) :=
 AbsCalls.of_reach yGW rfl rfl (Nat.le_of_ble_eq_true rfl) (c113_e a0 r h)
noncomputable def I134 : Info := { body := (Tryd.f134.body).getD .skip, nt := 2, results := [.tmp 0], keep := [0], live := [], modes := [] }
theorem fk134 : FnOk Tryd.prog 134 Tryd.f134 I134 := ⟨Tryd.func134, by kernel_rfl, by kernel_rfl, by kernel_rfl, by kernel_rfl⟩
theorem p134_e_0 : rE I134 (yDI ) [] [] = dn (yC1 [[108, 101, 116], [105, 110], [105, 102], [116, 104, 101, 110], [101, 108, 115, 101], [102, 111, 114], [100, 111], [108, 101, 110], [115, 117, 109], [116, 97, 107, 101], [115, 107, 105, 112], [114, 97, 110, 103, 101], [110, 116, 104], [119, 104, 101, 114, 101], [107, 101, 101, 112], [97, 100, 100], [103, 114, 111, 117, 112], [106, 111, 105, 110], [99, 111, 108, 117, 109, 110], [114, 111, 119, 115], [99, 108, 111, 99, 107], [99, 104, 97, 110, 99, 101], [102, 105, 108, 101], [116, 97, 98, 108, 101]]) [] := by kernel_rfl
theorem c134_e {N : Nat} : ∀ r, yEI N = some r → RE Tryd.f134 I134 (yDI ) (yC1 r) := fun r h =>
 dE h fk134 (p134_e_0) on
theorem spec_l2Reserved_ok {N : Nat} {r : (List Str)} (h : yEI N   = some r) : AbC 134 (yDI ) (yC1 r) :=
 AbsCalls.of_reach fk134 rfl rfl (Nat.le_of_ble_eq_true rfl) (c134_e  r h)
noncomputable def I81 : Info := { body := (Tryd.f81.body).getD .skip, nt := 18, results := [.tmp 4], keep := [0, 2, 8, 10, 18, 34], live := [(2, [0, 2, 10])], modes := [] }
theorem fk81 : FnOk Tryd.prog 81 Tryd.f81 I81 := ⟨Tryd.func81, by kernel_rfl, by kernel_rfl, by kernel_rfl, by kernel_rfl⟩
def S81_2 (x0 : List Str) (x1 : Str) (x5 : Int) : St := [(0, .v false [.sl .ro .str x0]), (2, .v false [.str x1]), (10, .v false [.int .i64 x5])]
theorem p81_2_0 (x0 : List Str) (x1 : Str) (x5 : Int) : rS 2 I81 (S81_2 x0 x1 x5) [Y, Y] [] = dn (yBK true) [(decide ((x5 : Int) < (Ln x0 : Int))) = true, (0 : Int) ≤ x5 ∧ x5 < (Ln x0), (((gD x0 (tN x5) Ty.str.dflt) : Str) == x1) = true] := by kernel_rfl
theorem p81_2_1 (x0 : List Str) (x1 : Str) (x5 : Int) : rS 2 I81 (S81_2 x0 x1 x5) [Y, F] [] = st 2 I81 (S81_2 x0 x1 (W (x5 + 1))) [(decide ((x5 : Int) < (Ln x0 : Int))) = true, (0 : Int) ≤ x5 ∧ x5 < (Ln x0), (((gD x0 (tN x5) Ty.str.dflt) : Str) == x1) = false] := by kernel_rfl
theorem p81_2_2 (x0 : List Str) (x1 : Str) (x5 : Int) : rS 2 I81 (S81_2 x0 x1 x5) [F] [] = dn (yBK false) [(decide ((x5 : Int) < (Ln x0 : Int))) = false] := by kernel_rfl
theorem p81_e_3 (a0 : List Str) (a1 : Str) : rE I81 (yD0 a0 a1) [] [] = st 2 I81 (S81_2 a0 a1 0) [] := by kernel_rfl
theorem c81_2 {N : Nat} : ∀ n x0 x1 x5 r, yDp N n x0 x1 x5 = some r → RS Tryd.f81 I81 2 (S81_2 x0 x1 x5) (yBK r) := by
 intro n
 induction n with
 | zero => exact fun _ _ _ _ h => nE h
 | succ n ih =>
  exact fun x0 x1 x5 r h =>
   cE h (fun h0 h => iE h fun h1 h => cE h (fun h2 h => dS h fk81 (p81_2_0 x0 x1 x5) (oc h0 (oc h1 (oc h2 on)))) fun h2 h =>
   tS fk81 (p81_2_1 x0 x1 x5) (oc h0 (oc h1 (oc h2 on))) (ih _ _ _ _ h)) fun h0 h =>
   dS h fk81 (p81_2_2 x0 x1 x5) (oc h0 on)
theorem c81_e {N : Nat} : ∀ a0 a1 r, yF7 N a0 a1 = some r → RE Tryd.f81 I81 (yD0 a0 a1) (yBK r) := fun a0 a1 r h =>
 tE fk81 (p81_e_3 a0 a1) on (c81_2 _ _ _ _ _ h)
theorem yGi {N : Nat} {a0 : List Str} {a1 : Str} {r : Bool} (h : yF7 N  a0 a1 = some r) : AbC 81 (yD0 a0 a1) (yBK r) :=
 AbsCalls.of_reach fk81 rfl rfl (Nat.le_of_ble_eq_true rfl) (c81_e a0 a1 r h)
noncomputable def I114 : Info := { body := (Tryd.f114.body).getD .skip, nt := 6, results := [.tmp 2], keep := [0, 4], live := [], modes := [] }
theorem fk114 : FnOk Tryd.prog 114 Tryd.f114 I114 := ⟨Tryd.func114, by kernel_rfl, by kernel_rfl, by kernel_rfl, by kernel_rfl⟩
theorem p114_e_0 (a0 : Str) (r1 : (List Str)) (r2 : Bool) : rE I114 (yDH a0) [] [yC1 r1, yBK r2] = dn (yC0 r2) [AbC 134 yDI (yC1 r1), AbC 81 (yD0 r1 a0) (yBK r2)] := by kernel_rfl
theorem c114_e {N : Nat} : ∀ a0 r, yDO N a0 = some r → RE Tryd.f114 I114 (yDH a0) (yC0 r) := fun a0 r h =>
 bE h fun r1 h0 h => bE h fun r2 h1 h => dE h fk114 (p114_e_0 a0 r1 r2) (oc (spec_l2Reserved_ok h0) (oc (yGi h1) on))
theorem spec_IsReserved_ok {N : Nat} {a0 : Str} {r : Bool} (h : yDO N  a0 = some r) : AbC 114 (yDH a0) (yC0 r) :=
 AbsCalls.of_reach fk114 rfl rfl (Nat.le_of_ble_eq_true rfl) (c114_e a0 r h)
noncomputable def I67 : Info := { body := (Tryd.f67.body).getD .skip, nt := 15, results := [.tmp 2], keep := [0, 4], live := [], modes := [(1, [(2, .take, false), (7, .take, false)])] }
theorem fk67 : FnOk Tryd.prog 67 Tryd.f67 I67 := ⟨Tryd.func67, by kernel_rfl, by kernel_rfl, by kernel_rfl, by kernel_rfl⟩
theorem p67_e_0 (a0 : Str) (r1 r2 : Bool) : rE I67 (yBu a0) [Y, Y] [yAq r1, yC0 r2] = dn (yAV (!r2)) [AbC 113 (yDe a0) (yAq r1), r1 = true, (decide (((Ln a0 : Int) : Int) ≤ 8)) = true, AbC 114 (yDH a0) (yC0 r2)] := by kernel_rfl
theorem p67_e_1 (a0 : Str) (r1 : Bool) : rE I67 (yBu a0) [Y, F] [yAq r1] = dn (yAV false) [AbC 113 (yDe a0) (yAq r1), r1 = true, (decide (((Ln a0 : Int) : Int) ≤ 8)) = false] := by kernel_rfl
theorem p67_e_2 (a0 : Str) (r1 : Bool) : rE I67 (yBu a0) [F, F] [yAq r1] = dn (yAV false) [AbC 113 (yDe a0) (yAq r1), r1 = false, false = false] := by kernel_rfl
theorem c67_e {N : Nat} : ∀ a0 r, yDw N a0 = some r → RE Tryd.f67 I67 (yBu a0) (yAV r) := fun a0 r h =>
 bE h fun r1 h0 h => cE h (fun h1 h => cE h (fun h2 h => bE h fun r2 h3 h => dE h fk67 (p67_e_0 a0 r1 r2) (oc (yFH h0) (oc h1 (oc h2 (oc (spec_IsReserved_ok h3) on))))) fun h2 h =>
 dE h fk67 (p67_e_1 a0 r1) (oc (yFH h0) (oc h1 (oc h2 on)))) fun h1 h =>
 dE h fk67 (p67_e_2 a0 r1) (oc (yFH h0) (oc h1 (oc rfl on)))
theorem yFE {N : Nat} {a0 : Str} {r : Bool} (h : yDw N  a0 = some r) : AbC 67 (yBu a0) (yAV r) :=
 AbsCalls.of_reach fk67 rfl rfl (Nat.le_of_ble_eq_true rfl) (c67_e a0 r h)
noncomputable def I48 : Info := { body := (Tryd.f48.body).getD .skip, nt := 18, results := [.tmp 2], keep := [0, 4, 6, 14, 34], live := [(2, [0, 6])], modes := [] }
theorem fk48 : FnOk Tryd.prog 48 Tryd.f48 I48 := ⟨Tryd.func48, by kernel_rfl, by kernel_rfl, by kernel_rfl, by kernel_rfl⟩
def S48_2 (x0 : List Str) (x3 : Int) : St := [(0, .v false [.sl .ro .str x0]), (6, .v false [.int .i64 x3])]
theorem p48_2_0 (x0 : List Str) (x3 : Int) (r1 : Bool) : rS 2 I48 (S48_2 x0 x3) [Y, Y] [yBK r1] = dn (yBt false) [(decide ((x3 : Int) < (Ln x0 : Int))) = true, (0 : Int) ≤ x3 ∧ x3 ≤ (Ln x0), (0 : Int) ≤ x3 ∧ x3 < (Ln x0), AbC 81 (yD0 (List.take (tN x3) x0) (gD x0 (tN x3) Ty.str.dflt)) (yBK r1), r1 = true] := by kernel_rfl
theorem p48_2_1 (x0 : List Str) (x3 : Int) (r1 : Bool) : rS 2 I48 (S48_2 x0 x3) [Y, F] [yBK r1] = st 2 I48 (S48_2 x0 (W (x3 + 1))) [(decide ((x3 : Int) < (Ln x0 : Int))) = true, (0 : Int) ≤ x3 ∧ x3 ≤ (Ln x0), (0 : Int) ≤ x3 ∧ x3 < (Ln x0), AbC 81 (yD0 (List.take (tN x3) x0) (gD x0 (tN x3) Ty.str.dflt)) (yBK r1), r1 = false] := by kernel_rfl
theorem p48_2_2 (x0 : List Str) (x3 : Int) : rS 2 I48 (S48_2 x0 x3) [F] [] = dn (yBt true) [(decide ((x3 : Int) < (Ln x0 : Int))) = false] := by kernel_rfl
theorem p48_e_3 (a0 : List Str) : rE I48 (yDn a0) [] [] = st 2 I48 (S48_2 a0 0) [] := by kernel_rfl
theorem c48_2 {N : Nat} : ∀ n x0 x3 r, yBs N n x0 x3 = some r → RS Tryd.f48 I48 2 (S48_2 x0 x3) (yBt r) := by
 intro n
 induction n with
 | zero => exact fun _ _ _ h => nE h
 | succ n ih =>
  exact fun x0 x3 r h =>
   cE h (fun h0 h => iE h fun h1 h => iE h fun h2 h => bE h fun r1 h3 h => cE h (fun h4 h => dS h fk48 (p48_2_0 x0 x3 r1) (oc h0 (oc h1 (oc h2 (oc (yGi h3) (oc h4 on)))))) fun h4 h =>
   tS fk48 (p48_2_1 x0 x3 r1) (oc h0 (oc h1 (oc h2 (oc (yGi h3) (oc h4 on))))) (ih _ _ _ h)) fun h0 h =>
   dS h fk48 (p48_2_2 x0 x3) (oc h0 on)
theorem c48_e {N : Nat} : ∀ a0 r, yEn N a0 = some r → RE Tryd.f48 I48 (yDn a0) (yBt r) := fun a0 r h =>
 tE fk48 (p48_e_3 a0) on (c48_2 _ _ _ _ h)
theorem yG9 {N : Nat} {a0 : List Str} {r : Bool} (h : yEn N  a0 = some r) : AbC 48 (yDn a0) (yBt r) :=
 AbsCalls.of_reach fk48 rfl rfl (Nat.le_of_ble_eq_true rfl) (c48_e a0 r h)
noncomputable def I28 : Info := { body := (Tryd.f28.body).getD .skip, nt := 23, results := [.tmp 2], keep := [0, 4, 6, 14, 30], live := [(2, [0, 6])], modes := [(6, [(3, .take, false)])] }
theorem fk28 : FnOk Tryd.prog 28 Tryd.f28 I28 := ⟨Tryd.func28, by kernel_rfl, by kernel_rfl, by kernel_rfl, by kernel_rfl⟩
def S28_2 (x0 : List Str) (x3 : Int) : St := [(0, .v false [.sl .ro .str x0]), (6, .v false [.int .i64 x3])]
theorem p28_2_0 (x0 : List Str) (x3 : Int) (r1 : Bool) : rS 2 I28 (S28_2 x0 x3) [Y, Y] [yAV r1] = dn (yAH false) [(decide ((x3 : Int) < (Ln x0 : Int))) = true, (0 : Int) ≤ x3 ∧ x3 < (Ln x0), AbC 67 (yBu (gD x0 (tN x3) Ty.str.dflt)) (yAV r1), (!r1) = true] := by kernel_rfl
theorem p28_2_1 (x0 : List Str) (x3 : Int) (r1 : Bool) : rS 2 I28 (S28_2 x0 x3) [Y, F] [yAV r1] = st 2 I28 (S28_2 x0 (W (x3 + 1))) [(decide ((x3 : Int) < (Ln x0 : Int))) = true, (0 : Int) ≤ x3 ∧ x3 < (Ln x0), AbC 67 (yBu (gD x0 (tN x3) Ty.str.dflt)) (yAV r1), (!r1) = false] := by kernel_rfl
theorem p28_2_2 (x0 : List Str) (x3 : Int) (r1 r2 : Bool) : rS 2 I28 (S28_2 x0 x3) [F, Y] [yBO r1, yBt r2] = dn (yAH r2) [(decide ((x3 : Int) < (Ln x0 : Int))) = false, AbC 68 (yDh (Ln x0 : Int) 1 4) (yBO r1), r1 = true, AbC 48 (yDn x0) (yBt r2)] := by kernel_rfl
theorem p28_2_3 (x0 : List Str) (x3 : Int) (r1 : Bool) : rS 2 I28 (S28_2 x0 x3) [F, F] [yBO r1] = dn (yAH false) [(decide ((x3 : Int) < (Ln x0 : Int))) = false, AbC 68 (yDh (Ln x0 : Int) 1 4) (yBO r1), r1 = false] := by kernel_rfl
theorem p28_e_4 (a0 : List Str) : rE I28 (yCv a0) [] [] = st 2 I28 (S28_2 a0 0) [] := by kernel_rfl
theorem c28_2 {N : Nat} : ∀ n x0 x3 r, yCw N n x0 x3 = some r → RS Tryd.f28 I28 2 (S28_2 x0 x3) (yAH r) := by
 intro n
 induction n with
 | zero => exact fun _ _ _ h => nE h
 | succ n ih =>
  exact fun x0 x3 r h =>
   cE h (fun h0 h => iE h fun h1 h => bE h fun r1 h2 h => cE h (fun h3 h => dS h fk28 (p28_2_0 x0 x3 r1) (oc h0 (oc h1 (oc (yFE h2) (oc h3 on))))) fun h3 h =>
   tS fk28 (p28_2_1 x0 x3 r1) (oc h0 (oc h1 (oc (yFE h2) (oc h3 on)))) (ih _ _ _ h)) fun h0 h =>
   bE h fun r1 h1 h => cE h (fun h2 h => bE h fun r2 h3 h => dS h fk28 (p28_2_2 x0 x3 r1 r2) (oc h0 (oc (yFR h1) (oc h2 (oc (yG9 h3) on))))) fun h2 h =>
   dS h fk28 (p28_2_3 x0 x3 r1) (oc h0 (oc (yFR h1) (oc h2 on)))
theorem c28_e {N : Nat} : ∀ a0 r, yFd N a0 = some r → RE Tryd.f28 I28 (yCv a0) (yAH r) := fun a0 r h =>
 tE fk28 (p28_e_4 a0) on (c28_2 _ _ _ _ h)
theorem yE0 {N : Nat} {a0 : List Str} {r : Bool} (h : yFd N  a0 = some r) : AbC 28 (yCv a0) (yAH r) :=
 AbsCalls.of_reach fk28 rfl rfl (Nat.le_of_ble_eq_true rfl) (c28_e a0 r h)
noncomputable def I142 : Info := { body := (Tryd.f142.body).getD .skip, nt := 24, results := [.tmp 4], keep := [0, 2, 4, 6, 8, 5, 7], live := [], modes := [(1, [(5, .take, false), (11, .take, false)])] }
theorem fk142 : FnOk Tryd.prog 142 Tryd.f142 I142 := ⟨Tryd.func142, by kernel_rfl, by kernel_rfl, by kernel_rfl, by kernel_rfl⟩
theorem p142_e_0 (a0 a1 : Org) : rE I142 (yCg a0 a1) [Y] [] = dn (yBn true) [(decide (((Org.cell a0) : Int) < (Org.cell a1))) = true] := by kernel_rfl
theorem p142_e_1 (a0 a1 : Org) : rE I142 (yCg a0 a1) [F, Y] [] = dn (yBn (decide (((Org.row a0) : Int) < (Org.row a1)))) [(decide (((Org.cell a0) : Int) < (Org.cell a1))) = false, (((Org.cell a0) : Int) == (Org.cell a1)) = true] := by kernel_rfl
theorem p142_e_2 (a0 a1 : Org) : rE I142 (yCg a0 a1) [F, F] [] = dn (yBn false) [(decide (((Org.cell a0) : Int) < (Org.cell a1))) = false, (((Org.cell a0) : Int) == (Org.cell a1)) = false] := by kernel_rfl
theorem c142_e {N : Nat} : ∀ a0 a1 r, yEJ N a0 a1 = some r → RE Tryd.f142 I142 (yCg a0 a1) (yBn r) := fun a0 a1 r h =>
 cE h (fun h0 h => dE h fk142 (p142_e_0 a0 a1) (oc h0 on)) fun h0 h =>
 cE h (fun h1 h => dE h fk142 (p142_e_1 a0 a1) (oc h0 (oc h1 on))) fun h1 h =>
 dE h fk142 (p142_e_2 a0 a1) (oc h0 (oc h1 on))
theorem yGp {N : Nat} {a0 : Org} {a1 : Org} {r : Bool} (h : yEJ N  a0 a1 = some r) : AbC 142 (yCg a0 a1) (yBn r) :=
 AbsCalls.of_reach fk142 rfl rfl (Nat.le_of_ble_eq_true rfl) (c142_e a0 a1 r h)
noncomputable def I127 : Info := { body := (Tryd.f127.body).getD .skip, nt := 41, results := [.tmp 2], keep := [0, 4, 6, 14, 80], live := [(2, [0, 6])], modes := [(4, [(6, .take, false), (14, .take, false), (17, .take, false)])] }
theorem fk127 : FnOk Tryd.prog 127 Tryd.f127 I127 := ⟨Tryd.func127, by kernel_rfl, by kernel_rfl, by kernel_rfl, by kernel_rfl⟩
def yGS (x0 : List Org) (x3 : Int) : St := [(0, .v false [.sl .ro .org x0]), (6, .v false [.int .i64 x3])]
theorem p127_2_0 (x0 : List Org) (x3 : Int) : rS 2 I127 (yGS x0 x3) [Y, Y, Y, Y] [] = dn (yAB false) [(decide ((x3 : Int) < (Ln x0 : Int))) = true, (0 : Int) ≤ x3 ∧ x3 < (Ln x0), (decide (((Org.cell (gD x0 (tN x3) Ty.org.dflt)) : Int) < 0)) = true, true = true, true = true] := by kernel_rfl
theorem p127_2_1 (x0 : List Org) (x3 : Int) : rS 2 I127 (yGS x0 x3) [Y, F, Y, Y] [] = dn (yAB false) [(decide ((x3 : Int) < (Ln x0 : Int))) = true, (0 : Int) ≤ x3 ∧ x3 < (Ln x0), (decide (((Org.cell (gD x0 (tN x3) Ty.org.dflt)) : Int) < 0)) = false, (0 : Int) ≤ x3 ∧ x3 < (Ln x0), (decide (((Org.row (gD x0 (tN x3) Ty.org.dflt)) : Int) < 0)) = true, true = true] := by kernel_rfl
theorem p127_2_2 (x0 : List Org) (x3 : Int) (r1 : Bool) : rS 2 I127 (yGS x0 x3) [Y, F, F, Y, Y] [yBn r1] = dn (yAB false) [(decide ((x3 : Int) < (Ln x0 : Int))) = true, (0 : Int) ≤ x3 ∧ x3 < (Ln x0), (decide (((Org.cell (gD x0 (tN x3) Ty.org.dflt)) : Int) < 0)) = false, (0 : Int) ≤ x3 ∧ x3 < (Ln x0), (decide (((Org.row (gD x0 (tN x3) Ty.org.dflt)) : Int) < 0)) = false, (decide ((x3 : Int) > 0)) = true, (0 : Int) ≤ (W (x3 - 1)) ∧ (W (x3 - 1)) < (Ln x0), (0 : Int) ≤ x3 ∧ x3 < (Ln x0), AbC 142 (yCg (gD x0 (tN (W (x3 - 1))) Ty.org.dflt) (gD x0 (tN x3) Ty.org.dflt)) (yBn r1), (!r1) = true] := by kernel_rfl
theorem p127_2_3 (x0 : List Org) (x3 : Int) (r1 : Bool) : rS 2 I127 (yGS x0 x3) [Y, F, F, Y, F] [yBn r1] = st 2 I127 (yGS x0 (W (x3 + 1))) [(decide ((x3 : Int) < (Ln x0 : Int))) = true, (0 : Int) ≤ x3 ∧ x3 < (Ln x0), (decide (((Org.cell (gD x0 (tN x3) Ty.org.dflt)) : Int) < 0)) = false, (0 : Int) ≤ x3 ∧ x3 < (Ln x0), (decide (((Org.row (gD x0 (tN x3) Ty.org.dflt)) : Int) < 0)) = false, (decide ((x3 : Int) > 0)) = true, (0 : Int) ≤ (W (x3 - 1)) ∧ (W (x3 - 1)) < (Ln x0), (0 : Int) ≤ x3 ∧ x3 < (Ln x0), AbC 142 (yCg (gD x0 (tN (W (x3 - 1))) Ty.org.dflt) (gD x0 (tN x3) Ty.org.dflt)) (yBn r1), (!r1) = false] := by kernel_rfl
theorem p127_2_4 (x0 : List Org) (x3 : Int) : rS 2 I127 (yGS x0 x3) [Y, F, F, F, F] [] = st 2 I127 (yGS x0 (W (x3 + 1))) [(decide ((x3 : Int) < (Ln x0 : Int))) = true, (0 : Int) ≤ x3 ∧ x3 < (Ln x0), (decide (((Org.cell (gD x0 (tN x3) Ty.org.dflt)) : Int) < 0)) = false, (0 : Int) ≤ x3 ∧ x3 < (Ln x0), (decide (((Org.row (gD x0 (tN x3) Ty.org.dflt)) : Int) < 0)) = false, (decide ((x3 : Int) > 0)) = false, false = false] := by kernel_rfl
theorem p127_2_5 (x0 : List Org) (x3 : Int) : rS 2 I127 (yGS x0 x3) [F] [] = dn (yAB true) [(decide ((x3 : Int) < (Ln x0 : Int))) = false] := by kernel_rfl
theorem p127_e_6 (a0 : List Org) : rE I127 (yCI a0) [] [] = st 2 I127 (yGS a0 0) [] := by kernel_rfl
theorem c127_2 {N : Nat} : ∀ n x0 x3 r, yA6 N n x0 x3 = some r → RS Tryd.f127 I127 2 (yGS x0 x3) (yAB r) := by
 intro n
 induction n with
 | zero => exact fun _ _ _ h => nE h
 | succ n ih =>
  exact fun x0 x3 r h =>
   cE h (fun h0 h => iE h fun h1 h => cE h (fun h2 h => dS h fk127 (p127_2_0 x0 x3) (oc h0 (oc h1 (oc h2 (oc rfl (oc rfl on)))))) fun h2 h =>
   cE h (fun h4 h => dS h fk127 (p127_2_1 x0 x3) (oc h0 (oc h1 (oc h2 (oc h1 (oc h4 (oc rfl on))))))) fun h4 h =>
   cE h (fun h5 h => iE h fun h6 h => bE h fun r1 h8 h => cE h (fun h9 h => dS h fk127 (p127_2_2 x0 x3 r1) (oc h0 (oc h1 (oc h2 (oc h1 (oc h4 (oc h5 (oc h6 (oc h1 (oc (yGp h8) (oc h9 on))))))))))) fun h9 h =>
   tS fk127 (p127_2_3 x0 x3 r1) (oc h0 (oc h1 (oc h2 (oc h1 (oc h4 (oc h5 (oc h6 (oc h1 (oc (yGp h8) (oc h9 on)))))))))) (ih _ _ _ h)) fun h5 h =>
   tS fk127 (p127_2_4 x0 x3) (oc h0 (oc h1 (oc h2 (oc h1 (oc h4 (oc h5 (oc rfl on))))))) (ih _ _ _ h)) fun h0 h =>
   dS h fk127 (p127_2_5 x0 x3) (oc h0 on)
theorem c127_e {N : Nat} : ∀ a0 r, yEp N a0 = some r → RE Tryd.f127 I127 (yCI a0) (yAB r) := fun a0 r h =>
 tE fk127 (p127_e_6 a0) on (c127_2 _ _ _ _ h)
theorem yFI {N : Nat} {a0 : List Org} {r : Bool} (h : yEp N  a0 = some r) : AbC 127 (yCI a0) (yAB r) :=
 AbsCalls.of_reach fk127 rfl rfl (Nat.le_of_ble_eq_true rfl) (c127_e a0 r h)
noncomputable def I101 : Info := { body := (Tryd.f101.body).getD .skip, nt := 55, results := [.tmp 2], keep := [0, 2, 4, 6, 8, 10, 30, 40, 80, 90, 108, 3, 9], live := [(4, [2, 6, 3]), (10, [2, 6, 8, 10, 3, 9])], modes := [(1, [(4, .take, false)]), (7, [(7, .take, false)])] }
theorem fk101 : FnOk Tryd.prog 101 Tryd.f101 I101 := ⟨Tryd.func101, by kernel_rfl, by kernel_rfl, by kernel_rfl, by kernel_rfl⟩
def S101_4 (x3 : Int) (b1 : Val) : St := [(2, .v false [.ptr 1 0]), (6, .v false [.int .i64 x3]), (3, .v true [.int .i64 (Val.kind b1), .int .i64 (Val.n b1), .int .i64 (Val.step b1), .str (Val.text b1), .sl .ro .val (Val.list b1), .sl .ro .str (Val.columns b1), .sl .ro .row (Val.rows b1)])]
def S101_10 (x3 x5 : Int) (b1 : Val) (b4 : Rowd) : St := [(2, .v false [.ptr 1 0]), (6, .v false [.int .i64 x3]), (8, .v false [.ptr 4 0]), (10, .v false [.int .i64 x5]), (3, .v true [.int .i64 (Val.kind b1), .int .i64 (Val.n b1), .int .i64 (Val.step b1), .str (Val.text b1), .sl .ro .val (Val.list b1), .sl .ro .str (Val.columns b1), .sl .ro .row (Val.rows b1)]), (9, .v true [.sl .ro .int (Rowd.cells b4), .sl .ro .org (Rowd.frm b4)])]
theorem p101_10_0 (x3 x5 : Int) (b1 : Val) (b4 : Rowd) (r1 : Bool) : rS 10 I101 (S101_10 x3 x5 b1 b4) [Y, Y] [yAw r1] = dn (yAO false) [(decide ((x5 : Int) < (Ln (Rowd.cells b4) : Int))) = true, (0 : Int) ≤ x5 ∧ x5 < (Ln (Rowd.cells b4)), AbC 98 (yBo (gD (Rowd.cells b4) (tN x5) Ty.int.dflt)) (yAw r1), (!r1) = true] := by kernel_rfl
theorem p101_10_1 (x3 x5 : Int) (b1 : Val) (b4 : Rowd) (r1 : Bool) : rS 10 I101 (S101_10 x3 x5 b1 b4) [Y, F] [yAw r1] = st 10 I101 (S101_10 x3 (W (x5 + 1)) b1 b4) [(decide ((x5 : Int) < (Ln (Rowd.cells b4) : Int))) = true, (0 : Int) ≤ x5 ∧ x5 < (Ln (Rowd.cells b4)), AbC 98 (yBo (gD (Rowd.cells b4) (tN x5) Ty.int.dflt)) (yAw r1), (!r1) = false] := by kernel_rfl
theorem p101_10_2 (x3 x5 : Int) (b1 : Val) (b4 : Rowd) : rS 10 I101 (S101_10 x3 x5 b1 b4) [F] [] = st 4 I101 (S101_4 (W (x3 + 1)) b1) [(decide ((x5 : Int) < (Ln (Rowd.cells b4) : Int))) = false] := by kernel_rfl
theorem p101_4_3 (x3 : Int) (b1 : Val) : rS 4 I101 (S101_4 x3 b1) [Y, Y, Y] [] = dn (yAO false) [(decide ((x3 : Int) < (Ln (Val.rows b1) : Int))) = true, (0 : Int) ≤ x3 ∧ x3 < (Ln (Val.rows b1)), (((Ln (Rowd.cells (gD (Val.rows b1) (tN x3) rd)) : Int) : Int) != (Ln (Val.columns b1) : Int)) = true, true = true] := by kernel_rfl
theorem p101_4_4 (x3 : Int) (b1 : Val) (r1 : Bool) : rS 4 I101 (S101_4 x3 b1) [Y, F, Y] [yAB r1] = dn (yAO false) [(decide ((x3 : Int) < (Ln (Val.rows b1) : Int))) = true, (0 : Int) ≤ x3 ∧ x3 < (Ln (Val.rows b1)), (((Ln (Rowd.cells (gD (Val.rows b1) (tN x3) rd)) : Int) : Int) != (Ln (Val.columns b1) : Int)) = false, AbC 127 (yCI (Rowd.frm (gD (Val.rows b1) (tN x3) rd))) (yAB r1), (!r1) = true] := by kernel_rfl
theorem p101_4_5 (x3 : Int) (b1 : Val) (r1 : Bool) : rS 4 I101 (S101_4 x3 b1) [Y, F, F] [yAB r1] = st 10 I101 (S101_10 x3 0 b1 (gD (Val.rows b1) (tN x3) rd)) [(decide ((x3 : Int) < (Ln (Val.rows b1) : Int))) = true, (0 : Int) ≤ x3 ∧ x3 < (Ln (Val.rows b1)), (((Ln (Rowd.cells (gD (Val.rows b1) (tN x3) rd)) : Int) : Int) != (Ln (Val.columns b1) : Int)) = false, AbC 127 (yCI (Rowd.frm (gD (Val.rows b1) (tN x3) rd))) (yAB r1), (!r1) = false] := by kernel_rfl
theorem p101_4_6 (x3 : Int) (b1 : Val) : rS 4 I101 (S101_4 x3 b1) [F] [] = dn (yAO true) [(decide ((x3 : Int) < (Ln (Val.rows b1) : Int))) = false] := by kernel_rfl
theorem p101_e_7 (a0 : Val) (r1 : Bool) : rE I101 (yDf a0) [Y, Y] [yAH r1] = dn (yAO false) [AbC 28 (yCv (Val.columns a0)) (yAH r1), (!r1) = true, true = true] := by kernel_rfl
theorem p101_e_8 (a0 : Val) (r1 : Bool) : rE I101 (yDf a0) [F, Y] [yAH r1] = dn (yAO false) [AbC 28 (yCv (Val.columns a0)) (yAH r1), (!r1) = false, (decide (((Ln (Val.rows a0) : Int) : Int) > 12)) = true] := by kernel_rfl
theorem p101_e_9 (a0 : Val) (r1 : Bool) : rE I101 (yDf a0) [F, F] [yAH r1] = st 4 I101 (S101_4 0 a0) [AbC 28 (yCv (Val.columns a0)) (yAH r1), (!r1) = false, (decide (((Ln (Val.rows a0) : Int) : Int) > 12)) = false] := by kernel_rfl
theorem c101_10 {N : Nat} {k4 : Int → Val → Option (Bool)} (hk4 : ∀ z0 z1 r, k4 z0 z1 = some r → RS Tryd.f101 I101 4 (S101_4 z0 z1) (yAO r)) : ∀ n x3 x5 b1 b4 r, yCh N k4 n x3 x5 b1 b4 = some r → RS Tryd.f101 I101 10 (S101_10 x3 x5 b1 b4) (yAO r) := by
 intro n
 induction n with
 | zero => exact fun _ _ _ _ _ h => nE h
 | succ n ih =>
  exact fun x3 x5 b1 b4 r h =>
   cE h (fun h0 h => iE h fun h1 h => bE h fun r1 h2 h => cE h (fun h3 h => dS h fk101 (p101_10_0 x3 x5 b1 b4 r1) (oc h0 (oc h1 (oc (yCT h2) (oc h3 on))))) fun h3 h =>
   tS fk101 (p101_10_1 x3 x5 b1 b4 r1) (oc h0 (oc h1 (oc (yCT h2) (oc h3 on)))) (ih _ _ _ _ _ h)) fun h0 h =>
   tS fk101 (p101_10_2 x3 x5 b1 b4) (oc h0 on) (hk4 _ _ _ h)
theorem c101_4 {N : Nat} : ∀ n x3 b1 r, yCJ N n x3 b1 = some r → RS Tryd.f101 I101 4 (S101_4 x3 b1) (yAO r) := by
 intro n
 induction n with
 | zero => exact fun _ _ _ h => nE h
 | succ n ih =>
  exact fun x3 b1 r h =>
   cE h (fun h0 h => iE h fun h1 h => cE h (fun h2 h => dS h fk101 (p101_4_3 x3 b1) (oc h0 (oc h1 (oc h2 (oc rfl on))))) fun h2 h =>
   bE h fun r1 h3 h => cE h (fun h4 h => dS h fk101 (p101_4_4 x3 b1 r1) (oc h0 (oc h1 (oc h2 (oc (yFI h3) (oc h4 on)))))) fun h4 h =>
   tS fk101 (p101_4_5 x3 b1 r1) (oc h0 (oc h1 (oc h2 (oc (yFI h3) (oc h4 on))))) (c101_10 ih _ _ _ _ _ _ h)) fun h0 h =>
   dS h fk101 (p101_4_6 x3 b1) (oc h0 on)
theorem c101_e {N : Nat} : ∀ a0 r, yFi N a0 = some r → RE Tryd.f101 I101 (yDf a0) (yAO r) := fun a0 r h =>
 bE h fun r1 h0 h => cE h (fun h1 h => dE h fk101 (p101_e_7 a0 r1) (oc (yE0 h0) (oc h1 (oc rfl on)))) fun h1 h =>
 cE h (fun h2 h => dE h fk101 (p101_e_8 a0 r1) (oc (yE0 h0) (oc h1 (oc h2 on)))) fun h2 h =>
 tE fk101 (p101_e_9 a0 r1) (oc (yE0 h0) (oc h1 (oc h2 on))) (c101_4 _ _ _ _ h)
theorem spec_l3Table_ok {N : Nat} {a0 : Val} {r : Bool} (h : yFi N  a0 = some r) : AbC 101 (yDf a0) (yAO r) :=
 AbsCalls.of_reach fk101 rfl rfl (Nat.le_of_ble_eq_true rfl) (c101_e a0 r h)
def G58 (q : Val → Option (Bool)) : Prop := ∀ a0 r, q a0 = some r → AbC 58 (yAd a0) (yAc r)
def G100 (q : Val → Option (Bool)) : Prop := ∀ a0 r, q a0 = some r → AbC 100 (yEd a0) (yBF r)
noncomputable def I58 : Info := { body := (Tryd.f58.body).getD .skip, nt := 95, results := [.tmp 2], keep := [0, 2, 4, 52, 88, 92, 94, 104, 124, 142, 162, 180, 3], live := [], modes := [(1, [(3, .take, false), (9, .take, false), (13, .take, false)]), (3, [(3, .take, false), (8, .take, false), (12, .take, false)]), (9, [(3, .take, false)]), (11, [(3, .take, false)]), (13, [(3, .take, false)]), (15, [(3, .take, false)])] }
theorem fk58 : FnOk Tryd.prog 58 Tryd.f58 I58 := ⟨Tryd.func58, by kernel_rfl, by kernel_rfl, by kernel_rfl, by kernel_rfl⟩
theorem p58_e_0 (a0 : Val) : rE I58 (yAd a0) [Y, Y, Y] [] = dn (yAc false) [(((Val.kind a0) : Int) != 3) = true, (decide (((Ln (Val.list a0) : Int) : Int) > 0)) = true, true = true] := by kernel_rfl
theorem p58_e_1 (a0 : Val) : rE I58 (yAd a0) [Y, F, Y, Y] [] = dn (yAc false) [(((Val.kind a0) : Int) != 3) = true, (decide (((Ln (Val.list a0) : Int) : Int) > 0)) = false, (((Val.kind a0) : Int) != 5) = true, (decide (((W ((Ln (Val.columns a0) : Int) + (Ln (Val.rows a0) : Int))) : Int) > 0)) = true] := by kernel_rfl
theorem p58_e_2 (a0 : Val) : rE I58 (yAd a0) [Y, F, Y, F, Y, Y, Y] [] = dn (yAc false) [(((Val.kind a0) : Int) != 3) = true, (decide (((Ln (Val.list a0) : Int) : Int) > 0)) = false, (((Val.kind a0) : Int) != 5) = true, (decide (((W ((Ln (Val.columns a0) : Int) + (Ln (Val.rows a0) : Int))) : Int) > 0)) = false, (((Val.kind a0) : Int) != 2) = true, (!(((Val.text a0) : Str) == [])) = true, true = true] := by kernel_rfl
theorem p58_e_3 (a0 : Val) : rE I58 (yAd a0) [Y, F, Y, F, Y, F, Y, Y] [] = dn (yAc false) [(((Val.kind a0) : Int) != 3) = true, (decide (((Ln (Val.list a0) : Int) : Int) > 0)) = false, (((Val.kind a0) : Int) != 5) = true, (decide (((W ((Ln (Val.columns a0) : Int) + (Ln (Val.rows a0) : Int))) : Int) > 0)) = false, (((Val.kind a0) : Int) != 2) = true, (!(((Val.text a0) : Str) == [])) = false, (((Val.kind a0) : Int) != 4) = true, (((Val.step a0) : Int) != 0) = true] := by kernel_rfl
theorem p58_e_4 (a0 : Val) (r1 : Bool) : rE I58 (yAd a0) [Y, F, Y, F, Y, F, Y, F, Y] [yAw r1] = dn (yAc r1) [(((Val.kind a0) : Int) != 3) = true, (decide (((Ln (Val.list a0) : Int) : Int) > 0)) = false, (((Val.kind a0) : Int) != 5) = true, (decide (((W ((Ln (Val.columns a0) : Int) + (Ln (Val.rows a0) : Int))) : Int) > 0)) = false, (((Val.kind a0) : Int) != 2) = true, (!(((Val.text a0) : Str) == [])) = false, (((Val.kind a0) : Int) != 4) = true, (((Val.step a0) : Int) != 0) = false, (((Val.kind a0) : Int) == 1) = true, AbC 98 (yBo (Val.n a0)) (yAw r1)] := by kernel_rfl
theorem p58_e_5 (a0 : Val) (r1 : Bool) : rE I58 (yAd a0) [Y, F, Y, F, Y, F, Y, F, F, F, F, F, F, Y] [yBO r1] = dn (yAc r1) [(((Val.kind a0) : Int) != 3) = true, (decide (((Ln (Val.list a0) : Int) : Int) > 0)) = false, (((Val.kind a0) : Int) != 5) = true, (decide (((W ((Ln (Val.columns a0) : Int) + (Ln (Val.rows a0) : Int))) : Int) > 0)) = false, (((Val.kind a0) : Int) != 2) = true, (!(((Val.text a0) : Str) == [])) = false, (((Val.kind a0) : Int) != 4) = true, (((Val.step a0) : Int) != 0) = false, (((Val.kind a0) : Int) == 1) = false, (((Val.kind a0) : Int) == 2) = false, (((Val.kind a0) : Int) == 3) = false, (((Val.kind a0) : Int) == 4) = false, (((Val.kind a0) : Int) == 5) = false, (((Val.kind a0) : Int) == 6) = true, AbC 68 (yDh (Val.n a0) 1 8) (yBO r1)] := by kernel_rfl
theorem p58_e_6 (a0 : Val) : rE I58 (yAd a0) [Y, F, Y, F, Y, F, Y, F, F, F, F, F, F, F] [] = dn (yAc false) [(((Val.kind a0) : Int) != 3) = true, (decide (((Ln (Val.list a0) : Int) : Int) > 0)) = false, (((Val.kind a0) : Int) != 5) = true, (decide (((W ((Ln (Val.columns a0) : Int) + (Ln (Val.rows a0) : Int))) : Int) > 0)) = false, (((Val.kind a0) : Int) != 2) = true, (!(((Val.text a0) : Str) == [])) = false, (((Val.kind a0) : Int) != 4) = true, (((Val.step a0) : Int) != 0) = false, (((Val.kind a0) : Int) == 1) = false, (((Val.kind a0) : Int) == 2) = false, (((Val.kind a0) : Int) == 3) = false, (((Val.kind a0) : Int) == 4) = false, (((Val.kind a0) : Int) == 5) = false, (((Val.kind a0) : Int) == 6) = false] := by kernel_rfl
theorem p58_e_7 (a0 : Val) (r1 r2 : Bool) : rE I58 (yAd a0) [Y, F, Y, F, Y, F, F, F, F, F, F, Y, Y] [yAw r1, yAw r2] = dn (yAc r2) [(((Val.kind a0) : Int) != 3) = true, (decide (((Ln (Val.list a0) : Int) : Int) > 0)) = false, (((Val.kind a0) : Int) != 5) = true, (decide (((W ((Ln (Val.columns a0) : Int) + (Ln (Val.rows a0) : Int))) : Int) > 0)) = false, (((Val.kind a0) : Int) != 2) = true, (!(((Val.text a0) : Str) == [])) = false, (((Val.kind a0) : Int) != 4) = false, false = false, (((Val.kind a0) : Int) == 1) = false, (((Val.kind a0) : Int) == 2) = false, (((Val.kind a0) : Int) == 3) = false, (((Val.kind a0) : Int) == 4) = true, AbC 98 (yBo (Val.n a0)) (yAw r1), r1 = true, AbC 98 (yBo (Val.step a0)) (yAw r2)] := by kernel_rfl
theorem p58_e_8 (a0 : Val) (r1 : Bool) : rE I58 (yAd a0) [Y, F, Y, F, Y, F, F, F, F, F, F, Y, F] [yAw r1] = dn (yAc false) [(((Val.kind a0) : Int) != 3) = true, (decide (((Ln (Val.list a0) : Int) : Int) > 0)) = false, (((Val.kind a0) : Int) != 5) = true, (decide (((W ((Ln (Val.columns a0) : Int) + (Ln (Val.rows a0) : Int))) : Int) > 0)) = false, (((Val.kind a0) : Int) != 2) = true, (!(((Val.text a0) : Str) == [])) = false, (((Val.kind a0) : Int) != 4) = false, false = false, (((Val.kind a0) : Int) == 1) = false, (((Val.kind a0) : Int) == 2) = false, (((Val.kind a0) : Int) == 3) = false, (((Val.kind a0) : Int) == 4) = true, AbC 98 (yBo (Val.n a0)) (yAw r1), r1 = false] := by kernel_rfl
theorem p58_e_9 (a0 : Val) : rE I58 (yAd a0) [Y, F, Y, F, F, F, Y, Y] [] = dn (yAc false) [(((Val.kind a0) : Int) != 3) = true, (decide (((Ln (Val.list a0) : Int) : Int) > 0)) = false, (((Val.kind a0) : Int) != 5) = true, (decide (((W ((Ln (Val.columns a0) : Int) + (Ln (Val.rows a0) : Int))) : Int) > 0)) = false, (((Val.kind a0) : Int) != 2) = false, false = false, (((Val.kind a0) : Int) != 4) = true, (((Val.step a0) : Int) != 0) = true] := by kernel_rfl
theorem p58_e_10 (a0 : Val) (r1 : Bool) : rE I58 (yAd a0) [Y, F, Y, F, F, F, Y, F, F, Y, Y] [yAW r1] = dn (yAc r1) [(((Val.kind a0) : Int) != 3) = true, (decide (((Ln (Val.list a0) : Int) : Int) > 0)) = false, (((Val.kind a0) : Int) != 5) = true, (decide (((W ((Ln (Val.columns a0) : Int) + (Ln (Val.rows a0) : Int))) : Int) > 0)) = false, (((Val.kind a0) : Int) != 2) = false, false = false, (((Val.kind a0) : Int) != 4) = true, (((Val.step a0) : Int) != 0) = false, (((Val.kind a0) : Int) == 1) = false, (((Val.kind a0) : Int) == 2) = true, (((Val.n a0) : Int) == 0) = true, AbC 99 (yDo (Val.text a0)) (yAW r1)] := by kernel_rfl
theorem p58_e_11 (a0 : Val) : rE I58 (yAd a0) [Y, F, Y, F, F, F, Y, F, F, Y, F] [] = dn (yAc false) [(((Val.kind a0) : Int) != 3) = true, (decide (((Ln (Val.list a0) : Int) : Int) > 0)) = false, (((Val.kind a0) : Int) != 5) = true, (decide (((W ((Ln (Val.columns a0) : Int) + (Ln (Val.rows a0) : Int))) : Int) > 0)) = false, (((Val.kind a0) : Int) != 2) = false, false = false, (((Val.kind a0) : Int) != 4) = true, (((Val.step a0) : Int) != 0) = false, (((Val.kind a0) : Int) == 1) = false, (((Val.kind a0) : Int) == 2) = true, (((Val.n a0) : Int) == 0) = false] := by kernel_rfl
theorem p58_e_12 (a0 : Val) : rE I58 (yAd a0) [Y, F, F, F, Y, Y, Y] [] = dn (yAc false) [(((Val.kind a0) : Int) != 3) = true, (decide (((Ln (Val.list a0) : Int) : Int) > 0)) = false, (((Val.kind a0) : Int) != 5) = false, false = false, (((Val.kind a0) : Int) != 2) = true, (!(((Val.text a0) : Str) == [])) = true, true = true] := by kernel_rfl
theorem p58_e_13 (a0 : Val) : rE I58 (yAd a0) [Y, F, F, F, Y, F, Y, Y] [] = dn (yAc false) [(((Val.kind a0) : Int) != 3) = true, (decide (((Ln (Val.list a0) : Int) : Int) > 0)) = false, (((Val.kind a0) : Int) != 5) = false, false = false, (((Val.kind a0) : Int) != 2) = true, (!(((Val.text a0) : Str) == [])) = false, (((Val.kind a0) : Int) != 4) = true, (((Val.step a0) : Int) != 0) = true] := by kernel_rfl
theorem p58_e_14 (a0 : Val) (r1 : Bool) : rE I58 (yAd a0) [Y, F, F, F, Y, F, Y, F, F, F, F, F, Y, Y] [yAO r1] = dn (yAc r1) [(((Val.kind a0) : Int) != 3) = true, (decide (((Ln (Val.list a0) : Int) : Int) > 0)) = false, (((Val.kind a0) : Int) != 5) = false, false = false, (((Val.kind a0) : Int) != 2) = true, (!(((Val.text a0) : Str) == [])) = false, (((Val.kind a0) : Int) != 4) = true, (((Val.step a0) : Int) != 0) = false, (((Val.kind a0) : Int) == 1) = false, (((Val.kind a0) : Int) == 2) = false, (((Val.kind a0) : Int) == 3) = false, (((Val.kind a0) : Int) == 4) = false, (((Val.kind a0) : Int) == 5) = true, (((Val.n a0) : Int) == 0) = true, AbC 101 (yDf a0) (yAO r1)] := by kernel_rfl
theorem p58_e_15 (a0 : Val) : rE I58 (yAd a0) [Y, F, F, F, Y, F, Y, F, F, F, F, F, Y, F] [] = dn (yAc false) [(((Val.kind a0) : Int) != 3) = true, (decide (((Ln (Val.list a0) : Int) : Int) > 0)) = false, (((Val.kind a0) : Int) != 5) = false, false = false, (((Val.kind a0) : Int) != 2) = true, (!(((Val.text a0) : Str) == [])) = false, (((Val.kind a0) : Int) != 4) = true, (((Val.step a0) : Int) != 0) = false, (((Val.kind a0) : Int) == 1) = false, (((Val.kind a0) : Int) == 2) = false, (((Val.kind a0) : Int) == 3) = false, (((Val.kind a0) : Int) == 4) = false, (((Val.kind a0) : Int) == 5) = true, (((Val.n a0) : Int) == 0) = false] := by kernel_rfl
theorem p58_e_16 (a0 : Val) : rE I58 (yAd a0) [F, F, Y, Y] [] = dn (yAc false) [(((Val.kind a0) : Int) != 3) = false, false = false, (((Val.kind a0) : Int) != 5) = true, (decide (((W ((Ln (Val.columns a0) : Int) + (Ln (Val.rows a0) : Int))) : Int) > 0)) = true] := by kernel_rfl
theorem p58_e_17 (a0 : Val) : rE I58 (yAd a0) [F, F, Y, F, Y, Y, Y] [] = dn (yAc false) [(((Val.kind a0) : Int) != 3) = false, false = false, (((Val.kind a0) : Int) != 5) = true, (decide (((W ((Ln (Val.columns a0) : Int) + (Ln (Val.rows a0) : Int))) : Int) > 0)) = false, (((Val.kind a0) : Int) != 2) = true, (!(((Val.text a0) : Str) == [])) = true, true = true] := by kernel_rfl
theorem p58_e_18 (a0 : Val) : rE I58 (yAd a0) [F, F, Y, F, Y, F, Y, Y] [] = dn (yAc false) [(((Val.kind a0) : Int) != 3) = false, false = false, (((Val.kind a0) : Int) != 5) = true, (decide (((W ((Ln (Val.columns a0) : Int) + (Ln (Val.rows a0) : Int))) : Int) > 0)) = false, (((Val.kind a0) : Int) != 2) = true, (!(((Val.text a0) : Str) == [])) = false, (((Val.kind a0) : Int) != 4) = true, (((Val.step a0) : Int) != 0) = true] := by kernel_rfl
theorem p58_e_19 (a0 : Val) (r1 : Bool) : rE I58 (yAd a0) [F, F, Y, F, Y, F, Y, F, F, F, Y, Y] [yBF r1] = dn (yAc r1) [(((Val.kind a0) : Int) != 3) = false, false = false, (((Val.kind a0) : Int) != 5) = true, (decide (((W ((Ln (Val.columns a0) : Int) + (Ln (Val.rows a0) : Int))) : Int) > 0)) = false, (((Val.kind a0) : Int) != 2) = true, (!(((Val.text a0) : Str) == [])) = false, (((Val.kind a0) : Int) != 4) = true, (((Val.step a0) : Int) != 0) = false, (((Val.kind a0) : Int) == 1) = false, (((Val.kind a0) : Int) == 2) = false, (((Val.kind a0) : Int) == 3) = true, (((Val.n a0) : Int) == 0) = true, AbC 100 (yEd a0) (yBF r1)] := by kernel_rfl
theorem p58_e_20 (a0 : Val) : rE I58 (yAd a0) [F, F, Y, F, Y, F, Y, F, F, F, Y, F] [] = dn (yAc false) [(((Val.kind a0) : Int) != 3) = false, false = false, (((Val.kind a0) : Int) != 5) = true, (decide (((W ((Ln (Val.columns a0) : Int) + (Ln (Val.rows a0) : Int))) : Int) > 0)) = false, (((Val.kind a0) : Int) != 2) = true, (!(((Val.text a0) : Str) == [])) = false, (((Val.kind a0) : Int) != 4) = true, (((Val.step a0) : Int) != 0) = false, (((Val.kind a0) : Int) == 1) = false, (((Val.kind a0) : Int) == 2) = false, (((Val.kind a0) : Int) == 3) = true, (((Val.n a0) : Int) == 0) = false] := by kernel_rfl
theorem c58_e {N : Nat} {q0 : Val → Option (Bool)} (g0 : G58 q0) {q1 : Val → Option (Bool)} (g1 : G100 q1) : ∀ a0 r, yBQ N q0 q1 a0 = some r → RE Tryd.f58 I58 (yAd a0) (yAc r) := fun a0 r h =>
 cE h (fun h0 h => cE h (fun h1 h => dE h fk58 (p58_e_0 a0) (oc h0 (oc h1 (oc rfl on)))) fun h1 h =>
 cE h (fun h2 h => cE h (fun h3 h => dE h fk58 (p58_e_1 a0) (oc h0 (oc h1 (oc h2 (oc h3 on))))) fun h3 h =>
 cE h (fun h4 h => cE h (fun h5 h => dE h fk58 (p58_e_2 a0) (oc h0 (oc h1 (oc h2 (oc h3 (oc h4 (oc h5 (oc rfl on)))))))) fun h5 h =>
 cE h (fun h6 h => cE h (fun h7 h => dE h fk58 (p58_e_3 a0) (oc h0 (oc h1 (oc h2 (oc h3 (oc h4 (oc h5 (oc h6 (oc h7 on))))))))) fun h7 h =>
 cE h (fun h8 h => bE h fun r1 h9 h => dE h fk58 (p58_e_4 a0 r1) (oc h0 (oc h1 (oc h2 (oc h3 (oc h4 (oc h5 (oc h6 (oc h7 (oc h8 (oc (yCT h9) on))))))))))) fun h8 h =>
 cE h (fun h13 h => bE h fun r1 h14 h => dE h fk58 (p58_e_5 a0 r1) (oc h0 (oc h1 (oc h2 (oc h3 (oc h4 (oc h5 (oc h6 (oc h7 (oc h8 (oc (of_not h4) (oc (of_not h0) (oc (of_not h6) (oc (of_not h2) (oc h13 (oc (yFR h14) on)))))))))))))))) fun h13 h =>
 dE h fk58 (p58_e_6 a0) (oc h0 (oc h1 (oc h2 (oc h3 (oc h4 (oc h5 (oc h6 (oc h7 (oc h8 (oc (of_not h4) (oc (of_not h0) (oc (of_not h6) (oc (of_not h2) (oc h13 on))))))))))))))) fun h6 h =>
 bE h fun r1 h12 h => cE h (fun h13 h => bE h fun r2 h14 h => dE h fk58 (p58_e_7 a0 r1 r2) (oc h0 (oc h1 (oc h2 (oc h3 (oc h4 (oc h5 (oc h6 (oc rfl (oc (eq_ne (of_not h6) rfl) (oc (of_not h4) (oc (of_not h0) (oc (of_not h6) (oc (yCT h12) (oc h13 (oc (yCT h14) on)))))))))))))))) fun h13 h =>
 dE h fk58 (p58_e_8 a0 r1) (oc h0 (oc h1 (oc h2 (oc h3 (oc h4 (oc h5 (oc h6 (oc rfl (oc (eq_ne (of_not h6) rfl) (oc (of_not h4) (oc (of_not h0) (oc (of_not h6) (oc (yCT h12) (oc h13 on))))))))))))))) fun h4 h =>
 cE h (fun h7 h => dE h fk58 (p58_e_9 a0) (oc h0 (oc h1 (oc h2 (oc h3 (oc h4 (oc rfl (oc (not_of (eq_ne (of_not h4) rfl)) (oc h7 on))))))))) fun h7 h =>
 cE h (fun h10 h => bE h fun r1 h11 h => dE h fk58 (p58_e_10 a0 r1) (oc h0 (oc h1 (oc h2 (oc h3 (oc h4 (oc rfl (oc (not_of (eq_ne (of_not h4) rfl)) (oc h7 (oc (eq_ne (of_not h4) rfl) (oc (of_not h4) (oc h10 (oc (yHb h11) on))))))))))))) fun h10 h =>
 dE h fk58 (p58_e_11 a0) (oc h0 (oc h1 (oc h2 (oc h3 (oc h4 (oc rfl (oc (not_of (eq_ne (of_not h4) rfl)) (oc h7 (oc (eq_ne (of_not h4) rfl) (oc (of_not h4) (oc h10 on)))))))))))) fun h2 h =>
 cE h (fun h5 h => dE h fk58 (p58_e_12 a0) (oc h0 (oc h1 (oc h2 (oc rfl (oc (not_of (eq_ne (of_not h2) rfl)) (oc h5 (oc rfl on)))))))) fun h5 h =>
 cE h (fun h7 h => dE h fk58 (p58_e_13 a0) (oc h0 (oc h1 (oc h2 (oc rfl (oc (not_of (eq_ne (of_not h2) rfl)) (oc h5 (oc (not_of (eq_ne (of_not h2) rfl)) (oc h7 on))))))))) fun h7 h =>
 cE h (fun h13 h => bE h fun r1 h14 h => dE h fk58 (p58_e_14 a0 r1) (oc h0 (oc h1 (oc h2 (oc rfl (oc (not_of (eq_ne (of_not h2) rfl)) (oc h5 (oc (not_of (eq_ne (of_not h2) rfl)) (oc h7 (oc (eq_ne (of_not h2) rfl) (oc (eq_ne (of_not h2) rfl) (oc (of_not h0) (oc (eq_ne (of_not h2) rfl) (oc (of_not h2) (oc h13 (oc (spec_l3Table_ok h14) on)))))))))))))))) fun h13 h =>
 dE h fk58 (p58_e_15 a0) (oc h0 (oc h1 (oc h2 (oc rfl (oc (not_of (eq_ne (of_not h2) rfl)) (oc h5 (oc (not_of (eq_ne (of_not h2) rfl)) (oc h7 (oc (eq_ne (of_not h2) rfl) (oc (eq_ne (of_not h2) rfl) (oc (of_not h0) (oc (eq_ne (of_not h2) rfl) (oc (of_not h2) (oc h13 on))))))))))))))) fun h0 h =>
 cE h (fun h3 h => dE h fk58 (p58_e_16 a0) (oc h0 (oc rfl (oc (not_of (eq_ne (of_not h0) rfl)) (oc h3 on))))) fun h3 h =>
 cE h (fun h5 h => dE h fk58 (p58_e_17 a0) (oc h0 (oc rfl (oc (not_of (eq_ne (of_not h0) rfl)) (oc h3 (oc (not_of (eq_ne (of_not h0) rfl)) (oc h5 (oc rfl on)))))))) fun h5 h =>
 cE h (fun h7 h => dE h fk58 (p58_e_18 a0) (oc h0 (oc rfl (oc (not_of (eq_ne (of_not h0) rfl)) (oc h3 (oc (not_of (eq_ne (of_not h0) rfl)) (oc h5 (oc (not_of (eq_ne (of_not h0) rfl)) (oc h7 on))))))))) fun h7 h =>
 cE h (fun h11 h => bE h fun r1 h12 h => dE h fk58 (p58_e_19 a0 r1) (oc h0 (oc rfl (oc (not_of (eq_ne (of_not h0) rfl)) (oc h3 (oc (not_of (eq_ne (of_not h0) rfl)) (oc h5 (oc (not_of (eq_ne (of_not h0) rfl)) (oc h7 (oc (eq_ne (of_not h0) rfl) (oc (eq_ne (of_not h0) rfl) (oc (of_not h0) (oc h11 (oc (g1 _ _ h12) on)))))))))))))) fun h11 h =>
 dE h fk58 (p58_e_20 a0) (oc h0 (oc rfl (oc (not_of (eq_ne (of_not h0) rfl)) (oc h3 (oc (not_of (eq_ne (of_not h0) rfl)) (oc h5 (oc (not_of (eq_ne (of_not h0) rfl)) (oc h7 (oc (eq_ne (of_not h0) rfl) (oc (eq_ne (of_not h0) rfl) (oc (of_not h0) (oc h11 on))))))))))))
theorem yF0 {N : Nat} {q0 : Val → Option (Bool)} (g0 : G58 q0) {q1 : Val → Option (Bool)} (g1 : G100 q1) {a0 : Val} {r : Bool} (h : yBQ N q0 q1 a0 = some r) : AbC 58 (yAd a0) (yAc r) :=
 AbsCalls.of_reach fk58 rfl rfl (Nat.le_of_ble_eq_true rfl) (c58_e g0 g1 a0 r h)
noncomputable def I100 : Info := { body := (Tryd.f100.body).getD .skip, nt := 36, results := [.tmp 2], keep := [0, 2, 4, 6, 16, 52, 3], live := [(2, [2, 6, 3])], modes := [(4, [(7, .take, false)]), (6, [(4, .take, false)])] }
theorem fk100 : FnOk Tryd.prog 100 Tryd.f100 I100 := ⟨Tryd.func100, by kernel_rfl, by kernel_rfl, by kernel_rfl, by kernel_rfl⟩
def S100_2 (x3 : Int) (b1 : Val) : St := [(2, .v false [.ptr 1 0]), (6, .v false [.int .i64 x3]), (3, .v true [.int .i64 (Val.kind b1), .int .i64 (Val.n b1), .int .i64 (Val.step b1), .str (Val.text b1), .sl .ro .val (Val.list b1), .sl .ro .str (Val.columns b1), .sl .ro .row (Val.rows b1)])]
theorem p100_2_0 (x3 : Int) (b1 : Val) (r1 : Bool) : rS 2 I100 (S100_2 x3 b1) [Y, Y, Y] [yAN r1] = dn (yBF false) [(decide ((x3 : Int) < (Ln (Val.list b1) : Int))) = true, (0 : Int) ≤ x3 ∧ x3 < (Ln (Val.list b1)), AbC 125 (yBz (gD (Val.list b1) (tN x3) vd)) (yAN r1), (!r1) = true, true = true] := by kernel_rfl
theorem p100_2_1 (x3 : Int) (b1 : Val) (r1 r2 : Bool) : rS 2 I100 (S100_2 x3 b1) [Y, F, Y] [yAN r1, yAc r2] = dn (yBF false) [(decide ((x3 : Int) < (Ln (Val.list b1) : Int))) = true, (0 : Int) ≤ x3 ∧ x3 < (Ln (Val.list b1)), AbC 125 (yBz (gD (Val.list b1) (tN x3) vd)) (yAN r1), (!r1) = false, (0 : Int) ≤ x3 ∧ x3 < (Ln (Val.list b1)), AbC 58 (yAd (gD (Val.list b1) (tN x3) vd)) (yAc r2), (!r2) = true] := by kernel_rfl
theorem p100_2_2 (x3 : Int) (b1 : Val) (r1 r2 : Bool) : rS 2 I100 (S100_2 x3 b1) [Y, F, F] [yAN r1, yAc r2] = st 2 I100 (S100_2 (W (x3 + 1)) b1) [(decide ((x3 : Int) < (Ln (Val.list b1) : Int))) = true, (0 : Int) ≤ x3 ∧ x3 < (Ln (Val.list b1)), AbC 125 (yBz (gD (Val.list b1) (tN x3) vd)) (yAN r1), (!r1) = false, (0 : Int) ≤ x3 ∧ x3 < (Ln (Val.list b1)), AbC 58 (yAd (gD (Val.list b1) (tN x3) vd)) (yAc r2), (!r2) = false] := by kernel_rfl
theorem p100_2_3 (x3 : Int) (b1 : Val) (r1 : Int) : rS 2 I100 (S100_2 x3 b1) [F, Y] [yBf r1] = dn (yBF (decide ((r1 : Int) ≤ 3))) [(decide ((x3 : Int) < (Ln (Val.list b1) : Int))) = false, (decide (((Ln (Val.list b1) : Int) : Int) ≤ 8)) = true, AbC 126 (yCH b1) (yBf r1)] := by kernel_rfl
theorem p100_2_4 (x3 : Int) (b1 : Val) : rS 2 I100 (S100_2 x3 b1) [F, F] [] = dn (yBF false) [(decide ((x3 : Int) < (Ln (Val.list b1) : Int))) = false, (decide (((Ln (Val.list b1) : Int) : Int) ≤ 8)) = false] := by kernel_rfl
theorem p100_e_5 (a0 : Val) : rE I100 (yEd a0) [] [] = st 2 I100 (S100_2 0 a0) [] := by kernel_rfl
theorem c100_2 {N : Nat} {q0 : Val → Option (Bool)} (g0 : G58 q0) {q1 : Val → Option (Bool)} (g1 : G100 q1) : ∀ n x3 b1 r, yCl N q0 q1 n x3 b1 = some r → RS Tryd.f100 I100 2 (S100_2 x3 b1) (yBF r) := by
 intro n
 induction n with
 | zero => exact fun _ _ _ h => nE h
 | succ n ih =>
  exact fun x3 b1 r h =>
   cE h (fun h0 h => iE h fun h1 h => bE h fun r1 h2 h => cE h (fun h3 h => dS h fk100 (p100_2_0 x3 b1 r1) (oc h0 (oc h1 (oc (yE1 h2) (oc h3 (oc rfl on)))))) fun h3 h =>
   bE h fun r2 h5 h => cE h (fun h6 h => dS h fk100 (p100_2_1 x3 b1 r1 r2) (oc h0 (oc h1 (oc (yE1 h2) (oc h3 (oc h1 (oc (g0 _ _ h5) (oc h6 on)))))))) fun h6 h =>
   tS fk100 (p100_2_2 x3 b1 r1 r2) (oc h0 (oc h1 (oc (yE1 h2) (oc h3 (oc h1 (oc (g0 _ _ h5) (oc h6 on))))))) (ih _ _ _ h)) fun h0 h =>
   cE h (fun h1 h => bE h fun r1 h2 h => dS h fk100 (p100_2_3 x3 b1 r1) (oc h0 (oc h1 (oc (spec_DepthOf_ok h2) on)))) fun h1 h =>
   dS h fk100 (p100_2_4 x3 b1) (oc h0 (oc h1 on))
theorem c100_e {N : Nat} {q0 : Val → Option (Bool)} (g0 : G58 q0) {q1 : Val → Option (Bool)} (g1 : G100 q1) : ∀ a0 r, yFk N q0 q1 a0 = some r → RE Tryd.f100 I100 (yEd a0) (yBF r) := fun a0 r h =>
 tE fk100 (p100_e_5 a0) on (c100_2 g0 g1 _ _ _ _ h)
theorem yHd {N : Nat} {q0 : Val → Option (Bool)} (g0 : G58 q0) {q1 : Val → Option (Bool)} (g1 : G100 q1) {a0 : Val} {r : Bool} (h : yFk N q0 q1 a0 = some r) : AbC 100 (yEd a0) (yBF r) :=
 AbsCalls.of_reach fk100 rfl rfl (Nat.le_of_ble_eq_true rfl) (c100_e g0 g1 a0 r h)
theorem yF6 {N : Nat} : ∀ d, G58 (yAh N d).c_spec_IsValidValue ∧ G100 (yAh N d).c_spec_l3List := by
 intro d
 induction d with
 | zero => exact ⟨fun _ _ h => nE h, fun _ _ h => nE h⟩
 | succ d ih =>
  obtain ⟨ih0, ih1⟩ := ih
  exact ⟨fun _ _ h => yF0 (N := N) ih0 ih1 h, fun _ _ h => yHd (N := N) ih0 ih1 h⟩
theorem yD5 {N : Nat} {a0 : Val} {r : Bool} (h : yEY N a0 = some r) : AbC 58 (yAd a0) (yAc r) := (yF6 N).1 _ r h
noncomputable def I29 : Info := { body := (Tryd.f29.body).getD .skip, nt := 5, results := [.cell 2 31], keep := [0, 4, 5], live := [], modes := [] }
theorem fk29 : FnOk Tryd.prog 29 Tryd.f29 I29 := ⟨Tryd.func29, by kernel_rfl, by kernel_rfl, by kernel_rfl, by kernel_rfl⟩
theorem p29_e_0 (a0 : Int) : rE I29 (yB9 a0) [] [] = dn (yA1 (Val.mk 6 a0 0 [] [] [] [])) [] := by kernel_rfl
theorem c29_e {N : Nat} : ∀ a0 r, yB2 N a0 = some r → RE Tryd.f29 I29 (yB9 a0) (yA1 r) := fun a0 r h =>
 dE h fk29 (p29_e_0 a0) on
theorem yEG {N : Nat} {a0 : Int} {r : Val} (h : yB2 N  a0 = some r) : AbC 29 (yB9 a0) (yA1 r) :=
 AbsCalls.of_reach fk29 rfl rfl (Nat.le_of_ble_eq_true rfl) (c29_e a0 r h)
noncomputable def I66 : Info := { body := (Tryd.f66.body).getD .skip, nt := 31, results := [.cell 2 31, .tmp 3], keep := [0, 4, 6, 8, 16, 32, 46, 5], live := [(2, [0, 4, 8, 5])], modes := [] }
theorem fk66 : FnOk Tryd.prog 66 Tryd.f66 I66 := ⟨Tryd.func66, by kernel_rfl, by kernel_rfl, by kernel_rfl, by kernel_rfl⟩
def S66_2 (x0 : List Val) (x4 : Int) (b2 : Val) : St := [(0, .v false [.sl .ro .val x0]), (4, .v false [.ptr 2 0]), (8, .v false [.int .i64 x4]), (5, .v true [.int .i64 (Val.kind b2), .int .i64 (Val.n b2), .int .i64 (Val.step b2), .str (Val.text b2), .sl .own .val (Val.list b2), .sl .own .str (Val.columns b2), .sl .own .row (Val.rows b2)])]
theorem p66_2_0 (x0 : List Val) (x4 : Int) (b2 : Val) (r1 : Bool) (r2 : Val) : rS 2 I66 (S66_2 x0 x4 b2) [Y, Y] [yAc r1, yA1 r2] = dn (yBh (r2, true)) [(decide ((x4 : Int) < (Ln x0 : Int))) = true, (0 : Int) ≤ x4 ∧ x4 < (Ln x0), AbC 58 (yAd (gD x0 (tN x4) vd)) (yAc r1), (!r1) = true, AbC 29 (yB9 4) (yA1 r2)] := by kernel_rfl
theorem p66_2_1 (x0 : List Val) (x4 : Int) (b2 : Val) (r1 : Bool) (r2 : Val) : rS 2 I66 (S66_2 x0 x4 b2) [Y, F, Y] [yAc r1, yA1 r2] = dn (yBh (r2, true)) [(decide ((x4 : Int) < (Ln x0 : Int))) = true, (0 : Int) ≤ x4 ∧ x4 < (Ln x0), AbC 58 (yAd (gD x0 (tN x4) vd)) (yAc r1), (!r1) = false, (0 : Int) ≤ x4 ∧ x4 < (Ln x0), (((Val.kind (gD x0 (tN x4) vd)) : Int) == 6) = true, (0 : Int) ≤ x4 ∧ x4 < (Ln x0), AbC 29 (yB9 (Val.n (gD x0 (tN x4) vd))) (yA1 r2)] := by kernel_rfl
theorem p66_2_2 (x0 : List Val) (x4 : Int) (b2 : Val) (r1 : Bool) : rS 2 I66 (S66_2 x0 x4 b2) [Y, F, F] [yAc r1] = st 2 I66 (S66_2 x0 (W (x4 + 1)) b2) [(decide ((x4 : Int) < (Ln x0 : Int))) = true, (0 : Int) ≤ x4 ∧ x4 < (Ln x0), AbC 58 (yAd (gD x0 (tN x4) vd)) (yAc r1), (!r1) = false, (0 : Int) ≤ x4 ∧ x4 < (Ln x0), (((Val.kind (gD x0 (tN x4) vd)) : Int) == 6) = false] := by kernel_rfl
theorem p66_2_3 (x0 : List Val) (x4 : Int) (b2 : Val) : rS 2 I66 (S66_2 x0 x4 b2) [F] [] = dn (yBh ((Val.mk 0 0 0 [] [] [] []), false)) [(decide ((x4 : Int) < (Ln x0 : Int))) = false] := by kernel_rfl
theorem p66_e_4 (a0 : List Val) : rE I66 (yDP a0) [] [] = st 2 I66 (S66_2 a0 0 (Val.mk 0 0 0 [] [] [] [])) [] := by kernel_rfl
theorem c66_2 {N : Nat} : ∀ n x0 x4 b2 r, yB3 N n x0 x4 b2 = some r → RS Tryd.f66 I66 2 (S66_2 x0 x4 b2) (yBh r) := by
 intro n
 induction n with
 | zero => exact fun _ _ _ _ h => nE h
 | succ n ih =>
  exact fun x0 x4 b2 r h =>
   cE h (fun h0 h => iE h fun h1 h => bE h fun r1 h2 h => cE h (fun h3 h => bE h fun r2 h4 h => dS h fk66 (p66_2_0 x0 x4 b2 r1 r2) (oc h0 (oc h1 (oc (yD5 h2) (oc h3 (oc (yEG h4) on)))))) fun h3 h =>
   cE h (fun h5 h => bE h fun r2 h7 h => dS h fk66 (p66_2_1 x0 x4 b2 r1 r2) (oc h0 (oc h1 (oc (yD5 h2) (oc h3 (oc h1 (oc h5 (oc h1 (oc (yEG h7) on))))))))) fun h5 h =>
   tS fk66 (p66_2_2 x0 x4 b2 r1) (oc h0 (oc h1 (oc (yD5 h2) (oc h3 (oc h1 (oc h5 on)))))) (ih _ _ _ _ h)) fun h0 h =>
   dS h fk66 (p66_2_3 x0 x4 b2) (oc h0 on)
theorem c66_e {N : Nat} : ∀ a0 r, yFT N a0 = some r → RE Tryd.f66 I66 (yDP a0) (yBh r) := fun a0 r h =>
 tE fk66 (p66_e_4 a0) on (c66_2 _ _ _ _ _ h)
theorem yGF {N : Nat} {a0 : List Val} {r : Val × Bool} (h : yFT N  a0 = some r) : AbC 66 (yDP a0) (yBh r) :=
 AbsCalls.of_reach fk66 rfl rfl (Nat.le_of_ble_eq_true rfl) (c66_e a0 r h)
noncomputable def I26 : Info := { body := (Tryd.f26.body).getD .skip, nt := 34, results := [.cell 4 31, .tmp 5], keep := [0, 2, 8, 10, 12, 14, 16, 28, 38, 62, 9, 13], live := [(5, [0, 2, 8, 16, 9])], modes := [(1, [(2, .take, false)]), (2, [(0, .take, false)]), (3, [(0, .take, false)])] }
theorem fk26 : FnOk Tryd.prog 26 Tryd.f26 I26 := ⟨Tryd.func26, by kernel_rfl, by kernel_rfl, by kernel_rfl, by kernel_rfl⟩
def S26_5 (x0 : List Val) (x1 : List Int) (x8 : Int) (b4 : Val) : St := [(0, .v false [.sl .ro .val x0]), (2, .v false [.sl .ro .int x1]), (8, .v false [.ptr 4 0]), (16, .v false [.int .i64 x8]), (9, .v true [.int .i64 (Val.kind b4), .int .i64 (Val.n b4), .int .i64 (Val.step b4), .str (Val.text b4), .sl .own .val (Val.list b4), .sl .own .str (Val.columns b4), .sl .own .row (Val.rows b4)])]
theorem p26_5_0 (x0 : List Val) (x1 : List Int) (x8 : Int) (b4 r1 : Val) : rS 5 I26 (S26_5 x0 x1 x8 b4) [Y, Y] [yA1 r1] = dn (yDg (r1, true)) [(decide ((x8 : Int) < (Ln x0 : Int))) = true, (0 : Int) ≤ x8 ∧ x8 < (Ln x0), (0 : Int) ≤ x8 ∧ x8 < (Ln x1), (((Val.kind (gD x0 (tN x8) vd)) : Int) != (gD x1 (tN x8) Ty.int.dflt)) = true, AbC 29 (yB9 4) (yA1 r1)] := by kernel_rfl
theorem p26_5_1 (x0 : List Val) (x1 : List Int) (x8 : Int) (b4 : Val) : rS 5 I26 (S26_5 x0 x1 x8 b4) [Y, F] [] = st 5 I26 (S26_5 x0 x1 (W (x8 + 1)) b4) [(decide ((x8 : Int) < (Ln x0 : Int))) = true, (0 : Int) ≤ x8 ∧ x8 < (Ln x0), (0 : Int) ≤ x8 ∧ x8 < (Ln x1), (((Val.kind (gD x0 (tN x8) vd)) : Int) != (gD x1 (tN x8) Ty.int.dflt)) = false] := by kernel_rfl
theorem p26_5_2 (x0 : List Val) (x1 : List Int) (x8 : Int) (b4 : Val) : rS 5 I26 (S26_5 x0 x1 x8 b4) [F] [] = dn (yDg ((Val.mk 0 0 0 [] [] [] []), false)) [(decide ((x8 : Int) < (Ln x0 : Int))) = false] := by kernel_rfl
theorem p26_e_3 (a0 : List Val) (a1 : List Int) (r1 : Val × Bool) : rE I26 (yEK a0 a1) [Y] [yBh r1] = dn (yDg (r1.1, true)) [AbC 66 (yDP a0) (yBh r1), r1.2 = true] := by kernel_rfl
theorem p26_e_4 (a0 : List Val) (a1 : List Int) (r1 : Val × Bool) : rE I26 (yEK a0 a1) [F] [yBh r1] = st 5 I26 (S26_5 a0 a1 0 (Val.mk 0 0 0 [] [] [] [])) [AbC 66 (yDP a0) (yBh r1), r1.2 = false] := by kernel_rfl
theorem c26_5 {N : Nat} : ∀ n x0 x1 x8 b4 r, yB4 N n x0 x1 x8 b4 = some r → RS Tryd.f26 I26 5 (S26_5 x0 x1 x8 b4) (yDg r) := by
 intro n
 induction n with
 | zero => exact fun _ _ _ _ _ h => nE h
 | succ n ih =>
  exact fun x0 x1 x8 b4 r h =>
   cE h (fun h0 h => iE h fun h1 h => iE h fun h2 h => cE h (fun h3 h => bE h fun r1 h4 h => dS h fk26 (p26_5_0 x0 x1 x8 b4 r1) (oc h0 (oc h1 (oc h2 (oc h3 (oc (yEG h4) on)))))) fun h3 h =>
   tS fk26 (p26_5_1 x0 x1 x8 b4) (oc h0 (oc h1 (oc h2 (oc h3 on)))) (ih _ _ _ _ _ h)) fun h0 h =>
   dS h fk26 (p26_5_2 x0 x1 x8 b4) (oc h0 on)
theorem c26_e {N : Nat} : ∀ a0 a1 r, yFU N a0 a1 = some r → RE Tryd.f26 I26 (yEK a0 a1) (yDg r) := fun a0 a1 r h =>
 bE h fun r1 h0 h => cE h (fun h1 h => dE h fk26 (p26_e_3 a0 a1 r1) (oc (yGF h0) (oc h1 on))) fun h1 h =>
 tE fk26 (p26_e_4 a0 a1 r1) (oc (yGF h0) (oc h1 on)) (c26_5 _ _ _ _ _ _ h)
theorem spec_l7Check_ok {N : Nat} {a0 : List Val} {a1 : List Int} {r : Val × Bool} (h : yFU N  a0 a1 = some r) : AbC 26 (yEK a0 a1) (yDg r) :=
 AbsCalls.of_reach fk26 rfl rfl (Nat.le_of_ble_eq_true rfl) (c26_e a0 a1 r h)
noncomputable def I27 : Info := { body := (Tryd.f27.body).getD .skip, nt := 36, results := [.tmp 4], keep := [0, 2, 8, 10, 12, 14, 24, 50], live := [(4, [0, 2, 10, 12, 14])], modes := [(6, [(4, .take, false)]), (7, [(0, .take, false), (2, .take, false)]), (9, [(0, .take, false)])] }
theorem fk27 : FnOk Tryd.prog 27 Tryd.f27 I27 := ⟨Tryd.func27, by kernel_rfl, by kernel_rfl, by kernel_rfl, by kernel_rfl⟩
def S27_4 (x0 : Str) (x1 : Int) (x5 : List Str) (x6 x7 : Int) : St := [(0, .v false [.str x0]), (2, .v false [.int .u8 x1]), (10, .v false [.sl .own .str x5]), (12, .v false [.int .i64 x6]), (14, .v false [.int .i64 x7])]
theorem p27_4_0 (x0 : Str) (x1 : Int) (x5 : List Str) (x6 x7 : Int) : rS 4 I27 (S27_4 x0 x1 x5 x6 x7) [Y, Y, Y] [] = st 4 I27 (S27_4 x0 x1 (x5 ++ [(List.drop (tN x6) (List.take (tN x7) x0))]) (W (x7 + 1)) (W (x7 + 1))) [(decide ((x7 : Int) ≤ (Ln x0 : Int))) = true, ((x7 : Int) == (Ln x0 : Int)) = true, true = true, (0 : Int) ≤ x6 ∧ x6 ≤ x7 ∧ x7 ≤ (Ln x0), Ln x5 + Ln [(List.drop (tN x6) (List.take (tN x7) x0))] ≤ Lim] := by kernel_rfl
theorem p27_4_1 (x0 : Str) (x1 : Int) (x5 : List Str) (x6 x7 : Int) : rS 4 I27 (S27_4 x0 x1 x5 x6 x7) [Y, F, Y] [] = st 4 I27 (S27_4 x0 x1 (x5 ++ [(List.drop (tN x6) (List.take (tN x7) x0))]) (W (x7 + 1)) (W (x7 + 1))) [(decide ((x7 : Int) ≤ (Ln x0 : Int))) = true, ((x7 : Int) == (Ln x0 : Int)) = false, (0 : Int) ≤ x7 ∧ x7 < (Ln x0), ((((gD x0 (tN x7) 0).toNat : Int) : Int) == x1) = true, (0 : Int) ≤ x6 ∧ x6 ≤ x7 ∧ x7 ≤ (Ln x0), Ln x5 + Ln [(List.drop (tN x6) (List.take (tN x7) x0))] ≤ Lim] := by kernel_rfl
theorem p27_4_2 (x0 : Str) (x1 : Int) (x5 : List Str) (x6 x7 : Int) : rS 4 I27 (S27_4 x0 x1 x5 x6 x7) [Y, F, F] [] = st 4 I27 (S27_4 x0 x1 x5 x6 (W (x7 + 1))) [(decide ((x7 : Int) ≤ (Ln x0 : Int))) = true, ((x7 : Int) == (Ln x0 : Int)) = false, (0 : Int) ≤ x7 ∧ x7 < (Ln x0), ((((gD x0 (tN x7) 0).toNat : Int) : Int) == x1) = false] := by kernel_rfl
theorem p27_4_3 (x0 : Str) (x1 : Int) (x5 : List Str) (x6 x7 : Int) : rS 4 I27 (S27_4 x0 x1 x5 x6 x7) [F] [] = dn (yDZ x5) [(decide ((x7 : Int) ≤ (Ln x0 : Int))) = false] := by kernel_rfl
theorem p27_e_4 (a0 : Str) (a1 : Int) : rE I27 (yEZ a0 a1) [] [] = st 4 I27 (S27_4 a0 a1 [] 0 0) [] := by kernel_rfl
theorem c27_4 {N : Nat} : ∀ n x0 x1 x5 x6 x7 r, yA9 N n x0 x1 x5 x6 x7 = some r → RS Tryd.f27 I27 4 (S27_4 x0 x1 x5 x6 x7) (yDZ r) := by
 intro n
 induction n with
 | zero => exact fun _ _ _ _ _ _ h => nE h
 | succ n ih =>
  exact fun x0 x1 x5 x6 x7 r h =>
   cE h (fun h0 h => cE h (fun h1 h => iE h fun h3 h => iE h fun h4 h => tS fk27 (p27_4_0 x0 x1 x5 x6 x7) (oc h0 (oc h1 (oc rfl (oc h3 (oc h4 on))))) (ih _ _ _ _ _ _ h)) fun h1 h =>
   iE h fun h2 h => cE h (fun h3 h => iE h fun h4 h => iE h fun h5 h => tS fk27 (p27_4_1 x0 x1 x5 x6 x7) (oc h0 (oc h1 (oc h2 (oc h3 (oc h4 (oc h5 on)))))) (ih _ _ _ _ _ _ h)) fun h3 h =>
   tS fk27 (p27_4_2 x0 x1 x5 x6 x7) (oc h0 (oc h1 (oc h2 (oc h3 on)))) (ih _ _ _ _ _ _ h)) fun h0 h =>
   dS h fk27 (p27_4_3 x0 x1 x5 x6 x7) (oc h0 on)
theorem c27_e {N : Nat} : ∀ a0 a1 r, yFc N a0 a1 = some r → RE Tryd.f27 I27 (yEZ a0 a1) (yDZ r) := fun a0 a1 r h =>
 tE fk27 (p27_e_4 a0 a1) on (c27_4 _ _ _ _ _ _ _ h)
theorem spec_SplitByte_ok {N : Nat} {a0 : Str} {a1 : Int} {r : (List Str)} (h : yFc N  a0 a1 = some r) : AbC 27 (yEZ a0 a1) (yDZ r) :=
 AbsCalls.of_reach fk27 rfl rfl (Nat.le_of_ble_eq_true rfl) (c27_e a0 a1 r h)
noncomputable def I73 : Info := { body := (Tryd.f73.body).getD .skip, nt := 15, results := [.tmp 6], keep := [0, 2, 4, 12], live := [], modes := [(1, [(3, .take, false)])] }
theorem fk73 : FnOk Tryd.prog 73 Tryd.f73 I73 := ⟨Tryd.func73, by kernel_rfl, by kernel_rfl, by kernel_rfl, by kernel_rfl⟩
theorem p73_e_0 (a0 a1 a2 : Int) : rE I73 (yB1 a0 a1 a2) [Y] [] = dn (yAQ (decide ((a0 : Int) ≤ a2))) [(decide ((a1 : Int) ≤ a0)) = true] := by kernel_rfl
theorem p73_e_1 (a0 a1 a2 : Int) : rE I73 (yB1 a0 a1 a2) [F] [] = dn (yAQ false) [(decide ((a1 : Int) ≤ a0)) = false] := by kernel_rfl
theorem c73_e {N : Nat} : ∀ a0 a1 a2 r, yDM N a0 a1 a2 = some r → RE Tryd.f73 I73 (yB1 a0 a1 a2) (yAQ r) := fun a0 a1 a2 r h =>
 cE h (fun h0 h => dE h fk73 (p73_e_0 a0 a1 a2) (oc h0 on)) fun h0 h =>
 dE h fk73 (p73_e_1 a0 a1 a2) (oc h0 on)
theorem yD8 {N : Nat} {a0 : Int} {a1 : Int} {a2 : Int} {r : Bool} (h : yDM N  a0 a1 a2 = some r) : AbC 73 (yB1 a0 a1 a2) (yAQ r) :=
 AbsCalls.of_reach fk73 rfl rfl (Nat.le_of_ble_eq_true rfl) (c73_e a0 a1 a2 r h)
noncomputable def I105 : Info := { body := (Tryd.f105.body).getD .skip, nt := 5, results := [.tmp 2], keep := [0, 4], live := [], modes := [] }
theorem fk105 : FnOk Tryd.prog 105 Tryd.f105 I105 := ⟨Tryd.func105, by kernel_rfl, by kernel_rfl, by kernel_rfl, by kernel_rfl⟩
theorem p105_e_0 (a0 : Int) (r1 : Bool) : rE I105 (yBi a0) [] [yAQ r1] = dn (yAt r1) [AbC 73 (yB1 a0 (-1000000000) 1000000000) (yAQ r1)] := by kernel_rfl
theorem c105_e {N : Nat} : ∀ a0 r, yCW N a0 = some r → RE Tryd.f105 I105 (yBi a0) (yAt r) := fun a0 r h =>
 bE h fun r1 h0 h => dE h fk105 (p105_e_0 a0 r1) (oc (yD8 h0) on)
theorem yCK {N : Nat} {a0 : Int} {r : Bool} (h : yCW N  a0 = some r) : AbC 105 (yBi a0) (yAt r) :=
 AbsCalls.of_reach fk105 rfl rfl (Nat.le_of_ble_eq_true rfl) (c105_e a0 r h)
noncomputable def I106 : Info := { body := (Tryd.f106.body).getD .skip, nt := 29, results := [.tmp 2], keep := [0, 4, 6, 14, 50], live := [(2, [0, 6])], modes := [(4, [(4, .take, false), (10, .take, false)])] }
theorem fk106 : FnOk Tryd.prog 106 Tryd.f106 I106 := ⟨Tryd.func106, by kernel_rfl, by kernel_rfl, by kernel_rfl, by kernel_rfl⟩
def S106_2 (x0 : Str) (x3 : Int) : St := [(0, .v false [.str x0]), (6, .v false [.int .i64 x3])]
theorem p106_2_0 (x0 : Str) (x3 : Int) : rS 2 I106 (S106_2 x0 x3) [Y, Y, Y, Y] [] = dn (yAT false) [(decide ((x3 : Int) < (Ln x0 : Int))) = true, (0 : Int) ≤ x3 ∧ x3 < (Ln x0), (decide ((((gD x0 (tN x3) 0).toNat : Int) : Int) < 32)) = true, true = true, true = true] := by kernel_rfl
theorem p106_2_1 (x0 : Str) (x3 : Int) : rS 2 I106 (S106_2 x0 x3) [Y, F, Y, Y] [] = dn (yAT false) [(decide ((x3 : Int) < (Ln x0 : Int))) = true, (0 : Int) ≤ x3 ∧ x3 < (Ln x0), (decide ((((gD x0 (tN x3) 0).toNat : Int) : Int) < 32)) = false, (0 : Int) ≤ x3 ∧ x3 < (Ln x0), (decide ((((gD x0 (tN x3) 0).toNat : Int) : Int) > 126)) = true, true = true] := by kernel_rfl
theorem p106_2_2 (x0 : Str) (x3 : Int) : rS 2 I106 (S106_2 x0 x3) [Y, F, F, Y] [] = dn (yAT false) [(decide ((x3 : Int) < (Ln x0 : Int))) = true, (0 : Int) ≤ x3 ∧ x3 < (Ln x0), (decide ((((gD x0 (tN x3) 0).toNat : Int) : Int) < 32)) = false, (0 : Int) ≤ x3 ∧ x3 < (Ln x0), (decide ((((gD x0 (tN x3) 0).toNat : Int) : Int) > 126)) = false, (0 : Int) ≤ x3 ∧ x3 < (Ln x0), ((((gD x0 (tN x3) 0).toNat : Int) : Int) == 34) = true] := by kernel_rfl
theorem p106_2_3 (x0 : Str) (x3 : Int) : rS 2 I106 (S106_2 x0 x3) [Y, F, F, F] [] = st 2 I106 (S106_2 x0 (W (x3 + 1))) [(decide ((x3 : Int) < (Ln x0 : Int))) = true, (0 : Int) ≤ x3 ∧ x3 < (Ln x0), (decide ((((gD x0 (tN x3) 0).toNat : Int) : Int) < 32)) = false, (0 : Int) ≤ x3 ∧ x3 < (Ln x0), (decide ((((gD x0 (tN x3) 0).toNat : Int) : Int) > 126)) = false, (0 : Int) ≤ x3 ∧ x3 < (Ln x0), ((((gD x0 (tN x3) 0).toNat : Int) : Int) == 34) = false] := by kernel_rfl
theorem p106_2_4 (x0 : Str) (x3 : Int) : rS 2 I106 (S106_2 x0 x3) [F] [] = dn (yAT (decide (((Ln x0 : Int) : Int) ≤ 20))) [(decide ((x3 : Int) < (Ln x0 : Int))) = false] := by kernel_rfl
theorem p106_e_5 (a0 : Str) : rE I106 (yDj a0) [] [] = st 2 I106 (S106_2 a0 0) [] := by kernel_rfl
theorem c106_2 {N : Nat} : ∀ n x0 x3 r, yCz N n x0 x3 = some r → RS Tryd.f106 I106 2 (S106_2 x0 x3) (yAT r) := by
 intro n
 induction n with
 | zero => exact fun _ _ _ h => nE h
 | succ n ih =>
  exact fun x0 x3 r h =>
   cE h (fun h0 h => iE h fun h1 h => cE h (fun h2 h => dS h fk106 (p106_2_0 x0 x3) (oc h0 (oc h1 (oc h2 (oc rfl (oc rfl on)))))) fun h2 h =>
   cE h (fun h4 h => dS h fk106 (p106_2_1 x0 x3) (oc h0 (oc h1 (oc h2 (oc h1 (oc h4 (oc rfl on))))))) fun h4 h =>
   cE h (fun h6 h => dS h fk106 (p106_2_2 x0 x3) (oc h0 (oc h1 (oc h2 (oc h1 (oc h4 (oc h1 (oc h6 on)))))))) fun h6 h =>
   tS fk106 (p106_2_3 x0 x3) (oc h0 (oc h1 (oc h2 (oc h1 (oc h4 (oc h1 (oc h6 on))))))) (ih _ _ _ h)) fun h0 h =>
   dS h fk106 (p106_2_4 x0 x3) (oc h0 on)
theorem c106_e {N : Nat} : ∀ a0 r, yEf N a0 = some r → RE Tryd.f106 I106 (yDj a0) (yAT r) := fun a0 r h =>
 tE fk106 (p106_e_5 a0) on (c106_2 _ _ _ _ h)
theorem yG1 {N : Nat} {a0 : Str} {r : Bool} (h : yEf N  a0 = some r) : AbC 106 (yDj a0) (yAT r) :=
 AbsCalls.of_reach fk106 rfl rfl (Nat.le_of_ble_eq_true rfl) (c106_e a0 r h)
end Go.Ab.T
end
