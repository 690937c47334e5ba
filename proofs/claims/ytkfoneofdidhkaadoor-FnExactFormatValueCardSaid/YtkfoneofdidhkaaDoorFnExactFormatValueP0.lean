/- The statement FnExactFormatValue holds: plain functions, certificates, laws. Conditions: none. -/
import Derived.LaidLaws
import Derived.LaidMore
import Derived.Lay
import Derived.Lib.LaidTab
import Derived.OpenVars
import Derived.SevenTiedAt
import Derived.Shelf.Abstract
import Derived.Shelf.Strconv.Itoa3
import Derived.Shelf.Strings.OnBuilder
import Derived.Shelf.Strings.Split
import Derived.SliceStrings
import Derived.Stop.Joined
import Derived.Stop.LaidErr
import Derived.Test.YtkfoneofdidhkaaDoorCards
import Derived.Test.YtkfoneofdidhkaaDoorChecked
import Derived.Test.YtkfoneofdidhkaaDoorProg
import Derived.Test.YtkfoneofdidhkaaDoorRows
import Derived.Test.YtkfoneofdidhkaaDoorTie
import Derived.WalkKit
import Derived.Test.YtkfoneofdidhkaaDoorL2
set_option linter.all false
section
namespace Go.Ab
set_option linter.unusedVariables false
def xBK (a0 : List Str) (a1 : Int) : List Arg := [.val (.v false [.sl .ro .str a0]), .val (.v false [.int .i64 a1])]
def xAF (r : Int) : CallO := ⟨.v false [.int .i64 r], [], []⟩
def xDi (N : Nat) : Nat → (List Str) → Int → Int → Option (Int)
  | 0, _, _, _ => none
  | n + 1, x0, x1, x5 =>
    bif (decide ((x5 : Int) < (List.length x0 : Int))) then (
      if (0 : Int) ≤ x5 ∧ x5 < (List.length x0) then
      bif (decide (((IntKind.i64.wrap (x1 - (List.length (List.getD x0 (Int.toNat x5) Ty.str.dflt) : Int))) : Int) < 0)) then (
        some (-1)
      ) else (
        (xDi N n x0 (IntKind.i64.wrap (x1 - (List.length (List.getD x0 (Int.toNat x5) Ty.str.dflt) : Int))) (IntKind.i64.wrap (x5 + 1)))
      )
      else none
    ) else (
      some x1
    )
def xEf (N : Nat) (a0 : List Str) (a1 : Int) : Option (Int) :=
  bif (decide (((IntKind.i64.wrap (a1 - (List.length a0 : Int))) : Int) < 0)) then (
    some (-1)
  ) else (
    (xDi N N a0 (IntKind.i64.wrap (a1 - (List.length a0 : Int))) 0)
  )
def xCA (a0 : List Int) (a1 : Int) : List Arg := [.val (.v false [.sl .ro .int a0]), .val (.v false [.int .i64 a1])]
def xBw (r : Int) : CallO := ⟨.v false [.int .i64 r], [], []⟩
def xFl (N : Nat) (a0 : List Int) (a1 : Int) : Option (Int) :=
  bif (decide (((IntKind.i64.wrap (a1 - (List.length a0 : Int))) : Int) < 0)) then (
    some (-1)
  ) else (
    some (IntKind.i64.wrap (a1 - (List.length a0 : Int)))
  )
def xB8 (a0 : List Org) (a1 : Int) : List Arg := [.val (.v false [.sl .ro .org a0]), .val (.v false [.int .i64 a1])]
def xBs (r : Int) : CallO := ⟨.v false [.int .i64 r], [], []⟩
def xEd (N : Nat) (a0 : List Org) (a1 : Int) : Option (Int) :=
  bif (decide (((IntKind.i64.wrap (a1 - (List.length a0 : Int))) : Int) < 0)) then (
    some (-1)
  ) else (
    some (IntKind.i64.wrap (a1 - (List.length a0 : Int)))
  )
def xCN (a0 : Rowd) (a1 : Int) : List Arg := [.val (.v true [.sl .ro .int (Rowd.cells a0), .sl .ro .org (Rowd.frm a0)]), .val (.v false [.int .i64 a1])]
def xBY (r : Int) : CallO := ⟨.v false [.int .i64 r], [], []⟩
def xFc (N : Nat) (a0 : Rowd) (a1 : Int) : Option (Int) :=
  Option.bind (xFl N (Rowd.cells a0) a1) fun r1 =>
  bif (decide ((r1 : Int) < 0)) then (
    some (-1)
  ) else (
    Option.bind (xEd N (Rowd.frm a0) r1) fun r2 =>
    bif (decide ((r2 : Int) < 0)) then (
      some (-1)
    ) else (
      some r2
    )
  )
def xC0 (a0 : List Rowd) (a1 : Int) : List Arg := [.val (.v false [.sl .ro .row a0]), .val (.v false [.int .i64 a1])]
def xBx (r : Int) : CallO := ⟨.v false [.int .i64 r], [], []⟩
def xEe (N : Nat) : Nat → (List Rowd) → Int → Int → Option (Int)
  | 0, _, _, _ => none
  | n + 1, x0, x1, x5 =>
    bif (decide ((x5 : Int) < (List.length x0 : Int))) then (
      if (0 : Int) ≤ x5 ∧ x5 < (List.length x0) then
      Option.bind (xFc N (List.getD x0 (Int.toNat x5) Ty.row.dflt) x1) fun r1 =>
      bif (decide ((r1 : Int) < 0)) then (
        some (-1)
      ) else (
        (xEe N n x0 r1 (IntKind.i64.wrap (x5 + 1)))
      )
      else none
    ) else (
      some x1
    )
def xFm (N : Nat) (a0 : List Rowd) (a1 : Int) : Option (Int) :=
  bif (decide (((IntKind.i64.wrap (a1 - (List.length a0 : Int))) : Int) < 0)) then (
    some (-1)
  ) else (
    (xEe N N a0 (IntKind.i64.wrap (a1 - (List.length a0 : Int))) 0)
  )
def xAC (a0 : Val) (a1 : Int) : List Arg := [.val (.v true [.int .i64 (Val.kind a0), .int .i64 (Val.n a0), .int .i64 (Val.step a0), .str (Val.text a0), .sl .ro .val (Val.list a0), .sl .ro .str (Val.columns a0), .sl .ro .row (Val.rows a0)]), .val (.v false [.int .i64 a1])]
def xAj (r : Int) : CallO := ⟨.v false [.int .i64 r], [], []⟩
def xD8 (N : Nat) (q0 : Val → Int → Option (Int)) (q1 : (List Val) → Int → Option (Int)) (a0 : Val) (a1 : Int) : Option (Int) :=
  bif (decide (((IntKind.i64.wrap (a1 - (List.length (Val.text a0) : Int))) : Int) < 0)) then (
    some (-1)
  ) else (
    Option.bind (q1 (Val.list a0) (IntKind.i64.wrap (a1 - (List.length (Val.text a0) : Int)))) fun r1 =>
    bif (decide ((r1 : Int) < 0)) then (
      some (-1)
    ) else (
      Option.bind (xEf N (Val.columns a0) r1) fun r2 =>
      bif (decide ((r2 : Int) < 0)) then (
        some (-1)
      ) else (
        Option.bind (xFm N (Val.rows a0) r2) fun r3 =>
        bif (decide ((r3 : Int) < 0)) then (
          some (-1)
        ) else (
          some r3
        )
      )
    )
  )
def xBj (a0 : List Val) (a1 : Int) : List Arg := [.val (.v false [.sl .ro .val a0]), .val (.v false [.int .i64 a1])]
def xAx (r : Int) : CallO := ⟨.v false [.int .i64 r], [], []⟩
def xDF (N : Nat) (q0 : Val → Int → Option (Int)) (q1 : (List Val) → Int → Option (Int)) : Nat → (List Val) → Int → Int → Option (Int)
  | 0, _, _, _ => none
  | n + 1, x0, x1, x5 =>
    bif (decide ((x5 : Int) < (List.length x0 : Int))) then (
      if (0 : Int) ≤ x5 ∧ x5 < (List.length x0) then
      Option.bind (q0 (List.getD x0 (Int.toNat x5) Ty.val.dflt) x1) fun r1 =>
      bif (decide ((r1 : Int) < 0)) then (
        some (-1)
      ) else (
        (xDF N q0 q1 n x0 r1 (IntKind.i64.wrap (x5 + 1)))
      )
      else none
    ) else (
      some x1
    )
def xDX (N : Nat) (q0 : Val → Int → Option (Int)) (q1 : (List Val) → Int → Option (Int)) (a0 : List Val) (a1 : Int) : Option (Int) :=
  bif (decide (((IntKind.i64.wrap (a1 - (List.length a0 : Int))) : Int) < 0)) then (
    some (-1)
  ) else (
    (xDF N q0 q1 N a0 (IntKind.i64.wrap (a1 - (List.length a0 : Int))) 0)
  )
structure laws_szValue_rec where
  c_laws_szValue : Val → Int → Option (Int)
  c_laws_szValueS : (List Val) → Int → Option (Int)
def xAX (N : Nat) : Nat → laws_szValue_rec
  | 0 => ⟨fun _ _ => none, fun _ _ => none⟩
  | d + 1 => ⟨xD8 N (xAX N d).c_laws_szValue (xAX N d).c_laws_szValueS, xDX N (xAX N d).c_laws_szValue (xAX N d).c_laws_szValueS⟩
def xFF (N : Nat) (a0 : Val) (a1 : Int) : Option (Int) := (xAX N N).c_laws_szValue a0 a1
def xDl (a0 : List Str) : List Arg := [.val (.v false [.sl .ro .str a0])]
def xCa (r : (List Str)) : CallO := ⟨.v false [.sl .own .str r], [], []⟩
def xDm (N : Nat) : Nat → (List Str) → (List Str) → Int → Option ((List Str))
  | 0, _, _, _ => none
  | n + 1, x0, x3, x4 =>
    bif (decide ((x4 : Int) < (List.length x0 : Int))) then (
      if (0 : Int) ≤ x4 ∧ x4 < (List.length x0) then
      if (0 : Int) ≤ x4 ∧ x4 < (List.length x3) then
      (xDm N n x0 (List.set x3 (Int.toNat x4) (List.getD x0 (Int.toNat x4) Ty.str.dflt)) (IntKind.i64.wrap (x4 + 1)))
      else none
      else none
    ) else (
      some x3
    )
def xDz (N : Nat) (a0 : List Str) : Option ((List Str)) :=
  if (0 : Int) ≤ (List.length a0 : Int) ∧ (List.length a0 : Int) = (List.length a0 : Int) ∧ (List.length a0 : Int) ≤ Lim then
  (xDm N N a0 (List.replicate (Int.toNat (List.length a0 : Int)) Ty.str.dflt) 0)
  else none
def xEg (a0 : List Int) : List Arg := [.val (.v false [.sl .ro .int a0])]
def xC1 (r : (List Int)) : CallO := ⟨.v false [.sl .own .int r], [], []⟩
def xEh (N : Nat) : Nat → (List Int) → (List Int) → Int → Option ((List Int))
  | 0, _, _, _ => none
  | n + 1, x0, x3, x4 =>
    bif (decide ((x4 : Int) < (List.length x0 : Int))) then (
      if (0 : Int) ≤ x4 ∧ x4 < (List.length x0) then
      if (0 : Int) ≤ x4 ∧ x4 < (List.length x3) then
      (xEh N n x0 (List.set x3 (Int.toNat x4) (List.getD x0 (Int.toNat x4) Ty.int.dflt)) (IntKind.i64.wrap (x4 + 1)))
      else none
      else none
    ) else (
      some x3
    )
def xEH (N : Nat) (a0 : List Int) : Option ((List Int)) :=
  if (0 : Int) ≤ (List.length a0 : Int) ∧ (List.length a0 : Int) = (List.length a0 : Int) ∧ (List.length a0 : Int) ≤ Lim then
  (xEh N N a0 (List.replicate (Int.toNat (List.length a0 : Int)) Ty.int.dflt) 0)
  else none
def xDG (a0 : Org) : List Arg := [.val (.v true [.int .i64 (Org.cell a0), .int .i64 (Org.row a0)])]
def xCS (r : Org) : CallO := ⟨.v true [.int .i64 (Org.cell r), .int .i64 (Org.row r)], [], []⟩
def xEy (N : Nat) (a0 : Org) : Option (Org) :=
  some a0
def xDj (a0 : List Org) : List Arg := [.val (.v false [.sl .ro .org a0])]
def xB9 (r : (List Org)) : CallO := ⟨.v false [.sl .own .org r], [], []⟩
def xDk (N : Nat) : Nat → (List Org) → (List Org) → Int → Option ((List Org))
  | 0, _, _, _ => none
  | n + 1, x0, x3, x4 =>
    bif (decide ((x4 : Int) < (List.length x0 : Int))) then (
      if (0 : Int) ≤ x4 ∧ x4 < (List.length x0) then
      Option.bind (xEy N (List.getD x0 (Int.toNat x4) Ty.org.dflt)) fun r1 =>
      if (0 : Int) ≤ x4 ∧ x4 < (List.length x3) then
      (xDk N n x0 (List.set x3 (Int.toNat x4) r1) (IntKind.i64.wrap (x4 + 1)))
      else none
      else none
    ) else (
      some x3
    )
def xDy (N : Nat) (a0 : List Org) : Option ((List Org)) :=
  if (0 : Int) ≤ (List.length a0 : Int) ∧ (List.length a0 : Int) = (List.length a0 : Int) ∧ (List.length a0 : Int) ≤ Lim then
  (xDk N N a0 (List.replicate (Int.toNat (List.length a0 : Int)) Ty.org.dflt) 0)
  else none
def xEz (a0 : Rowd) : List Arg := [.val (.v true [.sl .ro .int (Rowd.cells a0), .sl .ro .org (Rowd.frm a0)])]
def xDZ (r : Rowd) : CallO := ⟨.v true [.sl .own .int (Rowd.cells r), .sl .own .org (Rowd.frm r)], [], []⟩
def xEA (N : Nat) (a0 : Rowd) : Option (Rowd) :=
  Option.bind (xEH N (Rowd.cells a0)) fun r1 =>
  Option.bind (xDy N (Rowd.frm a0)) fun r2 =>
  some (Rowd.mk r1 r2)
def xEi (a0 : List Rowd) : List Arg := [.val (.v false [.sl .ro .row a0])]
def xC2 (r : (List Rowd)) : CallO := ⟨.v false [.sl .own .row r], [], []⟩
def xEj (N : Nat) : Nat → (List Rowd) → (List Rowd) → Int → Option ((List Rowd))
  | 0, _, _, _ => none
  | n + 1, x0, x3, x4 =>
    bif (decide ((x4 : Int) < (List.length x0 : Int))) then (
      if (0 : Int) ≤ x4 ∧ x4 < (List.length x0) then
      Option.bind (xEA N (List.getD x0 (Int.toNat x4) Ty.row.dflt)) fun r1 =>
      if (0 : Int) ≤ x4 ∧ x4 < (List.length x3) then
      (xEj N n x0 (List.set x3 (Int.toNat x4) r1) (IntKind.i64.wrap (x4 + 1)))
      else none
      else none
    ) else (
      some x3
    )
def xEI (N : Nat) (a0 : List Rowd) : Option ((List Rowd)) :=
  if (0 : Int) ≤ (List.length a0 : Int) ∧ (List.length a0 : Int) = (List.length a0 : Int) ∧ (List.length a0 : Int) ≤ Lim then
  (xEj N N a0 (List.replicate (Int.toNat (List.length a0 : Int)) Ty.row.dflt) 0)
  else none
def xAI (a0 : Val) : List Arg := [.val (.v true [.int .i64 (Val.kind a0), .int .i64 (Val.n a0), .int .i64 (Val.step a0), .str (Val.text a0), .sl .ro .val (Val.list a0), .sl .ro .str (Val.columns a0), .sl .ro .row (Val.rows a0)])]
def xAi (r : Val) : CallO := ⟨.v true [.int .i64 (Val.kind r), .int .i64 (Val.n r), .int .i64 (Val.step r), .str (Val.text r), .sl .own .val (Val.list r), .sl .own .str (Val.columns r), .sl .own .row (Val.rows r)], [], []⟩
def xCE (N : Nat) (q0 : Val → Option (Val)) (q1 : (List Val) → Option ((List Val))) (a0 : Val) : Option (Val) :=
  Option.bind (q1 (Val.list a0)) fun r1 =>
  Option.bind (xDz N (Val.columns a0)) fun r2 =>
  Option.bind (xEI N (Val.rows a0)) fun r3 =>
  some (Val.mk (Val.kind a0) (Val.n a0) (Val.step a0) (Val.text a0) r1 r2 r3)
def xCT (a0 : List Val) : List Arg := [.val (.v false [.sl .ro .val a0])]
def xBT (r : (List Val)) : CallO := ⟨.v false [.sl .own .val r], [], []⟩
def xDH (N : Nat) (q0 : Val → Option (Val)) (q1 : (List Val) → Option ((List Val))) : Nat → (List Val) → (List Val) → Int → Option ((List Val))
  | 0, _, _, _ => none
  | n + 1, x0, x3, x4 =>
    bif (decide ((x4 : Int) < (List.length x0 : Int))) then (
      if (0 : Int) ≤ x4 ∧ x4 < (List.length x0) then
      Option.bind (q0 (List.getD x0 (Int.toNat x4) Ty.val.dflt)) fun r1 =>
      if (0 : Int) ≤ x4 ∧ x4 < (List.length x3) then
      (xDH N q0 q1 n x0 (List.set x3 (Int.toNat x4) (Val.re r1)) (IntKind.i64.wrap (x4 + 1)))
      else none
      else none
    ) else (
      some x3
    )
def xCv (N : Nat) (q0 : Val → Option (Val)) (q1 : (List Val) → Option ((List Val))) (a0 : List Val) : Option ((List Val)) :=
  if (0 : Int) ≤ (List.length a0 : Int) ∧ (List.length a0 : Int) = (List.length a0 : Int) ∧ (List.length a0 : Int) ≤ Lim then
  (xDH N q0 q1 N a0 (List.replicate (Int.toNat (List.length a0 : Int)) Ty.val.dflt) 0)
  else none
structure laws_toValue_rec where
  c_laws_toValue : Val → Option (Val)
  c_laws_toValueS : (List Val) → Option ((List Val))
def xAq (N : Nat) : Nat → laws_toValue_rec
  | 0 => ⟨fun _ => none, fun _ => none⟩
  | d + 1 => ⟨xCE N (xAq N d).c_laws_toValue (xAq N d).c_laws_toValueS, xCv N (xAq N d).c_laws_toValue (xAq N d).c_laws_toValueS⟩
def xEp (N : Nat) (a0 : Val) : Option (Val) := (xAq N N).c_laws_toValue a0
def xB2 (a0 : Int) (a1 : Int) (a2 : Int) : List Arg := [.val (.v false [.int .i64 a0]), .val (.v false [.int .i64 a1]), .val (.v false [.int .i64 a2])]
def xA2 (r : Bool) : CallO := ⟨.v false [.bool r], [], []⟩
def xEr (N : Nat) (a0 : Int) (a1 : Int) (a2 : Int) : Option (Bool) :=
  bif (decide ((a0 : Int) ≥ a1)) then (
    some (decide ((a0 : Int) ≤ a2))
  ) else (
    some false
  )
def xBl (a0 : Int) : List Arg := [.val (.v false [.int .i64 a0])]
def xAy (r : Bool) : CallO := ⟨.v false [.bool r], [], []⟩
def xCy (N : Nat) (a0 : Int) : Option (Bool) :=
  Option.bind (xEr N a0 (-1000000000) 1000000000) fun r1 =>
  some r1
def xCP (a0 : Str) : List Arg := [.val (.v false [.str a0])]
def xAW (r : Bool) : CallO := ⟨.v false [.bool r], [], []⟩
def xA4 (N : Nat) : Nat → Str → Int → Option (Bool)
  | 0, _, _ => none
  | n + 1, x0, x3 =>
    bif (decide ((x3 : Int) < (List.length x0 : Int))) then (
      if (0 : Int) ≤ x3 ∧ x3 < (List.length x0) then
      bif (decide ((((List.getD x0 (Int.toNat x3) 0).toNat : Int) : Int) < 32)) then (
        some false
      ) else (
        bif (decide ((((List.getD x0 (Int.toNat x3) 0).toNat : Int) : Int) > 126)) then (
          some false
        ) else (
          bif ((((List.getD x0 (Int.toNat x3) 0).toNat : Int) : Int) == 34) then (
            some false
          ) else (
            (xA4 N n x0 (IntKind.i64.wrap (x3 + 1)))
          )
        )
      )
      else none
    ) else (
      some (decide (((List.length x0 : Int) : Int) ≤ 20))
    )
def xDJ (N : Nat) (a0 : Str) : Option (Bool) :=
  (xA4 N N a0 0)
def xBu (a0 : Val) : List Arg := [.val (.v true [.int .i64 (Val.kind a0), .int .i64 (Val.n a0), .int .i64 (Val.step a0), .str (Val.text a0), .sl .ro .val (Val.list a0), .sl .ro .str (Val.columns a0), .sl .ro .row (Val.rows a0)])]
def xAO (r : Bool) : CallO := ⟨.v false [.bool r], [], []⟩
def xEl (N : Nat) (a0 : Val) : Option (Bool) :=
  bif (((Val.kind a0) : Int) == 1) then (
    some true
  ) else (
    bif (((Val.kind a0) : Int) == 2) then (
      some true
    ) else (
      some (((Val.kind a0) : Int) == 3)
    )
  )
def xD0 (a0 : Int) (a1 : Int) : List Arg := [.val (.v false [.int .i64 a0]), .val (.v false [.int .i64 a1])]
def xDr (r : Int) : CallO := ⟨.v false [.int .i64 r], [], []⟩
def xFg (N : Nat) (a0 : Int) (a1 : Int) : Option (Int) :=
  bif (decide ((a0 : Int) > a1)) then (
    some a0
  ) else (
    some a1
  )
def xCk (a0 : Val) : List Arg := [.val (.v true [.int .i64 (Val.kind a0), .int .i64 (Val.n a0), .int .i64 (Val.step a0), .str (Val.text a0), .sl .ro .val (Val.list a0), .sl .ro .str (Val.columns a0), .sl .ro .row (Val.rows a0)])]
def xBd (r : Int) : CallO := ⟨.v false [.int .i64 r], [], []⟩
def xCF (N : Nat) (q0 : Val → Option (Int)) : Nat → Int → Int → Val → Option (Int)
  | 0, _, _, _ => none
  | n + 1, x3, x4, b1 =>
    bif (decide ((x4 : Int) < (List.length (Val.list b1) : Int))) then (
      if (0 : Int) ≤ x4 ∧ x4 < (List.length (Val.list b1)) then
      Option.bind (q0 (List.getD (Val.list b1) (Int.toNat x4) Ty.val.dflt)) fun r1 =>
      Option.bind (xFg N x3 r1) fun r2 =>
      (xCF N q0 n r2 (IntKind.i64.wrap (x4 + 1)) b1)
      else none
    ) else (
      some (IntKind.i64.wrap (x3 + 1))
    )
def xD9 (N : Nat) (q0 : Val → Option (Int)) (a0 : Val) : Option (Int) :=
  (xCF N q0 N 0 0 a0)
def xBU (N : Nat) : Nat → Val → Option (Int)
  | 0, _ => none
  | d + 1, a0 => xD9 N (xBU N d) a0
def xET (N : Nat) (a0 : Val) : Option (Int) := xBU N N a0
def xCH (a0 : Str) : List Arg := [.val (.v false [.str a0])]
def xAr (r : Bool) : CallO := ⟨.v false [.bool r], [], []⟩
def xBe (N : Nat) : Nat → Str → Int → Option (Bool)
  | 0, _, _ => none
  | n + 1, x0, x3 =>
    bif (decide ((x3 : Int) < (List.length x0 : Int))) then (
      if (0 : Int) ≤ x3 ∧ x3 < (List.length x0) then
      bif (decide ((((List.getD x0 (Int.toNat x3) 0).toNat : Int) : Int) ≥ 97)) then (
        bif (decide ((((List.getD x0 (Int.toNat x3) 0).toNat : Int) : Int) ≥ 48)) then (
          bif (!(decide ((((List.getD x0 (Int.toNat x3) 0).toNat : Int) : Int) ≤ 122))) then (
            bif ((x3 : Int) == 0) then (
              some false
            ) else (
              bif (!(decide ((((List.getD x0 (Int.toNat x3) 0).toNat : Int) : Int) ≤ 57))) then (
                some false
              ) else (
                (xBe N n x0 (IntKind.i64.wrap (x3 + 1)))
              )
            )
          ) else (
            (xBe N n x0 (IntKind.i64.wrap (x3 + 1)))
          )
        ) else (
          bif (!(decide ((((List.getD x0 (Int.toNat x3) 0).toNat : Int) : Int) ≤ 122))) then (
            bif ((x3 : Int) == 0) then (
              some false
            ) else (
              some false
            )
          ) else (
            (xBe N n x0 (IntKind.i64.wrap (x3 + 1)))
          )
        )
      ) else (
        bif (decide ((((List.getD x0 (Int.toNat x3) 0).toNat : Int) : Int) ≥ 48)) then (
          bif ((x3 : Int) == 0) then (
            some false
          ) else (
            bif (!(decide ((((List.getD x0 (Int.toNat x3) 0).toNat : Int) : Int) ≤ 57))) then (
              some false
            ) else (
              (xBe N n x0 (IntKind.i64.wrap (x3 + 1)))
            )
          )
        ) else (
          bif ((x3 : Int) == 0) then (
            some false
          ) else (
            some false
          )
        )
      )
      else none
    ) else (
      some (decide (((List.length x0 : Int) : Int) > 0))
    )
def xEX (N : Nat) (a0 : Str) : Option (Bool) :=
  (xBe N N a0 0)
def xC6 : List Arg := []
def xCx (r : (List Str)) : CallO := ⟨.v false [.sl .own .str r], [], []⟩
def xD1 (N : Nat) : Option ((List Str)) :=
  some [[108, 101, 116], [105, 110], [105, 102], [116, 104, 101, 110], [101, 108, 115, 101], [102, 111, 114], [100, 111], [108, 101, 110], [115, 117, 109], [116, 97, 107, 101], [115, 107, 105, 112], [114, 97, 110, 103, 101], [110, 116, 104], [119, 104, 101, 114, 101], [107, 101, 101, 112], [97, 100, 100], [103, 114, 111, 117, 112], [106, 111, 105, 110], [99, 111, 108, 117, 109, 110], [114, 111, 119, 115], [99, 108, 111, 99, 107], [99, 104, 97, 110, 99, 101], [102, 105, 108, 101], [116, 97, 98, 108, 101]]
def xDq (a0 : List Str) (a1 : Str) : List Arg := [.val (.v false [.sl .ro .str a0]), .val (.v false [.str a1])]
def xBB (r : Bool) : CallO := ⟨.v false [.bool r], [], []⟩
def xCQ (N : Nat) : Nat → (List Str) → Str → Int → Option (Bool)
  | 0, _, _, _ => none
  | n + 1, x0, x1, x5 =>
    bif (decide ((x5 : Int) < (List.length x0 : Int))) then (
      if (0 : Int) ≤ x5 ∧ x5 < (List.length x0) then
      bif (((List.getD x0 (Int.toNat x5) Ty.str.dflt) : Str) == x1) then (
        some true
      ) else (
        (xCQ N n x0 x1 (IntKind.i64.wrap (x5 + 1)))
      )
      else none
    ) else (
      some false
    )
def xFf (N : Nat) (a0 : List Str) (a1 : Str) : Option (Bool) :=
  (xCQ N N a0 a1 0)
def xC5 (a0 : Str) : List Arg := [.val (.v false [.str a0])]
def xCw (r : Bool) : CallO := ⟨.v false [.bool r], [], []⟩
def xDb (N : Nat) (a0 : Str) : Option (Bool) :=
  Option.bind (xD1 N) fun r1 =>
  Option.bind (xFf N r1 a0) fun r2 =>
  some r2
def xBr (a0 : Str) : List Arg := [.val (.v false [.str a0])]
def xAV (r : Bool) : CallO := ⟨.v false [.bool r], [], []⟩
def xCU (N : Nat) (a0 : Str) : Option (Bool) :=
  Option.bind (xEX N a0) fun r1 =>
  bif r1 then (
    bif (decide (((List.length a0 : Int) : Int) ≤ 8)) then (
      Option.bind (xDb N a0) fun r2 =>
      some (!r2)
    ) else (
      some false
    )
  ) else (
    some false
  )
def xCO (a0 : List Str) : List Arg := [.val (.v false [.sl .ro .str a0])]
def xBp (r : Bool) : CallO := ⟨.v false [.bool r], [], []⟩
def xBo (N : Nat) : Nat → (List Str) → Int → Option (Bool)
  | 0, _, _ => none
  | n + 1, x0, x3 =>
    bif (decide ((x3 : Int) < (List.length x0 : Int))) then (
      if (0 : Int) ≤ x3 ∧ x3 ≤ (List.length x0) then
      if (0 : Int) ≤ x3 ∧ x3 < (List.length x0) then
      Option.bind (xFf N (List.take (Int.toNat x3) x0) (List.getD x0 (Int.toNat x3) Ty.str.dflt)) fun r1 =>
      bif r1 then (
        some false
      ) else (
        (xBo N n x0 (IntKind.i64.wrap (x3 + 1)))
      )
      else none
      else none
    ) else (
      some true
    )
def xDI (N : Nat) (a0 : List Str) : Option (Bool) :=
  (xBo N N a0 0)
def xCc (a0 : List Str) : List Arg := [.val (.v false [.sl .ro .str a0])]
def xAG (r : Bool) : CallO := ⟨.v false [.bool r], [], []⟩
def xCd (N : Nat) : Nat → (List Str) → Int → Option (Bool)
  | 0, _, _ => none
  | n + 1, x0, x3 =>
    bif (decide ((x3 : Int) < (List.length x0 : Int))) then (
      if (0 : Int) ≤ x3 ∧ x3 < (List.length x0) then
      Option.bind (xCU N (List.getD x0 (Int.toNat x3) Ty.str.dflt)) fun r1 =>
      bif (!r1) then (
        some false
      ) else (
        (xCd N n x0 (IntKind.i64.wrap (x3 + 1)))
      )
      else none
    ) else (
      Option.bind (xEr N (List.length x0 : Int) 1 4) fun r1 =>
      bif r1 then (
        Option.bind (xDI N x0) fun r2 =>
        some r2
      ) else (
        some false
      )
    )
def xEk (N : Nat) (a0 : List Str) : Option (Bool) :=
  (xCd N N a0 0)
def xBV (a0 : Org) (a1 : Org) : List Arg := [.val (.v true [.int .i64 (Org.cell a0), .int .i64 (Org.row a0)]), .val (.v true [.int .i64 (Org.cell a1), .int .i64 (Org.row a1)])]
def xBk (r : Bool) : CallO := ⟨.v false [.bool r], [], []⟩
def xD2 (N : Nat) (a0 : Org) (a1 : Org) : Option (Bool) :=
  bif (decide (((Org.cell a0) : Int) < (Org.cell a1))) then (
    some true
  ) else (
    bif (((Org.cell a0) : Int) == (Org.cell a1)) then (
      some (decide (((Org.row a0) : Int) < (Org.row a1)))
    ) else (
      some false
    )
  )
def xCl (a0 : List Org) : List Arg := [.val (.v false [.sl .ro .org a0])]
def xAD (r : Bool) : CallO := ⟨.v false [.bool r], [], []⟩
def xA5 (N : Nat) : Nat → (List Org) → Int → Option (Bool)
  | 0, _, _ => none
  | n + 1, x0, x3 =>
    bif (decide ((x3 : Int) < (List.length x0 : Int))) then (
      if (0 : Int) ≤ x3 ∧ x3 < (List.length x0) then
      bif (decide (((Org.cell (List.getD x0 (Int.toNat x3) Ty.org.dflt)) : Int) < 0)) then (
        some false
      ) else (
        bif (decide (((Org.row (List.getD x0 (Int.toNat x3) Ty.org.dflt)) : Int) < 0)) then (
          some false
        ) else (
          bif (decide ((x3 : Int) > 0)) then (
            if (0 : Int) ≤ (IntKind.i64.wrap (x3 - 1)) ∧ (IntKind.i64.wrap (x3 - 1)) < (List.length x0) then
            Option.bind (xD2 N (List.getD x0 (Int.toNat (IntKind.i64.wrap (x3 - 1))) Ty.org.dflt) (List.getD x0 (Int.toNat x3) Ty.org.dflt)) fun r1 =>
            bif (!r1) then (
              some false
            ) else (
              (xA5 N n x0 (IntKind.i64.wrap (x3 + 1)))
            )
            else none
          ) else (
            (xA5 N n x0 (IntKind.i64.wrap (x3 + 1)))
          )
        )
      )
      else none
    ) else (
      some true
    )
def xDK (N : Nat) (a0 : List Org) : Option (Bool) :=
  (xA5 N N a0 0)
def xCI (a0 : Val) : List Arg := [.val (.v true [.int .i64 (Val.kind a0), .int .i64 (Val.n a0), .int .i64 (Val.step a0), .str (Val.text a0), .sl .ro .val (Val.list a0), .sl .ro .str (Val.columns a0), .sl .ro .row (Val.rows a0)])]
def xAP (r : Bool) : CallO := ⟨.v false [.bool r], [], []⟩
def xBW (N : Nat) (k4 : Int → Val → Option (Bool)) : Nat → Int → Int → Val → Rowd → Option (Bool)
  | 0, _, _, _, _ => none
  | n + 1, x3, x5, b1, b4 =>
    bif (decide ((x5 : Int) < (List.length (Rowd.cells b4) : Int))) then (
      if (0 : Int) ≤ x5 ∧ x5 < (List.length (Rowd.cells b4)) then
      Option.bind (xCy N (List.getD (Rowd.cells b4) (Int.toNat x5) Ty.int.dflt)) fun r1 =>
      bif (!r1) then (
        some false
      ) else (
        (xBW N k4 n x3 (IntKind.i64.wrap (x5 + 1)) b1 b4)
      )
      else none
    ) else (
      (k4 (IntKind.i64.wrap (x3 + 1)) b1)
    )
def xCm (N : Nat) : Nat → Int → Val → Option (Bool)
  | 0, _, _ => none
  | n + 1, x3, b1 =>
    bif (decide ((x3 : Int) < (List.length (Val.rows b1) : Int))) then (
      if (0 : Int) ≤ x3 ∧ x3 < (List.length (Val.rows b1)) then
      bif (((List.length (Rowd.cells (List.getD (Val.rows b1) (Int.toNat x3) Ty.row.dflt)) : Int) : Int) != (List.length (Val.columns b1) : Int)) then (
        some false
      ) else (
        Option.bind (xDK N (Rowd.frm (List.getD (Val.rows b1) (Int.toNat x3) Ty.row.dflt))) fun r1 =>
        bif (!r1) then (
          some false
        ) else (
          (xBW N (fun z0 z1 => (xCm N n z0 z1)) N x3 0 b1 (List.getD (Val.rows b1) (Int.toNat x3) Ty.row.dflt))
        )
      )
      else none
    ) else (
      some true
    )
def xEs (N : Nat) (a0 : Val) : Option (Bool) :=
  Option.bind (xEk N (Val.columns a0)) fun r1 =>
  bif (!r1) then (
    some false
  ) else (
    bif (decide (((List.length (Val.rows a0) : Int) : Int) > 12)) then (
      some false
    ) else (
      (xCm N N 0 a0)
    )
  )
def xAd (a0 : Val) : List Arg := [.val (.v true [.int .i64 (Val.kind a0), .int .i64 (Val.n a0), .int .i64 (Val.step a0), .str (Val.text a0), .sl .ro .val (Val.list a0), .sl .ro .str (Val.columns a0), .sl .ro .row (Val.rows a0)])]
def xAc (r : Bool) : CallO := ⟨.v false [.bool r], [], []⟩
def xBG (N : Nat) (q0 : Val → Option (Bool)) (q1 : Val → Option (Bool)) (a0 : Val) : Option (Bool) :=
  bif (((Val.kind a0) : Int) != 3) then (
    bif (decide (((List.length (Val.list a0) : Int) : Int) > 0)) then (
      some false
    ) else (
      bif (((Val.kind a0) : Int) != 5) then (
        bif (decide (((IntKind.i64.wrap ((List.length (Val.columns a0) : Int) + (List.length (Val.rows a0) : Int))) : Int) > 0)) then (
          some false
        ) else (
          bif (((Val.kind a0) : Int) != 2) then (
            bif (!(((Val.text a0) : Str) == [])) then (
              some false
            ) else (
              bif (((Val.kind a0) : Int) != 4) then (
                bif (((Val.step a0) : Int) != 0) then (
                  some false
                ) else (
                  bif (((Val.kind a0) : Int) == 1) then (
                    Option.bind (xCy N (Val.n a0)) fun r1 =>
                    some r1
                  ) else (
                    bif (((Val.kind a0) : Int) == 6) then (
                      Option.bind (xEr N (Val.n a0) 1 8) fun r1 =>
                      some r1
                    ) else (
                      some false
                    )
                  )
                )
              ) else (
                Option.bind (xCy N (Val.n a0)) fun r1 =>
                bif r1 then (
                  Option.bind (xCy N (Val.step a0)) fun r2 =>
                  some r2
                ) else (
                  some false
                )
              )
            )
          ) else (
            bif (((Val.step a0) : Int) != 0) then (
              some false
            ) else (
              bif (((Val.n a0) : Int) == 0) then (
                Option.bind (xDJ N (Val.text a0)) fun r1 =>
                some r1
              ) else (
                some false
              )
            )
          )
        )
      ) else (
        bif (!(((Val.text a0) : Str) == [])) then (
          some false
        ) else (
          bif (((Val.step a0) : Int) != 0) then (
            some false
          ) else (
            bif (((Val.n a0) : Int) == 0) then (
              Option.bind (xEs N a0) fun r1 =>
              some r1
            ) else (
              some false
            )
          )
        )
      )
    )
  ) else (
    bif (decide (((IntKind.i64.wrap ((List.length (Val.columns a0) : Int) + (List.length (Val.rows a0) : Int))) : Int) > 0)) then (
      some false
    ) else (
      bif (!(((Val.text a0) : Str) == [])) then (
        some false
      ) else (
        bif (((Val.step a0) : Int) != 0) then (
          some false
        ) else (
          bif (((Val.n a0) : Int) == 0) then (
            Option.bind (q1 a0) fun r1 =>
            some r1
          ) else (
            some false
          )
        )
      )
    )
  )
def xDB (a0 : Val) : List Arg := [.val (.v true [.int .i64 (Val.kind a0), .int .i64 (Val.n a0), .int .i64 (Val.step a0), .str (Val.text a0), .sl .ro .val (Val.list a0), .sl .ro .str (Val.columns a0), .sl .ro .row (Val.rows a0)])]
def xBy (r : Bool) : CallO := ⟨.v false [.bool r], [], []⟩
def xB3 (N : Nat) (q0 : Val → Option (Bool)) (q1 : Val → Option (Bool)) : Nat → Int → Val → Option (Bool)
  | 0, _, _ => none
  | n + 1, x3, b1 =>
    bif (decide ((x3 : Int) < (List.length (Val.list b1) : Int))) then (
      if (0 : Int) ≤ x3 ∧ x3 < (List.length (Val.list b1)) then
      Option.bind (xEl N (List.getD (Val.list b1) (Int.toNat x3) Ty.val.dflt)) fun r1 =>
      bif (!r1) then (
        some false
      ) else (
        Option.bind (q0 (List.getD (Val.list b1) (Int.toNat x3) Ty.val.dflt)) fun r2 =>
        bif (!r2) then (
          some false
        ) else (
          (xB3 N q0 q1 n (IntKind.i64.wrap (x3 + 1)) b1)
        )
      )
      else none
    ) else (
      bif (decide (((List.length (Val.list b1) : Int) : Int) ≤ 8)) then (
        Option.bind (xET N b1) fun r1 =>
        some (decide ((r1 : Int) ≤ 3))
      ) else (
        some false
      )
    )
def xEu (N : Nat) (q0 : Val → Option (Bool)) (q1 : Val → Option (Bool)) (a0 : Val) : Option (Bool) :=
  (xB3 N q0 q1 N 0 a0)
structure spec_IsValidValue_rec where
  c_spec_IsValidValue : Val → Option (Bool)
  c_spec_l3List : Val → Option (Bool)
def xAg (N : Nat) : Nat → spec_IsValidValue_rec
  | 0 => ⟨fun _ => none, fun _ => none⟩
  | d + 1 => ⟨xBG N (xAg N d).c_spec_IsValidValue (xAg N d).c_spec_l3List, xEu N (xAg N d).c_spec_IsValidValue (xAg N d).c_spec_l3List⟩
def xDp (N : Nat) (a0 : Val) : Option (Bool) := (xAg N N).c_spec_IsValidValue a0
def xBt (a0 : Int) : List Arg := [.val (.v false [.int .i64 a0])]
def xAu (r : Str) : CallO := ⟨.v false [.str r], [], []⟩
def xAZ (N : Nat) : Nat → Int → Bool → Str → Option (Str)
  | 0, _, _, _ => none
  | n + 1, x0, x3, x4 =>
    bif ((x0 : Int) != 0) then (
      bif (decide (((Int.tmod x0 10) : Int) < 0)) then (
        if List.length (List.map (fun n => UInt8.ofNat (Int.toNat n)) [(IntKind.u8.wrap ((IntKind.i64.wrap (48 + (IntKind.i64.wrap (0 - (Int.tmod x0 10)))))))]) + List.length x4 ≤ Lim then
        (xAZ N n (IntKind.i64.wrap (Int.tdiv x0 10)) x3 ((List.map (fun n => UInt8.ofNat (Int.toNat n)) [(IntKind.u8.wrap ((IntKind.i64.wrap (48 + (IntKind.i64.wrap (0 - (Int.tmod x0 10)))))))]) ++ x4))
        else none
      ) else (
        if List.length (List.map (fun n => UInt8.ofNat (Int.toNat n)) [(IntKind.u8.wrap ((IntKind.i64.wrap (48 + (Int.tmod x0 10)))))]) + List.length x4 ≤ Lim then
        (xAZ N n (IntKind.i64.wrap (Int.tdiv x0 10)) x3 ((List.map (fun n => UInt8.ofNat (Int.toNat n)) [(IntKind.u8.wrap ((IntKind.i64.wrap (48 + (Int.tmod x0 10)))))]) ++ x4))
        else none
      )
    ) else (
      bif x3 then (
        if List.length [45] + List.length x4 ≤ Lim then
        some ([45] ++ x4)
        else none
      ) else (
        some x4
      )
    )
def xB0 (N : Nat) (a0 : Int) : Option (Str) :=
  bif ((a0 : Int) == 0) then (
    some [48]
  ) else (
    (xAZ N N a0 (decide ((a0 : Int) < 0)) [])
  )
def xDc (a0 : List Str) (a1 : Str) : List Arg := [.val (.v false [.sl .ro .str a0]), .val (.v false [.str a1])]
def xBE (r : Str) : CallO := ⟨.v false [.str r], [], []⟩
def xB1 (N : Nat) : Nat → (List Str) → Str → (List Int) → Int → Option (Str)
  | 0, _, _, _, _ => none
  | n + 1, x0, x1, x5, x6 =>
    bif (decide ((x6 : Int) < (List.length x0 : Int))) then (
      bif (decide ((x6 : Int) > 0)) then (
        if List.length x5 + List.length x1 ≤ Lim then
        if (0 : Int) ≤ x6 ∧ x6 < (List.length x0) then
        if List.length (x5 ++ List.map (fun c => (c.toNat : Int)) x1) + List.length (List.getD x0 (Int.toNat x6) Ty.str.dflt) ≤ Lim then
        (xB1 N n x0 x1 ((x5 ++ List.map (fun c => (c.toNat : Int)) x1) ++ List.map (fun c => (c.toNat : Int)) (List.getD x0 (Int.toNat x6) Ty.str.dflt)) (IntKind.i64.wrap (x6 + 1)))
        else none
        else none
        else none
      ) else (
        if (0 : Int) ≤ x6 ∧ x6 < (List.length x0) then
        if List.length x5 + List.length (List.getD x0 (Int.toNat x6) Ty.str.dflt) ≤ Lim then
        (xB1 N n x0 x1 (x5 ++ List.map (fun c => (c.toNat : Int)) (List.getD x0 (Int.toNat x6) Ty.str.dflt)) (IntKind.i64.wrap (x6 + 1)))
        else none
        else none
      )
    ) else (
      some (List.map (fun n => UInt8.ofNat (Int.toNat n)) x5)
    )
def xEq (N : Nat) (a0 : List Str) (a1 : Str) : Option (Str) :=
  (xB1 N N a0 a1 [] 0)
def xEm (a0 : List Rowd) : List Arg := [.val (.v false [.sl .ro .row a0])]
def xB4 (r : Str) : CallO := ⟨.v false [.str r], [], []⟩
def xCB (N : Nat) (k3 : (List Rowd) → (List Str) → Int → Option (Str)) : Nat → (List Rowd) → (List Str) → Int → (List Str) → Int → Option (Str)
  | 0, _, _, _, _, _ => none
  | n + 1, x0, x3, x4, x5, x6 =>
    if (0 : Int) ≤ x4 ∧ x4 < (List.length x0) then
    bif (decide ((x6 : Int) < (List.length (Rowd.cells (List.getD x0 (Int.toNat x4) Ty.row.dflt)) : Int))) then (
      if (0 : Int) ≤ x6 ∧ x6 < (List.length (Rowd.cells (List.getD x0 (Int.toNat x4) Ty.row.dflt))) then
      Option.bind (xB0 N (List.getD (Rowd.cells (List.getD x0 (Int.toNat x4) Ty.row.dflt)) (Int.toNat x6) Ty.int.dflt)) fun r1 =>
      if List.length x5 + List.length [r1] ≤ Lim then
      (xCB N k3 n x0 x3 x4 (x5 ++ [r1]) (IntKind.i64.wrap (x6 + 1)))
      else none
      else none
    ) else (
      Option.bind (xEq N x5 [44, 32]) fun r1 =>
      if List.length [91] + List.length r1 ≤ Lim then
      if List.length ([91] ++ r1) + List.length [93] ≤ Lim then
      if List.length x3 + List.length [(([91] ++ r1) ++ [93])] ≤ Lim then
      (k3 x0 (x3 ++ [(([91] ++ r1) ++ [93])]) (IntKind.i64.wrap (x4 + 1)))
      else none
      else none
      else none
    )
    else none
def xC3 (N : Nat) : Nat → (List Rowd) → (List Str) → Int → Option (Str)
  | 0, _, _, _ => none
  | n + 1, x0, x3, x4 =>
    bif (decide ((x4 : Int) < (List.length x0 : Int))) then (
      (xCB N (fun z0 z1 z2 => (xC3 N n z0 z1 z2)) N x0 x3 x4 [] 0)
    ) else (
      Option.bind (xEq N x3 [44, 32]) fun r1 =>
      if List.length [91] + List.length r1 ≤ Lim then
      if List.length ([91] ++ r1) + List.length [93] ≤ Lim then
      some (([91] ++ r1) ++ [93])
      else none
      else none
    )
def xFq (N : Nat) (a0 : List Rowd) : Option (Str) :=
  (xC3 N N a0 [] 0)
def xDL : List Arg := []
def xCV (r : (List Str)) : CallO := ⟨.v false [.sl .own .str r], [], []⟩
def xFp (N : Nat) : Option ((List Str)) :=
  some [[], [109, 105, 115, 115, 105, 110, 103], [100, 117, 112, 108, 105, 99, 97, 116, 101], [99, 121, 99, 108, 101], [116, 121, 112, 101], [114, 97, 110, 103, 101], [108, 105, 109, 105, 116], [99, 111, 108, 117, 109, 110], [115, 121, 110, 116, 97, 120]]
def xCG (a0 : Int) : List Arg := [.val (.v false [.int .i64 a0])]
def xCb (r : Str) : CallO := ⟨.v false [.str r], [], []⟩
def xDA (N : Nat) (a0 : Int) : Option (Str) :=
  Option.bind (xEr N a0 1 8) fun r1 =>
  bif (!r1) then (
    some [63]
  ) else (
    Option.bind (xFp N) fun r2 =>
    if (0 : Int) ≤ a0 ∧ a0 < (List.length r2) then
    some (List.getD r2 (Int.toNat a0) Ty.str.dflt)
    else none
  )
def xA7 (a0 : Val) : List Arg := [.val (.v true [.int .i64 (Val.kind a0), .int .i64 (Val.n a0), .int .i64 (Val.step a0), .str (Val.text a0), .sl .ro .val (Val.list a0), .sl .ro .str (Val.columns a0), .sl .ro .row (Val.rows a0)])]
def xAK (r : Str) : CallO := ⟨.v false [.str r], [], []⟩
def xBO (N : Nat) (q0 : Val → Option (Str)) : Nat → (List Str) → Int → Val → Option (Str)
  | 0, _, _, _ => none
  | n + 1, x3, x4, b1 =>
    bif (decide ((x4 : Int) < (List.length (Val.list b1) : Int))) then (
      if (0 : Int) ≤ x4 ∧ x4 < (List.length (Val.list b1)) then
      Option.bind (q0 (List.getD (Val.list b1) (Int.toNat x4) Ty.val.dflt)) fun r1 =>
      if List.length x3 + List.length [r1] ≤ Lim then
      (xBO N q0 n (x3 ++ [r1]) (IntKind.i64.wrap (x4 + 1)) b1)
      else none
      else none
    ) else (
      Option.bind (xEq N x3 [44, 32]) fun r1 =>
      if List.length [91] + List.length r1 ≤ Lim then
      if List.length ([91] ++ r1) + List.length [93] ≤ Lim then
      some (([91] ++ r1) ++ [93])
      else none
      else none
    )
def xA8 (N : Nat) (q0 : Val → Option (Str)) (a0 : Val) : Option (Str) :=
  bif (((Val.kind a0) : Int) == 1) then (
    Option.bind (xB0 N (Val.n a0)) fun r1 =>
    some r1
  ) else (
    bif (((Val.kind a0) : Int) == 2) then (
      if List.length [34] + List.length (Val.text a0) ≤ Lim then
      if List.length ([34] ++ (Val.text a0)) + List.length [34] ≤ Lim then
      some (([34] ++ (Val.text a0)) ++ [34])
      else none
      else none
    ) else (
      bif (((Val.kind a0) : Int) == 4) then (
        Option.bind (xB0 N (Val.n a0)) fun r1 =>
        if List.length [114, 97, 110, 103, 101, 40] + List.length r1 ≤ Lim then
        if List.length ([114, 97, 110, 103, 101, 40] ++ r1) + List.length [44, 32] ≤ Lim then
        Option.bind (xB0 N (Val.step a0)) fun r2 =>
        if List.length (([114, 97, 110, 103, 101, 40] ++ r1) ++ [44, 32]) + List.length r2 ≤ Lim then
        if List.length ((([114, 97, 110, 103, 101, 40] ++ r1) ++ [44, 32]) ++ r2) + List.length [41] ≤ Lim then
        some (((([114, 97, 110, 103, 101, 40] ++ r1) ++ [44, 32]) ++ r2) ++ [41])
        else none
        else none
        else none
        else none
      ) else (
        bif (((Val.kind a0) : Int) == 5) then (
          Option.bind (xEq N (Val.columns a0) [32]) fun r1 =>
          if List.length [116, 97, 98, 108, 101, 40, 34] + List.length r1 ≤ Lim then
          if List.length ([116, 97, 98, 108, 101, 40, 34] ++ r1) + List.length [34, 44, 32] ≤ Lim then
          Option.bind (xFq N (Val.rows a0)) fun r2 =>
          if List.length (([116, 97, 98, 108, 101, 40, 34] ++ r1) ++ [34, 44, 32]) + List.length r2 ≤ Lim then
          if List.length ((([116, 97, 98, 108, 101, 40, 34] ++ r1) ++ [34, 44, 32]) ++ r2) + List.length [41] ≤ Lim then
          some (((([116, 97, 98, 108, 101, 40, 34] ++ r1) ++ [34, 44, 32]) ++ r2) ++ [41])
          else none
          else none
          else none
          else none
        ) else (
          bif (((Val.kind a0) : Int) == 6) then (
            Option.bind (xDA N (Val.n a0)) fun r1 =>
            if List.length [101, 114, 114, 111, 114, 32] + List.length r1 ≤ Lim then
            some ([101, 114, 114, 111, 114, 32] ++ r1)
            else none
          ) else (
            (xBO N q0 N [] 0 a0)
          )
        )
      )
    )
  )
def xCn (N : Nat) : Nat → Val → Option (Str)
  | 0, _ => none
  | d + 1, a0 => xA8 N (xCn N d) a0
def xGf (N : Nat) (a0 : Val) : Option (Str) := xCn N N a0
def xBq (a0 : Val) : List Arg := [.val (.v true [.int .i64 (Val.kind a0), .int .i64 (Val.n a0), .int .i64 (Val.step a0), .str (Val.text a0), .sl .ro .val (Val.list a0), .sl .ro .str (Val.columns a0), .sl .ro .row (Val.rows a0)])]
def xAJ (r : Str) : CallO := ⟨.v false [.str r], [], []⟩
def xCr (N : Nat) (a0 : Val) : Option (Str) :=
  Option.bind (xDp N a0) fun r1 =>
  bif (!r1) then (
    some []
  ) else (
    Option.bind (xGf N a0) fun r2 =>
    some r2
  )
def xBM (a0 : Int) (a1 : Int) (a2 : Int) : List Arg := [.val (.v false [.int .i64 a0]), .val (.v false [.int .i64 a1]), .val (.v false [.int .i64 a2])]
def xAR (r : Bool) : CallO := ⟨.v false [.bool r], [], []⟩
def xDa (N : Nat) (a0 : Int) (a1 : Int) (a2 : Int) : Option (Bool) :=
  bif (decide ((a1 : Int) ≤ a0)) then (
    some (decide ((a0 : Int) ≤ a2))
  ) else (
    some false
  )
def xBf (a0 : Int) : List Arg := [.val (.v false [.int .i64 a0])]
def xAv (r : Bool) : CallO := ⟨.v false [.bool r], [], []⟩
def xCt (N : Nat) (a0 : Int) : Option (Bool) :=
  Option.bind (xDa N a0 (-1000000000) 1000000000) fun r1 =>
  some r1
def xCK (a0 : Str) : List Arg := [.val (.v false [.str a0])]
def xAU (r : Bool) : CallO := ⟨.v false [.bool r], [], []⟩
def xCg (N : Nat) : Nat → Str → Int → Option (Bool)
  | 0, _, _ => none
  | n + 1, x0, x3 =>
    bif (decide ((x3 : Int) < (List.length x0 : Int))) then (
      if (0 : Int) ≤ x3 ∧ x3 < (List.length x0) then
      bif (decide ((((List.getD x0 (Int.toNat x3) 0).toNat : Int) : Int) < 32)) then (
        some false
      ) else (
        bif (decide ((((List.getD x0 (Int.toNat x3) 0).toNat : Int) : Int) > 126)) then (
          some false
        ) else (
          bif ((((List.getD x0 (Int.toNat x3) 0).toNat : Int) : Int) == 34) then (
            some false
          ) else (
            (xCg N n x0 (IntKind.i64.wrap (x3 + 1)))
          )
        )
      )
      else none
    ) else (
      some (decide (((List.length x0 : Int) : Int) ≤ 20))
    )
def xDE (N : Nat) (a0 : Str) : Option (Bool) :=
  (xCg N N a0 0)
def xDu (a0 : Str) : List Arg := [.val (.v false [.str a0])]
def xAQ (r : Bool) : CallO := ⟨.v false [.bool r], [], []⟩
def xBL (N : Nat) : Nat → Str → Int → Option (Bool)
  | 0, _, _ => none
  | n + 1, x0, x3 =>
    bif (decide ((x3 : Int) < (List.length x0 : Int))) then (
      if (0 : Int) ≤ x3 ∧ x3 < (List.length x0) then
      bif (decide ((((List.getD x0 (Int.toNat x3) 0).toNat : Int) : Int) ≥ 97)) then (
        bif (!(decide ((((List.getD x0 (Int.toNat x3) 0).toNat : Int) : Int) ≤ 122))) then (
          bif ((x3 : Int) == 0) then (
            some false
          ) else (
            bif (decide ((((List.getD x0 (Int.toNat x3) 0).toNat : Int) : Int) < 48)) then (
              some false
            ) else (
              bif (decide ((((List.getD x0 (Int.toNat x3) 0).toNat : Int) : Int) > 57)) then (
                some false
              ) else (
                (xBL N n x0 (IntKind.i64.wrap (x3 + 1)))
              )
            )
          )
        ) else (
          (xBL N n x0 (IntKind.i64.wrap (x3 + 1)))
        )
      ) else (
        bif ((x3 : Int) == 0) then (
          some false
        ) else (
          bif (decide ((((List.getD x0 (Int.toNat x3) 0).toNat : Int) : Int) < 48)) then (
            some false
          ) else (
            bif (decide ((((List.getD x0 (Int.toNat x3) 0).toNat : Int) : Int) > 57)) then (
              some false
            ) else (
              (xBL N n x0 (IntKind.i64.wrap (x3 + 1)))
            )
          )
        )
      )
      else none
    ) else (
      Option.bind (xDa N (List.length x0 : Int) 1 8) fun r1 =>
      some r1
    )
def xFi (N : Nat) (a0 : Str) : Option (Bool) :=
  (xBL N N a0 0)
def xAf (a0 : Str) : List Arg := [.val (.v false [.str a0])]
def xAe (r : Int) : CallO := ⟨.v false [.int .i64 r], [], []⟩
def xC4 (N : Nat) (a0 : Str) : Option (Int) :=
  bif ((a0 : Str) == [99, 108, 111, 99, 107]) then (
    some 0
  ) else (
    bif ((a0 : Str) == [108, 101, 110]) then (
      some 1
    ) else (
      bif ((a0 : Str) == [115, 117, 109]) then (
        some 1
      ) else (
        bif ((a0 : Str) == [114, 111, 119, 115]) then (
          some 1
        ) else (
          bif ((a0 : Str) == [99, 104, 97, 110, 99, 101]) then (
            some 1
          ) else (
            bif ((a0 : Str) == [102, 105, 108, 101]) then (
              some 1
            ) else (
              bif ((a0 : Str) == [116, 97, 107, 101]) then (
                some 2
              ) else (
                bif ((a0 : Str) == [115, 107, 105, 112]) then (
                  some 2
                ) else (
                  bif ((a0 : Str) == [114, 97, 110, 103, 101]) then (
                    some 2
                  ) else (
                    bif ((a0 : Str) == [110, 116, 104]) then (
                      some 2
                    ) else (
                      bif ((a0 : Str) == [107, 101, 101, 112]) then (
                        some 2
                      ) else (
                        bif ((a0 : Str) == [99, 111, 108, 117, 109, 110]) then (
                          some 2
                        ) else (
                          bif ((a0 : Str) == [116, 97, 98, 108, 101]) then (
                            some 2
                          ) else (
                            bif ((a0 : Str) == [119, 104, 101, 114, 101]) then (
                              some 3
                            ) else (
                              bif ((a0 : Str) == [103, 114, 111, 117, 112]) then (
                                some 3
                              ) else (
                                bif ((a0 : Str) == [106, 111, 105, 110]) then (
                                  some 3
                                ) else (
                                  bif ((a0 : Str) == [97, 100, 100]) then (
                                    some 4
                                  ) else (
                                    some (-1)
                                  )
                                )
                              )
                            )
                          )
                        )
                      )
                    )
                  )
                )
              )
            )
          )
        )
      )
    )
  )
def xAH (a0 : Str) : List Arg := [.val (.v false [.str a0])]
def xAA (r : Bool) : CallO := ⟨.v false [.bool r], [], []⟩
def xC8 (N : Nat) (a0 : Str) : Option (Bool) :=
  bif ((a0 : Str) == [108, 101, 116]) then (
    some true
  ) else (
    bif ((a0 : Str) == [105, 110]) then (
      some true
    ) else (
      bif ((a0 : Str) == [105, 102]) then (
        some true
      ) else (
        bif ((a0 : Str) == [116, 104, 101, 110]) then (
          some true
        ) else (
          bif ((a0 : Str) == [101, 108, 115, 101]) then (
            some true
          ) else (
            bif ((a0 : Str) == [102, 111, 114]) then (
              some true
            ) else (
              bif ((a0 : Str) == [100, 111]) then (
                some true
              ) else (
                Option.bind (xC4 N a0) fun r1 =>
                some (decide ((r1 : Int) ≥ 0))
              )
            )
          )
        )
      )
    )
  )
def xBI (a0 : Str) : List Arg := [.val (.v false [.str a0])]
def xA3 (r : Bool) : CallO := ⟨.v false [.bool r], [], []⟩
def xCR (N : Nat) (a0 : Str) : Option (Bool) :=
  Option.bind (xFi N a0) fun r1 =>
  bif r1 then (
    Option.bind (xC8 N a0) fun r2 =>
    some (!r2)
  ) else (
    some false
  )
def xC7 (a0 : List Str) (a1 : Str) : List Arg := [.val (.v false [.sl .ro .str a0]), .val (.v false [.str a1])]
def xBz (r : Int) : CallO := ⟨.v false [.int .i64 r], [], []⟩
def xCf (N : Nat) : Nat → Str → (List Str) → Int → Int → Option (Int)
  | 0, _, _, _, _ => none
  | n + 1, x1, x7, x8, x9 =>
    bif (decide ((x9 : Int) < x8)) then (
      if (0 : Int) ≤ x9 ∧ x9 < (List.length x7) then
      bif (((List.getD x7 (Int.toNat x9) Ty.str.dflt) : Str) == x1) then (
        some x9
      ) else (
        (xCf N n x1 x7 x8 (IntKind.i64.wrap (x9 + 1)))
      )
      else none
    ) else (
      some (-1)
    )
def xER (N : Nat) (a0 : List Str) (a1 : Str) : Option (Int) :=
  (xCf N N a1 a0 (List.length a0 : Int) 0)
def xCJ (a0 : List Str) : List Arg := [.val (.v false [.sl .ro .str a0])]
def xBn (r : Bool) : CallO := ⟨.v false [.bool r], [], []⟩
def xBm (N : Nat) : Nat → (List Str) → (List Str) → Int → Int → Option (Bool)
  | 0, _, _, _, _ => none
  | n + 1, x0, x5, x6, x7 =>
    bif (decide ((x7 : Int) < x6)) then (
      if (0 : Int) ≤ x7 ∧ x7 < (List.length x5) then
      Option.bind (xER N x0 (List.getD x5 (Int.toNat x7) Ty.str.dflt)) fun r1 =>
      bif ((r1 : Int) != x7) then (
        some false
      ) else (
        (xBm N n x0 x5 x6 (IntKind.i64.wrap (x7 + 1)))
      )
      else none
    ) else (
      some true
    )
def xDC (N : Nat) (a0 : List Str) : Option (Bool) :=
  (xBm N N a0 a0 (List.length a0 : Int) 0)
def xBP (a0 : List Str) : List Arg := [.val (.v false [.sl .ro .str a0])]
def xAB (r : Bool) : CallO := ⟨.v false [.bool r], [], []⟩
def xBQ (N : Nat) : Nat → (List Str) → (List Str) → Int → Int → Option (Bool)
  | 0, _, _, _, _ => none
  | n + 1, x0, x5, x6, x7 =>
    bif (decide ((x7 : Int) < x6)) then (
      if (0 : Int) ≤ x7 ∧ x7 < (List.length x5) then
      Option.bind (xCR N (List.getD x5 (Int.toNat x7) Ty.str.dflt)) fun r1 =>
      bif (!r1) then (
        some false
      ) else (
        (xBQ N n x0 x5 x6 (IntKind.i64.wrap (x7 + 1)))
      )
      else none
    ) else (
      Option.bind (xDa N (List.length x0 : Int) 1 4) fun r1 =>
      bif r1 then (
        Option.bind (xDC N x0) fun r2 =>
        some r2
      ) else (
        some false
      )
    )
def xDU (N : Nat) (a0 : List Str) : Option (Bool) :=
  (xBQ N N a0 a0 (List.length a0 : Int) 0)
def xBb (a0 : Org) (a1 : Org) : List Arg := [.val (.v true [.int .i64 (Org.cell a0), .int .i64 (Org.row a0)]), .val (.v true [.int .i64 (Org.cell a1), .int .i64 (Org.row a1)])]
def xAL (r : Bool) : CallO := ⟨.v false [.bool r], [], []⟩
def xDg (N : Nat) (a0 : Org) (a1 : Org) : Option (Bool) :=
  bif (decide (((Org.cell a0) : Int) < (Org.cell a1))) then (
    some true
  ) else (
    bif (((Org.cell a0) : Int) == (Org.cell a1)) then (
      some (decide (((Org.row a0) : Int) < (Org.row a1)))
    ) else (
      some false
    )
  )
def xCh (a0 : Val) : List Arg := [.val (.v true [.int .i64 (Val.kind a0), .int .i64 (Val.n a0), .int .i64 (Val.step a0), .str (Val.text a0), .sl .ro .val (Val.list a0), .sl .ro .str (Val.columns a0), .sl .ro .row (Val.rows a0)])]
def xAm (r : Bool) : CallO := ⟨.v false [.bool r], [], []⟩
def xBD (N : Nat) (k4 : (List Rowd) → Int → Int → Val → Option (Bool)) : Nat → (List Rowd) → Int → Int → (List Org) → Int → Int → Val → Rowd → Option (Bool)
  | 0, _, _, _, _, _, _, _, _ => none
  | n + 1, x20, x21, x22, x45, x46, x47, b1, b4 =>
    bif (decide ((x47 : Int) < x46)) then (
      if (0 : Int) ≤ x47 ∧ x47 < (List.length x45) then
      bif (decide (((Org.cell (List.getD x45 (Int.toNat x47) Ty.org.dflt)) : Int) < 0)) then (
        some false
      ) else (
        bif (decide (((Org.row (List.getD x45 (Int.toNat x47) Ty.org.dflt)) : Int) < 0)) then (
          some false
        ) else (
          bif (decide ((x47 : Int) > 0)) then (
            if (0 : Int) ≤ (IntKind.i64.wrap (x47 - 1)) ∧ (IntKind.i64.wrap (x47 - 1)) < (List.length (Rowd.frm b4)) then
            Option.bind (xDg N (List.getD (Rowd.frm b4) (Int.toNat (IntKind.i64.wrap (x47 - 1))) Ty.org.dflt) (List.getD x45 (Int.toNat x47) Ty.org.dflt)) fun r1 =>
            bif (!r1) then (
              some false
            ) else (
              (xBD N k4 n x20 x21 x22 x45 x46 (IntKind.i64.wrap (x47 + 1)) b1 b4)
            )
            else none
          ) else (
            (xBD N k4 n x20 x21 x22 x45 x46 (IntKind.i64.wrap (x47 + 1)) b1 b4)
          )
        )
      )
      else none
    ) else (
      (k4 x20 x21 (IntKind.i64.wrap (x22 + 1)) b1)
    )
def xCj (N : Nat) (k4 : (List Rowd) → Int → Int → Val → Option (Bool)) : Nat → (List Rowd) → Int → Int → (List Int) → Int → Int → Val → Rowd → Option (Bool)
  | 0, _, _, _, _, _, _, _, _ => none
  | n + 1, x20, x21, x22, x34, x35, x36, b1, b4 =>
    bif (decide ((x36 : Int) < x35)) then (
      if (0 : Int) ≤ x36 ∧ x36 < (List.length x34) then
      Option.bind (xCt N (List.getD x34 (Int.toNat x36) Ty.int.dflt)) fun r1 =>
      bif (!r1) then (
        some false
      ) else (
        (xCj N k4 n x20 x21 x22 x34 x35 (IntKind.i64.wrap (x36 + 1)) b1 b4)
      )
      else none
    ) else (
      (xBD N k4 N x20 x21 x22 (Rowd.frm b4) (List.length (Rowd.frm b4) : Int) 0 b1 b4)
    )
def xCi (N : Nat) : Nat → (List Rowd) → Int → Int → Val → Option (Bool)
  | 0, _, _, _, _ => none
  | n + 1, x20, x21, x22, b1 =>
    bif (decide ((x22 : Int) < x21)) then (
      if (0 : Int) ≤ x22 ∧ x22 < (List.length x20) then
      bif (((List.length (Rowd.cells (List.getD x20 (Int.toNat x22) Ty.row.dflt)) : Int) : Int) != (List.length (Val.columns b1) : Int)) then (
        some false
      ) else (
        (xCj N (fun z0 z1 z2 z3 => (xCi N n z0 z1 z2 z3)) N x20 x21 x22 (Rowd.cells (List.getD x20 (Int.toNat x22) Ty.row.dflt)) (List.length (Rowd.cells (List.getD x20 (Int.toNat x22) Ty.row.dflt)) : Int) 0 b1 (List.getD x20 (Int.toNat x22) Ty.row.dflt))
      )
      else none
    ) else (
      some true
    )
def xDP (N : Nat) (a0 : Val) : Option (Bool) :=
  Option.bind (xDU N (Val.columns a0)) fun r1 =>
  bif (!r1) then (
    some false
  ) else (
    bif (decide (((List.length (Val.rows a0) : Int) : Int) > 12)) then (
      some false
    ) else (
      (xCi N N (Val.rows a0) (List.length (Val.rows a0) : Int) 0 a0)
    )
  )
def xCe (a0 : Val) : List Arg := [.val (.v true [.int .i64 (Val.kind a0), .int .i64 (Val.n a0), .int .i64 (Val.step a0), .str (Val.text a0), .sl .ro .val (Val.list a0), .sl .ro .str (Val.columns a0), .sl .ro .row (Val.rows a0)])]
def xBc (r : Int) : CallO := ⟨.v false [.int .i64 r], [], []⟩
def xCC (N : Nat) (q0 : Val → Option (Int)) : Nat → Int → (List Val) → Int → Int → Option (Int)
  | 0, _, _, _, _ => none
  | n + 1, x3, x7, x8, x9 =>
    bif (decide ((x9 : Int) < x8)) then (
      if (0 : Int) ≤ x9 ∧ x9 < (List.length x7) then
      Option.bind (q0 (List.getD x7 (Int.toNat x9) Ty.val.dflt)) fun r1 =>
      (xCC N q0 n (if (r1 : Int) > x3 then r1 else x3) x7 x8 (IntKind.i64.wrap (x9 + 1)))
      else none
    ) else (
      some (IntKind.i64.wrap (x3 + 1))
    )
def xD4 (N : Nat) (q0 : Val → Option (Int)) (a0 : Val) : Option (Int) :=
  (xCC N q0 N 0 (Val.list a0) (List.length (Val.list a0) : Int) 0)
def xBR (N : Nat) : Nat → Val → Option (Int)
  | 0, _ => none
  | d + 1, a0 => xD4 N (xBR N d) a0
def xEn (N : Nat) (a0 : Val) : Option (Int) := xBR N N a0
def xAb (a0 : Val) : List Arg := [.val (.v true [.int .i64 (Val.kind a0), .int .i64 (Val.n a0), .int .i64 (Val.step a0), .str (Val.text a0), .sl .ro .val (Val.list a0), .sl .ro .str (Val.columns a0), .sl .ro .row (Val.rows a0)])]
def xAa (r : Bool) : CallO := ⟨.v false [.bool r], [], []⟩
def xAo (N : Nat) (q0 : Val → Option (Bool)) : Nat → (List Val) → Int → Int → Val → Option (Bool)
  | 0, _, _, _, _ => none
  | n + 1, x124, x125, x126, b1 =>
    bif (decide ((x126 : Int) < x125)) then (
      if (0 : Int) ≤ x126 ∧ x126 < (List.length x124) then
      bif (((Val.kind (List.getD x124 (Int.toNat x126) Ty.val.dflt)) : Int) != 1) then (
        bif (((Val.kind (List.getD x124 (Int.toNat x126) Ty.val.dflt)) : Int) != 2) then (
          bif (((Val.kind (List.getD x124 (Int.toNat x126) Ty.val.dflt)) : Int) != 3) then (
            some false
          ) else (
            Option.bind (q0 (List.getD x124 (Int.toNat x126) Ty.val.dflt)) fun r1 =>
            bif (!r1) then (
              some false
            ) else (
              (xAo N q0 n x124 x125 (IntKind.i64.wrap (x126 + 1)) b1)
            )
          )
        ) else (
          Option.bind (q0 (List.getD x124 (Int.toNat x126) Ty.val.dflt)) fun r1 =>
          bif (!r1) then (
            some false
          ) else (
            (xAo N q0 n x124 x125 (IntKind.i64.wrap (x126 + 1)) b1)
          )
        )
      ) else (
        Option.bind (q0 (List.getD x124 (Int.toNat x126) Ty.val.dflt)) fun r1 =>
        bif (!r1) then (
          some false
        ) else (
          (xAo N q0 n x124 x125 (IntKind.i64.wrap (x126 + 1)) b1)
        )
      )
      else none
    ) else (
      bif (((Val.n b1) : Int) == 0) then (
        bif (((Val.step b1) : Int) == 0) then (
          bif (((Val.text b1) : Str) == []) then (
            bif (((List.length (Val.columns b1) : Int) : Int) == 0) then (
              bif (((List.length (Val.rows b1) : Int) : Int) == 0) then (
                bif (decide (((List.length (Val.list b1) : Int) : Int) ≤ 8)) then (
                  Option.bind (xEn N b1) fun r1 =>
                  some (decide ((r1 : Int) ≤ 3))
                ) else (
                  some false
                )
              ) else (
                some false
              )
            ) else (
              some false
            )
          ) else (
            some false
          )
        ) else (
          some false
        )
      ) else (
        some false
      )
    )
def xBF (N : Nat) (q0 : Val → Option (Bool)) (a0 : Val) : Option (Bool) :=
  bif (((List.length (Val.list a0) : Int) : Int) == 0) then (
    bif (((List.length (Val.columns a0) : Int) : Int) == 0) then (
      bif (((Val.kind a0) : Int) == 1) then (
        bif (((List.length (Val.rows a0) : Int) : Int) == 0) then (
          bif (((Val.step a0) : Int) == 0) then (
            bif (((Val.text a0) : Str) == []) then (
              Option.bind (xCt N (Val.n a0)) fun r1 =>
              some r1
            ) else (
              some false
            )
          ) else (
            some false
          )
        ) else (
          some false
        )
      ) else (
        bif (((Val.kind a0) : Int) == 2) then (
          bif (((List.length (Val.rows a0) : Int) : Int) == 0) then (
            bif (((Val.n a0) : Int) == 0) then (
              bif (((Val.step a0) : Int) == 0) then (
                Option.bind (xDE N (Val.text a0)) fun r1 =>
                some r1
              ) else (
                some false
              )
            ) else (
              some false
            )
          ) else (
            some false
          )
        ) else (
          bif (((Val.kind a0) : Int) == 4) then (
            bif (((List.length (Val.rows a0) : Int) : Int) == 0) then (
              bif (((Val.text a0) : Str) == []) then (
                Option.bind (xCt N (Val.n a0)) fun r1 =>
                bif r1 then (
                  Option.bind (xCt N (Val.step a0)) fun r2 =>
                  some r2
                ) else (
                  some false
                )
              ) else (
                some false
              )
            ) else (
              some false
            )
          ) else (
            bif (((Val.kind a0) : Int) == 6) then (
              bif (((List.length (Val.rows a0) : Int) : Int) == 0) then (
                bif (((Val.step a0) : Int) == 0) then (
                  bif (((Val.text a0) : Str) == []) then (
                    Option.bind (xDa N (Val.n a0) 1 8) fun r1 =>
                    some r1
                  ) else (
                    some false
                  )
                ) else (
                  some false
                )
              ) else (
                some false
              )
            ) else (
              bif (((Val.kind a0) : Int) == 5) then (
                bif (((Val.n a0) : Int) == 0) then (
                  bif (((Val.step a0) : Int) == 0) then (
                    bif (((Val.text a0) : Str) == []) then (
                      Option.bind (xDP N a0) fun r1 =>
                      some r1
                    ) else (
                      some false
                    )
                  ) else (
                    some false
                  )
                ) else (
                  some false
                )
              ) else (
                bif (((Val.kind a0) : Int) == 3) then (
                  (xAo N q0 N (Val.list a0) (List.length (Val.list a0) : Int) 0 a0)
                ) else (
                  some false
                )
              )
            )
          )
        )
      )
    ) else (
      bif (((Val.kind a0) : Int) == 1) then (
        some false
      ) else (
        bif (((Val.kind a0) : Int) == 2) then (
          some false
        ) else (
          bif (((Val.kind a0) : Int) == 4) then (
            some false
          ) else (
            bif (((Val.kind a0) : Int) == 6) then (
              some false
            ) else (
              bif (((Val.kind a0) : Int) == 5) then (
                bif (((Val.n a0) : Int) == 0) then (
                  bif (((Val.step a0) : Int) == 0) then (
                    bif (((Val.text a0) : Str) == []) then (
                      Option.bind (xDP N a0) fun r1 =>
                      some r1
                    ) else (
                      some false
                    )
                  ) else (
                    some false
                  )
                ) else (
                  some false
                )
              ) else (
                bif (((Val.kind a0) : Int) == 3) then (
                  (xAo N q0 N (Val.list a0) (List.length (Val.list a0) : Int) 0 a0)
                ) else (
                  some false
                )
              )
            )
          )
        )
      )
    )
  ) else (
    bif (((Val.kind a0) : Int) == 1) then (
      some false
    ) else (
      bif (((Val.kind a0) : Int) == 2) then (
        some false
      ) else (
        bif (((Val.kind a0) : Int) == 4) then (
          some false
        ) else (
          bif (((Val.kind a0) : Int) == 6) then (
            some false
          ) else (
            bif (((Val.kind a0) : Int) == 5) then (
              bif (((Val.n a0) : Int) == 0) then (
                bif (((Val.step a0) : Int) == 0) then (
                  bif (((Val.text a0) : Str) == []) then (
                    some false
                  ) else (
                    some false
                  )
                ) else (
                  some false
                )
              ) else (
                some false
              )
            ) else (
              bif (((Val.kind a0) : Int) == 3) then (
                (xAo N q0 N (Val.list a0) (List.length (Val.list a0) : Int) 0 a0)
              ) else (
                some false
              )
            )
          )
        )
      )
    )
  )
def xAp (N : Nat) : Nat → Val → Option (Bool)
  | 0, _ => none
  | d + 1, a0 => xBF N (xAp N d) a0
def xDf (N : Nat) (a0 : Val) : Option (Bool) := xAp N N a0
def xFI (a0 : Int) : List Arg := [.val (.v false [.int .i64 a0])]
def xEO (r : Str) : CallO := ⟨.v false [.str r], [], []⟩
def strconv_Itoa (N : Nat) (a0 : Int) : Option Str := itoaP a0
def xBH (a0 : Int) : List Arg := [.val (.v false [.int .i64 a0])]
def xAN (r : Str) : CallO := ⟨.v false [.str r], [], []⟩
def xBZ (N : Nat) (a0 : Int) : Option (Str) :=
  Option.bind (strconv_Itoa N a0) fun r1 =>
  some r1
def xE6 (a0 : Int) : List Arg := [.val (.v false [.int .i64 a0])]
def xD5 (r : Str) : CallO := ⟨.v false [.str r], [], []⟩
def xE1 (N : Nat) (a0 : Int) : Option Str := some (errN a0)
def xFJ (a0 : List Str) (a1 : Str) : List Arg := [.val (.v false [.sl .ro .str a0]), .val (.v false [.str a1])]
def xEP (r : Str) : CallO := ⟨.v false [.str r], [], []⟩
def strings_Join (N : Nat) (a0 : List Str) (a1 : Str) : Option Str := joinP a0 a1
def xEo (a0 : List Str) (a1 : Str) : List Arg := [.val (.v false [.sl .ro .str a0]), .val (.v false [.str a1])]
def xC9 (r : Str) : CallO := ⟨.v false [.str r], [], []⟩
def xE8 (N : Nat) (a0 : List Str) (a1 : Str) : Option (Str) :=
  Option.bind (strings_Join N a0 a1) fun r1 =>
  some r1
def xCp (a0 : List Str) : List Arg := [.val (.v false [.sl .ro .str a0])]
def xBg (r : Str) : CallO := ⟨.v false [.str r], [], []⟩
def xCL (N : Nat) (a0 : List Str) : Option (Str) :=
  Option.bind (xE8 N a0 [44, 32]) fun r1 =>
  if List.length [91] + List.length r1 ≤ Lim then
  if List.length ([91] ++ r1) + List.length [93] ≤ Lim then
  some (([91] ++ r1) ++ [93])
  else none
  else none
def xAl (a0 : Val) : List Arg := [.val (.v true [.int .i64 (Val.kind a0), .int .i64 (Val.n a0), .int .i64 (Val.step a0), .str (Val.text a0), .sl .ro .val (Val.list a0), .sl .ro .str (Val.columns a0), .sl .ro .row (Val.rows a0)])]
def xAh (r : Str) : CallO := ⟨.v false [.str r], [], []⟩
def xBa (N : Nat) (q0 : Val → Option (Str)) (k19 : (List Str) → (List Rowd) → Int → Int → Val → Option (Str)) : Nat → (List Str) → (List Str) → (List Rowd) → Int → Int → (List Int) → Int → Int → Val → Option (Str)
  | 0, _, _, _, _, _, _, _, _, _ => none
  | n + 1, x3, x8, x60, x61, x62, x68, x69, x70, b1 =>
    bif (decide ((x70 : Int) < x69)) then (
      if (0 : Int) ≤ x70 ∧ x70 < (List.length x68) then
      Option.bind (xBZ N (List.getD x68 (Int.toNat x70) Ty.int.dflt)) fun r1 =>
      if List.length x8 + List.length [r1] ≤ Lim then
      (xBa N q0 k19 n x3 (x8 ++ [r1]) x60 x61 x62 x68 x69 (IntKind.i64.wrap (x70 + 1)) b1)
      else none
      else none
    ) else (
      Option.bind (xCL N x8) fun r1 =>
      if List.length x3 + List.length [r1] ≤ Lim then
      (k19 (x3 ++ [r1]) x60 x61 (IntKind.i64.wrap (x62 + 1)) b1)
      else none
    )
def xA9 (N : Nat) (q0 : Val → Option (Str)) : Nat → (List Str) → (List Rowd) → Int → Int → Val → Option (Str)
  | 0, _, _, _, _, _ => none
  | n + 1, x3, x60, x61, x62, b1 =>
    bif (decide ((x62 : Int) < x61)) then (
      if (0 : Int) ≤ x62 ∧ x62 < (List.length x60) then
      (xBa N q0 (fun z0 z1 z2 z3 z4 => (xA9 N q0 n z0 z1 z2 z3 z4)) N x3 [] x60 x61 x62 (Rowd.cells (List.getD x60 (Int.toNat x62) Ty.row.dflt)) (List.length (Rowd.cells (List.getD x60 (Int.toNat x62) Ty.row.dflt)) : Int) 0 b1)
      else none
    ) else (
      bif (((Val.kind b1) : Int) == 5) then (
        Option.bind (xE8 N (Val.columns b1) [32]) fun r1 =>
        if List.length [116, 97, 98, 108, 101, 40, 34] + List.length r1 ≤ Lim then
        if List.length ([116, 97, 98, 108, 101, 40, 34] ++ r1) + List.length [34, 44, 32] ≤ Lim then
        Option.bind (xCL N x3) fun r2 =>
        if List.length (([116, 97, 98, 108, 101, 40, 34] ++ r1) ++ [34, 44, 32]) + List.length r2 ≤ Lim then
        if List.length ((([116, 97, 98, 108, 101, 40, 34] ++ r1) ++ [34, 44, 32]) ++ r2) + List.length [41] ≤ Lim then
        some (((([116, 97, 98, 108, 101, 40, 34] ++ r1) ++ [34, 44, 32]) ++ r2) ++ [41])
        else none
        else none
        else none
        else none
      ) else (
        Option.bind (xCL N x3) fun r1 =>
        some r1
      )
    )
def xA0 (N : Nat) (q0 : Val → Option (Str)) : Nat → (List Str) → (List Val) → Int → Int → Val → Option (Str)
  | 0, _, _, _, _, _ => none
  | n + 1, x3, x47, x48, x49, b1 =>
    bif (decide ((x49 : Int) < x48)) then (
      if (0 : Int) ≤ x49 ∧ x49 < (List.length x47) then
      Option.bind (q0 (List.getD x47 (Int.toNat x49) Ty.val.dflt)) fun r1 =>
      if List.length x3 + List.length [r1] ≤ Lim then
      (xA0 N q0 n (x3 ++ [r1]) x47 x48 (IntKind.i64.wrap (x49 + 1)) b1)
      else none
      else none
    ) else (
      (xA9 N q0 N x3 (Val.rows b1) (List.length (Val.rows b1) : Int) 0 b1)
    )
def xAn (N : Nat) (q0 : Val → Option (Str)) (a0 : Val) : Option (Str) :=
  Option.bind (xDf N a0) fun r1 =>
  bif (!r1) then (
    some []
  ) else (
    bif (((Val.kind a0) : Int) == 1) then (
      Option.bind (xBZ N (Val.n a0)) fun r2 =>
      some r2
    ) else (
      bif (((Val.kind a0) : Int) == 2) then (
        if List.length [34] + List.length (Val.text a0) ≤ Lim then
        if List.length ([34] ++ (Val.text a0)) + List.length [34] ≤ Lim then
        some (([34] ++ (Val.text a0)) ++ [34])
        else none
        else none
      ) else (
        bif (((Val.kind a0) : Int) == 4) then (
          Option.bind (xBZ N (Val.n a0)) fun r2 =>
          if List.length [114, 97, 110, 103, 101, 40] + List.length r2 ≤ Lim then
          if List.length ([114, 97, 110, 103, 101, 40] ++ r2) + List.length [44, 32] ≤ Lim then
          Option.bind (xBZ N (Val.step a0)) fun r3 =>
          if List.length (([114, 97, 110, 103, 101, 40] ++ r2) ++ [44, 32]) + List.length r3 ≤ Lim then
          if List.length ((([114, 97, 110, 103, 101, 40] ++ r2) ++ [44, 32]) ++ r3) + List.length [41] ≤ Lim then
          some (((([114, 97, 110, 103, 101, 40] ++ r2) ++ [44, 32]) ++ r3) ++ [41])
          else none
          else none
          else none
          else none
        ) else (
          bif (((Val.kind a0) : Int) == 6) then (
            Option.bind (xE1 N (Val.n a0)) fun r2 =>
            if List.length [101, 114, 114, 111, 114, 32] + List.length r2 ≤ Lim then
            some ([101, 114, 114, 111, 114, 32] ++ r2)
            else none
          ) else (
            (xA0 N q0 N [] (Val.list a0) (List.length (Val.list a0) : Int) 0 a0)
          )
        )
      )
    )
  )
def xA1 (N : Nat) : Nat → Val → Option (Str)
  | 0, _ => none
  | d + 1, a0 => xAn N (xA1 N d) a0
def xDD (N : Nat) (a0 : Val) : Option (Str) := xA1 N N a0
def xBJ (a0 : List Str) (a1 : List Str) : List Arg := [.val (.v false [.sl .ro .str a0]), .val (.v false [.sl .ro .str a1])]
def xAE (r : Bool) : CallO := ⟨.v false [.bool r], [], []⟩
def xB7 (N : Nat) : Nat → (List Str) → (List Str) → Int → Option (Bool)
  | 0, _, _, _ => none
  | n + 1, x0, x1, x5 =>
    bif (decide ((x5 : Int) < (List.length x0 : Int))) then (
      if (0 : Int) ≤ x5 ∧ x5 < (List.length x0) then
      if (0 : Int) ≤ x5 ∧ x5 < (List.length x1) then
      bif (!(((List.getD x0 (Int.toNat x5) Ty.str.dflt) : Str) == (List.getD x1 (Int.toNat x5) Ty.str.dflt))) then (
        some false
      ) else (
        (xB7 N n x0 x1 (IntKind.i64.wrap (x5 + 1)))
      )
      else none
      else none
    ) else (
      some true
    )
def xDx (N : Nat) (a0 : List Str) (a1 : List Str) : Option (Bool) :=
  bif (((List.length a0 : Int) : Int) != (List.length a1 : Int)) then (
    some false
  ) else (
    (xB7 N N a0 a1 0)
  )
def xCz (a0 : List Int) (a1 : List Int) : List Arg := [.val (.v false [.sl .ro .int a0]), .val (.v false [.sl .ro .int a1])]
def xA6 (r : Bool) : CallO := ⟨.v false [.bool r], [], []⟩
def xCX (N : Nat) : Nat → (List Int) → (List Int) → Int → Option (Bool)
  | 0, _, _, _ => none
  | n + 1, x0, x1, x5 =>
    bif (decide ((x5 : Int) < (List.length x0 : Int))) then (
      if (0 : Int) ≤ x5 ∧ x5 < (List.length x0) then
      if (0 : Int) ≤ x5 ∧ x5 < (List.length x1) then
      bif (((List.getD x0 (Int.toNat x5) Ty.int.dflt) : Int) != (List.getD x1 (Int.toNat x5) Ty.int.dflt)) then (
        some false
      ) else (
        (xCX N n x0 x1 (IntKind.i64.wrap (x5 + 1)))
      )
      else none
      else none
    ) else (
      some true
    )
def xEF (N : Nat) (a0 : List Int) (a1 : List Int) : Option (Bool) :=
  bif (((List.length a0 : Int) : Int) != (List.length a1 : Int)) then (
    some false
  ) else (
    (xCX N N a0 a1 0)
  )
def xBS (a0 : Org) (a1 : Org) : List Arg := [.val (.v true [.int .i64 (Org.cell a0), .int .i64 (Org.row a0)]), .val (.v true [.int .i64 (Org.cell a1), .int .i64 (Org.row a1)])]
def xBh (r : Bool) : CallO := ⟨.v false [.bool r], [], []⟩
def xDW (N : Nat) (a0 : Org) (a1 : Org) : Option (Bool) :=
  bif (((Org.cell a0) : Int) != (Org.cell a1)) then (
    some false
  ) else (
    bif (((Org.row a0) : Int) != (Org.row a1)) then (
      some false
    ) else (
      some true
    )
  )
def xB5 (a0 : List Org) (a1 : List Org) : List Arg := [.val (.v false [.sl .ro .org a0]), .val (.v false [.sl .ro .org a1])]
def xAY (r : Bool) : CallO := ⟨.v false [.bool r], [], []⟩
def xB6 (N : Nat) : Nat → (List Org) → (List Org) → Int → Option (Bool)
  | 0, _, _, _ => none
  | n + 1, x0, x1, x5 =>
    bif (decide ((x5 : Int) < (List.length x0 : Int))) then (
      if (0 : Int) ≤ x5 ∧ x5 < (List.length x0) then
      if (0 : Int) ≤ x5 ∧ x5 < (List.length x1) then
      Option.bind (xDW N (List.getD x0 (Int.toNat x5) Ty.org.dflt) (List.getD x1 (Int.toNat x5) Ty.org.dflt)) fun r1 =>
      bif (!r1) then (
        some false
      ) else (
        (xB6 N n x0 x1 (IntKind.i64.wrap (x5 + 1)))
      )
      else none
      else none
    ) else (
      some true
    )
def xDw (N : Nat) (a0 : List Org) (a1 : List Org) : Option (Bool) :=
  bif (((List.length a0 : Int) : Int) != (List.length a1 : Int)) then (
    some false
  ) else (
    (xB6 N N a0 a1 0)
  )
def xCM (a0 : Rowd) (a1 : Rowd) : List Arg := [.val (.v true [.sl .ro .int (Rowd.cells a0), .sl .ro .org (Rowd.frm a0)]), .val (.v true [.sl .ro .int (Rowd.cells a1), .sl .ro .org (Rowd.frm a1)])]
def xBX (r : Bool) : CallO := ⟨.v false [.bool r], [], []⟩
def xFa (N : Nat) (a0 : Rowd) (a1 : Rowd) : Option (Bool) :=
  Option.bind (xEF N (Rowd.cells a0) (Rowd.cells a1)) fun r1 =>
  bif (!r1) then (
    some false
  ) else (
    Option.bind (xDw N (Rowd.frm a0) (Rowd.frm a1)) fun r2 =>
    bif (!r2) then (
      some false
    ) else (
      some true
    )
  )
def xCY (a0 : List Rowd) (a1 : List Rowd) : List Arg := [.val (.v false [.sl .ro .row a0]), .val (.v false [.sl .ro .row a1])]
def xBv (r : Bool) : CallO := ⟨.v false [.bool r], [], []⟩
def xCZ (N : Nat) : Nat → (List Rowd) → (List Rowd) → Int → Option (Bool)
  | 0, _, _, _ => none
  | n + 1, x0, x1, x5 =>
    bif (decide ((x5 : Int) < (List.length x0 : Int))) then (
      if (0 : Int) ≤ x5 ∧ x5 < (List.length x0) then
      if (0 : Int) ≤ x5 ∧ x5 < (List.length x1) then
      Option.bind (xFa N (List.getD x0 (Int.toNat x5) Ty.row.dflt) (List.getD x1 (Int.toNat x5) Ty.row.dflt)) fun r1 =>
      bif (!r1) then (
        some false
      ) else (
        (xCZ N n x0 x1 (IntKind.i64.wrap (x5 + 1)))
      )
      else none
      else none
    ) else (
      some true
    )
def xEG (N : Nat) (a0 : List Rowd) (a1 : List Rowd) : Option (Bool) :=
  bif (((List.length a0 : Int) : Int) != (List.length a1 : Int)) then (
    some false
  ) else (
    (xCZ N N a0 a1 0)
  )
def xAz (a0 : Val) (a1 : Val) : List Arg := [.val (.v true [.int .i64 (Val.kind a0), .int .i64 (Val.n a0), .int .i64 (Val.step a0), .str (Val.text a0), .sl .ro .val (Val.list a0), .sl .ro .str (Val.columns a0), .sl .ro .row (Val.rows a0)]), .val (.v true [.int .i64 (Val.kind a1), .int .i64 (Val.n a1), .int .i64 (Val.step a1), .str (Val.text a1), .sl .ro .val (Val.list a1), .sl .ro .str (Val.columns a1), .sl .ro .row (Val.rows a1)])]
def xAk (r : Bool) : CallO := ⟨.v false [.bool r], [], []⟩
def xCD (N : Nat) (q0 : Val → Val → Option (Bool)) (q1 : (List Val) → (List Val) → Option (Bool)) (a0 : Val) (a1 : Val) : Option (Bool) :=
  bif (((Val.kind a0) : Int) != (Val.kind a1)) then (
    some false
  ) else (
    bif (((Val.n a0) : Int) != (Val.n a1)) then (
      some false
    ) else (
      bif (((Val.step a0) : Int) != (Val.step a1)) then (
        some false
      ) else (
        bif (!(((Val.text a0) : Str) == (Val.text a1))) then (
          some false
        ) else (
          Option.bind (q1 (Val.list a0) (Val.list a1)) fun r1 =>
          bif (!r1) then (
            some false
          ) else (
            Option.bind (xDx N (Val.columns a0) (Val.columns a1)) fun r2 =>
            bif (!r2) then (
              some false
            ) else (
              Option.bind (xEG N (Val.rows a0) (Val.rows a1)) fun r3 =>
              bif (!r3) then (
                some false
              ) else (
                some true
              )
            )
          )
        )
      )
    )
  )
def xBi (a0 : List Val) (a1 : List Val) : List Arg := [.val (.v false [.sl .ro .val a0]), .val (.v false [.sl .ro .val a1])]
def xAw (r : Bool) : CallO := ⟨.v false [.bool r], [], []⟩
def xCq (N : Nat) (q0 : Val → Val → Option (Bool)) (q1 : (List Val) → (List Val) → Option (Bool)) : Nat → (List Val) → (List Val) → Int → Option (Bool)
  | 0, _, _, _ => none
  | n + 1, x0, x1, x5 =>
    bif (decide ((x5 : Int) < (List.length x0 : Int))) then (
      if (0 : Int) ≤ x5 ∧ x5 < (List.length x0) then
      if (0 : Int) ≤ x5 ∧ x5 < (List.length x1) then
      Option.bind (q0 (List.getD x0 (Int.toNat x5) Ty.val.dflt) (List.getD x1 (Int.toNat x5) Ty.val.dflt)) fun r1 =>
      bif (!r1) then (
        some false
      ) else (
        (xCq N q0 q1 n x0 x1 (IntKind.i64.wrap (x5 + 1)))
      )
      else none
      else none
    ) else (
      some true
    )
def xCu (N : Nat) (q0 : Val → Val → Option (Bool)) (q1 : (List Val) → (List Val) → Option (Bool)) (a0 : List Val) (a1 : List Val) : Option (Bool) :=
  bif (((List.length a0 : Int) : Int) != (List.length a1 : Int)) then (
    some false
  ) else (
    (xCq N q0 q1 N a0 a1 0)
  )
structure laws_eqValue_rec where
  c_laws_eqValue : Val → Val → Option (Bool)
  c_laws_eqValueS : (List Val) → (List Val) → Option (Bool)
def xAt (N : Nat) : Nat → laws_eqValue_rec
  | 0 => ⟨fun _ _ => none, fun _ _ => none⟩
  | d + 1 => ⟨xCD N (xAt N d).c_laws_eqValue (xAt N d).c_laws_eqValueS, xCu N (xAt N d).c_laws_eqValue (xAt N d).c_laws_eqValueS⟩
def xFC (N : Nat) (a0 : Val) (a1 : Val) : Option (Bool) := (xAt N N).c_laws_eqValue a0 a1
def xAS (a0 : Val) : List Arg := [.val (.v true [.int .i64 (Val.kind a0), .int .i64 (Val.n a0), .int .i64 (Val.step a0), .str (Val.text a0), .sl .ro .val (Val.list a0), .sl .ro .str (Val.columns a0), .sl .ro .row (Val.rows a0)])]
def xAT (r : Bool) : CallO := ⟨.v false [.bool r], [], []⟩
def xBA (N : Nat) (a0 : Val) : Option (Bool) :=
  Option.bind (xFF N a0 1048576) fun r1 =>
  bif (decide ((r1 : Int) < 0)) then (
    some true
  ) else (
    Option.bind (xEp N a0) fun r2 =>
    Option.bind (xCr N r2) fun r3 =>
    Option.bind (xEp N a0) fun r4 =>
    Option.bind (xDD N r4) fun r5 =>
    bif (!((r5 : Str) == r3)) then (
      some false
    ) else (
      Option.bind (xEp N a0) fun r6 =>
      Option.bind (xFC N r4 r6) fun r7 =>
      bif (!r7) then (
        some false
      ) else (
        some true
      )
    )
  )
end Go.Ab
end
section
namespace Go.Ab
theorem tab_obj {P : Program} {w : World} {nm : String} {k : IntKind} {zs : List Int} (h : Lib.TabIs P w nm k zs) : ∃ (g : Nat) (o : Obj), w.heap[g]? = some o ∧ ∀ w' : World, w'.heap[g]? = some o → Lib.TabIs P w' nm k zs := by
  unfold Lib.TabIs World.var? at h
  obtain ⟨g, hg, h⟩ := Option.bind_eq_some_iff.1 h
  split at h
  · rename_i cs ty fr hh
    refine ⟨g, _, hh, fun w' hw => ?_⟩
    unfold Lib.TabIs World.var?
    rw [hg, Option.bind_some, hw]
    exact h
  · cases h
end Go.Ab
namespace Go.Ab
variable [Inhabited Lb]
open Go.Proofs Go.Shelf Go.RowKit Go.Lib
variable {P : Program} {ρ : Ren}
theorem enter_Join (L : Lays.n156 P ρ) : ∀ args w, (callFunc (ρ.f 156) args).run P w = .ok (.enter (ρ.f 156) args) w := enters_of L.f156 (by kernel_rfl) rfl
theorem enter_Itoa (L : LaysM.n171 P ρ) : ∀ args w, (callFunc (ρ.f 171) args).run P w = .ok (.enter (ρ.f 171) args) w := enters_of L.f171 (by kernel_rfl) rfl
theorem itoa_of {A : World → Prop} {f : FuncId} (hc : ∀ n : Int, -9223372036854775808 ≤ n → n ≤ 9223372036854775807 → ∀ w : World, A w → Calls P f #[.int .i64 n] w fun e w' => e = .returned (.string ⟨(Lib.itoa n).toArray⟩) ∧ ∃ k os, w' = Go.Sort.grow (w.drewN k) os)
    (ht : ∀ w : World, (∀ x ∈ laidB, w.heap[x.1]? = some x.2) → A w) (n : Int) (w : World) (h0 : -9223372036854775808 ≤ n) (h1 : n ≤ 9223372036854775807) (hw : ∀ x ∈ laidB, w.heap[x.1]? = some x.2) :
    Calls P f #[.int .i64 n] w fun e w' => e = .returned (.string ⟨(Lib.itoa n).toArray⟩) ∧ Go.RowKit.Below w.heap.size w w' := by
  refine (hc n h0 h1 w (ht w hw)).mono ?_
  rintro e w' ⟨he, k, os, rfl⟩
  refine ⟨he, rfl, rfl, rfl, ?_, fun j hj => ?_⟩
  · show w.heap.size ≤ (w.heap ++ os).size
    rw [Array.size_append]; omega
  · show (w.heap ++ os)[j]? = _
    rw [Array.getElem?_append_left hj]
end Go.Ab
end
section
namespace Go.Proofs
open Go.Shelf
def Tryd.lays156_ren : Go.Shelf.Ren := ⟨fun | 156 => 110 | 165 => 131 | 166 => 132 | 169 => 133 | 240 => 144 | 241 => 145 | 276 => 154 | 277 => 155 | n => n, fun | 31 => 23 | 9 => 9 | 3 => 3 | 4 => 4 | 0 => 0 | 20 => 20 | 72 => 119 | 76 => 123 | 70 => 117 | 37 => 92 | 75 => 122 | 127 => 132 | 164 => 142 | 5 => 5 | 80 => 125 | n => n, fun | n => n⟩
theorem Tryd.lays156 : Go.Proofs.Lays.n156 Tryd.prog Tryd.lays156_ren := {
  mixed := by kernel_rfl
  f156 := Tryd.func110.trans (congrArg some (by kernel_rfl))
  f165 := Tryd.func131.trans (congrArg some (by kernel_rfl))
  f166 := Tryd.func132.trans (congrArg some (by kernel_rfl))
  f169 := Tryd.func133.trans (congrArg some (by kernel_rfl))
  f240 := Tryd.func144.trans (congrArg some (by kernel_rfl))
  f241 := Tryd.func145.trans (congrArg some (by kernel_rfl))
  f276 := Tryd.func154.trans (congrArg some (by kernel_rfl))
  f277 := Tryd.func155.trans (congrArg some (by kernel_rfl))
  t0 := Tryd.underlying0
  a0 := Tryd.isAgg0
  z0 := Tryd.sizeOf0
  v0 := Tryd.zeroValue0
  t3 := Tryd.underlying3
  a3 := Tryd.isAgg3
  z3 := Tryd.sizeOf3
  v3 := Tryd.zeroValue3
  t4 := Tryd.underlying4
  a4 := Tryd.isAgg4
  z4 := Tryd.sizeOf4
  v4 := Tryd.zeroValue4
  t9 := Tryd.underlying9
  a9 := Tryd.isAgg9
  z9 := Tryd.sizeOf9
  v9 := Tryd.zeroValue9
  t20 := Tryd.underlying20
  a20 := Tryd.isAgg20
  z20 := Tryd.sizeOf20
  v20 := Tryd.zeroValue20
  t31 := Tryd.underlying23
  a31 := Tryd.isAgg23
  z31 := Tryd.sizeOf23
  v31 := Tryd.zeroValue23
  t37 := Tryd.underlying92
  a37 := Tryd.isAgg92
  z37 := Tryd.sizeOf92
  v37 := Tryd.zeroValue92
  t70 := Tryd.underlying117
  a70 := Tryd.isAgg117
  z70 := Tryd.sizeOf117
  v70 := Tryd.zeroValue117
  t72 := Tryd.underlying119
  a72 := Tryd.isAgg119
  z72 := Tryd.sizeOf119
  v72 := Tryd.zeroValue119
  t75 := Tryd.underlying122
  a75 := Tryd.isAgg122
  z75 := Tryd.sizeOf122
  v75 := Tryd.zeroValue122
  t76 := Tryd.underlying123
  a76 := Tryd.isAgg123
  z76 := Tryd.sizeOf123
  v76 := Tryd.zeroValue123
  t127 := Tryd.underlying132
  a127 := Tryd.isAgg132
  z127 := Tryd.sizeOf132
  v127 := Tryd.zeroValue132
  t164 := Tryd.underlying142
  a164 := Tryd.isAgg142
  z164 := Tryd.sizeOf142
  v164 := Tryd.zeroValue142 }
theorem Tryd.Builder_Extra_156 : Builder.Extra Tryd.prog Tryd.lays156_ren := {
  sizeBuilder := by kernel_rfl
  liesBuilder := by kernel_rfl
  t5 := Tryd.underlying5
  a5 := Tryd.isAgg5
  z5 := Tryd.sizeOf5
  v5 := Tryd.zeroValue5
  infoByte := by kernel_rfl
  cellsByte := by kernel_rfl
  sizeByte := by kernel_rfl
  neB5 := by decide }
def Tryd.laysM171_ren : Go.Shelf.Ren := ⟨fun | 171 => 109 | 243 => 130 | 246 => 143 | 283 => 150 | 284 => 151 | 285 => 152 | 286 => 153 | 129 => 162 | 317 => 161 | 318 => 163 | 319 => 164 | 320 => 165 | 337 => 168 | 338 => 169 | n => n, fun | 3 => 3 | 9 => 9 | 2 => 2 | 4 => 4 | 171 => 136 | 0 => 0 | 53 => 137 | 37 => 92 | 5 => 5 | 173 => 140 | 212 => 148 | 51 => 149 | 20 => 20 | 213 => 150 | 46 => 146 | 232 => 159 | 233 => 160 | n => n, fun | 17 => 2 | 18 => 5 | 19 => 6 | n => n⟩
theorem Tryd.laysM171 : Go.Proofs.LaysM.n171 Tryd.prog Tryd.laysM171_ren := {
  mixed := by kernel_rfl
  f129 := Tryd.func162.trans (congrArg some (by kernel_rfl))
  f171 := Tryd.func109.trans (congrArg some (by kernel_rfl))
  f243 := Tryd.func130.trans (congrArg some (by kernel_rfl))
  f246 := Tryd.func143.trans (congrArg some (by kernel_rfl))
  f283 := Tryd.func150.trans (congrArg some (by kernel_rfl))
  f284 := Tryd.func151.trans (congrArg some (by kernel_rfl))
  f285 := Tryd.func152.trans (congrArg some (by kernel_rfl))
  f286 := Tryd.func153.trans (congrArg some (by kernel_rfl))
  f317 := Tryd.func161.trans (congrArg some (by kernel_rfl))
  f318 := Tryd.func163.trans (congrArg some (by kernel_rfl))
  f319 := Tryd.func164.trans (congrArg some (by kernel_rfl))
  f320 := Tryd.func165.trans (congrArg some (by kernel_rfl))
  f337 := Tryd.func168.trans (congrArg some (by kernel_rfl))
  f338 := Tryd.func169.trans (congrArg some (by kernel_rfl))
  t0 := Tryd.underlying0
  a0 := Tryd.isAgg0
  z0 := Tryd.sizeOf0
  v0 := Tryd.zeroValue0
  t2 := Tryd.underlying2
  a2 := Tryd.isAgg2
  z2 := Tryd.sizeOf2
  v2 := Tryd.zeroValue2
  t3 := Tryd.underlying3
  a3 := Tryd.isAgg3
  z3 := Tryd.sizeOf3
  v3 := Tryd.zeroValue3
  t4 := Tryd.underlying4
  a4 := Tryd.isAgg4
  z4 := Tryd.sizeOf4
  v4 := Tryd.zeroValue4
  t5 := Tryd.underlying5
  a5 := Tryd.isAgg5
  z5 := Tryd.sizeOf5
  v5 := Tryd.zeroValue5
  t9 := Tryd.underlying9
  a9 := Tryd.isAgg9
  z9 := Tryd.sizeOf9
  v9 := Tryd.zeroValue9
  t20 := Tryd.underlying20
  a20 := Tryd.isAgg20
  z20 := Tryd.sizeOf20
  v20 := Tryd.zeroValue20
  t37 := Tryd.underlying92
  a37 := Tryd.isAgg92
  z37 := Tryd.sizeOf92
  v37 := Tryd.zeroValue92
  t46 := Tryd.underlying146
  a46 := Tryd.isAgg146
  z46 := Tryd.sizeOf146
  v46 := Tryd.zeroValue146
  t51 := Tryd.underlying149
  a51 := Tryd.isAgg149
  z51 := Tryd.sizeOf149
  v51 := Tryd.zeroValue149
  t53 := Tryd.underlying137
  a53 := Tryd.isAgg137
  z53 := Tryd.sizeOf137
  v53 := Tryd.zeroValue137
  t171 := Tryd.underlying136
  a171 := Tryd.isAgg136
  z171 := Tryd.sizeOf136
  v171 := Tryd.zeroValue136
  t173 := Tryd.underlying140
  a173 := Tryd.isAgg140
  z173 := Tryd.sizeOf140
  v173 := Tryd.zeroValue140
  t212 := Tryd.underlying148
  a212 := Tryd.isAgg148
  z212 := Tryd.sizeOf148
  v212 := Tryd.zeroValue148
  t213 := Tryd.underlying150
  a213 := Tryd.isAgg150
  z213 := Tryd.sizeOf150
  t232 := Tryd.underlying159
  a232 := Tryd.isAgg159
  z232 := Tryd.sizeOf159
  v232 := Tryd.zeroValue159
  t233 := Tryd.underlying160
  a233 := Tryd.isAgg160
  z233 := Tryd.sizeOf160
  v233 := Tryd.zeroValue160
  g17 := by kernel_rfl
  g18 := by kernel_rfl
  g19 := by kernel_rfl
  i0 := by kernel_rfl
  i2 := by kernel_rfl
  i3 := by kernel_rfl
  i4 := by kernel_rfl
  i5 := by kernel_rfl
  i9 := by kernel_rfl
  i20 := by kernel_rfl
  i37 := by kernel_rfl
  i46 := by kernel_rfl
  i51 := by kernel_rfl
  i53 := by kernel_rfl
  i171 := by kernel_rfl
  i173 := by kernel_rfl
  i212 := by kernel_rfl
  i232 := by kernel_rfl
  i233 := by kernel_rfl
  m17 := by kernel_rfl
  m18 := by kernel_rfl
  m19 := by kernel_rfl }
end Go.Proofs
end
section
namespace Go.Ab
open Go.ChangeShapes
def StrTab (w : World) (g : Nat) (ss : List Str) : Prop :=
  ∃ (a : Addr) (cap : Nat), w.cell? ⟨g, 0, none⟩ = some (.slice (some a) ss.length cap) ∧ ∀ i, i < ss.length → w.cell? (a.add i) = some (.string ⟨(ss.getD i []).toArray⟩)
theorem cell_obj {w : World} {a : Addr} {v : Value} (h : w.cell? a = some v) : ∃ o, w.heap[a.block]? = some o := by
  unfold World.cell? at h
  split at h
  · exact ⟨_, by assumption⟩
  · cases h
theorem cell_heap {w w' : World} {a : Addr} (h : w'.heap[a.block]? = w.heap[a.block]?) : w'.cell? a = w.cell? a := by simp only [World.cell?, h]
theorem strtab_objs {w : World} {g : Nat} {ss : List Str} (h : StrTab w g ss) (hne : 0 < ss.length) :
    ∃ (o : Obj) (b : Nat) (o' : Obj), w.heap[g]? = some o ∧ w.heap[b]? = some o' ∧ ∀ w' : World, w'.heap[g]? = some o → w'.heap[b]? = some o' → StrTab w' g ss := by
  obtain ⟨a, cap, h1, h2⟩ := h
  obtain ⟨o, ho⟩ := cell_obj h1
  have h0 := h2 0 hne
  have ha : ∀ i, (a.add i).block = a.block := fun i => by unfold Addr.add; split <;> rfl
  obtain ⟨o', ho'⟩ := cell_obj h0
  rw [ha] at ho'
  refine ⟨o, a.block, o', ho, ho', fun w' hg hb => ⟨a, cap, (cell_heap (hg.trans ho.symm)).trans h1, fun i hi => (cell_heap ?_).trans (h2 i hi)⟩⟩
  rw [ha, hb, ho']
theorem strs_inj : ∀ {ss : List Str} {ts : List ByteArray}, (ss.map fun s => (DataW.lit (.string s) : DataW Unit)) = strs ts → ss = ts.map (·.data.toList)
  | [], [], _ => rfl
  | [], _ :: _, h => by cases h
  | _ :: _, [], h => by cases h
  | s :: ss, t :: ts, h => by
    simp only [strs, List.map_cons, List.cons.injEq, DataW.lit.injEq, Lit.string.injEq] at h
    rw [List.map_cons, ← h.1, ← strs_inj h.2]
theorem strtab_of_head {P : Program} {W : World} {name : String} {ss : List Str} {rest : List (String × DataW Unit)} {g : Nat} {t e : TypeId}
    (hg : P.globalNamed name = some g) (hty : (P.globals[g]?).map (·.type) = some t) (ht : P.underlying t = some (.slice e)) (he : P.underlying e = some .string) (hce : P.cellsOf e = 1)
    (h : laidMet P ((name, .slice (ss.map fun s => .lit (.string s)) []) :: rest) W) : StrTab W g ss := by
  obtain ⟨ps, ⟨g', t', cs, fuel, p, q, hg', ht', hvar, hd, _, _⟩, _⟩ := h
  obtain rfl := Option.some.inj (hg.symm.trans hg')
  obtain rfl := Option.some.inj (hty.symm.trans ht')
  rcases open_strings ht he hce hd with ⟨_, hx⟩ | ⟨a, len, cap, ts, hcs, _, hl, hm, hz, hx, hcell, _⟩
  · cases hx
  · simp only [Prod.mk.injEq, DataW.slice.injEq] at hx
    obtain ⟨⟨h1, h2⟩, _⟩ := hx
    have h1 := strs_inj h1
    have h2 : ts.length ≤ len := by
      have := congrArg List.length h2
      simp [strs] at this
      omega
    rw [if_pos rfl] at hz
    have hlen : ts.length = len := by omega
    rw [List.take_of_length_le h2] at h1
    have hsl : ss.length = len := by rw [h1, List.length_map]; exact hlen
    refine ⟨a, cap, ?_, fun i hi => ?_⟩
    · unfold World.var? at hvar
      rw [hg, Option.bind_some] at hvar
      unfold World.cell?
      split at hvar
      · rename_i c ty fr hh
        cases hvar
        show (match W.heap[g]? with | some (.cells c _ _) => if (none : Option Nat).isSome then none else c[0]? | _ => none) = _
        rw [hh, hsl]
        have : cs = #[Value.slice (some a) len cap] := by apply Array.ext'; exact hcs
        subst this
        rfl
      · cases hvar
    · have hi' : i < ts.length := by omega
      have e : ts.getD i ByteArray.empty = ⟨(ss.getD i []).toArray⟩ := by
        rw [h1, List.getD_eq_getElem?_getD, List.getD_eq_getElem?_getD, List.getElem?_map, List.getElem?_eq_getElem hi']
        simp only [Option.map_some, Option.getD_some]
      rw [hcell i hi', e]
end Go.Ab
end
section
namespace Go.Ab
open Go.Proofs Go.RowKit Go.Shelf
theorem within_calls (a b c : Int) (w : World) : Calls Tryd.prog 73 #[.int .i64 a, .int .i64 b, .int .i64 c] w fun e w' => e = .returned (.bool (decide (b ≤ a) && decide (a ≤ c))) ∧ w' = w := by
  go_enter Tryd.func73, Tryd.ntmps73
  go_wp2
  · rename_i h
    go_ret
    rw [decide_eq_true h, Bool.true_and]
    exact ⟨rfl, rfl⟩
  · rename_i h
    go_ret
    rw [decide_eq_false (by omega), Bool.false_and]
    exact ⟨rfl, rfl⟩
theorem enter_within : Enters Tryd.prog 73 := enters_of Tryd.func73 (by kernel_rfl) rfl
theorem enter_ErrorName : ∀ args w, (callFunc 62 args).run Tryd.prog w = .ok (.enter 62 args) w := enters_of Tryd.func62 (by kernel_rfl) rfl
theorem errorname_calls {w : World} (n : Int) (h : StrTab w 0 errNames) : Calls Tryd.prog 62 #[.int .i64 n] w fun e w' => e = .returned (.string ⟨(errN n).toArray⟩) ∧ Below w.heap.size w w' := by
  obtain ⟨a, cap, h1, h2⟩ := h
  have e73 := enter_within
  have hs : ∀ (m : Int) (f : Ending → World → Prop), f (.returned (.bool (decide (1 ≤ m) && decide (m ≤ 8)))) w → Calls Tryd.prog 73 #[.int .i64 m, .int .i64 1, .int .i64 8] w f := fun m f hf => (within_calls m 1 8 w).mono fun e w' ⟨he, hw⟩ => by rw [he, hw]; exact hf
  by_cases hn : 1 ≤ n ∧ n ≤ 8
  · have e1 : (decide (1 ≤ n) && decide (n ≤ 8)) = true := by simp [hn]
    obtain ⟨i, hi, rfl⟩ : ∃ i : Nat, i < 8 ∧ n = (i : Int) + 1 := ⟨(n - 1).toNat, by omega, by omega⟩
    have h3 := h2 i hi
    have e2 : errN ((i : Int) + 1) = errNames.getD i [] := by
      unfold errN
      rw [if_pos hn, show ((i : Int) + 1 - 1).toNat = i from by omega]
    rw [e2]
    go_enter Tryd.func62, Tryd.ntmps62
    go_wp2_with (refine hs _ _ ?_; rw [e1])
    go_ret
    refine ⟨?_, Below.refl _ _⟩
    have hl : i < errNames.length := hi
    rw [List.getD_eq_getElem?_getD, List.getElem?_eq_getElem hl]
    rfl
  · have e1 : (decide (1 ≤ n) && decide (n ≤ 8)) = false := by simp; omega
    have e2 : errN n = [63] := if_neg hn
    rw [e2]
    go_enter Tryd.func62, Tryd.ntmps62
    go_wp2_with (refine hs _ _ ?_; rw [e1])
    go_ret
    exact ⟨rfl, Below.refl _ _⟩
end Go.Ab
end
section
open Go.Proofs
namespace Go.Ab.T
variable [Inhabited Lb]
abbrev AbC (f : FuncId) (a : List Arg) (r : CallO) : Prop := AbsCalls Tryd.prog f a r
abbrev W (x : Int) : Int := IntKind.i64.wrap x
abbrev Ln {α : Type} (l : List α) : Nat := List.length l
abbrev tN (x : Int) : Nat := Int.toNat x
abbrev gD {α : Type} (l : List α) (i : Nat) (d : α) : α := List.getD l i d
abbrev vd : Val := Ty.val.dflt
abbrev rd : Rowd := Ty.row.dflt
end Go.Ab.T
end
section
open Go.Proofs
namespace Go.Ab.T
set_option linter.unusedVariables false
set_option maxRecDepth 100000
variable [Inhabited Lb]
def p10 : String := ((Go.Proofs.YtkfoneofdidhkaaDoor.Rows.fnExactFormatValueRow.laid[2]?).map fun x => x.1).getD ""
def Tab10 : Prop := ∀ w : World, (∀ x ∈ laidB, w.heap[x.1]? = some x.2) → Lib.TabIs Tryd.prog w p10 .u64 Lib.pow10Tab
variable [Nonempty Tab10]
theorem tab10 : Tab10 := (inferInstance : Nonempty Tab10).elim fun h => h
def ErrTab : Prop := ∀ w : World, (∀ x ∈ laidB, w.heap[x.1]? = some x.2) → StrTab w 0 errNames
variable [Nonempty ErrTab]
theorem errTab : ErrTab := (inferInstance : Nonempty ErrTab).elim fun h => h
def tt : TT := [(3, { zero := some [.int .i64 0], ik := some .i64 }),
 (4, { zero := some [.bool false], isBool := true }),
 (5, { zero := some [.int .u8 0], ik := some .u8 }),
 (9, { zero := some [.str []], isStr := true }),
 (22, { zero := some [.sl .own .val []], elem := some (26, .val) }),
 (23, { zero := some [.sl .own .str []], elem := some (9, .str) }),
 (24, { zero := some [.sl .own .row []], elem := some (85, .row) }),
 (26, { sz := 7, agg := true, zero := some [.int .i64 0, .int .i64 0, .int .i64 0, .str [], .sl .own .val [], .sl .own .str [], .sl .own .row []], offs := [0, 1, 2, 3, 4, 5, 6], fsz := [1, 1, 1, 1, 1, 1, 1] }),
 (28, { zero := some [.sl .own .val []], elem := some (31, .val) }),
 (29, { zero := some [.sl .own .row []], elem := some (63, .row) }),
 (31, { sz := 7, agg := true, zero := some [.int .i64 0, .int .i64 0, .int .i64 0, .str [], .sl .own .val [], .sl .own .str [], .sl .own .row []], offs := [0, 1, 2, 3, 4, 5, 6], fsz := [1, 1, 1, 1, 1, 1, 1] }),
 (55, { zero := some [.sl .own .int []], elem := some (3, .int) }),
 (61, { zero := some [.sl .own .org []], elem := some (112, .org) }),
 (63, { sz := 2, agg := true, zero := some [.sl .own .int [], .sl .own .org []], offs := [0, 1], fsz := [1, 1] }),
 (83, { zero := some [.sl .own .org []], elem := some (127, .org) }),
 (85, { sz := 2, agg := true, zero := some [.sl .own .int [], .sl .own .org []], offs := [0, 1], fsz := [1, 1] }),
 (92, { zero := some [.sl .own .byte []], elem := some (5, .byte) }),
 (112, { sz := 2, agg := true, zero := some [.int .i64 0, .int .i64 0], offs := [0, 1], fsz := [1, 1] }),
 (127, { sz := 2, agg := true, zero := some [.int .i64 0, .int .i64 0], offs := [0, 1], fsz := [1, 1] })]
theorem ttok : TTok Tryd.prog tt := ttChk_ok (by kernel_rfl)
theorem mix : Tryd.prog.follows .mixedOrders = true := by kernel_rfl
def F : Bool := false
def Y : Bool := true
noncomputable def rE (I : Info) (ag : List Arg) (bs : List Bool) (cs : List CallO) : Option Res := run tt (AbsCalls Tryd.prog) I 3000 false [.code I.body] ⟨zBn 0 ag, bs, cs, []⟩
noncomputable def rS (k : Nat) (I : Info) (σ : St) (bs : List Bool) (cs : List CallO) : Option Res := run tt (AbsCalls Tryd.prog) I 3000 true (stkAt k I.body) ⟨σ, bs, cs, []⟩
noncomputable def dn (r : CallO) (ob : List Prop) : Option Res := some (.done r ob)
noncomputable def st (k : Nat) (I : Info) (σ : St) (ob : List Prop) : Option Res := some (.stop (stkAt k I.body) σ ob)
def RE (fn : Func) (I : Info) (ag : List Arg) (r : CallO) : Prop := Reach Tryd.prog fn I [.code I.body] (zBn 0 ag) r
def RS (fn : Func) (I : Info) (k : Nat) (σ : St) (r : CallO) : Prop := Reach Tryd.prog fn I (stkAt k I.body) σ r
section
variable {ρ : Type} {f : FuncId} {fn : Func} {I : Info} {ag : List Arg} {bs : List Bool} {cs : List CallO} {k j : Nat} {σ σ' : St} {ob : List Prop} {ro : ρ → CallO} {x r : ρ} {q : CallO}
theorem dE (e : some x = some r) (hf : FnOk Tryd.prog f fn I) (h : rE I ag bs cs = dn (ro x) ob) (o : ∀ p ∈ ob, p) : RE fn I ag (ro r) := by
 cases e; exact Reach.done ttok mix hf h o
theorem dS (e : some x = some r) (hf : FnOk Tryd.prog f fn I) (h : rS k I σ bs cs = dn (ro x) ob) (o : ∀ p ∈ ob, p) : RS fn I k σ (ro r) := by
 cases e; exact Reach.done ttok mix hf h o
theorem tE (hf : FnOk Tryd.prog f fn I) (h : rE I ag bs cs = st k I σ ob) (o : ∀ p ∈ ob, p) (t : RS fn I k σ q) : RE fn I ag q := Reach.stop ttok mix hf h o t
theorem tS (hf : FnOk Tryd.prog f fn I) (h : rS j I σ' bs cs = st k I σ ob) (o : ∀ p ∈ ob, p) (t : RS fn I k σ q) : RS fn I j σ' q := Reach.stop ttok mix hf h o t
end
theorem oc {p : Prop} {l : List Prop} (h : p) (t : ∀ q ∈ l, q) : ∀ q ∈ p :: l, q := obs_cons h t
theorem on : ∀ q ∈ ([] : List Prop), q := obs_nil
theorem cE {α : Type} {C : Prop} {b : Bool} {x y : Option α} {r : α} (h : cond b x y = some r) (f : b = true → x = some r → C) (g : b = false → y = some r → C) : C := (cond_inv h).elim (fun h => f h.1 h.2) fun h => g h.1 h.2
theorem bE {α β : Type} {C : Prop} {o : Option α} {f : α → Option β} {r : β} (h : Option.bind o f = some r) (g : ∀ a, o = some a → f a = some r → C) : C := (bind_inv h).elim fun a h => g a h.1 h.2
theorem iE {α : Type} {C p : Prop} [Decidable p] {x : Option α} {r : α} (h : (if p then x else none) = some r) (g : p → x = some r → C) : C := (ite_inv h).elim g
theorem nE {α : Type} {C : Prop} {r : α} (h : none = some r) : C := nomatch h
noncomputable def I24 : Info := { body := (Tryd.f24.body).getD .skip, nt := 28, results := [.tmp 4], keep := [0, 2, 8, 10, 22, 30, 52], live := [(5, [0, 2, 10])], modes := [] }
theorem fk24 : FnOk Tryd.prog 24 Tryd.f24 I24 := ⟨Tryd.func24, by kernel_rfl, by kernel_rfl, by kernel_rfl, by kernel_rfl⟩
def S24_5 (x0 : List Str) (x1 x5 : Int) : St := [(0, .v false [.sl .ro .str x0]), (2, .v false [.int .i64 x1]), (10, .v false [.int .i64 x5])]
theorem p24_5_0 (x0 : List Str) (x1 x5 : Int) : rS 5 I24 (S24_5 x0 x1 x5) [Y, Y] [] = dn (xAF (-1)) [(decide ((x5 : Int) < (Ln x0 : Int))) = true, (0 : Int) ≤ x5 ∧ x5 < (Ln x0), (decide (((W (x1 - (Ln (gD x0 (tN x5) Ty.str.dflt) : Int))) : Int) < 0)) = true] := by kernel_rfl
theorem p24_5_1 (x0 : List Str) (x1 x5 : Int) : rS 5 I24 (S24_5 x0 x1 x5) [Y, F] [] = st 5 I24 (S24_5 x0 (W (x1 - (Ln (gD x0 (tN x5) Ty.str.dflt) : Int))) (W (x5 + 1))) [(decide ((x5 : Int) < (Ln x0 : Int))) = true, (0 : Int) ≤ x5 ∧ x5 < (Ln x0), (decide (((W (x1 - (Ln (gD x0 (tN x5) Ty.str.dflt) : Int))) : Int) < 0)) = false] := by kernel_rfl
theorem p24_5_2 (x0 : List Str) (x1 x5 : Int) : rS 5 I24 (S24_5 x0 x1 x5) [F] [] = dn (xAF x1) [(decide ((x5 : Int) < (Ln x0 : Int))) = false] := by kernel_rfl
theorem p24_e_3 (a0 : List Str) (a1 : Int) : rE I24 (xBK a0 a1) [Y] [] = dn (xAF (-1)) [(decide (((W (a1 - (Ln a0 : Int))) : Int) < 0)) = true] := by kernel_rfl
theorem p24_e_4 (a0 : List Str) (a1 : Int) : rE I24 (xBK a0 a1) [F] [] = st 5 I24 (S24_5 a0 (W (a1 - (Ln a0 : Int))) 0) [(decide (((W (a1 - (Ln a0 : Int))) : Int) < 0)) = false] := by kernel_rfl
theorem c24_5 {N : Nat} : ∀ n x0 x1 x5 r, xDi N n x0 x1 x5 = some r → RS Tryd.f24 I24 5 (S24_5 x0 x1 x5) (xAF r) := by
 intro n
 induction n with
 | zero => exact fun _ _ _ _ h => nE h
 | succ n ih =>
  exact fun x0 x1 x5 r h =>
   cE h (fun h0 h => iE h fun h1 h => cE h (fun h2 h => dS h fk24 (p24_5_0 x0 x1 x5) (oc h0 (oc h1 (oc h2 on)))) fun h2 h =>
   tS fk24 (p24_5_1 x0 x1 x5) (oc h0 (oc h1 (oc h2 on))) (ih _ _ _ _ h)) fun h0 h =>
   dS h fk24 (p24_5_2 x0 x1 x5) (oc h0 on)
theorem c24_e {N : Nat} : ∀ a0 a1 r, xEf N a0 a1 = some r → RE Tryd.f24 I24 (xBK a0 a1) (xAF r) := fun a0 a1 r h =>
 cE h (fun h0 h => dE h fk24 (p24_e_3 a0 a1) (oc h0 on)) fun h0 h =>
 tE fk24 (p24_e_4 a0 a1) (oc h0 on) (c24_5 _ _ _ _ _ h)
theorem xD7 {N : Nat} {a0 : List Str} {a1 : Int} {r : Int} (h : xEf N  a0 a1 = some r) : AbC 24 (xBK a0 a1) (xAF r) :=
 AbsCalls.of_reach fk24 rfl rfl (Nat.le_of_ble_eq_true rfl) (c24_e a0 a1 r h)
noncomputable def I111 : Info := { body := (Tryd.f111.body).getD .skip, nt := 12, results := [.tmp 4], keep := [0, 2, 8, 20], live := [], modes := [] }
theorem fk111 : FnOk Tryd.prog 111 Tryd.f111 I111 := ⟨Tryd.func111, by kernel_rfl, by kernel_rfl, by kernel_rfl, by kernel_rfl⟩
theorem p111_e_0 (a0 : List Int) (a1 : Int) : rE I111 (xCA a0 a1) [Y] [] = dn (xBw (-1)) [(decide (((W (a1 - (Ln a0 : Int))) : Int) < 0)) = true] := by kernel_rfl
theorem p111_e_1 (a0 : List Int) (a1 : Int) : rE I111 (xCA a0 a1) [F] [] = dn (xBw (W (a1 - (Ln a0 : Int)))) [(decide (((W (a1 - (Ln a0 : Int))) : Int) < 0)) = false] := by kernel_rfl
theorem c111_e {N : Nat} : ∀ a0 a1 r, xFl N a0 a1 = some r → RE Tryd.f111 I111 (xCA a0 a1) (xBw r) := fun a0 a1 r h =>
 cE h (fun h0 h => dE h fk111 (p111_e_0 a0 a1) (oc h0 on)) fun h0 h =>
 dE h fk111 (p111_e_1 a0 a1) (oc h0 on)
theorem xE4 {N : Nat} {a0 : List Int} {a1 : Int} {r : Int} (h : xFl N  a0 a1 = some r) : AbC 111 (xCA a0 a1) (xBw r) :=
 AbsCalls.of_reach fk111 rfl rfl (Nat.le_of_ble_eq_true rfl) (c111_e a0 a1 r h)
noncomputable def I112 : Info := { body := (Tryd.f112.body).getD .skip, nt := 12, results := [.tmp 4], keep := [0, 2, 8, 20], live := [], modes := [] }
theorem fk112 : FnOk Tryd.prog 112 Tryd.f112 I112 := ⟨Tryd.func112, by kernel_rfl, by kernel_rfl, by kernel_rfl, by kernel_rfl⟩
theorem p112_e_0 (a0 : List Org) (a1 : Int) : rE I112 (xB8 a0 a1) [Y] [] = dn (xBs (-1)) [(decide (((W (a1 - (Ln a0 : Int))) : Int) < 0)) = true] := by kernel_rfl
theorem p112_e_1 (a0 : List Org) (a1 : Int) : rE I112 (xB8 a0 a1) [F] [] = dn (xBs (W (a1 - (Ln a0 : Int)))) [(decide (((W (a1 - (Ln a0 : Int))) : Int) < 0)) = false] := by kernel_rfl
theorem c112_e {N : Nat} : ∀ a0 a1 r, xEd N a0 a1 = some r → RE Tryd.f112 I112 (xB8 a0 a1) (xBs r) := fun a0 a1 r h =>
 cE h (fun h0 h => dE h fk112 (p112_e_0 a0 a1) (oc h0 on)) fun h0 h =>
 dE h fk112 (p112_e_1 a0 a1) (oc h0 on)
theorem xFb {N : Nat} {a0 : List Org} {a1 : Int} {r : Int} (h : xEd N  a0 a1 = some r) : AbC 112 (xB8 a0 a1) (xBs r) :=
 AbsCalls.of_reach fk112 rfl rfl (Nat.le_of_ble_eq_true rfl) (c112_e a0 a1 r h)
noncomputable def I65 : Info := { body := (Tryd.f65.body).getD .skip, nt := 18, results := [.tmp 4], keep := [0, 2, 4, 8, 20, 32, 5], live := [], modes := [] }
theorem fk65 : FnOk Tryd.prog 65 Tryd.f65 I65 := ⟨Tryd.func65, by kernel_rfl, by kernel_rfl, by kernel_rfl, by kernel_rfl⟩
theorem p65_e_0 (a0 : Rowd) (a1 r1 : Int) : rE I65 (xCN a0 a1) [Y] [xBw r1] = dn (xBY (-1)) [AbC 111 (xCA (Rowd.cells a0) a1) (xBw r1), (decide ((r1 : Int) < 0)) = true] := by kernel_rfl
theorem p65_e_1 (a0 : Rowd) (a1 r1 r2 : Int) : rE I65 (xCN a0 a1) [F, Y] [xBw r1, xBs r2] = dn (xBY (-1)) [AbC 111 (xCA (Rowd.cells a0) a1) (xBw r1), (decide ((r1 : Int) < 0)) = false, AbC 112 (xB8 (Rowd.frm a0) r1) (xBs r2), (decide ((r2 : Int) < 0)) = true] := by kernel_rfl
theorem p65_e_2 (a0 : Rowd) (a1 r1 r2 : Int) : rE I65 (xCN a0 a1) [F, F] [xBw r1, xBs r2] = dn (xBY r2) [AbC 111 (xCA (Rowd.cells a0) a1) (xBw r1), (decide ((r1 : Int) < 0)) = false, AbC 112 (xB8 (Rowd.frm a0) r1) (xBs r2), (decide ((r2 : Int) < 0)) = false] := by kernel_rfl
theorem c65_e {N : Nat} : ∀ a0 a1 r, xFc N a0 a1 = some r → RE Tryd.f65 I65 (xCN a0 a1) (xBY r) := fun a0 a1 r h =>
 bE h fun r1 h0 h => cE h (fun h1 h => dE h fk65 (p65_e_0 a0 a1 r1) (oc (xE4 h0) (oc h1 on))) fun h1 h =>
 bE h fun r2 h2 h => cE h (fun h3 h => dE h fk65 (p65_e_1 a0 a1 r1 r2) (oc (xE4 h0) (oc h1 (oc (xFb h2) (oc h3 on))))) fun h3 h =>
 dE h fk65 (p65_e_2 a0 a1 r1 r2) (oc (xE4 h0) (oc h1 (oc (xFb h2) (oc h3 on))))
theorem laws_szRow_ok {N : Nat} {a0 : Rowd} {a1 : Int} {r : Int} (h : xFc N  a0 a1 = some r) : AbC 65 (xCN a0 a1) (xBY r) :=
 AbsCalls.of_reach fk65 rfl rfl (Nat.le_of_ble_eq_true rfl) (c65_e a0 a1 r h)
noncomputable def I25 : Info := { body := (Tryd.f25.body).getD .skip, nt := 27, results := [.tmp 4], keep := [0, 2, 8, 10, 22, 30, 50], live := [(5, [0, 2, 10])], modes := [] }
theorem fk25 : FnOk Tryd.prog 25 Tryd.f25 I25 := ⟨Tryd.func25, by kernel_rfl, by kernel_rfl, by kernel_rfl, by kernel_rfl⟩
def S25_5 (x0 : List Rowd) (x1 x5 : Int) : St := [(0, .v false [.sl .ro .row x0]), (2, .v false [.int .i64 x1]), (10, .v false [.int .i64 x5])]
theorem p25_5_0 (x0 : List Rowd) (x1 x5 r1 : Int) : rS 5 I25 (S25_5 x0 x1 x5) [Y, Y] [xBY r1] = dn (xBx (-1)) [(decide ((x5 : Int) < (Ln x0 : Int))) = true, (0 : Int) ≤ x5 ∧ x5 < (Ln x0), AbC 65 (xCN (gD x0 (tN x5) rd) x1) (xBY r1), (decide ((r1 : Int) < 0)) = true] := by kernel_rfl
theorem p25_5_1 (x0 : List Rowd) (x1 x5 r1 : Int) : rS 5 I25 (S25_5 x0 x1 x5) [Y, F] [xBY r1] = st 5 I25 (S25_5 x0 r1 (W (x5 + 1))) [(decide ((x5 : Int) < (Ln x0 : Int))) = true, (0 : Int) ≤ x5 ∧ x5 < (Ln x0), AbC 65 (xCN (gD x0 (tN x5) rd) x1) (xBY r1), (decide ((r1 : Int) < 0)) = false] := by kernel_rfl
theorem p25_5_2 (x0 : List Rowd) (x1 x5 : Int) : rS 5 I25 (S25_5 x0 x1 x5) [F] [] = dn (xBx x1) [(decide ((x5 : Int) < (Ln x0 : Int))) = false] := by kernel_rfl
theorem p25_e_3 (a0 : List Rowd) (a1 : Int) : rE I25 (xC0 a0 a1) [Y] [] = dn (xBx (-1)) [(decide (((W (a1 - (Ln a0 : Int))) : Int) < 0)) = true] := by kernel_rfl
theorem p25_e_4 (a0 : List Rowd) (a1 : Int) : rE I25 (xC0 a0 a1) [F] [] = st 5 I25 (S25_5 a0 (W (a1 - (Ln a0 : Int))) 0) [(decide (((W (a1 - (Ln a0 : Int))) : Int) < 0)) = false] := by kernel_rfl
theorem c25_5 {N : Nat} : ∀ n x0 x1 x5 r, xEe N n x0 x1 x5 = some r → RS Tryd.f25 I25 5 (S25_5 x0 x1 x5) (xBx r) := by
 intro n
 induction n with
 | zero => exact fun _ _ _ _ h => nE h
 | succ n ih =>
  exact fun x0 x1 x5 r h =>
   cE h (fun h0 h => iE h fun h1 h => bE h fun r1 h2 h => cE h (fun h3 h => dS h fk25 (p25_5_0 x0 x1 x5 r1) (oc h0 (oc h1 (oc (laws_szRow_ok h2) (oc h3 on))))) fun h3 h =>
   tS fk25 (p25_5_1 x0 x1 x5 r1) (oc h0 (oc h1 (oc (laws_szRow_ok h2) (oc h3 on)))) (ih _ _ _ _ h)) fun h0 h =>
   dS h fk25 (p25_5_2 x0 x1 x5) (oc h0 on)
theorem c25_e {N : Nat} : ∀ a0 a1 r, xFm N a0 a1 = some r → RE Tryd.f25 I25 (xC0 a0 a1) (xBx r) := fun a0 a1 r h =>
 cE h (fun h0 h => dE h fk25 (p25_e_3 a0 a1) (oc h0 on)) fun h0 h =>
 tE fk25 (p25_e_4 a0 a1) (oc h0 on) (c25_5 _ _ _ _ _ h)
theorem xFV {N : Nat} {a0 : List Rowd} {a1 : Int} {r : Int} (h : xFm N  a0 a1 = some r) : AbC 25 (xC0 a0 a1) (xBx r) :=
 AbsCalls.of_reach fk25 rfl rfl (Nat.le_of_ble_eq_true rfl) (c25_e a0 a1 r h)
def G7 (q : Val → Int → Option (Int)) : Prop := ∀ a0 a1 r, q a0 a1 = some r → AbC 7 (xAC a0 a1) (xAj r)
def G23 (q : (List Val) → Int → Option (Int)) : Prop := ∀ a0 a1 r, q a0 a1 = some r → AbC 23 (xBj a0 a1) (xAx r)
noncomputable def I7 : Info := { body := (Tryd.f7.body).getD .skip, nt := 31, results := [.tmp 4], keep := [0, 2, 4, 8, 22, 34, 46, 58, 5], live := [], modes := [] }
theorem fk7 : FnOk Tryd.prog 7 Tryd.f7 I7 := ⟨Tryd.func7, by kernel_rfl, by kernel_rfl, by kernel_rfl, by kernel_rfl⟩
theorem p7_e_0 (a0 : Val) (a1 : Int) : rE I7 (xAC a0 a1) [Y] [] = dn (xAj (-1)) [(decide (((W (a1 - (Ln (Val.text a0) : Int))) : Int) < 0)) = true] := by kernel_rfl
theorem p7_e_1 (a0 : Val) (a1 r1 : Int) : rE I7 (xAC a0 a1) [F, Y] [xAx r1] = dn (xAj (-1)) [(decide (((W (a1 - (Ln (Val.text a0) : Int))) : Int) < 0)) = false, AbC 23 (xBj (Val.list a0) (W (a1 - (Ln (Val.text a0) : Int)))) (xAx r1), (decide ((r1 : Int) < 0)) = true] := by kernel_rfl
theorem p7_e_2 (a0 : Val) (a1 r1 r2 : Int) : rE I7 (xAC a0 a1) [F, F, Y] [xAx r1, xAF r2] = dn (xAj (-1)) [(decide (((W (a1 - (Ln (Val.text a0) : Int))) : Int) < 0)) = false, AbC 23 (xBj (Val.list a0) (W (a1 - (Ln (Val.text a0) : Int)))) (xAx r1), (decide ((r1 : Int) < 0)) = false, AbC 24 (xBK (Val.columns a0) r1) (xAF r2), (decide ((r2 : Int) < 0)) = true] := by kernel_rfl
theorem p7_e_3 (a0 : Val) (a1 r1 r2 r3 : Int) : rE I7 (xAC a0 a1) [F, F, F, Y] [xAx r1, xAF r2, xBx r3] = dn (xAj (-1)) [(decide (((W (a1 - (Ln (Val.text a0) : Int))) : Int) < 0)) = false, AbC 23 (xBj (Val.list a0) (W (a1 - (Ln (Val.text a0) : Int)))) (xAx r1), (decide ((r1 : Int) < 0)) = false, AbC 24 (xBK (Val.columns a0) r1) (xAF r2), (decide ((r2 : Int) < 0)) = false, AbC 25 (xC0 (Val.rows a0) r2) (xBx r3), (decide ((r3 : Int) < 0)) = true] := by kernel_rfl
theorem p7_e_4 (a0 : Val) (a1 r1 r2 r3 : Int) : rE I7 (xAC a0 a1) [F, F, F, F] [xAx r1, xAF r2, xBx r3] = dn (xAj r3) [(decide (((W (a1 - (Ln (Val.text a0) : Int))) : Int) < 0)) = false, AbC 23 (xBj (Val.list a0) (W (a1 - (Ln (Val.text a0) : Int)))) (xAx r1), (decide ((r1 : Int) < 0)) = false, AbC 24 (xBK (Val.columns a0) r1) (xAF r2), (decide ((r2 : Int) < 0)) = false, AbC 25 (xC0 (Val.rows a0) r2) (xBx r3), (decide ((r3 : Int) < 0)) = false] := by kernel_rfl
theorem c7_e {N : Nat} {q0 : Val → Int → Option (Int)} (g0 : G7 q0) {q1 : (List Val) → Int → Option (Int)} (g1 : G23 q1) : ∀ a0 a1 r, xD8 N q0 q1 a0 a1 = some r → RE Tryd.f7 I7 (xAC a0 a1) (xAj r) := fun a0 a1 r h =>
 cE h (fun h0 h => dE h fk7 (p7_e_0 a0 a1) (oc h0 on)) fun h0 h =>
 bE h fun r1 h1 h => cE h (fun h2 h => dE h fk7 (p7_e_1 a0 a1 r1) (oc h0 (oc (g1 _ _ _ h1) (oc h2 on)))) fun h2 h =>
 bE h fun r2 h3 h => cE h (fun h4 h => dE h fk7 (p7_e_2 a0 a1 r1 r2) (oc h0 (oc (g1 _ _ _ h1) (oc h2 (oc (xD7 h3) (oc h4 on)))))) fun h4 h =>
 bE h fun r3 h5 h => cE h (fun h6 h => dE h fk7 (p7_e_3 a0 a1 r1 r2 r3) (oc h0 (oc (g1 _ _ _ h1) (oc h2 (oc (xD7 h3) (oc h4 (oc (xFV h5) (oc h6 on)))))))) fun h6 h =>
 dE h fk7 (p7_e_4 a0 a1 r1 r2 r3) (oc h0 (oc (g1 _ _ _ h1) (oc h2 (oc (xD7 h3) (oc h4 (oc (xFV h5) (oc h6 on)))))))
theorem xFP {N : Nat} {q0 : Val → Int → Option (Int)} (g0 : G7 q0) {q1 : (List Val) → Int → Option (Int)} (g1 : G23 q1) {a0 : Val} {a1 : Int} {r : Int} (h : xD8 N q0 q1 a0 a1 = some r) : AbC 7 (xAC a0 a1) (xAj r) :=
 AbsCalls.of_reach fk7 rfl rfl (Nat.le_of_ble_eq_true rfl) (c7_e g0 g1 a0 a1 r h)
noncomputable def I23 : Info := { body := (Tryd.f23.body).getD .skip, nt := 27, results := [.tmp 4], keep := [0, 2, 8, 10, 22, 30, 50], live := [(5, [0, 2, 10])], modes := [] }
theorem fk23 : FnOk Tryd.prog 23 Tryd.f23 I23 := ⟨Tryd.func23, by kernel_rfl, by kernel_rfl, by kernel_rfl, by kernel_rfl⟩
def S23_5 (x0 : List Val) (x1 x5 : Int) : St := [(0, .v false [.sl .ro .val x0]), (2, .v false [.int .i64 x1]), (10, .v false [.int .i64 x5])]
theorem p23_5_0 (x0 : List Val) (x1 x5 r1 : Int) : rS 5 I23 (S23_5 x0 x1 x5) [Y, Y] [xAj r1] = dn (xAx (-1)) [(decide ((x5 : Int) < (Ln x0 : Int))) = true, (0 : Int) ≤ x5 ∧ x5 < (Ln x0), AbC 7 (xAC (gD x0 (tN x5) vd) x1) (xAj r1), (decide ((r1 : Int) < 0)) = true] := by kernel_rfl
theorem p23_5_1 (x0 : List Val) (x1 x5 r1 : Int) : rS 5 I23 (S23_5 x0 x1 x5) [Y, F] [xAj r1] = st 5 I23 (S23_5 x0 r1 (W (x5 + 1))) [(decide ((x5 : Int) < (Ln x0 : Int))) = true, (0 : Int) ≤ x5 ∧ x5 < (Ln x0), AbC 7 (xAC (gD x0 (tN x5) vd) x1) (xAj r1), (decide ((r1 : Int) < 0)) = false] := by kernel_rfl
theorem p23_5_2 (x0 : List Val) (x1 x5 : Int) : rS 5 I23 (S23_5 x0 x1 x5) [F] [] = dn (xAx x1) [(decide ((x5 : Int) < (Ln x0 : Int))) = false] := by kernel_rfl
theorem p23_e_3 (a0 : List Val) (a1 : Int) : rE I23 (xBj a0 a1) [Y] [] = dn (xAx (-1)) [(decide (((W (a1 - (Ln a0 : Int))) : Int) < 0)) = true] := by kernel_rfl
theorem p23_e_4 (a0 : List Val) (a1 : Int) : rE I23 (xBj a0 a1) [F] [] = st 5 I23 (S23_5 a0 (W (a1 - (Ln a0 : Int))) 0) [(decide (((W (a1 - (Ln a0 : Int))) : Int) < 0)) = false] := by kernel_rfl
theorem c23_5 {N : Nat} {q0 : Val → Int → Option (Int)} (g0 : G7 q0) {q1 : (List Val) → Int → Option (Int)} (g1 : G23 q1) : ∀ n x0 x1 x5 r, xDF N q0 q1 n x0 x1 x5 = some r → RS Tryd.f23 I23 5 (S23_5 x0 x1 x5) (xAx r) := by
 intro n
 induction n with
 | zero => exact fun _ _ _ _ h => nE h
 | succ n ih =>
  exact fun x0 x1 x5 r h =>
   cE h (fun h0 h => iE h fun h1 h => bE h fun r1 h2 h => cE h (fun h3 h => dS h fk23 (p23_5_0 x0 x1 x5 r1) (oc h0 (oc h1 (oc (g0 _ _ _ h2) (oc h3 on))))) fun h3 h =>
   tS fk23 (p23_5_1 x0 x1 x5 r1) (oc h0 (oc h1 (oc (g0 _ _ _ h2) (oc h3 on)))) (ih _ _ _ _ h)) fun h0 h =>
   dS h fk23 (p23_5_2 x0 x1 x5) (oc h0 on)
theorem c23_e {N : Nat} {q0 : Val → Int → Option (Int)} (g0 : G7 q0) {q1 : (List Val) → Int → Option (Int)} (g1 : G23 q1) : ∀ a0 a1 r, xDX N q0 q1 a0 a1 = some r → RE Tryd.f23 I23 (xBj a0 a1) (xAx r) := fun a0 a1 r h =>
 cE h (fun h0 h => dE h fk23 (p23_e_3 a0 a1) (oc h0 on)) fun h0 h =>
 tE fk23 (p23_e_4 a0 a1) (oc h0 on) (c23_5 g0 g1 _ _ _ _ _ h)
theorem xFG {N : Nat} {q0 : Val → Int → Option (Int)} (g0 : G7 q0) {q1 : (List Val) → Int → Option (Int)} (g1 : G23 q1) {a0 : List Val} {a1 : Int} {r : Int} (h : xDX N q0 q1 a0 a1 = some r) : AbC 23 (xBj a0 a1) (xAx r) :=
 AbsCalls.of_reach fk23 rfl rfl (Nat.le_of_ble_eq_true rfl) (c23_e g0 g1 a0 a1 r h)
theorem xF4 {N : Nat} : ∀ d, G7 (xAX N d).c_laws_szValue ∧ G23 (xAX N d).c_laws_szValueS := by
 intro d
 induction d with
 | zero => exact ⟨fun _ _ _ h => nE h, fun _ _ _ h => nE h⟩
 | succ d ih =>
  obtain ⟨ih0, ih1⟩ := ih
  exact ⟨fun _ _ _ h => xFP (N := N) ih0 ih1 h, fun _ _ _ h => xFG (N := N) ih0 ih1 h⟩
theorem xDY {N : Nat} {a0 : Val} {a1 : Int} {r : Int} (h : xFF N a0 a1 = some r) : AbC 7 (xAC a0 a1) (xAj r) := (xF4 N).1 _ _ r h
noncomputable def I32 : Info := { body := (Tryd.f32.body).getD .skip, nt := 22, results := [.tmp 2], keep := [0, 4, 6, 8, 22], live := [(3, [0, 6, 8])], modes := [(5, [(0, .ref, false)]), (6, [(0, .take, false)])] }
theorem fk32 : FnOk Tryd.prog 32 Tryd.f32 I32 := ⟨Tryd.func32, by kernel_rfl, by kernel_rfl, by kernel_rfl, by kernel_rfl⟩
def S32_3 (x0 x3 : List Str) (x4 : Int) : St := [(0, .v false [.sl .ro .str x0]), (6, .v false [.sl .own .str x3]), (8, .v false [.int .i64 x4])]
theorem p32_3_0 (x0 x3 : List Str) (x4 : Int) : rS 3 I32 (S32_3 x0 x3 x4) [Y] [] = st 3 I32 (S32_3 x0 (List.set x3 (tN x4) (gD x0 (tN x4) Ty.str.dflt)) (W (x4 + 1))) [(decide ((x4 : Int) < (Ln x0 : Int))) = true, (0 : Int) ≤ x4 ∧ x4 < (Ln x0), (0 : Int) ≤ x4 ∧ x4 < (Ln x3)] := by kernel_rfl
theorem p32_3_1 (x0 x3 : List Str) (x4 : Int) : rS 3 I32 (S32_3 x0 x3 x4) [F] [] = dn (xCa x3) [(decide ((x4 : Int) < (Ln x0 : Int))) = false] := by kernel_rfl
theorem p32_e_2 (a0 : List Str) : rE I32 (xDl a0) [] [] = st 3 I32 (S32_3 a0 (List.replicate (tN (Ln a0 : Int)) Ty.str.dflt) 0) [(0 : Int) ≤ (Ln a0 : Int) ∧ (Ln a0 : Int) = (Ln a0 : Int) ∧ (Ln a0 : Int) ≤ Lim] := by kernel_rfl
theorem c32_3 {N : Nat} : ∀ n x0 x3 x4 r, xDm N n x0 x3 x4 = some r → RS Tryd.f32 I32 3 (S32_3 x0 x3 x4) (xCa r) := by
 intro n
 induction n with
 | zero => exact fun _ _ _ _ h => nE h
 | succ n ih =>
  exact fun x0 x3 x4 r h =>
   cE h (fun h0 h => iE h fun h1 h => iE h fun h2 h => tS fk32 (p32_3_0 x0 x3 x4) (oc h0 (oc h1 (oc h2 on))) (ih _ _ _ _ h)) fun h0 h =>
   dS h fk32 (p32_3_1 x0 x3 x4) (oc h0 on)
theorem c32_e {N : Nat} : ∀ a0 r, xDz N a0 = some r → RE Tryd.f32 I32 (xDl a0) (xCa r) := fun a0 r h =>
 iE h fun h0 h => tE fk32 (p32_e_2 a0) (oc h0 on) (c32_3 _ _ _ _ _ h)
theorem laws_toStringS_ok {N : Nat} {a0 : List Str} {r : (List Str)} (h : xDz N  a0 = some r) : AbC 32 (xDl a0) (xCa r) :=
 AbsCalls.of_reach fk32 rfl rfl (Nat.le_of_ble_eq_true rfl) (c32_e a0 r h)
noncomputable def I115 : Info := { body := (Tryd.f115.body).getD .skip, nt := 22, results := [.tmp 2], keep := [0, 4, 6, 8, 22], live := [(3, [0, 6, 8])], modes := [(5, [(0, .ref, false)]), (6, [(0, .take, false)])] }
theorem fk115 : FnOk Tryd.prog 115 Tryd.f115 I115 := ⟨Tryd.func115, by kernel_rfl, by kernel_rfl, by kernel_rfl, by kernel_rfl⟩
def S115_3 (x0 x3 : List Int) (x4 : Int) : St := [(0, .v false [.sl .ro .int x0]), (6, .v false [.sl .own .int x3]), (8, .v false [.int .i64 x4])]
theorem p115_3_0 (x0 x3 : List Int) (x4 : Int) : rS 3 I115 (S115_3 x0 x3 x4) [Y] [] = st 3 I115 (S115_3 x0 (List.set x3 (tN x4) (gD x0 (tN x4) Ty.int.dflt)) (W (x4 + 1))) [(decide ((x4 : Int) < (Ln x0 : Int))) = true, (0 : Int) ≤ x4 ∧ x4 < (Ln x0), (0 : Int) ≤ x4 ∧ x4 < (Ln x3)] := by kernel_rfl
theorem p115_3_1 (x0 x3 : List Int) (x4 : Int) : rS 3 I115 (S115_3 x0 x3 x4) [F] [] = dn (xC1 x3) [(decide ((x4 : Int) < (Ln x0 : Int))) = false] := by kernel_rfl
theorem p115_e_2 (a0 : List Int) : rE I115 (xEg a0) [] [] = st 3 I115 (S115_3 a0 (List.replicate (tN (Ln a0 : Int)) Ty.int.dflt) 0) [(0 : Int) ≤ (Ln a0 : Int) ∧ (Ln a0 : Int) = (Ln a0 : Int) ∧ (Ln a0 : Int) ≤ Lim] := by kernel_rfl
theorem c115_3 {N : Nat} : ∀ n x0 x3 x4 r, xEh N n x0 x3 x4 = some r → RS Tryd.f115 I115 3 (S115_3 x0 x3 x4) (xC1 r) := by
 intro n
 induction n with
 | zero => exact fun _ _ _ _ h => nE h
 | succ n ih =>
  exact fun x0 x3 x4 r h =>
   cE h (fun h0 h => iE h fun h1 h => iE h fun h2 h => tS fk115 (p115_3_0 x0 x3 x4) (oc h0 (oc h1 (oc h2 on))) (ih _ _ _ _ h)) fun h0 h =>
   dS h fk115 (p115_3_1 x0 x3 x4) (oc h0 on)
theorem c115_e {N : Nat} : ∀ a0 r, xEH N a0 = some r → RE Tryd.f115 I115 (xEg a0) (xC1 r) := fun a0 r h =>
 iE h fun h0 h => tE fk115 (p115_e_2 a0) (oc h0 on) (c115_3 _ _ _ _ _ h)
theorem laws_toIntS_ok {N : Nat} {a0 : List Int} {r : (List Int)} (h : xEH N  a0 = some r) : AbC 115 (xEg a0) (xC1 r) :=
 AbsCalls.of_reach fk115 rfl rfl (Nat.le_of_ble_eq_true rfl) (c115_e a0 r h)
noncomputable def I135 : Info := { body := (Tryd.f135.body).getD .skip, nt := 11, results := [.cell 2 112], keep := [0, 2, 4, 6, 3, 5, 7], live := [], modes := [] }
theorem fk135 : FnOk Tryd.prog 135 Tryd.f135 I135 := ⟨Tryd.func135, by kernel_rfl, by kernel_rfl, by kernel_rfl, by kernel_rfl⟩
theorem p135_e_0 (a0 : Org) : rE I135 (xDG a0) [] [] = dn (xCS a0) [] := by kernel_rfl
theorem c135_e {N : Nat} : ∀ a0 r, xEy N a0 = some r → RE Tryd.f135 I135 (xDG a0) (xCS r) := fun a0 r h =>
 dE h fk135 (p135_e_0 a0) on
theorem laws_toOrigin_ok {N : Nat} {a0 : Org} {r : Org} (h : xEy N  a0 = some r) : AbC 135 (xDG a0) (xCS r) :=
 AbsCalls.of_reach fk135 rfl rfl (Nat.le_of_ble_eq_true rfl) (c135_e a0 r h)
noncomputable def I116 : Info := { body := (Tryd.f116.body).getD .skip, nt := 23, results := [.tmp 2], keep := [0, 4, 6, 8, 22], live := [(3, [0, 6, 8])], modes := [(5, [(0, .ref, false)]), (6, [(0, .take, false)])] }
theorem fk116 : FnOk Tryd.prog 116 Tryd.f116 I116 := ⟨Tryd.func116, by kernel_rfl, by kernel_rfl, by kernel_rfl, by kernel_rfl⟩
def S116_3 (x0 x3 : List Org) (x4 : Int) : St := [(0, .v false [.sl .ro .org x0]), (6, .v false [.sl .own .org x3]), (8, .v false [.int .i64 x4])]
theorem p116_3_0 (x0 x3 : List Org) (x4 : Int) (r1 : Org) : rS 3 I116 (S116_3 x0 x3 x4) [Y] [xCS r1] = st 3 I116 (S116_3 x0 (List.set x3 (tN x4) r1) (W (x4 + 1))) [(decide ((x4 : Int) < (Ln x0 : Int))) = true, (0 : Int) ≤ x4 ∧ x4 < (Ln x0), AbC 135 (xDG (gD x0 (tN x4) Ty.org.dflt)) (xCS r1), (0 : Int) ≤ x4 ∧ x4 < (Ln x3)] := by kernel_rfl
theorem p116_3_1 (x0 x3 : List Org) (x4 : Int) : rS 3 I116 (S116_3 x0 x3 x4) [F] [] = dn (xB9 x3) [(decide ((x4 : Int) < (Ln x0 : Int))) = false] := by kernel_rfl
theorem p116_e_2 (a0 : List Org) : rE I116 (xDj a0) [] [] = st 3 I116 (S116_3 a0 (List.replicate (tN (Ln a0 : Int)) Ty.org.dflt) 0) [(0 : Int) ≤ (Ln a0 : Int) ∧ (Ln a0 : Int) = (Ln a0 : Int) ∧ (Ln a0 : Int) ≤ Lim] := by kernel_rfl
theorem c116_3 {N : Nat} : ∀ n x0 x3 x4 r, xDk N n x0 x3 x4 = some r → RS Tryd.f116 I116 3 (S116_3 x0 x3 x4) (xB9 r) := by
 intro n
 induction n with
 | zero => exact fun _ _ _ _ h => nE h
 | succ n ih =>
  exact fun x0 x3 x4 r h =>
   cE h (fun h0 h => iE h fun h1 h => bE h fun r1 h2 h => iE h fun h3 h => tS fk116 (p116_3_0 x0 x3 x4 r1) (oc h0 (oc h1 (oc (laws_toOrigin_ok h2) (oc h3 on)))) (ih _ _ _ _ h)) fun h0 h =>
   dS h fk116 (p116_3_1 x0 x3 x4) (oc h0 on)
theorem c116_e {N : Nat} : ∀ a0 r, xDy N a0 = some r → RE Tryd.f116 I116 (xDj a0) (xB9 r) := fun a0 r h =>
 iE h fun h0 h => tE fk116 (p116_e_2 a0) (oc h0 on) (c116_3 _ _ _ _ _ h)
theorem laws_toOriginS_ok {N : Nat} {a0 : List Org} {r : (List Org)} (h : xDy N  a0 = some r) : AbC 116 (xDj a0) (xB9 r) :=
 AbsCalls.of_reach fk116 rfl rfl (Nat.le_of_ble_eq_true rfl) (c116_e a0 r h)
noncomputable def I69 : Info := { body := (Tryd.f69.body).getD .skip, nt := 13, results := [.cell 2 63], keep := [0, 2, 4, 6, 3, 5, 7], live := [], modes := [(4, [(0, .take, false)])] }
theorem fk69 : FnOk Tryd.prog 69 Tryd.f69 I69 := ⟨Tryd.func69, by kernel_rfl, by kernel_rfl, by kernel_rfl, by kernel_rfl⟩
theorem p69_e_0 (a0 : Rowd) (r1 : (List Int)) (r2 : (List Org)) : rE I69 (xEz a0) [] [xC1 r1, xB9 r2] = dn (xDZ (Rowd.mk r1 r2)) [AbC 115 (xEg (Rowd.cells a0)) (xC1 r1), AbC 116 (xDj (Rowd.frm a0)) (xB9 r2)] := by kernel_rfl
theorem c69_e {N : Nat} : ∀ a0 r, xEA N a0 = some r → RE Tryd.f69 I69 (xEz a0) (xDZ r) := fun a0 r h =>
 bE h fun r1 h0 h => bE h fun r2 h1 h => dE h fk69 (p69_e_0 a0 r1 r2) (oc (laws_toIntS_ok h0) (oc (laws_toOriginS_ok h1) on))
theorem laws_toRow_ok {N : Nat} {a0 : Rowd} {r : Rowd} (h : xEA N  a0 = some r) : AbC 69 (xEz a0) (xDZ r) :=
 AbsCalls.of_reach fk69 rfl rfl (Nat.le_of_ble_eq_true rfl) (c69_e a0 r h)
noncomputable def I33 : Info := { body := (Tryd.f33.body).getD .skip, nt := 23, results := [.tmp 2], keep := [0, 4, 6, 8, 22], live := [(3, [0, 6, 8])], modes := [(5, [(0, .ref, false)]), (6, [(0, .take, false)])] }
theorem fk33 : FnOk Tryd.prog 33 Tryd.f33 I33 := ⟨Tryd.func33, by kernel_rfl, by kernel_rfl, by kernel_rfl, by kernel_rfl⟩
def S33_3 (x0 x3 : List Rowd) (x4 : Int) : St := [(0, .v false [.sl .ro .row x0]), (6, .v false [.sl .own .row x3]), (8, .v false [.int .i64 x4])]
theorem p33_3_0 (x0 x3 : List Rowd) (x4 : Int) (r1 : Rowd) : rS 3 I33 (S33_3 x0 x3 x4) [Y] [xDZ r1] = st 3 I33 (S33_3 x0 (List.set x3 (tN x4) r1) (W (x4 + 1))) [(decide ((x4 : Int) < (Ln x0 : Int))) = true, (0 : Int) ≤ x4 ∧ x4 < (Ln x0), AbC 69 (xEz (gD x0 (tN x4) rd)) (xDZ r1), (0 : Int) ≤ x4 ∧ x4 < (Ln x3)] := by kernel_rfl
theorem p33_3_1 (x0 x3 : List Rowd) (x4 : Int) : rS 3 I33 (S33_3 x0 x3 x4) [F] [] = dn (xC2 x3) [(decide ((x4 : Int) < (Ln x0 : Int))) = false] := by kernel_rfl
theorem p33_e_2 (a0 : List Rowd) : rE I33 (xEi a0) [] [] = st 3 I33 (S33_3 a0 (List.replicate (tN (Ln a0 : Int)) rd) 0) [(0 : Int) ≤ (Ln a0 : Int) ∧ (Ln a0 : Int) = (Ln a0 : Int) ∧ (Ln a0 : Int) ≤ Lim] := by kernel_rfl
theorem c33_3 {N : Nat} : ∀ n x0 x3 x4 r, xEj N n x0 x3 x4 = some r → RS Tryd.f33 I33 3 (S33_3 x0 x3 x4) (xC2 r) := by
 intro n
 induction n with
 | zero => exact fun _ _ _ _ h => nE h
 | succ n ih =>
  exact fun x0 x3 x4 r h =>
   cE h (fun h0 h => iE h fun h1 h => bE h fun r1 h2 h => iE h fun h3 h => tS fk33 (p33_3_0 x0 x3 x4 r1) (oc h0 (oc h1 (oc (laws_toRow_ok h2) (oc h3 on)))) (ih _ _ _ _ h)) fun h0 h =>
   dS h fk33 (p33_3_1 x0 x3 x4) (oc h0 on)
theorem c33_e {N : Nat} : ∀ a0 r, xEI N a0 = some r → RE Tryd.f33 I33 (xEi a0) (xC2 r) := fun a0 r h =>
 iE h fun h0 h => tE fk33 (p33_e_2 a0) (oc h0 on) (c33_3 _ _ _ _ _ h)
theorem laws_toRowS_ok {N : Nat} {a0 : List Rowd} {r : (List Rowd)} (h : xEI N  a0 = some r) : AbC 33 (xEi a0) (xC2 r) :=
 AbsCalls.of_reach fk33 rfl rfl (Nat.le_of_ble_eq_true rfl) (c33_e a0 r h)
def G9 (q : Val → Option (Val)) : Prop := ∀ a0 r, q a0 = some r → AbC 9 (xAI a0) (xAi r)
def G31 (q : (List Val) → Option ((List Val))) : Prop := ∀ a0 r, q a0 = some r → AbC 31 (xCT a0) (xBT r)
noncomputable def I9 : Info := { body := (Tryd.f9.body).getD .skip, nt := 29, results := [.cell 2 31], keep := [0, 2, 4, 6, 3, 5, 7], live := [], modes := [(9, [(0, .take, false)])] }
theorem fk9 : FnOk Tryd.prog 9 Tryd.f9 I9 := ⟨Tryd.func9, by kernel_rfl, by kernel_rfl, by kernel_rfl, by kernel_rfl⟩
theorem p9_e_0 (a0 : Val) (r1 : (List Val)) (r2 : (List Str)) (r3 : (List Rowd)) : rE I9 (xAI a0) [] [xBT r1, xCa r2, xC2 r3] = dn (xAi (Val.mk (Val.kind a0) (Val.n a0) (Val.step a0) (Val.text a0) r1 r2 r3)) [AbC 31 (xCT (Val.list a0)) (xBT r1), AbC 32 (xDl (Val.columns a0)) (xCa r2), AbC 33 (xEi (Val.rows a0)) (xC2 r3)] := by kernel_rfl
theorem c9_e {N : Nat} {q0 : Val → Option (Val)} (g0 : G9 q0) {q1 : (List Val) → Option ((List Val))} (g1 : G31 q1) : ∀ a0 r, xCE N q0 q1 a0 = some r → RE Tryd.f9 I9 (xAI a0) (xAi r) := fun a0 r h =>
 bE h fun r1 h0 h => bE h fun r2 h1 h => bE h fun r3 h2 h => dE h fk9 (p9_e_0 a0 r1 r2 r3) (oc (g1 _ _ h0) (oc (laws_toStringS_ok h1) (oc (laws_toRowS_ok h2) on)))
theorem xFQ {N : Nat} {q0 : Val → Option (Val)} (g0 : G9 q0) {q1 : (List Val) → Option ((List Val))} (g1 : G31 q1) {a0 : Val} {r : Val} (h : xCE N q0 q1 a0 = some r) : AbC 9 (xAI a0) (xAi r) :=
 AbsCalls.of_reach fk9 rfl rfl (Nat.le_of_ble_eq_true rfl) (c9_e g0 g1 a0 r h)
noncomputable def I31 : Info := { body := (Tryd.f31.body).getD .skip, nt := 23, results := [.tmp 2], keep := [0, 4, 6, 8, 22], live := [(3, [0, 6, 8])], modes := [(5, [(0, .ref, false)]), (6, [(0, .take, false)])] }
theorem fk31 : FnOk Tryd.prog 31 Tryd.f31 I31 := ⟨Tryd.func31, by kernel_rfl, by kernel_rfl, by kernel_rfl, by kernel_rfl⟩
def S31_3 (x0 x3 : List Val) (x4 : Int) : St := [(0, .v false [.sl .ro .val x0]), (6, .v false [.sl .own .val x3]), (8, .v false [.int .i64 x4])]
theorem p31_3_0 (x0 x3 : List Val) (x4 : Int) (r1 : Val) : rS 3 I31 (S31_3 x0 x3 x4) [Y] [xAi r1] = st 3 I31 (S31_3 x0 (List.set x3 (tN x4) (Val.re r1)) (W (x4 + 1))) [(decide ((x4 : Int) < (Ln x0 : Int))) = true, (0 : Int) ≤ x4 ∧ x4 < (Ln x0), AbC 9 (xAI (gD x0 (tN x4) vd)) (xAi r1), (0 : Int) ≤ x4 ∧ x4 < (Ln x3)] := by kernel_rfl
theorem p31_3_1 (x0 x3 : List Val) (x4 : Int) : rS 3 I31 (S31_3 x0 x3 x4) [F] [] = dn (xBT x3) [(decide ((x4 : Int) < (Ln x0 : Int))) = false] := by kernel_rfl
theorem p31_e_2 (a0 : List Val) : rE I31 (xCT a0) [] [] = st 3 I31 (S31_3 a0 (List.replicate (tN (Ln a0 : Int)) vd) 0) [(0 : Int) ≤ (Ln a0 : Int) ∧ (Ln a0 : Int) = (Ln a0 : Int) ∧ (Ln a0 : Int) ≤ Lim] := by kernel_rfl
theorem c31_3 {N : Nat} {q0 : Val → Option (Val)} (g0 : G9 q0) {q1 : (List Val) → Option ((List Val))} (g1 : G31 q1) : ∀ n x0 x3 x4 r, xDH N q0 q1 n x0 x3 x4 = some r → RS Tryd.f31 I31 3 (S31_3 x0 x3 x4) (xBT r) := by
 intro n
 induction n with
 | zero => exact fun _ _ _ _ h => nE h
 | succ n ih =>
  exact fun x0 x3 x4 r h =>
   cE h (fun h0 h => iE h fun h1 h => bE h fun r1 h2 h => iE h fun h3 h => tS fk31 (p31_3_0 x0 x3 x4 r1) (oc h0 (oc h1 (oc (g0 _ _ h2) (oc h3 on)))) (ih _ _ _ _ h)) fun h0 h =>
   dS h fk31 (p31_3_1 x0 x3 x4) (oc h0 on)
theorem c31_e {N : Nat} {q0 : Val → Option (Val)} (g0 : G9 q0) {q1 : (List Val) → Option ((List Val))} (g1 : G31 q1) : ∀ a0 r, xCv N q0 q1 a0 = some r → RE Tryd.f31 I31 (xCT a0) (xBT r) := fun a0 r h =>
 iE h fun h0 h => tE fk31 (p31_e_2 a0) (oc h0 on) (c31_3 g0 g1 _ _ _ _ _ h)
theorem xFH {N : Nat} {q0 : Val → Option (Val)} (g0 : G9 q0) {q1 : (List Val) → Option ((List Val))} (g1 : G31 q1) {a0 : List Val} {r : (List Val)} (h : xCv N q0 q1 a0 = some r) : AbC 31 (xCT a0) (xBT r) :=
 AbsCalls.of_reach fk31 rfl rfl (Nat.le_of_ble_eq_true rfl) (c31_e g0 g1 a0 r h)
theorem xF5 {N : Nat} : ∀ d, G9 (xAq N d).c_laws_toValue ∧ G31 (xAq N d).c_laws_toValueS := by
 intro d
 induction d with
 | zero => exact ⟨fun _ _ h => nE h, fun _ _ h => nE h⟩
 | succ d ih =>
  obtain ⟨ih0, ih1⟩ := ih
  exact ⟨fun _ _ h => xFQ (N := N) ih0 ih1 h, fun _ _ h => xFH (N := N) ih0 ih1 h⟩
theorem xBN {N : Nat} {a0 : Val} {r : Val} (h : xEp N a0 = some r) : AbC 9 (xAI a0) (xAi r) := (xF5 N).1 _ r h
noncomputable def I68 : Info := { body := (Tryd.f68.body).getD .skip, nt := 15, results := [.tmp 6], keep := [0, 2, 4, 12], live := [], modes := [(1, [(3, .take, false)])] }
theorem fk68 : FnOk Tryd.prog 68 Tryd.f68 I68 := ⟨Tryd.func68, by kernel_rfl, by kernel_rfl, by kernel_rfl, by kernel_rfl⟩
theorem p68_e_0 (a0 a1 a2 : Int) : rE I68 (xB2 a0 a1 a2) [Y] [] = dn (xA2 (decide ((a0 : Int) ≤ a2))) [(decide ((a0 : Int) ≥ a1)) = true] := by kernel_rfl
theorem p68_e_1 (a0 a1 a2 : Int) : rE I68 (xB2 a0 a1 a2) [F] [] = dn (xA2 false) [(decide ((a0 : Int) ≥ a1)) = false] := by kernel_rfl
theorem c68_e {N : Nat} : ∀ a0 a1 a2 r, xEr N a0 a1 a2 = some r → RE Tryd.f68 I68 (xB2 a0 a1 a2) (xA2 r) := fun a0 a1 a2 r h =>
 cE h (fun h0 h => dE h fk68 (p68_e_0 a0 a1 a2) (oc h0 on)) fun h0 h =>
 dE h fk68 (p68_e_1 a0 a1 a2) (oc h0 on)
theorem xDQ {N : Nat} {a0 : Int} {a1 : Int} {a2 : Int} {r : Bool} (h : xEr N  a0 a1 a2 = some r) : AbC 68 (xB2 a0 a1 a2) (xA2 r) :=
 AbsCalls.of_reach fk68 rfl rfl (Nat.le_of_ble_eq_true rfl) (c68_e a0 a1 a2 r h)
noncomputable def I98 : Info := { body := (Tryd.f98.body).getD .skip, nt := 5, results := [.tmp 2], keep := [0, 4], live := [], modes := [] }
theorem fk98 : FnOk Tryd.prog 98 Tryd.f98 I98 := ⟨Tryd.func98, by kernel_rfl, by kernel_rfl, by kernel_rfl, by kernel_rfl⟩
theorem p98_e_0 (a0 : Int) (r1 : Bool) : rE I98 (xBl a0) [] [xA2 r1] = dn (xAy r1) [AbC 68 (xB2 a0 (-1000000000) 1000000000) (xA2 r1)] := by kernel_rfl
theorem c98_e {N : Nat} : ∀ a0 r, xCy N a0 = some r → RE Tryd.f98 I98 (xBl a0) (xAy r) := fun a0 r h =>
 bE h fun r1 h0 h => dE h fk98 (p98_e_0 a0 r1) (oc (xDQ h0) on)
theorem xCs {N : Nat} {a0 : Int} {r : Bool} (h : xCy N  a0 = some r) : AbC 98 (xBl a0) (xAy r) :=
 AbsCalls.of_reach fk98 rfl rfl (Nat.le_of_ble_eq_true rfl) (c98_e a0 r h)
noncomputable def I99 : Info := { body := (Tryd.f99.body).getD .skip, nt := 29, results := [.tmp 2], keep := [0, 4, 6, 14, 50], live := [(2, [0, 6])], modes := [(4, [(4, .take, false), (10, .take, false)])] }
theorem fk99 : FnOk Tryd.prog 99 Tryd.f99 I99 := ⟨Tryd.func99, by kernel_rfl, by kernel_rfl, by kernel_rfl, by kernel_rfl⟩
def S99_2 (x0 : Str) (x3 : Int) : St := [(0, .v false [.str x0]), (6, .v false [.int .i64 x3])]
theorem p99_2_0 (x0 : Str) (x3 : Int) : rS 2 I99 (S99_2 x0 x3) [Y, Y, Y, Y] [] = dn (xAW false) [(decide ((x3 : Int) < (Ln x0 : Int))) = true, (0 : Int) ≤ x3 ∧ x3 < (Ln x0), (decide ((((gD x0 (tN x3) 0).toNat : Int) : Int) < 32)) = true, true = true, true = true] := by kernel_rfl
theorem p99_2_1 (x0 : Str) (x3 : Int) : rS 2 I99 (S99_2 x0 x3) [Y, F, Y, Y] [] = dn (xAW false) [(decide ((x3 : Int) < (Ln x0 : Int))) = true, (0 : Int) ≤ x3 ∧ x3 < (Ln x0), (decide ((((gD x0 (tN x3) 0).toNat : Int) : Int) < 32)) = false, (0 : Int) ≤ x3 ∧ x3 < (Ln x0), (decide ((((gD x0 (tN x3) 0).toNat : Int) : Int) > 126)) = true, true = true] := by kernel_rfl
theorem p99_2_2 (x0 : Str) (x3 : Int) : rS 2 I99 (S99_2 x0 x3) [Y, F, F, Y] [] = dn (xAW false) [(decide ((x3 : Int) < (Ln x0 : Int))) = true, (0 : Int) ≤ x3 ∧ x3 < (Ln x0), (decide ((((gD x0 (tN x3) 0).toNat : Int) : Int) < 32)) = false, (0 : Int) ≤ x3 ∧ x3 < (Ln x0), (decide ((((gD x0 (tN x3) 0).toNat : Int) : Int) > 126)) = false, (0 : Int) ≤ x3 ∧ x3 < (Ln x0), ((((gD x0 (tN x3) 0).toNat : Int) : Int) == 34) = true] := by kernel_rfl
theorem p99_2_3 (x0 : Str) (x3 : Int) : rS 2 I99 (S99_2 x0 x3) [Y, F, F, F] [] = st 2 I99 (S99_2 x0 (W (x3 + 1))) [(decide ((x3 : Int) < (Ln x0 : Int))) = true, (0 : Int) ≤ x3 ∧ x3 < (Ln x0), (decide ((((gD x0 (tN x3) 0).toNat : Int) : Int) < 32)) = false, (0 : Int) ≤ x3 ∧ x3 < (Ln x0), (decide ((((gD x0 (tN x3) 0).toNat : Int) : Int) > 126)) = false, (0 : Int) ≤ x3 ∧ x3 < (Ln x0), ((((gD x0 (tN x3) 0).toNat : Int) : Int) == 34) = false] := by kernel_rfl
theorem p99_2_4 (x0 : Str) (x3 : Int) : rS 2 I99 (S99_2 x0 x3) [F] [] = dn (xAW (decide (((Ln x0 : Int) : Int) ≤ 20))) [(decide ((x3 : Int) < (Ln x0 : Int))) = false] := by kernel_rfl
theorem p99_e_5 (a0 : Str) : rE I99 (xCP a0) [] [] = st 2 I99 (S99_2 a0 0) [] := by kernel_rfl
theorem c99_2 {N : Nat} : ∀ n x0 x3 r, xA4 N n x0 x3 = some r → RS Tryd.f99 I99 2 (S99_2 x0 x3) (xAW r) := by
 intro n
 induction n with
 | zero => exact fun _ _ _ h => nE h
 | succ n ih =>
  exact fun x0 x3 r h =>
   cE h (fun h0 h => iE h fun h1 h => cE h (fun h2 h => dS h fk99 (p99_2_0 x0 x3) (oc h0 (oc h1 (oc h2 (oc rfl (oc rfl on)))))) fun h2 h =>
   cE h (fun h4 h => dS h fk99 (p99_2_1 x0 x3) (oc h0 (oc h1 (oc h2 (oc h1 (oc h4 (oc rfl on))))))) fun h4 h =>
   cE h (fun h6 h => dS h fk99 (p99_2_2 x0 x3) (oc h0 (oc h1 (oc h2 (oc h1 (oc h4 (oc h1 (oc h6 on)))))))) fun h6 h =>
   tS fk99 (p99_2_3 x0 x3) (oc h0 (oc h1 (oc h2 (oc h1 (oc h4 (oc h1 (oc h6 on))))))) (ih _ _ _ h)) fun h0 h =>
   dS h fk99 (p99_2_4 x0 x3) (oc h0 on)
theorem c99_e {N : Nat} : ∀ a0 r, xDJ N a0 = some r → RE Tryd.f99 I99 (xCP a0) (xAW r) := fun a0 r h =>
 tE fk99 (p99_e_5 a0) on (c99_2 _ _ _ _ h)
theorem xGb {N : Nat} {a0 : Str} {r : Bool} (h : xDJ N  a0 = some r) : AbC 99 (xCP a0) (xAW r) :=
 AbsCalls.of_reach fk99 rfl rfl (Nat.le_of_ble_eq_true rfl) (c99_e a0 r h)
noncomputable def I125 : Info := { body := (Tryd.f125.body).getD .skip, nt := 16, results := [.tmp 2], keep := [0, 2, 4, 3], live := [], modes := [(1, [(3, .take, false), (8, .take, false)])] }
theorem fk125 : FnOk Tryd.prog 125 Tryd.f125 I125 := ⟨Tryd.func125, by kernel_rfl, by kernel_rfl, by kernel_rfl, by kernel_rfl⟩
theorem p125_e_0 (a0 : Val) : rE I125 (xBu a0) [Y, Y] [] = dn (xAO true) [(((Val.kind a0) : Int) == 1) = true, true = true] := by kernel_rfl
theorem p125_e_1 (a0 : Val) : rE I125 (xBu a0) [F, Y] [] = dn (xAO true) [(((Val.kind a0) : Int) == 1) = false, (((Val.kind a0) : Int) == 2) = true] := by kernel_rfl
theorem p125_e_2 (a0 : Val) : rE I125 (xBu a0) [F, F] [] = dn (xAO (((Val.kind a0) : Int) == 3)) [(((Val.kind a0) : Int) == 1) = false, (((Val.kind a0) : Int) == 2) = false] := by kernel_rfl
theorem c125_e {N : Nat} : ∀ a0 r, xEl N a0 = some r → RE Tryd.f125 I125 (xBu a0) (xAO r) := fun a0 r h =>
 cE h (fun h0 h => dE h fk125 (p125_e_0 a0) (oc h0 (oc rfl on))) fun h0 h =>
 cE h (fun h1 h => dE h fk125 (p125_e_1 a0) (oc h0 (oc h1 on))) fun h1 h =>
 dE h fk125 (p125_e_2 a0) (oc h0 (oc h1 on))
theorem xEb {N : Nat} {a0 : Val} {r : Bool} (h : xEl N  a0 = some r) : AbC 125 (xBu a0) (xAO r) :=
 AbsCalls.of_reach fk125 rfl rfl (Nat.le_of_ble_eq_true rfl) (c125_e a0 r h)
noncomputable def I122 : Info := { body := (Tryd.f122.body).getD .skip, nt := 10, results := [.tmp 4], keep := [0, 2, 8, 14], live := [], modes := [] }
theorem fk122 : FnOk Tryd.prog 122 Tryd.f122 I122 := ⟨Tryd.func122, by kernel_rfl, by kernel_rfl, by kernel_rfl, by kernel_rfl⟩
theorem p122_e_0 (a0 a1 : Int) : rE I122 (xD0 a0 a1) [Y] [] = dn (xDr a0) [(decide ((a0 : Int) > a1)) = true] := by kernel_rfl
theorem p122_e_1 (a0 a1 : Int) : rE I122 (xD0 a0 a1) [F] [] = dn (xDr a1) [(decide ((a0 : Int) > a1)) = false] := by kernel_rfl
theorem c122_e {N : Nat} : ∀ a0 a1 r, xFg N a0 a1 = some r → RE Tryd.f122 I122 (xD0 a0 a1) (xDr r) := fun a0 a1 r h =>
 cE h (fun h0 h => dE h fk122 (p122_e_0 a0 a1) (oc h0 on)) fun h0 h =>
 dE h fk122 (p122_e_1 a0 a1) (oc h0 on)
theorem spec_l1Max_ok {N : Nat} {a0 : Int} {a1 : Int} {r : Int} (h : xFg N  a0 a1 = some r) : AbC 122 (xD0 a0 a1) (xDr r) :=
 AbsCalls.of_reach fk122 rfl rfl (Nat.le_of_ble_eq_true rfl) (c122_e a0 a1 r h)
def G126 (q : Val → Option (Int)) : Prop := ∀ a0 r, q a0 = some r → AbC 126 (xCk a0) (xBd r)
noncomputable def I126 : Info := { body := (Tryd.f126.body).getD .skip, nt := 22, results := [.tmp 2], keep := [0, 2, 4, 6, 8, 18, 3], live := [(3, [2, 6, 8, 3])], modes := [] }
theorem fk126 : FnOk Tryd.prog 126 Tryd.f126 I126 := ⟨Tryd.func126, by kernel_rfl, by kernel_rfl, by kernel_rfl, by kernel_rfl⟩
def S126_3 (x3 x4 : Int) (b1 : Val) : St := [(2, .v false [.ptr 1 0]), (6, .v false [.int .i64 x3]), (8, .v false [.int .i64 x4]), (3, .v true [.int .i64 (Val.kind b1), .int .i64 (Val.n b1), .int .i64 (Val.step b1), .str (Val.text b1), .sl .ro .val (Val.list b1), .sl .ro .str (Val.columns b1), .sl .ro .row (Val.rows b1)])]
theorem p126_3_0 (x3 x4 : Int) (b1 : Val) (r1 r2 : Int) : rS 3 I126 (S126_3 x3 x4 b1) [Y] [xBd r1, xDr r2] = st 3 I126 (S126_3 r2 (W (x4 + 1)) b1) [(decide ((x4 : Int) < (Ln (Val.list b1) : Int))) = true, (0 : Int) ≤ x4 ∧ x4 < (Ln (Val.list b1)), AbC 126 (xCk (gD (Val.list b1) (tN x4) vd)) (xBd r1), AbC 122 (xD0 x3 r1) (xDr r2)] := by kernel_rfl
theorem p126_3_1 (x3 x4 : Int) (b1 : Val) : rS 3 I126 (S126_3 x3 x4 b1) [F] [] = dn (xBd (W (x3 + 1))) [(decide ((x4 : Int) < (Ln (Val.list b1) : Int))) = false] := by kernel_rfl
theorem p126_e_2 (a0 : Val) : rE I126 (xCk a0) [] [] = st 3 I126 (S126_3 0 0 a0) [] := by kernel_rfl
theorem c126_3 {N : Nat} {q0 : Val → Option (Int)} (g0 : G126 q0) : ∀ n x3 x4 b1 r, xCF N q0 n x3 x4 b1 = some r → RS Tryd.f126 I126 3 (S126_3 x3 x4 b1) (xBd r) := by
 intro n
 induction n with
 | zero => exact fun _ _ _ _ h => nE h
 | succ n ih =>
  exact fun x3 x4 b1 r h =>
   cE h (fun h0 h => iE h fun h1 h => bE h fun r1 h2 h => bE h fun r2 h3 h => tS fk126 (p126_3_0 x3 x4 b1 r1 r2) (oc h0 (oc h1 (oc (g0 _ _ h2) (oc (spec_l1Max_ok h3) on)))) (ih _ _ _ _ h)) fun h0 h =>
   dS h fk126 (p126_3_1 x3 x4 b1) (oc h0 on)
theorem c126_e {N : Nat} {q0 : Val → Option (Int)} (g0 : G126 q0) : ∀ a0 r, xD9 N q0 a0 = some r → RE Tryd.f126 I126 (xCk a0) (xBd r) := fun a0 r h =>
 tE fk126 (p126_e_2 a0) on (c126_3 g0 _ _ _ _ _ h)
theorem xFR {N : Nat} {q0 : Val → Option (Int)} (g0 : G126 q0) {a0 : Val} {r : Int} (h : xD9 N q0 a0 = some r) : AbC 126 (xCk a0) (xBd r) :=
 AbsCalls.of_reach fk126 rfl rfl (Nat.le_of_ble_eq_true rfl) (c126_e g0 a0 r h)
theorem xEJ {N : Nat} : ∀ d, G126 (xBU N d)
 | 0 => fun _ _ h => nE h
 | d + 1 => fun _ _ h => xFR (N := N) (xEJ d) h
theorem spec_DepthOf_ok {N : Nat} {a0 : Val} {r : Int} (h : xET N a0 = some r) : AbC 126 (xCk a0) (xBd r) := xEJ N _ r h
noncomputable def I113 : Info := { body := (Tryd.f113.body).getD .skip, nt := 45, results := [.tmp 2], keep := [0, 4, 6, 8, 10, 18, 82], live := [(2, [0, 6])], modes := [(4, [(4, .take, false)]), (5, [(4, .take, false)]), (6, [(0, .take, false), (2, .take, false), (5, .take, false), (6, .take, false)])] }
theorem xFW : FnOk Tryd.prog 113 Tryd.f113 I113 := ⟨Tryd.func113, by kernel_rfl, by kernel_rfl, by kernel_rfl, by kernel_rfl⟩
def xDR (x0 : Str) (x3 : Int) : St := [(0, .v false [.str x0]), (6, .v false [.int .i64 x3])]
theorem p113_2_0 (x0 : Str) (x3 : Int) : rS 2 I113 (xDR x0 x3) [Y, Y, Y, Y, Y, Y] [] = dn (xAr false) [(decide ((x3 : Int) < (Ln x0 : Int))) = true, (0 : Int) ≤ x3 ∧ x3 < (Ln x0), (decide ((((gD x0 (tN x3) 0).toNat : Int) : Int) ≥ 97)) = true, (0 : Int) ≤ x3 ∧ x3 < (Ln x0), (0 : Int) ≤ x3 ∧ x3 < (Ln x0), (decide ((((gD x0 (tN x3) 0).toNat : Int) : Int) ≥ 48)) = true, (0 : Int) ≤ x3 ∧ x3 < (Ln x0), (!(decide ((((gD x0 (tN x3) 0).toNat : Int) : Int) ≤ 122))) = true, ((x3 : Int) == 0) = true, true = true] := by kernel_rfl
theorem p113_2_1 (x0 : Str) (x3 : Int) : rS 2 I113 (xDR x0 x3) [Y, Y, Y, Y, F, Y] [] = dn (xAr false) [(decide ((x3 : Int) < (Ln x0 : Int))) = true, (0 : Int) ≤ x3 ∧ x3 < (Ln x0), (decide ((((gD x0 (tN x3) 0).toNat : Int) : Int) ≥ 97)) = true, (0 : Int) ≤ x3 ∧ x3 < (Ln x0), (0 : Int) ≤ x3 ∧ x3 < (Ln x0), (decide ((((gD x0 (tN x3) 0).toNat : Int) : Int) ≥ 48)) = true, (0 : Int) ≤ x3 ∧ x3 < (Ln x0), (!(decide ((((gD x0 (tN x3) 0).toNat : Int) : Int) ≤ 122))) = true, ((x3 : Int) == 0) = false, (!(decide ((((gD x0 (tN x3) 0).toNat : Int) : Int) ≤ 57))) = true] := by kernel_rfl
theorem p113_2_2 (x0 : Str) (x3 : Int) : rS 2 I113 (xDR x0 x3) [Y, Y, Y, Y, F, F] [] = st 2 I113 (xDR x0 (W (x3 + 1))) [(decide ((x3 : Int) < (Ln x0 : Int))) = true, (0 : Int) ≤ x3 ∧ x3 < (Ln x0), (decide ((((gD x0 (tN x3) 0).toNat : Int) : Int) ≥ 97)) = true, (0 : Int) ≤ x3 ∧ x3 < (Ln x0), (0 : Int) ≤ x3 ∧ x3 < (Ln x0), (decide ((((gD x0 (tN x3) 0).toNat : Int) : Int) ≥ 48)) = true, (0 : Int) ≤ x3 ∧ x3 < (Ln x0), (!(decide ((((gD x0 (tN x3) 0).toNat : Int) : Int) ≤ 122))) = true, ((x3 : Int) == 0) = false, (!(decide ((((gD x0 (tN x3) 0).toNat : Int) : Int) ≤ 57))) = false] := by kernel_rfl
theorem p113_2_3 (x0 : Str) (x3 : Int) : rS 2 I113 (xDR x0 x3) [Y, Y, Y, F, F] [] = st 2 I113 (xDR x0 (W (x3 + 1))) [(decide ((x3 : Int) < (Ln x0 : Int))) = true, (0 : Int) ≤ x3 ∧ x3 < (Ln x0), (decide ((((gD x0 (tN x3) 0).toNat : Int) : Int) ≥ 97)) = true, (0 : Int) ≤ x3 ∧ x3 < (Ln x0), (0 : Int) ≤ x3 ∧ x3 < (Ln x0), (decide ((((gD x0 (tN x3) 0).toNat : Int) : Int) ≥ 48)) = true, (0 : Int) ≤ x3 ∧ x3 < (Ln x0), (!(decide ((((gD x0 (tN x3) 0).toNat : Int) : Int) ≤ 122))) = false, false = false] := by kernel_rfl
theorem p113_2_4 (x0 : Str) (x3 : Int) : rS 2 I113 (xDR x0 x3) [Y, Y, F, Y, Y, Y] [] = dn (xAr false) [(decide ((x3 : Int) < (Ln x0 : Int))) = true, (0 : Int) ≤ x3 ∧ x3 < (Ln x0), (decide ((((gD x0 (tN x3) 0).toNat : Int) : Int) ≥ 97)) = true, (0 : Int) ≤ x3 ∧ x3 < (Ln x0), (0 : Int) ≤ x3 ∧ x3 < (Ln x0), (decide ((((gD x0 (tN x3) 0).toNat : Int) : Int) ≥ 48)) = false, (!(decide ((((gD x0 (tN x3) 0).toNat : Int) : Int) ≤ 122))) = true, ((x3 : Int) == 0) = true, true = true] := by kernel_rfl
theorem p113_2_5 (x0 : Str) (x3 : Int) : rS 2 I113 (xDR x0 x3) [Y, Y, F, Y, F, Y] [] = dn (xAr false) [(decide ((x3 : Int) < (Ln x0 : Int))) = true, (0 : Int) ≤ x3 ∧ x3 < (Ln x0), (decide ((((gD x0 (tN x3) 0).toNat : Int) : Int) ≥ 97)) = true, (0 : Int) ≤ x3 ∧ x3 < (Ln x0), (0 : Int) ≤ x3 ∧ x3 < (Ln x0), (decide ((((gD x0 (tN x3) 0).toNat : Int) : Int) ≥ 48)) = false, (!(decide ((((gD x0 (tN x3) 0).toNat : Int) : Int) ≤ 122))) = true, ((x3 : Int) == 0) = false, (!false) = true] := by kernel_rfl
theorem p113_2_6 (x0 : Str) (x3 : Int) : rS 2 I113 (xDR x0 x3) [Y, Y, F, F, F] [] = st 2 I113 (xDR x0 (W (x3 + 1))) [(decide ((x3 : Int) < (Ln x0 : Int))) = true, (0 : Int) ≤ x3 ∧ x3 < (Ln x0), (decide ((((gD x0 (tN x3) 0).toNat : Int) : Int) ≥ 97)) = true, (0 : Int) ≤ x3 ∧ x3 < (Ln x0), (0 : Int) ≤ x3 ∧ x3 < (Ln x0), (decide ((((gD x0 (tN x3) 0).toNat : Int) : Int) ≥ 48)) = false, (!(decide ((((gD x0 (tN x3) 0).toNat : Int) : Int) ≤ 122))) = false, false = false] := by kernel_rfl
theorem p113_2_7 (x0 : Str) (x3 : Int) : rS 2 I113 (xDR x0 x3) [Y, F, Y, Y, Y, Y] [] = dn (xAr false) [(decide ((x3 : Int) < (Ln x0 : Int))) = true, (0 : Int) ≤ x3 ∧ x3 < (Ln x0), (decide ((((gD x0 (tN x3) 0).toNat : Int) : Int) ≥ 97)) = false, (0 : Int) ≤ x3 ∧ x3 < (Ln x0), (decide ((((gD x0 (tN x3) 0).toNat : Int) : Int) ≥ 48)) = true, (0 : Int) ≤ x3 ∧ x3 < (Ln x0), (!false) = true, ((x3 : Int) == 0) = true, true = true] := by kernel_rfl
theorem p113_2_8 (x0 : Str) (x3 : Int) : rS 2 I113 (xDR x0 x3) [Y, F, Y, Y, F, Y] [] = dn (xAr false) [(decide ((x3 : Int) < (Ln x0 : Int))) = true, (0 : Int) ≤ x3 ∧ x3 < (Ln x0), (decide ((((gD x0 (tN x3) 0).toNat : Int) : Int) ≥ 97)) = false, (0 : Int) ≤ x3 ∧ x3 < (Ln x0), (decide ((((gD x0 (tN x3) 0).toNat : Int) : Int) ≥ 48)) = true, (0 : Int) ≤ x3 ∧ x3 < (Ln x0), (!false) = true, ((x3 : Int) == 0) = false, (!(decide ((((gD x0 (tN x3) 0).toNat : Int) : Int) ≤ 57))) = true] := by kernel_rfl
theorem p113_2_9 (x0 : Str) (x3 : Int) : rS 2 I113 (xDR x0 x3) [Y, F, Y, Y, F, F] [] = st 2 I113 (xDR x0 (W (x3 + 1))) [(decide ((x3 : Int) < (Ln x0 : Int))) = true, (0 : Int) ≤ x3 ∧ x3 < (Ln x0), (decide ((((gD x0 (tN x3) 0).toNat : Int) : Int) ≥ 97)) = false, (0 : Int) ≤ x3 ∧ x3 < (Ln x0), (decide ((((gD x0 (tN x3) 0).toNat : Int) : Int) ≥ 48)) = true, (0 : Int) ≤ x3 ∧ x3 < (Ln x0), (!false) = true, ((x3 : Int) == 0) = false, (!(decide ((((gD x0 (tN x3) 0).toNat : Int) : Int) ≤ 57))) = false] := by kernel_rfl
theorem p113_2_10 (x0 : Str) (x3 : Int) : rS 2 I113 (xDR x0 x3) [Y, F, F, Y, Y, Y] [] = dn (xAr false) [(decide ((x3 : Int) < (Ln x0 : Int))) = true, (0 : Int) ≤ x3 ∧ x3 < (Ln x0), (decide ((((gD x0 (tN x3) 0).toNat : Int) : Int) ≥ 97)) = false, (0 : Int) ≤ x3 ∧ x3 < (Ln x0), (decide ((((gD x0 (tN x3) 0).toNat : Int) : Int) ≥ 48)) = false, (!false) = true, ((x3 : Int) == 0) = true, true = true] := by kernel_rfl
theorem p113_2_11 (x0 : Str) (x3 : Int) : rS 2 I113 (xDR x0 x3) [Y, F, F, Y, F, Y] [] = dn (xAr false) [(decide ((x3 : Int) < (Ln x0 : Int))) = true, (0 : Int) ≤ x3 ∧ x3 < (Ln x0), (decide ((((gD x0 (tN x3) 0).toNat : Int) : Int) ≥ 97)) = false, (0 : Int) ≤ x3 ∧ x3 < (Ln x0), (decide ((((gD x0 (tN x3) 0).toNat : Int) : Int) ≥ 48)) = false, (!false) = true, ((x3 : Int) == 0) = false, (!false) = true] := by kernel_rfl
theorem p113_2_12 (x0 : Str) (x3 : Int) : rS 2 I113 (xDR x0 x3) [F] [] = dn (xAr (decide (((Ln x0 : Int) : Int) > 0))) [(decide ((x3 : Int) < (Ln x0 : Int))) = false] := by kernel_rfl
theorem p113_e_13 (a0 : Str) : rE I113 (xCH a0) [] [] = st 2 I113 (xDR a0 0) [] := by kernel_rfl
theorem c113_2 {N : Nat} : ∀ n x0 x3 r, xBe N n x0 x3 = some r → RS Tryd.f113 I113 2 (xDR x0 x3) (xAr r) := by
 intro n
 induction n with
 | zero => exact fun _ _ _ h => nE h
 | succ n ih =>
  exact fun x0 x3 r h =>
   cE h (fun h0 h => iE h fun h1 h => cE h (fun h2 h => cE h (fun h5 h => cE h (fun h7 h => cE h (fun h8 h => dS h xFW (p113_2_0 x0 x3) (oc h0 (oc h1 (oc h2 (oc h1 (oc h1 (oc h5 (oc h1 (oc h7 (oc h8 (oc rfl on))))))))))) fun h8 h =>
   cE h (fun h9 h => dS h xFW (p113_2_1 x0 x3) (oc h0 (oc h1 (oc h2 (oc h1 (oc h1 (oc h5 (oc h1 (oc h7 (oc h8 (oc h9 on))))))))))) fun h9 h =>
   tS xFW (p113_2_2 x0 x3) (oc h0 (oc h1 (oc h2 (oc h1 (oc h1 (oc h5 (oc h1 (oc h7 (oc h8 (oc h9 on)))))))))) (ih _ _ _ h)) fun h7 h =>
   tS xFW (p113_2_3 x0 x3) (oc h0 (oc h1 (oc h2 (oc h1 (oc h1 (oc h5 (oc h1 (oc h7 (oc rfl on))))))))) (ih _ _ _ h)) fun h5 h =>
   cE h (fun h6 h => cE h (fun h7 h => dS h xFW (p113_2_4 x0 x3) (oc h0 (oc h1 (oc h2 (oc h1 (oc h1 (oc h5 (oc h6 (oc h7 (oc rfl on)))))))))) fun h7 h =>
   dS h xFW (p113_2_5 x0 x3) (oc h0 (oc h1 (oc h2 (oc h1 (oc h1 (oc h5 (oc h6 (oc h7 (oc rfl on)))))))))) fun h6 h =>
   tS xFW (p113_2_6 x0 x3) (oc h0 (oc h1 (oc h2 (oc h1 (oc h1 (oc h5 (oc h6 (oc rfl on)))))))) (ih _ _ _ h)) fun h2 h =>
   cE h (fun h4 h => cE h (fun h7 h => dS h xFW (p113_2_7 x0 x3) (oc h0 (oc h1 (oc h2 (oc h1 (oc h4 (oc h1 (oc rfl (oc h7 (oc rfl on)))))))))) fun h7 h =>
   cE h (fun h8 h => dS h xFW (p113_2_8 x0 x3) (oc h0 (oc h1 (oc h2 (oc h1 (oc h4 (oc h1 (oc rfl (oc h7 (oc h8 on)))))))))) fun h8 h =>
   tS xFW (p113_2_9 x0 x3) (oc h0 (oc h1 (oc h2 (oc h1 (oc h4 (oc h1 (oc rfl (oc h7 (oc h8 on))))))))) (ih _ _ _ h)) fun h4 h =>
   cE h (fun h6 h => dS h xFW (p113_2_10 x0 x3) (oc h0 (oc h1 (oc h2 (oc h1 (oc h4 (oc rfl (oc h6 (oc rfl on))))))))) fun h6 h =>
   dS h xFW (p113_2_11 x0 x3) (oc h0 (oc h1 (oc h2 (oc h1 (oc h4 (oc rfl (oc h6 (oc rfl on))))))))) fun h0 h =>
   dS h xFW (p113_2_12 x0 x3) (oc h0 on)
theorem c113_e {N : Nat} : ∀ a0 r, xEX N a0 = some r → RE Tryd.f113 I113 (xCH a0) (xAr r) := fun a0 r h =>
 tE xFW (p113_e_13 a0) on (c113_2 _ _ _ _ h)
theorem xEM {N : Nat} {a0 : Str} {r : Bool} (h : xEX N  a0 = some r) : AbC 113 (xCH a0) (xAr r) :=
 AbsCalls.of_reach xFW rfl rfl (Nat.le_of_ble_eq_true rfl) (c113_e a0 r h)
noncomputable def I134 : Info := { body := (Tryd.f134.body).getD .skip, nt := 2, results := [.tmp 0], keep := [0], live := [], modes := [] }
theorem fk134 : FnOk Tryd.prog 134 Tryd.f134 I134 := ⟨Tryd.func134, by kernel_rfl, by kernel_rfl, by kernel_rfl, by kernel_rfl⟩
theorem p134_e_0 : rE I134 (xC6 ) [] [] = dn (xCx [[108, 101, 116], [105, 110], [105, 102], [116, 104, 101, 110], [101, 108, 115, 101], [102, 111, 114], [100, 111], [108, 101, 110], [115, 117, 109], [116, 97, 107, 101], [115, 107, 105, 112], [114, 97, 110, 103, 101], [110, 116, 104], [119, 104, 101, 114, 101], [107, 101, 101, 112], [97, 100, 100], [103, 114, 111, 117, 112], [106, 111, 105, 110], [99, 111, 108, 117, 109, 110], [114, 111, 119, 115], [99, 108, 111, 99, 107], [99, 104, 97, 110, 99, 101], [102, 105, 108, 101], [116, 97, 98, 108, 101]]) [] := by kernel_rfl
theorem c134_e {N : Nat} : ∀ r, xD1 N = some r → RE Tryd.f134 I134 (xC6 ) (xCx r) := fun r h =>
 dE h fk134 (p134_e_0) on
theorem spec_l2Reserved_ok {N : Nat} {r : (List Str)} (h : xD1 N   = some r) : AbC 134 (xC6 ) (xCx r) :=
 AbsCalls.of_reach fk134 rfl rfl (Nat.le_of_ble_eq_true rfl) (c134_e  r h)
noncomputable def I81 : Info := { body := (Tryd.f81.body).getD .skip, nt := 18, results := [.tmp 4], keep := [0, 2, 8, 10, 18, 34], live := [(2, [0, 2, 10])], modes := [] }
theorem fk81 : FnOk Tryd.prog 81 Tryd.f81 I81 := ⟨Tryd.func81, by kernel_rfl, by kernel_rfl, by kernel_rfl, by kernel_rfl⟩
def S81_2 (x0 : List Str) (x1 : Str) (x5 : Int) : St := [(0, .v false [.sl .ro .str x0]), (2, .v false [.str x1]), (10, .v false [.int .i64 x5])]
theorem p81_2_0 (x0 : List Str) (x1 : Str) (x5 : Int) : rS 2 I81 (S81_2 x0 x1 x5) [Y, Y] [] = dn (xBB true) [(decide ((x5 : Int) < (Ln x0 : Int))) = true, (0 : Int) ≤ x5 ∧ x5 < (Ln x0), (((gD x0 (tN x5) Ty.str.dflt) : Str) == x1) = true] := by kernel_rfl
theorem p81_2_1 (x0 : List Str) (x1 : Str) (x5 : Int) : rS 2 I81 (S81_2 x0 x1 x5) [Y, F] [] = st 2 I81 (S81_2 x0 x1 (W (x5 + 1))) [(decide ((x5 : Int) < (Ln x0 : Int))) = true, (0 : Int) ≤ x5 ∧ x5 < (Ln x0), (((gD x0 (tN x5) Ty.str.dflt) : Str) == x1) = false] := by kernel_rfl
theorem p81_2_2 (x0 : List Str) (x1 : Str) (x5 : Int) : rS 2 I81 (S81_2 x0 x1 x5) [F] [] = dn (xBB false) [(decide ((x5 : Int) < (Ln x0 : Int))) = false] := by kernel_rfl
theorem p81_e_3 (a0 : List Str) (a1 : Str) : rE I81 (xDq a0 a1) [] [] = st 2 I81 (S81_2 a0 a1 0) [] := by kernel_rfl
theorem c81_2 {N : Nat} : ∀ n x0 x1 x5 r, xCQ N n x0 x1 x5 = some r → RS Tryd.f81 I81 2 (S81_2 x0 x1 x5) (xBB r) := by
 intro n
 induction n with
 | zero => exact fun _ _ _ _ h => nE h
 | succ n ih =>
  exact fun x0 x1 x5 r h =>
   cE h (fun h0 h => iE h fun h1 h => cE h (fun h2 h => dS h fk81 (p81_2_0 x0 x1 x5) (oc h0 (oc h1 (oc h2 on)))) fun h2 h =>
   tS fk81 (p81_2_1 x0 x1 x5) (oc h0 (oc h1 (oc h2 on))) (ih _ _ _ _ h)) fun h0 h =>
   dS h fk81 (p81_2_2 x0 x1 x5) (oc h0 on)
theorem c81_e {N : Nat} : ∀ a0 a1 r, xFf N a0 a1 = some r → RE Tryd.f81 I81 (xDq a0 a1) (xBB r) := fun a0 a1 r h =>
 tE fk81 (p81_e_3 a0 a1) on (c81_2 _ _ _ _ _ h)
theorem xFo {N : Nat} {a0 : List Str} {a1 : Str} {r : Bool} (h : xFf N  a0 a1 = some r) : AbC 81 (xDq a0 a1) (xBB r) :=
 AbsCalls.of_reach fk81 rfl rfl (Nat.le_of_ble_eq_true rfl) (c81_e a0 a1 r h)
noncomputable def I114 : Info := { body := (Tryd.f114.body).getD .skip, nt := 6, results := [.tmp 2], keep := [0, 4], live := [], modes := [] }
theorem fk114 : FnOk Tryd.prog 114 Tryd.f114 I114 := ⟨Tryd.func114, by kernel_rfl, by kernel_rfl, by kernel_rfl, by kernel_rfl⟩
theorem p114_e_0 (a0 : Str) (r1 : (List Str)) (r2 : Bool) : rE I114 (xC5 a0) [] [xCx r1, xBB r2] = dn (xCw r2) [AbC 134 xC6 (xCx r1), AbC 81 (xDq r1 a0) (xBB r2)] := by kernel_rfl
theorem c114_e {N : Nat} : ∀ a0 r, xDb N a0 = some r → RE Tryd.f114 I114 (xC5 a0) (xCw r) := fun a0 r h =>
 bE h fun r1 h0 h => bE h fun r2 h1 h => dE h fk114 (p114_e_0 a0 r1 r2) (oc (spec_l2Reserved_ok h0) (oc (xFo h1) on))
theorem spec_IsReserved_ok {N : Nat} {a0 : Str} {r : Bool} (h : xDb N  a0 = some r) : AbC 114 (xC5 a0) (xCw r) :=
 AbsCalls.of_reach fk114 rfl rfl (Nat.le_of_ble_eq_true rfl) (c114_e a0 r h)
noncomputable def I67 : Info := { body := (Tryd.f67.body).getD .skip, nt := 15, results := [.tmp 2], keep := [0, 4], live := [], modes := [(1, [(2, .take, false), (7, .take, false)])] }
theorem fk67 : FnOk Tryd.prog 67 Tryd.f67 I67 := ⟨Tryd.func67, by kernel_rfl, by kernel_rfl, by kernel_rfl, by kernel_rfl⟩
theorem p67_e_0 (a0 : Str) (r1 r2 : Bool) : rE I67 (xBr a0) [Y, Y] [xAr r1, xCw r2] = dn (xAV (!r2)) [AbC 113 (xCH a0) (xAr r1), r1 = true, (decide (((Ln a0 : Int) : Int) ≤ 8)) = true, AbC 114 (xC5 a0) (xCw r2)] := by kernel_rfl
theorem p67_e_1 (a0 : Str) (r1 : Bool) : rE I67 (xBr a0) [Y, F] [xAr r1] = dn (xAV false) [AbC 113 (xCH a0) (xAr r1), r1 = true, (decide (((Ln a0 : Int) : Int) ≤ 8)) = false] := by kernel_rfl
theorem p67_e_2 (a0 : Str) (r1 : Bool) : rE I67 (xBr a0) [F, F] [xAr r1] = dn (xAV false) [AbC 113 (xCH a0) (xAr r1), r1 = false, false = false] := by kernel_rfl
theorem c67_e {N : Nat} : ∀ a0 r, xCU N a0 = some r → RE Tryd.f67 I67 (xBr a0) (xAV r) := fun a0 r h =>
 bE h fun r1 h0 h => cE h (fun h1 h => cE h (fun h2 h => bE h fun r2 h3 h => dE h fk67 (p67_e_0 a0 r1 r2) (oc (xEM h0) (oc h1 (oc h2 (oc (spec_IsReserved_ok h3) on))))) fun h2 h =>
 dE h fk67 (p67_e_1 a0 r1) (oc (xEM h0) (oc h1 (oc h2 on)))) fun h1 h =>
 dE h fk67 (p67_e_2 a0 r1) (oc (xEM h0) (oc h1 (oc rfl on)))
theorem xEK {N : Nat} {a0 : Str} {r : Bool} (h : xCU N  a0 = some r) : AbC 67 (xBr a0) (xAV r) :=
 AbsCalls.of_reach fk67 rfl rfl (Nat.le_of_ble_eq_true rfl) (c67_e a0 r h)
noncomputable def I48 : Info := { body := (Tryd.f48.body).getD .skip, nt := 18, results := [.tmp 2], keep := [0, 4, 6, 14, 34], live := [(2, [0, 6])], modes := [] }
theorem fk48 : FnOk Tryd.prog 48 Tryd.f48 I48 := ⟨Tryd.func48, by kernel_rfl, by kernel_rfl, by kernel_rfl, by kernel_rfl⟩
def S48_2 (x0 : List Str) (x3 : Int) : St := [(0, .v false [.sl .ro .str x0]), (6, .v false [.int .i64 x3])]
theorem p48_2_0 (x0 : List Str) (x3 : Int) (r1 : Bool) : rS 2 I48 (S48_2 x0 x3) [Y, Y] [xBB r1] = dn (xBp false) [(decide ((x3 : Int) < (Ln x0 : Int))) = true, (0 : Int) ≤ x3 ∧ x3 ≤ (Ln x0), (0 : Int) ≤ x3 ∧ x3 < (Ln x0), AbC 81 (xDq (List.take (tN x3) x0) (gD x0 (tN x3) Ty.str.dflt)) (xBB r1), r1 = true] := by kernel_rfl
theorem p48_2_1 (x0 : List Str) (x3 : Int) (r1 : Bool) : rS 2 I48 (S48_2 x0 x3) [Y, F] [xBB r1] = st 2 I48 (S48_2 x0 (W (x3 + 1))) [(decide ((x3 : Int) < (Ln x0 : Int))) = true, (0 : Int) ≤ x3 ∧ x3 ≤ (Ln x0), (0 : Int) ≤ x3 ∧ x3 < (Ln x0), AbC 81 (xDq (List.take (tN x3) x0) (gD x0 (tN x3) Ty.str.dflt)) (xBB r1), r1 = false] := by kernel_rfl
theorem p48_2_2 (x0 : List Str) (x3 : Int) : rS 2 I48 (S48_2 x0 x3) [F] [] = dn (xBp true) [(decide ((x3 : Int) < (Ln x0 : Int))) = false] := by kernel_rfl
theorem p48_e_3 (a0 : List Str) : rE I48 (xCO a0) [] [] = st 2 I48 (S48_2 a0 0) [] := by kernel_rfl
theorem c48_2 {N : Nat} : ∀ n x0 x3 r, xBo N n x0 x3 = some r → RS Tryd.f48 I48 2 (S48_2 x0 x3) (xBp r) := by
 intro n
 induction n with
 | zero => exact fun _ _ _ h => nE h
 | succ n ih =>
  exact fun x0 x3 r h =>
   cE h (fun h0 h => iE h fun h1 h => iE h fun h2 h => bE h fun r1 h3 h => cE h (fun h4 h => dS h fk48 (p48_2_0 x0 x3 r1) (oc h0 (oc h1 (oc h2 (oc (xFo h3) (oc h4 on)))))) fun h4 h =>
   tS fk48 (p48_2_1 x0 x3 r1) (oc h0 (oc h1 (oc h2 (oc (xFo h3) (oc h4 on))))) (ih _ _ _ h)) fun h0 h =>
   dS h fk48 (p48_2_2 x0 x3) (oc h0 on)
theorem c48_e {N : Nat} : ∀ a0 r, xDI N a0 = some r → RE Tryd.f48 I48 (xCO a0) (xBp r) := fun a0 r h =>
 tE fk48 (p48_e_3 a0) on (c48_2 _ _ _ _ h)
theorem xF8 {N : Nat} {a0 : List Str} {r : Bool} (h : xDI N  a0 = some r) : AbC 48 (xCO a0) (xBp r) :=
 AbsCalls.of_reach fk48 rfl rfl (Nat.le_of_ble_eq_true rfl) (c48_e a0 r h)
noncomputable def I28 : Info := { body := (Tryd.f28.body).getD .skip, nt := 23, results := [.tmp 2], keep := [0, 4, 6, 14, 30], live := [(2, [0, 6])], modes := [(6, [(3, .take, false)])] }
theorem fk28 : FnOk Tryd.prog 28 Tryd.f28 I28 := ⟨Tryd.func28, by kernel_rfl, by kernel_rfl, by kernel_rfl, by kernel_rfl⟩
def S28_2 (x0 : List Str) (x3 : Int) : St := [(0, .v false [.sl .ro .str x0]), (6, .v false [.int .i64 x3])]
theorem p28_2_0 (x0 : List Str) (x3 : Int) (r1 : Bool) : rS 2 I28 (S28_2 x0 x3) [Y, Y] [xAV r1] = dn (xAG false) [(decide ((x3 : Int) < (Ln x0 : Int))) = true, (0 : Int) ≤ x3 ∧ x3 < (Ln x0), AbC 67 (xBr (gD x0 (tN x3) Ty.str.dflt)) (xAV r1), (!r1) = true] := by kernel_rfl
theorem p28_2_1 (x0 : List Str) (x3 : Int) (r1 : Bool) : rS 2 I28 (S28_2 x0 x3) [Y, F] [xAV r1] = st 2 I28 (S28_2 x0 (W (x3 + 1))) [(decide ((x3 : Int) < (Ln x0 : Int))) = true, (0 : Int) ≤ x3 ∧ x3 < (Ln x0), AbC 67 (xBr (gD x0 (tN x3) Ty.str.dflt)) (xAV r1), (!r1) = false] := by kernel_rfl
theorem p28_2_2 (x0 : List Str) (x3 : Int) (r1 r2 : Bool) : rS 2 I28 (S28_2 x0 x3) [F, Y] [xA2 r1, xBp r2] = dn (xAG r2) [(decide ((x3 : Int) < (Ln x0 : Int))) = false, AbC 68 (xB2 (Ln x0 : Int) 1 4) (xA2 r1), r1 = true, AbC 48 (xCO x0) (xBp r2)] := by kernel_rfl
theorem p28_2_3 (x0 : List Str) (x3 : Int) (r1 : Bool) : rS 2 I28 (S28_2 x0 x3) [F, F] [xA2 r1] = dn (xAG false) [(decide ((x3 : Int) < (Ln x0 : Int))) = false, AbC 68 (xB2 (Ln x0 : Int) 1 4) (xA2 r1), r1 = false] := by kernel_rfl
theorem p28_e_4 (a0 : List Str) : rE I28 (xCc a0) [] [] = st 2 I28 (S28_2 a0 0) [] := by kernel_rfl
theorem c28_2 {N : Nat} : ∀ n x0 x3 r, xCd N n x0 x3 = some r → RS Tryd.f28 I28 2 (S28_2 x0 x3) (xAG r) := by
 intro n
 induction n with
 | zero => exact fun _ _ _ h => nE h
 | succ n ih =>
  exact fun x0 x3 r h =>
   cE h (fun h0 h => iE h fun h1 h => bE h fun r1 h2 h => cE h (fun h3 h => dS h fk28 (p28_2_0 x0 x3 r1) (oc h0 (oc h1 (oc (xEK h2) (oc h3 on))))) fun h3 h =>
   tS fk28 (p28_2_1 x0 x3 r1) (oc h0 (oc h1 (oc (xEK h2) (oc h3 on)))) (ih _ _ _ h)) fun h0 h =>
   bE h fun r1 h1 h => cE h (fun h2 h => bE h fun r2 h3 h => dS h fk28 (p28_2_2 x0 x3 r1 r2) (oc h0 (oc (xDQ h1) (oc h2 (oc (xF8 h3) on))))) fun h2 h =>
   dS h fk28 (p28_2_3 x0 x3 r1) (oc h0 (oc (xDQ h1) (oc h2 on)))
theorem c28_e {N : Nat} : ∀ a0 r, xEk N a0 = some r → RE Tryd.f28 I28 (xCc a0) (xAG r) := fun a0 r h =>
 tE fk28 (p28_e_4 a0) on (c28_2 _ _ _ _ h)
theorem xEa {N : Nat} {a0 : List Str} {r : Bool} (h : xEk N  a0 = some r) : AbC 28 (xCc a0) (xAG r) :=
 AbsCalls.of_reach fk28 rfl rfl (Nat.le_of_ble_eq_true rfl) (c28_e a0 r h)
noncomputable def I142 : Info := { body := (Tryd.f142.body).getD .skip, nt := 24, results := [.tmp 4], keep := [0, 2, 4, 6, 8, 5, 7], live := [], modes := [(1, [(5, .take, false), (11, .take, false)])] }
theorem fk142 : FnOk Tryd.prog 142 Tryd.f142 I142 := ⟨Tryd.func142, by kernel_rfl, by kernel_rfl, by kernel_rfl, by kernel_rfl⟩
theorem p142_e_0 (a0 a1 : Org) : rE I142 (xBV a0 a1) [Y] [] = dn (xBk true) [(decide (((Org.cell a0) : Int) < (Org.cell a1))) = true] := by kernel_rfl
theorem p142_e_1 (a0 a1 : Org) : rE I142 (xBV a0 a1) [F, Y] [] = dn (xBk (decide (((Org.row a0) : Int) < (Org.row a1)))) [(decide (((Org.cell a0) : Int) < (Org.cell a1))) = false, (((Org.cell a0) : Int) == (Org.cell a1)) = true] := by kernel_rfl
theorem p142_e_2 (a0 a1 : Org) : rE I142 (xBV a0 a1) [F, F] [] = dn (xBk false) [(decide (((Org.cell a0) : Int) < (Org.cell a1))) = false, (((Org.cell a0) : Int) == (Org.cell a1)) = false] := by kernel_rfl
theorem c142_e {N : Nat} : ∀ a0 a1 r, xD2 N a0 a1 = some r → RE Tryd.f142 I142 (xBV a0 a1) (xBk r) := fun a0 a1 r h =>
 cE h (fun h0 h => dE h fk142 (p142_e_0 a0 a1) (oc h0 on)) fun h0 h =>
 cE h (fun h1 h => dE h fk142 (p142_e_1 a0 a1) (oc h0 (oc h1 on))) fun h1 h =>
 dE h fk142 (p142_e_2 a0 a1) (oc h0 (oc h1 on))
theorem xFv {N : Nat} {a0 : Org} {a1 : Org} {r : Bool} (h : xD2 N  a0 a1 = some r) : AbC 142 (xBV a0 a1) (xBk r) :=
 AbsCalls.of_reach fk142 rfl rfl (Nat.le_of_ble_eq_true rfl) (c142_e a0 a1 r h)
noncomputable def I127 : Info := { body := (Tryd.f127.body).getD .skip, nt := 41, results := [.tmp 2], keep := [0, 4, 6, 14, 80], live := [(2, [0, 6])], modes := [(4, [(6, .take, false), (14, .take, false), (17, .take, false)])] }
theorem fk127 : FnOk Tryd.prog 127 Tryd.f127 I127 := ⟨Tryd.func127, by kernel_rfl, by kernel_rfl, by kernel_rfl, by kernel_rfl⟩
def xFS (x0 : List Org) (x3 : Int) : St := [(0, .v false [.sl .ro .org x0]), (6, .v false [.int .i64 x3])]
theorem p127_2_0 (x0 : List Org) (x3 : Int) : rS 2 I127 (xFS x0 x3) [Y, Y, Y, Y] [] = dn (xAD false) [(decide ((x3 : Int) < (Ln x0 : Int))) = true, (0 : Int) ≤ x3 ∧ x3 < (Ln x0), (decide (((Org.cell (gD x0 (tN x3) Ty.org.dflt)) : Int) < 0)) = true, true = true, true = true] := by kernel_rfl
theorem p127_2_1 (x0 : List Org) (x3 : Int) : rS 2 I127 (xFS x0 x3) [Y, F, Y, Y] [] = dn (xAD false) [(decide ((x3 : Int) < (Ln x0 : Int))) = true, (0 : Int) ≤ x3 ∧ x3 < (Ln x0), (decide (((Org.cell (gD x0 (tN x3) Ty.org.dflt)) : Int) < 0)) = false, (0 : Int) ≤ x3 ∧ x3 < (Ln x0), (decide (((Org.row (gD x0 (tN x3) Ty.org.dflt)) : Int) < 0)) = true, true = true] := by kernel_rfl
theorem p127_2_2 (x0 : List Org) (x3 : Int) (r1 : Bool) : rS 2 I127 (xFS x0 x3) [Y, F, F, Y, Y] [xBk r1] = dn (xAD false) [(decide ((x3 : Int) < (Ln x0 : Int))) = true, (0 : Int) ≤ x3 ∧ x3 < (Ln x0), (decide (((Org.cell (gD x0 (tN x3) Ty.org.dflt)) : Int) < 0)) = false, (0 : Int) ≤ x3 ∧ x3 < (Ln x0), (decide (((Org.row (gD x0 (tN x3) Ty.org.dflt)) : Int) < 0)) = false, (decide ((x3 : Int) > 0)) = true, (0 : Int) ≤ (W (x3 - 1)) ∧ (W (x3 - 1)) < (Ln x0), (0 : Int) ≤ x3 ∧ x3 < (Ln x0), AbC 142 (xBV (gD x0 (tN (W (x3 - 1))) Ty.org.dflt) (gD x0 (tN x3) Ty.org.dflt)) (xBk r1), (!r1) = true] := by kernel_rfl
theorem p127_2_3 (x0 : List Org) (x3 : Int) (r1 : Bool) : rS 2 I127 (xFS x0 x3) [Y, F, F, Y, F] [xBk r1] = st 2 I127 (xFS x0 (W (x3 + 1))) [(decide ((x3 : Int) < (Ln x0 : Int))) = true, (0 : Int) ≤ x3 ∧ x3 < (Ln x0), (decide (((Org.cell (gD x0 (tN x3) Ty.org.dflt)) : Int) < 0)) = false, (0 : Int) ≤ x3 ∧ x3 < (Ln x0), (decide (((Org.row (gD x0 (tN x3) Ty.org.dflt)) : Int) < 0)) = false, (decide ((x3 : Int) > 0)) = true, (0 : Int) ≤ (W (x3 - 1)) ∧ (W (x3 - 1)) < (Ln x0), (0 : Int) ≤ x3 ∧ x3 < (Ln x0), AbC 142 (xBV (gD x0 (tN (W (x3 - 1))) Ty.org.dflt) (gD x0 (tN x3) Ty.org.dflt)) (xBk r1), (!r1) = false] := by kernel_rfl
theorem p127_2_4 (x0 : List Org) (x3 : Int) : rS 2 I127 (xFS x0 x3) [Y, F, F, F, F] [] = st 2 I127 (xFS x0 (W (x3 + 1))) [(decide ((x3 : Int) < (Ln x0 : Int))) = true, (0 : Int) ≤ x3 ∧ x3 < (Ln x0), (decide (((Org.cell (gD x0 (tN x3) Ty.org.dflt)) : Int) < 0)) = false, (0 : Int) ≤ x3 ∧ x3 < (Ln x0), (decide (((Org.row (gD x0 (tN x3) Ty.org.dflt)) : Int) < 0)) = false, (decide ((x3 : Int) > 0)) = false, false = false] := by kernel_rfl
theorem p127_2_5 (x0 : List Org) (x3 : Int) : rS 2 I127 (xFS x0 x3) [F] [] = dn (xAD true) [(decide ((x3 : Int) < (Ln x0 : Int))) = false] := by kernel_rfl
theorem p127_e_6 (a0 : List Org) : rE I127 (xCl a0) [] [] = st 2 I127 (xFS a0 0) [] := by kernel_rfl
theorem c127_2 {N : Nat} : ∀ n x0 x3 r, xA5 N n x0 x3 = some r → RS Tryd.f127 I127 2 (xFS x0 x3) (xAD r) := by
 intro n
 induction n with
 | zero => exact fun _ _ _ h => nE h
 | succ n ih =>
  exact fun x0 x3 r h =>
   cE h (fun h0 h => iE h fun h1 h => cE h (fun h2 h => dS h fk127 (p127_2_0 x0 x3) (oc h0 (oc h1 (oc h2 (oc rfl (oc rfl on)))))) fun h2 h =>
   cE h (fun h4 h => dS h fk127 (p127_2_1 x0 x3) (oc h0 (oc h1 (oc h2 (oc h1 (oc h4 (oc rfl on))))))) fun h4 h =>
   cE h (fun h5 h => iE h fun h6 h => bE h fun r1 h8 h => cE h (fun h9 h => dS h fk127 (p127_2_2 x0 x3 r1) (oc h0 (oc h1 (oc h2 (oc h1 (oc h4 (oc h5 (oc h6 (oc h1 (oc (xFv h8) (oc h9 on))))))))))) fun h9 h =>
   tS fk127 (p127_2_3 x0 x3 r1) (oc h0 (oc h1 (oc h2 (oc h1 (oc h4 (oc h5 (oc h6 (oc h1 (oc (xFv h8) (oc h9 on)))))))))) (ih _ _ _ h)) fun h5 h =>
   tS fk127 (p127_2_4 x0 x3) (oc h0 (oc h1 (oc h2 (oc h1 (oc h4 (oc h5 (oc rfl on))))))) (ih _ _ _ h)) fun h0 h =>
   dS h fk127 (p127_2_5 x0 x3) (oc h0 on)
theorem c127_e {N : Nat} : ∀ a0 r, xDK N a0 = some r → RE Tryd.f127 I127 (xCl a0) (xAD r) := fun a0 r h =>
 tE fk127 (p127_e_6 a0) on (c127_2 _ _ _ _ h)
theorem xEN {N : Nat} {a0 : List Org} {r : Bool} (h : xDK N  a0 = some r) : AbC 127 (xCl a0) (xAD r) :=
 AbsCalls.of_reach fk127 rfl rfl (Nat.le_of_ble_eq_true rfl) (c127_e a0 r h)
noncomputable def I101 : Info := { body := (Tryd.f101.body).getD .skip, nt := 55, results := [.tmp 2], keep := [0, 2, 4, 6, 8, 10, 30, 40, 80, 90, 108, 3, 9], live := [(4, [2, 6, 3]), (10, [2, 6, 8, 10, 3, 9])], modes := [(1, [(4, .take, false)]), (7, [(7, .take, false)])] }
theorem fk101 : FnOk Tryd.prog 101 Tryd.f101 I101 := ⟨Tryd.func101, by kernel_rfl, by kernel_rfl, by kernel_rfl, by kernel_rfl⟩
def S101_4 (x3 : Int) (b1 : Val) : St := [(2, .v false [.ptr 1 0]), (6, .v false [.int .i64 x3]), (3, .v true [.int .i64 (Val.kind b1), .int .i64 (Val.n b1), .int .i64 (Val.step b1), .str (Val.text b1), .sl .ro .val (Val.list b1), .sl .ro .str (Val.columns b1), .sl .ro .row (Val.rows b1)])]
def S101_10 (x3 x5 : Int) (b1 : Val) (b4 : Rowd) : St := [(2, .v false [.ptr 1 0]), (6, .v false [.int .i64 x3]), (8, .v false [.ptr 4 0]), (10, .v false [.int .i64 x5]), (3, .v true [.int .i64 (Val.kind b1), .int .i64 (Val.n b1), .int .i64 (Val.step b1), .str (Val.text b1), .sl .ro .val (Val.list b1), .sl .ro .str (Val.columns b1), .sl .ro .row (Val.rows b1)]), (9, .v true [.sl .ro .int (Rowd.cells b4), .sl .ro .org (Rowd.frm b4)])]
theorem p101_10_0 (x3 x5 : Int) (b1 : Val) (b4 : Rowd) (r1 : Bool) : rS 10 I101 (S101_10 x3 x5 b1 b4) [Y, Y] [xAy r1] = dn (xAP false) [(decide ((x5 : Int) < (Ln (Rowd.cells b4) : Int))) = true, (0 : Int) ≤ x5 ∧ x5 < (Ln (Rowd.cells b4)), AbC 98 (xBl (gD (Rowd.cells b4) (tN x5) Ty.int.dflt)) (xAy r1), (!r1) = true] := by kernel_rfl
theorem p101_10_1 (x3 x5 : Int) (b1 : Val) (b4 : Rowd) (r1 : Bool) : rS 10 I101 (S101_10 x3 x5 b1 b4) [Y, F] [xAy r1] = st 10 I101 (S101_10 x3 (W (x5 + 1)) b1 b4) [(decide ((x5 : Int) < (Ln (Rowd.cells b4) : Int))) = true, (0 : Int) ≤ x5 ∧ x5 < (Ln (Rowd.cells b4)), AbC 98 (xBl (gD (Rowd.cells b4) (tN x5) Ty.int.dflt)) (xAy r1), (!r1) = false] := by kernel_rfl
theorem p101_10_2 (x3 x5 : Int) (b1 : Val) (b4 : Rowd) : rS 10 I101 (S101_10 x3 x5 b1 b4) [F] [] = st 4 I101 (S101_4 (W (x3 + 1)) b1) [(decide ((x5 : Int) < (Ln (Rowd.cells b4) : Int))) = false] := by kernel_rfl
theorem p101_4_3 (x3 : Int) (b1 : Val) : rS 4 I101 (S101_4 x3 b1) [Y, Y, Y] [] = dn (xAP false) [(decide ((x3 : Int) < (Ln (Val.rows b1) : Int))) = true, (0 : Int) ≤ x3 ∧ x3 < (Ln (Val.rows b1)), (((Ln (Rowd.cells (gD (Val.rows b1) (tN x3) rd)) : Int) : Int) != (Ln (Val.columns b1) : Int)) = true, true = true] := by kernel_rfl
theorem p101_4_4 (x3 : Int) (b1 : Val) (r1 : Bool) : rS 4 I101 (S101_4 x3 b1) [Y, F, Y] [xAD r1] = dn (xAP false) [(decide ((x3 : Int) < (Ln (Val.rows b1) : Int))) = true, (0 : Int) ≤ x3 ∧ x3 < (Ln (Val.rows b1)), (((Ln (Rowd.cells (gD (Val.rows b1) (tN x3) rd)) : Int) : Int) != (Ln (Val.columns b1) : Int)) = false, AbC 127 (xCl (Rowd.frm (gD (Val.rows b1) (tN x3) rd))) (xAD r1), (!r1) = true] := by kernel_rfl
theorem p101_4_5 (x3 : Int) (b1 : Val) (r1 : Bool) : rS 4 I101 (S101_4 x3 b1) [Y, F, F] [xAD r1] = st 10 I101 (S101_10 x3 0 b1 (gD (Val.rows b1) (tN x3) rd)) [(decide ((x3 : Int) < (Ln (Val.rows b1) : Int))) = true, (0 : Int) ≤ x3 ∧ x3 < (Ln (Val.rows b1)), (((Ln (Rowd.cells (gD (Val.rows b1) (tN x3) rd)) : Int) : Int) != (Ln (Val.columns b1) : Int)) = false, AbC 127 (xCl (Rowd.frm (gD (Val.rows b1) (tN x3) rd))) (xAD r1), (!r1) = false] := by kernel_rfl
theorem p101_4_6 (x3 : Int) (b1 : Val) : rS 4 I101 (S101_4 x3 b1) [F] [] = dn (xAP true) [(decide ((x3 : Int) < (Ln (Val.rows b1) : Int))) = false] := by kernel_rfl
theorem p101_e_7 (a0 : Val) (r1 : Bool) : rE I101 (xCI a0) [Y, Y] [xAG r1] = dn (xAP false) [AbC 28 (xCc (Val.columns a0)) (xAG r1), (!r1) = true, true = true] := by kernel_rfl
theorem p101_e_8 (a0 : Val) (r1 : Bool) : rE I101 (xCI a0) [F, Y] [xAG r1] = dn (xAP false) [AbC 28 (xCc (Val.columns a0)) (xAG r1), (!r1) = false, (decide (((Ln (Val.rows a0) : Int) : Int) > 12)) = true] := by kernel_rfl
theorem p101_e_9 (a0 : Val) (r1 : Bool) : rE I101 (xCI a0) [F, F] [xAG r1] = st 4 I101 (S101_4 0 a0) [AbC 28 (xCc (Val.columns a0)) (xAG r1), (!r1) = false, (decide (((Ln (Val.rows a0) : Int) : Int) > 12)) = false] := by kernel_rfl
theorem c101_10 {N : Nat} {k4 : Int → Val → Option (Bool)} (hk4 : ∀ z0 z1 r, k4 z0 z1 = some r → RS Tryd.f101 I101 4 (S101_4 z0 z1) (xAP r)) : ∀ n x3 x5 b1 b4 r, xBW N k4 n x3 x5 b1 b4 = some r → RS Tryd.f101 I101 10 (S101_10 x3 x5 b1 b4) (xAP r) := by
 intro n
 induction n with
 | zero => exact fun _ _ _ _ _ h => nE h
 | succ n ih =>
  exact fun x3 x5 b1 b4 r h =>
   cE h (fun h0 h => iE h fun h1 h => bE h fun r1 h2 h => cE h (fun h3 h => dS h fk101 (p101_10_0 x3 x5 b1 b4 r1) (oc h0 (oc h1 (oc (xCs h2) (oc h3 on))))) fun h3 h =>
   tS fk101 (p101_10_1 x3 x5 b1 b4 r1) (oc h0 (oc h1 (oc (xCs h2) (oc h3 on)))) (ih _ _ _ _ _ h)) fun h0 h =>
   tS fk101 (p101_10_2 x3 x5 b1 b4) (oc h0 on) (hk4 _ _ _ h)
theorem c101_4 {N : Nat} : ∀ n x3 b1 r, xCm N n x3 b1 = some r → RS Tryd.f101 I101 4 (S101_4 x3 b1) (xAP r) := by
 intro n
 induction n with
 | zero => exact fun _ _ _ h => nE h
 | succ n ih =>
  exact fun x3 b1 r h =>
   cE h (fun h0 h => iE h fun h1 h => cE h (fun h2 h => dS h fk101 (p101_4_3 x3 b1) (oc h0 (oc h1 (oc h2 (oc rfl on))))) fun h2 h =>
   bE h fun r1 h3 h => cE h (fun h4 h => dS h fk101 (p101_4_4 x3 b1 r1) (oc h0 (oc h1 (oc h2 (oc (xEN h3) (oc h4 on)))))) fun h4 h =>
   tS fk101 (p101_4_5 x3 b1 r1) (oc h0 (oc h1 (oc h2 (oc (xEN h3) (oc h4 on))))) (c101_10 ih _ _ _ _ _ _ h)) fun h0 h =>
   dS h fk101 (p101_4_6 x3 b1) (oc h0 on)
theorem c101_e {N : Nat} : ∀ a0 r, xEs N a0 = some r → RE Tryd.f101 I101 (xCI a0) (xAP r) := fun a0 r h =>
 bE h fun r1 h0 h => cE h (fun h1 h => dE h fk101 (p101_e_7 a0 r1) (oc (xEa h0) (oc h1 (oc rfl on)))) fun h1 h =>
 cE h (fun h2 h => dE h fk101 (p101_e_8 a0 r1) (oc (xEa h0) (oc h1 (oc h2 on)))) fun h2 h =>
 tE fk101 (p101_e_9 a0 r1) (oc (xEa h0) (oc h1 (oc h2 on))) (c101_4 _ _ _ _ h)
theorem spec_l3Table_ok {N : Nat} {a0 : Val} {r : Bool} (h : xEs N  a0 = some r) : AbC 101 (xCI a0) (xAP r) :=
 AbsCalls.of_reach fk101 rfl rfl (Nat.le_of_ble_eq_true rfl) (c101_e a0 r h)
def G58 (q : Val → Option (Bool)) : Prop := ∀ a0 r, q a0 = some r → AbC 58 (xAd a0) (xAc r)
def G100 (q : Val → Option (Bool)) : Prop := ∀ a0 r, q a0 = some r → AbC 100 (xDB a0) (xBy r)
noncomputable def I58 : Info := { body := (Tryd.f58.body).getD .skip, nt := 95, results := [.tmp 2], keep := [0, 2, 4, 52, 88, 92, 94, 104, 124, 142, 162, 180, 3], live := [], modes := [(1, [(3, .take, false), (9, .take, false), (13, .take, false)]), (3, [(3, .take, false), (8, .take, false), (12, .take, false)]), (9, [(3, .take, false)]), (11, [(3, .take, false)]), (13, [(3, .take, false)]), (15, [(3, .take, false)])] }
theorem fk58 : FnOk Tryd.prog 58 Tryd.f58 I58 := ⟨Tryd.func58, by kernel_rfl, by kernel_rfl, by kernel_rfl, by kernel_rfl⟩
theorem p58_e_0 (a0 : Val) : rE I58 (xAd a0) [Y, Y, Y] [] = dn (xAc false) [(((Val.kind a0) : Int) != 3) = true, (decide (((Ln (Val.list a0) : Int) : Int) > 0)) = true, true = true] := by kernel_rfl
theorem p58_e_1 (a0 : Val) : rE I58 (xAd a0) [Y, F, Y, Y] [] = dn (xAc false) [(((Val.kind a0) : Int) != 3) = true, (decide (((Ln (Val.list a0) : Int) : Int) > 0)) = false, (((Val.kind a0) : Int) != 5) = true, (decide (((W ((Ln (Val.columns a0) : Int) + (Ln (Val.rows a0) : Int))) : Int) > 0)) = true] := by kernel_rfl
theorem p58_e_2 (a0 : Val) : rE I58 (xAd a0) [Y, F, Y, F, Y, Y, Y] [] = dn (xAc false) [(((Val.kind a0) : Int) != 3) = true, (decide (((Ln (Val.list a0) : Int) : Int) > 0)) = false, (((Val.kind a0) : Int) != 5) = true, (decide (((W ((Ln (Val.columns a0) : Int) + (Ln (Val.rows a0) : Int))) : Int) > 0)) = false, (((Val.kind a0) : Int) != 2) = true, (!(((Val.text a0) : Str) == [])) = true, true = true] := by kernel_rfl
theorem p58_e_3 (a0 : Val) : rE I58 (xAd a0) [Y, F, Y, F, Y, F, Y, Y] [] = dn (xAc false) [(((Val.kind a0) : Int) != 3) = true, (decide (((Ln (Val.list a0) : Int) : Int) > 0)) = false, (((Val.kind a0) : Int) != 5) = true, (decide (((W ((Ln (Val.columns a0) : Int) + (Ln (Val.rows a0) : Int))) : Int) > 0)) = false, (((Val.kind a0) : Int) != 2) = true, (!(((Val.text a0) : Str) == [])) = false, (((Val.kind a0) : Int) != 4) = true, (((Val.step a0) : Int) != 0) = true] := by kernel_rfl
theorem p58_e_4 (a0 : Val) (r1 : Bool) : rE I58 (xAd a0) [Y, F, Y, F, Y, F, Y, F, Y] [xAy r1] = dn (xAc r1) [(((Val.kind a0) : Int) != 3) = true, (decide (((Ln (Val.list a0) : Int) : Int) > 0)) = false, (((Val.kind a0) : Int) != 5) = true, (decide (((W ((Ln (Val.columns a0) : Int) + (Ln (Val.rows a0) : Int))) : Int) > 0)) = false, (((Val.kind a0) : Int) != 2) = true, (!(((Val.text a0) : Str) == [])) = false, (((Val.kind a0) : Int) != 4) = true, (((Val.step a0) : Int) != 0) = false, (((Val.kind a0) : Int) == 1) = true, AbC 98 (xBl (Val.n a0)) (xAy r1)] := by kernel_rfl
theorem p58_e_5 (a0 : Val) (r1 : Bool) : rE I58 (xAd a0) [Y, F, Y, F, Y, F, Y, F, F, F, F, F, F, Y] [xA2 r1] = dn (xAc r1) [(((Val.kind a0) : Int) != 3) = true, (decide (((Ln (Val.list a0) : Int) : Int) > 0)) = false, (((Val.kind a0) : Int) != 5) = true, (decide (((W ((Ln (Val.columns a0) : Int) + (Ln (Val.rows a0) : Int))) : Int) > 0)) = false, (((Val.kind a0) : Int) != 2) = true, (!(((Val.text a0) : Str) == [])) = false, (((Val.kind a0) : Int) != 4) = true, (((Val.step a0) : Int) != 0) = false, (((Val.kind a0) : Int) == 1) = false, (((Val.kind a0) : Int) == 2) = false, (((Val.kind a0) : Int) == 3) = false, (((Val.kind a0) : Int) == 4) = false, (((Val.kind a0) : Int) == 5) = false, (((Val.kind a0) : Int) == 6) = true, AbC 68 (xB2 (Val.n a0) 1 8) (xA2 r1)] := by kernel_rfl
theorem p58_e_6 (a0 : Val) : rE I58 (xAd a0) [Y, F, Y, F, Y, F, Y, F, F, F, F, F, F, F] [] = dn (xAc false) [(((Val.kind a0) : Int) != 3) = true, (decide (((Ln (Val.list a0) : Int) : Int) > 0)) = false, (((Val.kind a0) : Int) != 5) = true, (decide (((W ((Ln (Val.columns a0) : Int) + (Ln (Val.rows a0) : Int))) : Int) > 0)) = false, (((Val.kind a0) : Int) != 2) = true, (!(((Val.text a0) : Str) == [])) = false, (((Val.kind a0) : Int) != 4) = true, (((Val.step a0) : Int) != 0) = false, (((Val.kind a0) : Int) == 1) = false, (((Val.kind a0) : Int) == 2) = false, (((Val.kind a0) : Int) == 3) = false, (((Val.kind a0) : Int) == 4) = false, (((Val.kind a0) : Int) == 5) = false, (((Val.kind a0) : Int) == 6) = false] := by kernel_rfl
theorem p58_e_7 (a0 : Val) (r1 r2 : Bool) : rE I58 (xAd a0) [Y, F, Y, F, Y, F, F, F, F, F, F, Y, Y] [xAy r1, xAy r2] = dn (xAc r2) [(((Val.kind a0) : Int) != 3) = true, (decide (((Ln (Val.list a0) : Int) : Int) > 0)) = false, (((Val.kind a0) : Int) != 5) = true, (decide (((W ((Ln (Val.columns a0) : Int) + (Ln (Val.rows a0) : Int))) : Int) > 0)) = false, (((Val.kind a0) : Int) != 2) = true, (!(((Val.text a0) : Str) == [])) = false, (((Val.kind a0) : Int) != 4) = false, false = false, (((Val.kind a0) : Int) == 1) = false, (((Val.kind a0) : Int) == 2) = false, (((Val.kind a0) : Int) == 3) = false, (((Val.kind a0) : Int) == 4) = true, AbC 98 (xBl (Val.n a0)) (xAy r1), r1 = true, AbC 98 (xBl (Val.step a0)) (xAy r2)] := by kernel_rfl
theorem p58_e_8 (a0 : Val) (r1 : Bool) : rE I58 (xAd a0) [Y, F, Y, F, Y, F, F, F, F, F, F, Y, F] [xAy r1] = dn (xAc false) [(((Val.kind a0) : Int) != 3) = true, (decide (((Ln (Val.list a0) : Int) : Int) > 0)) = false, (((Val.kind a0) : Int) != 5) = true, (decide (((W ((Ln (Val.columns a0) : Int) + (Ln (Val.rows a0) : Int))) : Int) > 0)) = false, (((Val.kind a0) : Int) != 2) = true, (!(((Val.text a0) : Str) == [])) = false, (((Val.kind a0) : Int) != 4) = false, false = false, (((Val.kind a0) : Int) == 1) = false, (((Val.kind a0) : Int) == 2) = false, (((Val.kind a0) : Int) == 3) = false, (((Val.kind a0) : Int) == 4) = true, AbC 98 (xBl (Val.n a0)) (xAy r1), r1 = false] := by kernel_rfl
theorem p58_e_9 (a0 : Val) : rE I58 (xAd a0) [Y, F, Y, F, F, F, Y, Y] [] = dn (xAc false) [(((Val.kind a0) : Int) != 3) = true, (decide (((Ln (Val.list a0) : Int) : Int) > 0)) = false, (((Val.kind a0) : Int) != 5) = true, (decide (((W ((Ln (Val.columns a0) : Int) + (Ln (Val.rows a0) : Int))) : Int) > 0)) = false, (((Val.kind a0) : Int) != 2) = false, false = false, (((Val.kind a0) : Int) != 4) = true, (((Val.step a0) : Int) != 0) = true] := by kernel_rfl
theorem p58_e_10 (a0 : Val) (r1 : Bool) : rE I58 (xAd a0) [Y, F, Y, F, F, F, Y, F, F, Y, Y] [xAW r1] = dn (xAc r1) [(((Val.kind a0) : Int) != 3) = true, (decide (((Ln (Val.list a0) : Int) : Int) > 0)) = false, (((Val.kind a0) : Int) != 5) = true, (decide (((W ((Ln (Val.columns a0) : Int) + (Ln (Val.rows a0) : Int))) : Int) > 0)) = false, (((Val.kind a0) : Int) != 2) = false, false = false, (((Val.kind a0) : Int) != 4) = true, (((Val.step a0) : Int) != 0) = false, (((Val.kind a0) : Int) == 1) = false, (((Val.kind a0) : Int) == 2) = true, (((Val.n a0) : Int) == 0) = true, AbC 99 (xCP (Val.text a0)) (xAW r1)] := by kernel_rfl
theorem p58_e_11 (a0 : Val) : rE I58 (xAd a0) [Y, F, Y, F, F, F, Y, F, F, Y, F] [] = dn (xAc false) [(((Val.kind a0) : Int) != 3) = true, (decide (((Ln (Val.list a0) : Int) : Int) > 0)) = false, (((Val.kind a0) : Int) != 5) = true, (decide (((W ((Ln (Val.columns a0) : Int) + (Ln (Val.rows a0) : Int))) : Int) > 0)) = false, (((Val.kind a0) : Int) != 2) = false, false = false, (((Val.kind a0) : Int) != 4) = true, (((Val.step a0) : Int) != 0) = false, (((Val.kind a0) : Int) == 1) = false, (((Val.kind a0) : Int) == 2) = true, (((Val.n a0) : Int) == 0) = false] := by kernel_rfl
theorem p58_e_12 (a0 : Val) : rE I58 (xAd a0) [Y, F, F, F, Y, Y, Y] [] = dn (xAc false) [(((Val.kind a0) : Int) != 3) = true, (decide (((Ln (Val.list a0) : Int) : Int) > 0)) = false, (((Val.kind a0) : Int) != 5) = false, false = false, (((Val.kind a0) : Int) != 2) = true, (!(((Val.text a0) : Str) == [])) = true, true = true] := by kernel_rfl
theorem p58_e_13 (a0 : Val) : rE I58 (xAd a0) [Y, F, F, F, Y, F, Y, Y] [] = dn (xAc false) [(((Val.kind a0) : Int) != 3) = true, (decide (((Ln (Val.list a0) : Int) : Int) > 0)) = false, (((Val.kind a0) : Int) != 5) = false, false = false, (((Val.kind a0) : Int) != 2) = true, (!(((Val.text a0) : Str) == [])) = false, (((Val.kind a0) : Int) != 4) = true, (((Val.step a0) : Int) != 0) = true] := by kernel_rfl
theorem p58_e_14 (a0 : Val) (r1 : Bool) : rE I58 (xAd a0) [Y, F, F, F, Y, F, Y, F, F, F, F, F, Y, Y] [xAP r1] = dn (xAc r1) [(((Val.kind a0) : Int) != 3) = true, (decide (((Ln (Val.list a0) : Int) : Int) > 0)) = false, (((Val.kind a0) : Int) != 5) = false, false = false, (((Val.kind a0) : Int) != 2) = true, (!(((Val.text a0) : Str) == [])) = false, (((Val.kind a0) : Int) != 4) = true, (((Val.step a0) : Int) != 0) = false, (((Val.kind a0) : Int) == 1) = false, (((Val.kind a0) : Int) == 2) = false, (((Val.kind a0) : Int) == 3) = false, (((Val.kind a0) : Int) == 4) = false, (((Val.kind a0) : Int) == 5) = true, (((Val.n a0) : Int) == 0) = true, AbC 101 (xCI a0) (xAP r1)] := by kernel_rfl
theorem p58_e_15 (a0 : Val) : rE I58 (xAd a0) [Y, F, F, F, Y, F, Y, F, F, F, F, F, Y, F] [] = dn (xAc false) [(((Val.kind a0) : Int) != 3) = true, (decide (((Ln (Val.list a0) : Int) : Int) > 0)) = false, (((Val.kind a0) : Int) != 5) = false, false = false, (((Val.kind a0) : Int) != 2) = true, (!(((Val.text a0) : Str) == [])) = false, (((Val.kind a0) : Int) != 4) = true, (((Val.step a0) : Int) != 0) = false, (((Val.kind a0) : Int) == 1) = false, (((Val.kind a0) : Int) == 2) = false, (((Val.kind a0) : Int) == 3) = false, (((Val.kind a0) : Int) == 4) = false, (((Val.kind a0) : Int) == 5) = true, (((Val.n a0) : Int) == 0) = false] := by kernel_rfl
theorem p58_e_16 (a0 : Val) : rE I58 (xAd a0) [F, F, Y, Y] [] = dn (xAc false) [(((Val.kind a0) : Int) != 3) = false, false = false, (((Val.kind a0) : Int) != 5) = true, (decide (((W ((Ln (Val.columns a0) : Int) + (Ln (Val.rows a0) : Int))) : Int) > 0)) = true] := by kernel_rfl
theorem p58_e_17 (a0 : Val) : rE I58 (xAd a0) [F, F, Y, F, Y, Y, Y] [] = dn (xAc false) [(((Val.kind a0) : Int) != 3) = false, false = false, (((Val.kind a0) : Int) != 5) = true, (decide (((W ((Ln (Val.columns a0) : Int) + (Ln (Val.rows a0) : Int))) : Int) > 0)) = false, (((Val.kind a0) : Int) != 2) = true, (!(((Val.text a0) : Str) == [])) = true, true = true] := by kernel_rfl
theorem p58_e_18 (a0 : Val) : rE I58 (xAd a0) [F, F, Y, F, Y, F, Y, Y] [] = dn (xAc false) [(((Val.kind a0) : Int) != 3) = false, false = false, (((Val.kind a0) : Int) != 5) = true, (decide (((W ((Ln (Val.columns a0) : Int) + (Ln (Val.rows a0) : Int))) : Int) > 0)) = false, (((Val.kind a0) : Int) != 2) = true, (!(((Val.text a0) : Str) == [])) = false, (((Val.kind a0) : Int) != 4) = true, (((Val.step a0) : Int) != 0) = true] := by kernel_rfl
theorem p58_e_19 (a0 : Val) (r1 : Bool) : rE I58 (xAd a0) [F, F, Y, F, Y, F, Y, F, F, F, Y, Y] [xBy r1] = dn (xAc r1) [(((Val.kind a0) : Int) != 3) = false, false = false, (((Val.kind a0) : Int) != 5) = true, (decide (((W ((Ln (Val.columns a0) : Int) + (Ln (Val.rows a0) : Int))) : Int) > 0)) = false, (((Val.kind a0) : Int) != 2) = true, (!(((Val.text a0) : Str) == [])) = false, (((Val.kind a0) : Int) != 4) = true, (((Val.step a0) : Int) != 0) = false, (((Val.kind a0) : Int) == 1) = false, (((Val.kind a0) : Int) == 2) = false, (((Val.kind a0) : Int) == 3) = true, (((Val.n a0) : Int) == 0) = true, AbC 100 (xDB a0) (xBy r1)] := by kernel_rfl
theorem p58_e_20 (a0 : Val) : rE I58 (xAd a0) [F, F, Y, F, Y, F, Y, F, F, F, Y, F] [] = dn (xAc false) [(((Val.kind a0) : Int) != 3) = false, false = false, (((Val.kind a0) : Int) != 5) = true, (decide (((W ((Ln (Val.columns a0) : Int) + (Ln (Val.rows a0) : Int))) : Int) > 0)) = false, (((Val.kind a0) : Int) != 2) = true, (!(((Val.text a0) : Str) == [])) = false, (((Val.kind a0) : Int) != 4) = true, (((Val.step a0) : Int) != 0) = false, (((Val.kind a0) : Int) == 1) = false, (((Val.kind a0) : Int) == 2) = false, (((Val.kind a0) : Int) == 3) = true, (((Val.n a0) : Int) == 0) = false] := by kernel_rfl
theorem c58_e {N : Nat} {q0 : Val → Option (Bool)} (g0 : G58 q0) {q1 : Val → Option (Bool)} (g1 : G100 q1) : ∀ a0 r, xBG N q0 q1 a0 = some r → RE Tryd.f58 I58 (xAd a0) (xAc r) := fun a0 r h =>
 cE h (fun h0 h => cE h (fun h1 h => dE h fk58 (p58_e_0 a0) (oc h0 (oc h1 (oc rfl on)))) fun h1 h =>
 cE h (fun h2 h => cE h (fun h3 h => dE h fk58 (p58_e_1 a0) (oc h0 (oc h1 (oc h2 (oc h3 on))))) fun h3 h =>
 cE h (fun h4 h => cE h (fun h5 h => dE h fk58 (p58_e_2 a0) (oc h0 (oc h1 (oc h2 (oc h3 (oc h4 (oc h5 (oc rfl on)))))))) fun h5 h =>
 cE h (fun h6 h => cE h (fun h7 h => dE h fk58 (p58_e_3 a0) (oc h0 (oc h1 (oc h2 (oc h3 (oc h4 (oc h5 (oc h6 (oc h7 on))))))))) fun h7 h =>
 cE h (fun h8 h => bE h fun r1 h9 h => dE h fk58 (p58_e_4 a0 r1) (oc h0 (oc h1 (oc h2 (oc h3 (oc h4 (oc h5 (oc h6 (oc h7 (oc h8 (oc (xCs h9) on))))))))))) fun h8 h =>
 cE h (fun h13 h => bE h fun r1 h14 h => dE h fk58 (p58_e_5 a0 r1) (oc h0 (oc h1 (oc h2 (oc h3 (oc h4 (oc h5 (oc h6 (oc h7 (oc h8 (oc (of_not h4) (oc (of_not h0) (oc (of_not h6) (oc (of_not h2) (oc h13 (oc (xDQ h14) on)))))))))))))))) fun h13 h =>
 dE h fk58 (p58_e_6 a0) (oc h0 (oc h1 (oc h2 (oc h3 (oc h4 (oc h5 (oc h6 (oc h7 (oc h8 (oc (of_not h4) (oc (of_not h0) (oc (of_not h6) (oc (of_not h2) (oc h13 on))))))))))))))) fun h6 h =>
 bE h fun r1 h12 h => cE h (fun h13 h => bE h fun r2 h14 h => dE h fk58 (p58_e_7 a0 r1 r2) (oc h0 (oc h1 (oc h2 (oc h3 (oc h4 (oc h5 (oc h6 (oc rfl (oc (eq_ne (of_not h6) rfl) (oc (of_not h4) (oc (of_not h0) (oc (of_not h6) (oc (xCs h12) (oc h13 (oc (xCs h14) on)))))))))))))))) fun h13 h =>
 dE h fk58 (p58_e_8 a0 r1) (oc h0 (oc h1 (oc h2 (oc h3 (oc h4 (oc h5 (oc h6 (oc rfl (oc (eq_ne (of_not h6) rfl) (oc (of_not h4) (oc (of_not h0) (oc (of_not h6) (oc (xCs h12) (oc h13 on))))))))))))))) fun h4 h =>
 cE h (fun h7 h => dE h fk58 (p58_e_9 a0) (oc h0 (oc h1 (oc h2 (oc h3 (oc h4 (oc rfl (oc (not_of (eq_ne (of_not h4) rfl)) (oc h7 on))))))))) fun h7 h =>
 cE h (fun h10 h => bE h fun r1 h11 h => dE h fk58 (p58_e_10 a0 r1) (oc h0 (oc h1 (oc h2 (oc h3 (oc h4 (oc rfl (oc (not_of (eq_ne (of_not h4) rfl)) (oc h7 (oc (eq_ne (of_not h4) rfl) (oc (of_not h4) (oc h10 (oc (xGb h11) on))))))))))))) fun h10 h =>
 dE h fk58 (p58_e_11 a0) (oc h0 (oc h1 (oc h2 (oc h3 (oc h4 (oc rfl (oc (not_of (eq_ne (of_not h4) rfl)) (oc h7 (oc (eq_ne (of_not h4) rfl) (oc (of_not h4) (oc h10 on)))))))))))) fun h2 h =>
 cE h (fun h5 h => dE h fk58 (p58_e_12 a0) (oc h0 (oc h1 (oc h2 (oc rfl (oc (not_of (eq_ne (of_not h2) rfl)) (oc h5 (oc rfl on)))))))) fun h5 h =>
 cE h (fun h7 h => dE h fk58 (p58_e_13 a0) (oc h0 (oc h1 (oc h2 (oc rfl (oc (not_of (eq_ne (of_not h2) rfl)) (oc h5 (oc (not_of (eq_ne (of_not h2) rfl)) (oc h7 on))))))))) fun h7 h =>
 cE h (fun h13 h => bE h fun r1 h14 h => dE h fk58 (p58_e_14 a0 r1) (oc h0 (oc h1 (oc h2 (oc rfl (oc (not_of (eq_ne (of_not h2) rfl)) (oc h5 (oc (not_of (eq_ne (of_not h2) rfl)) (oc h7 (oc (eq_ne (of_not h2) rfl) (oc (eq_ne (of_not h2) rfl) (oc (of_not h0) (oc (eq_ne (of_not h2) rfl) (oc (of_not h2) (oc h13 (oc (spec_l3Table_ok h14) on)))))))))))))))) fun h13 h =>
 dE h fk58 (p58_e_15 a0) (oc h0 (oc h1 (oc h2 (oc rfl (oc (not_of (eq_ne (of_not h2) rfl)) (oc h5 (oc (not_of (eq_ne (of_not h2) rfl)) (oc h7 (oc (eq_ne (of_not h2) rfl) (oc (eq_ne (of_not h2) rfl) (oc (of_not h0) (oc (eq_ne (of_not h2) rfl) (oc (of_not h2) (oc h13 on))))))))))))))) fun h0 h =>
 cE h (fun h3 h => dE h fk58 (p58_e_16 a0) (oc h0 (oc rfl (oc (not_of (eq_ne (of_not h0) rfl)) (oc h3 on))))) fun h3 h =>
 cE h (fun h5 h => dE h fk58 (p58_e_17 a0) (oc h0 (oc rfl (oc (not_of (eq_ne (of_not h0) rfl)) (oc h3 (oc (not_of (eq_ne (of_not h0) rfl)) (oc h5 (oc rfl on)))))))) fun h5 h =>
 cE h (fun h7 h => dE h fk58 (p58_e_18 a0) (oc h0 (oc rfl (oc (not_of (eq_ne (of_not h0) rfl)) (oc h3 (oc (not_of (eq_ne (of_not h0) rfl)) (oc h5 (oc (not_of (eq_ne (of_not h0) rfl)) (oc h7 on))))))))) fun h7 h =>
 cE h (fun h11 h => bE h fun r1 h12 h => dE h fk58 (p58_e_19 a0 r1) (oc h0 (oc rfl (oc (not_of (eq_ne (of_not h0) rfl)) (oc h3 (oc (not_of (eq_ne (of_not h0) rfl)) (oc h5 (oc (not_of (eq_ne (of_not h0) rfl)) (oc h7 (oc (eq_ne (of_not h0) rfl) (oc (eq_ne (of_not h0) rfl) (oc (of_not h0) (oc h11 (oc (g1 _ _ h12) on)))))))))))))) fun h11 h =>
 dE h fk58 (p58_e_20 a0) (oc h0 (oc rfl (oc (not_of (eq_ne (of_not h0) rfl)) (oc h3 (oc (not_of (eq_ne (of_not h0) rfl)) (oc h5 (oc (not_of (eq_ne (of_not h0) rfl)) (oc h7 (oc (eq_ne (of_not h0) rfl) (oc (eq_ne (of_not h0) rfl) (oc (of_not h0) (oc h11 on))))))))))))
theorem xE5 {N : Nat} {q0 : Val → Option (Bool)} (g0 : G58 q0) {q1 : Val → Option (Bool)} (g1 : G100 q1) {a0 : Val} {r : Bool} (h : xBG N q0 q1 a0 = some r) : AbC 58 (xAd a0) (xAc r) :=
 AbsCalls.of_reach fk58 rfl rfl (Nat.le_of_ble_eq_true rfl) (c58_e g0 g1 a0 r h)
noncomputable def I100 : Info := { body := (Tryd.f100.body).getD .skip, nt := 36, results := [.tmp 2], keep := [0, 2, 4, 6, 16, 52, 3], live := [(2, [2, 6, 3])], modes := [(4, [(7, .take, false)]), (6, [(4, .take, false)])] }
theorem fk100 : FnOk Tryd.prog 100 Tryd.f100 I100 := ⟨Tryd.func100, by kernel_rfl, by kernel_rfl, by kernel_rfl, by kernel_rfl⟩
def S100_2 (x3 : Int) (b1 : Val) : St := [(2, .v false [.ptr 1 0]), (6, .v false [.int .i64 x3]), (3, .v true [.int .i64 (Val.kind b1), .int .i64 (Val.n b1), .int .i64 (Val.step b1), .str (Val.text b1), .sl .ro .val (Val.list b1), .sl .ro .str (Val.columns b1), .sl .ro .row (Val.rows b1)])]
theorem p100_2_0 (x3 : Int) (b1 : Val) (r1 : Bool) : rS 2 I100 (S100_2 x3 b1) [Y, Y, Y] [xAO r1] = dn (xBy false) [(decide ((x3 : Int) < (Ln (Val.list b1) : Int))) = true, (0 : Int) ≤ x3 ∧ x3 < (Ln (Val.list b1)), AbC 125 (xBu (gD (Val.list b1) (tN x3) vd)) (xAO r1), (!r1) = true, true = true] := by kernel_rfl
theorem p100_2_1 (x3 : Int) (b1 : Val) (r1 r2 : Bool) : rS 2 I100 (S100_2 x3 b1) [Y, F, Y] [xAO r1, xAc r2] = dn (xBy false) [(decide ((x3 : Int) < (Ln (Val.list b1) : Int))) = true, (0 : Int) ≤ x3 ∧ x3 < (Ln (Val.list b1)), AbC 125 (xBu (gD (Val.list b1) (tN x3) vd)) (xAO r1), (!r1) = false, (0 : Int) ≤ x3 ∧ x3 < (Ln (Val.list b1)), AbC 58 (xAd (gD (Val.list b1) (tN x3) vd)) (xAc r2), (!r2) = true] := by kernel_rfl
theorem p100_2_2 (x3 : Int) (b1 : Val) (r1 r2 : Bool) : rS 2 I100 (S100_2 x3 b1) [Y, F, F] [xAO r1, xAc r2] = st 2 I100 (S100_2 (W (x3 + 1)) b1) [(decide ((x3 : Int) < (Ln (Val.list b1) : Int))) = true, (0 : Int) ≤ x3 ∧ x3 < (Ln (Val.list b1)), AbC 125 (xBu (gD (Val.list b1) (tN x3) vd)) (xAO r1), (!r1) = false, (0 : Int) ≤ x3 ∧ x3 < (Ln (Val.list b1)), AbC 58 (xAd (gD (Val.list b1) (tN x3) vd)) (xAc r2), (!r2) = false] := by kernel_rfl
theorem p100_2_3 (x3 : Int) (b1 : Val) (r1 : Int) : rS 2 I100 (S100_2 x3 b1) [F, Y] [xBd r1] = dn (xBy (decide ((r1 : Int) ≤ 3))) [(decide ((x3 : Int) < (Ln (Val.list b1) : Int))) = false, (decide (((Ln (Val.list b1) : Int) : Int) ≤ 8)) = true, AbC 126 (xCk b1) (xBd r1)] := by kernel_rfl
theorem p100_2_4 (x3 : Int) (b1 : Val) : rS 2 I100 (S100_2 x3 b1) [F, F] [] = dn (xBy false) [(decide ((x3 : Int) < (Ln (Val.list b1) : Int))) = false, (decide (((Ln (Val.list b1) : Int) : Int) ≤ 8)) = false] := by kernel_rfl
theorem p100_e_5 (a0 : Val) : rE I100 (xDB a0) [] [] = st 2 I100 (S100_2 0 a0) [] := by kernel_rfl
theorem c100_2 {N : Nat} {q0 : Val → Option (Bool)} (g0 : G58 q0) {q1 : Val → Option (Bool)} (g1 : G100 q1) : ∀ n x3 b1 r, xB3 N q0 q1 n x3 b1 = some r → RS Tryd.f100 I100 2 (S100_2 x3 b1) (xBy r) := by
 intro n
 induction n with
 | zero => exact fun _ _ _ h => nE h
 | succ n ih =>
  exact fun x3 b1 r h =>
   cE h (fun h0 h => iE h fun h1 h => bE h fun r1 h2 h => cE h (fun h3 h => dS h fk100 (p100_2_0 x3 b1 r1) (oc h0 (oc h1 (oc (xEb h2) (oc h3 (oc rfl on)))))) fun h3 h =>
   bE h fun r2 h5 h => cE h (fun h6 h => dS h fk100 (p100_2_1 x3 b1 r1 r2) (oc h0 (oc h1 (oc (xEb h2) (oc h3 (oc h1 (oc (g0 _ _ h5) (oc h6 on)))))))) fun h6 h =>
   tS fk100 (p100_2_2 x3 b1 r1 r2) (oc h0 (oc h1 (oc (xEb h2) (oc h3 (oc h1 (oc (g0 _ _ h5) (oc h6 on))))))) (ih _ _ _ h)) fun h0 h =>
   cE h (fun h1 h => bE h fun r1 h2 h => dS h fk100 (p100_2_3 x3 b1 r1) (oc h0 (oc h1 (oc (spec_DepthOf_ok h2) on)))) fun h1 h =>
   dS h fk100 (p100_2_4 x3 b1) (oc h0 (oc h1 on))
theorem c100_e {N : Nat} {q0 : Val → Option (Bool)} (g0 : G58 q0) {q1 : Val → Option (Bool)} (g1 : G100 q1) : ∀ a0 r, xEu N q0 q1 a0 = some r → RE Tryd.f100 I100 (xDB a0) (xBy r) := fun a0 r h =>
 tE fk100 (p100_e_5 a0) on (c100_2 g0 g1 _ _ _ _ h)
theorem xGd {N : Nat} {q0 : Val → Option (Bool)} (g0 : G58 q0) {q1 : Val → Option (Bool)} (g1 : G100 q1) {a0 : Val} {r : Bool} (h : xEu N q0 q1 a0 = some r) : AbC 100 (xDB a0) (xBy r) :=
 AbsCalls.of_reach fk100 rfl rfl (Nat.le_of_ble_eq_true rfl) (c100_e g0 g1 a0 r h)
theorem xFe {N : Nat} : ∀ d, G58 (xAg N d).c_spec_IsValidValue ∧ G100 (xAg N d).c_spec_l3List := by
 intro d
 induction d with
 | zero => exact ⟨fun _ _ h => nE h, fun _ _ h => nE h⟩
 | succ d ih =>
  obtain ⟨ih0, ih1⟩ := ih
  exact ⟨fun _ _ h => xE5 (N := N) ih0 ih1 h, fun _ _ h => xGd (N := N) ih0 ih1 h⟩
theorem xEw {N : Nat} {a0 : Val} {r : Bool} (h : xDp N a0 = some r) : AbC 58 (xAd a0) (xAc r) := (xFe N).1 _ r h
noncomputable def I86 : Info := { body := (Tryd.f86.body).getD .skip, nt := 31, results := [.tmp 2], keep := [0, 4, 6, 8, 10, 14, 22, 30, 54], live := [(5, [0, 6, 8])], modes := [(11, [(0, .take, false)])] }
theorem fk86 : FnOk Tryd.prog 86 Tryd.f86 I86 := ⟨Tryd.func86, by kernel_rfl, by kernel_rfl, by kernel_rfl, by kernel_rfl⟩
def S86_5 (x0 : Int) (x3 : Bool) (x4 : Str) : St := [(0, .v false [.int .i64 x0]), (6, .v false [.bool x3]), (8, .v false [.str x4])]
theorem p86_5_0 (x0 : Int) (x3 : Bool) (x4 : Str) : rS 5 I86 (S86_5 x0 x3 x4) [Y, Y] [] = st 5 I86 (S86_5 (W (Int.tdiv x0 10)) x3 ((List.map (fun n => UInt8.ofNat (tN n)) [(IntKind.u8.wrap ((W (48 + (W (0 - (Int.tmod x0 10)))))))]) ++ x4)) [((x0 : Int) != 0) = true, 10 ≠ (0 : Int), (decide (((Int.tmod x0 10) : Int) < 0)) = true, Ln (List.map (fun n => UInt8.ofNat (tN n)) [(IntKind.u8.wrap ((W (48 + (W (0 - (Int.tmod x0 10)))))))]) + Ln x4 ≤ Lim, 10 ≠ (0 : Int)] := by kernel_rfl
theorem p86_5_1 (x0 : Int) (x3 : Bool) (x4 : Str) : rS 5 I86 (S86_5 x0 x3 x4) [Y, F] [] = st 5 I86 (S86_5 (W (Int.tdiv x0 10)) x3 ((List.map (fun n => UInt8.ofNat (tN n)) [(IntKind.u8.wrap ((W (48 + (Int.tmod x0 10)))))]) ++ x4)) [((x0 : Int) != 0) = true, 10 ≠ (0 : Int), (decide (((Int.tmod x0 10) : Int) < 0)) = false, Ln (List.map (fun n => UInt8.ofNat (tN n)) [(IntKind.u8.wrap ((W (48 + (Int.tmod x0 10)))))]) + Ln x4 ≤ Lim, 10 ≠ (0 : Int)] := by kernel_rfl
theorem p86_5_2 (x0 : Int) (x3 : Bool) (x4 : Str) : rS 5 I86 (S86_5 x0 x3 x4) [F, Y] [] = dn (xAu ([45] ++ x4)) [((x0 : Int) != 0) = false, x3 = true, Ln [45] + Ln x4 ≤ Lim] := by kernel_rfl
theorem p86_5_3 (x0 : Int) (x3 : Bool) (x4 : Str) : rS 5 I86 (S86_5 x0 x3 x4) [F, F] [] = dn (xAu x4) [((x0 : Int) != 0) = false, x3 = false] := by kernel_rfl
theorem p86_e_4 (a0 : Int) : rE I86 (xBt a0) [Y] [] = dn (xAu [48]) [((a0 : Int) == 0) = true] := by kernel_rfl
theorem p86_e_5 (a0 : Int) : rE I86 (xBt a0) [F] [] = st 5 I86 (S86_5 a0 (decide ((a0 : Int) < 0)) []) [((a0 : Int) == 0) = false] := by kernel_rfl
theorem c86_5 {N : Nat} : ∀ n x0 x3 x4 r, xAZ N n x0 x3 x4 = some r → RS Tryd.f86 I86 5 (S86_5 x0 x3 x4) (xAu r) := by
 intro n
 induction n with
 | zero => exact fun _ _ _ _ h => nE h
 | succ n ih =>
  exact fun x0 x3 x4 r h =>
   cE h (fun h0 h => cE h (fun h2 h => iE h fun h3 h => tS fk86 (p86_5_0 x0 x3 x4) (oc h0 (oc (by decide) (oc h2 (oc h3 (oc (by decide) on))))) (ih _ _ _ _ h)) fun h2 h =>
   iE h fun h3 h => tS fk86 (p86_5_1 x0 x3 x4) (oc h0 (oc (by decide) (oc h2 (oc h3 (oc (by decide) on))))) (ih _ _ _ _ h)) fun h0 h =>
   cE h (fun h1 h => iE h fun h2 h => dS h fk86 (p86_5_2 x0 x3 x4) (oc h0 (oc h1 (oc h2 on)))) fun h1 h =>
   dS h fk86 (p86_5_3 x0 x3 x4) (oc h0 (oc h1 on))
theorem c86_e {N : Nat} : ∀ a0 r, xB0 N a0 = some r → RE Tryd.f86 I86 (xBt a0) (xAu r) := fun a0 r h =>
 cE h (fun h0 h => dE h fk86 (p86_e_4 a0) (oc h0 on)) fun h0 h =>
 tE fk86 (p86_e_5 a0) (oc h0 on) (c86_5 _ _ _ _ _ h)
theorem xDo {N : Nat} {a0 : Int} {r : Str} (h : xB0 N  a0 = some r) : AbC 86 (xBt a0) (xAu r) :=
 AbsCalls.of_reach fk86 rfl rfl (Nat.le_of_ble_eq_true rfl) (c86_e a0 r h)
noncomputable def I102 : Info := { body := (Tryd.f102.body).getD .skip, nt := 27, results := [.tmp 4], keep := [0, 2, 8, 10, 12, 22, 30], live := [(3, [0, 2, 10, 12])], modes := [(6, [(0, .take, false)]), (7, [(0, .take, false)])] }
theorem fk102 : FnOk Tryd.prog 102 Tryd.f102 I102 := ⟨Tryd.func102, by kernel_rfl, by kernel_rfl, by kernel_rfl, by kernel_rfl⟩
def S102_3 (x0 : List Str) (x1 : Str) (x5 : List Int) (x6 : Int) : St := [(0, .v false [.sl .ro .str x0]), (2, .v false [.str x1]), (10, .v false [.sl .own .byte x5]), (12, .v false [.int .i64 x6])]
theorem p102_3_0 (x0 : List Str) (x1 : Str) (x5 : List Int) (x6 : Int) : rS 3 I102 (S102_3 x0 x1 x5 x6) [Y, Y] [] = st 3 I102 (S102_3 x0 x1 ((x5 ++ List.map (fun c => (c.toNat : Int)) x1) ++ List.map (fun c => (c.toNat : Int)) (gD x0 (tN x6) Ty.str.dflt)) (W (x6 + 1))) [(decide ((x6 : Int) < (Ln x0 : Int))) = true, (decide ((x6 : Int) > 0)) = true, Ln x5 + Ln x1 ≤ Lim, (0 : Int) ≤ x6 ∧ x6 < (Ln x0), Ln (x5 ++ List.map (fun c => (c.toNat : Int)) x1) + Ln (gD x0 (tN x6) Ty.str.dflt) ≤ Lim] := by kernel_rfl
theorem p102_3_1 (x0 : List Str) (x1 : Str) (x5 : List Int) (x6 : Int) : rS 3 I102 (S102_3 x0 x1 x5 x6) [Y, F] [] = st 3 I102 (S102_3 x0 x1 (x5 ++ List.map (fun c => (c.toNat : Int)) (gD x0 (tN x6) Ty.str.dflt)) (W (x6 + 1))) [(decide ((x6 : Int) < (Ln x0 : Int))) = true, (decide ((x6 : Int) > 0)) = false, (0 : Int) ≤ x6 ∧ x6 < (Ln x0), Ln x5 + Ln (gD x0 (tN x6) Ty.str.dflt) ≤ Lim] := by kernel_rfl
theorem p102_3_2 (x0 : List Str) (x1 : Str) (x5 : List Int) (x6 : Int) : rS 3 I102 (S102_3 x0 x1 x5 x6) [F] [] = dn (xBE (List.map (fun n => UInt8.ofNat (tN n)) x5)) [(decide ((x6 : Int) < (Ln x0 : Int))) = false] := by kernel_rfl
theorem p102_e_3 (a0 : List Str) (a1 : Str) : rE I102 (xDc a0 a1) [] [] = st 3 I102 (S102_3 a0 a1 [] 0) [] := by kernel_rfl
theorem c102_3 {N : Nat} : ∀ n x0 x1 x5 x6 r, xB1 N n x0 x1 x5 x6 = some r → RS Tryd.f102 I102 3 (S102_3 x0 x1 x5 x6) (xBE r) := by
 intro n
 induction n with
 | zero => exact fun _ _ _ _ _ h => nE h
 | succ n ih =>
  exact fun x0 x1 x5 x6 r h =>
   cE h (fun h0 h => cE h (fun h1 h => iE h fun h2 h => iE h fun h3 h => iE h fun h4 h => tS fk102 (p102_3_0 x0 x1 x5 x6) (oc h0 (oc h1 (oc h2 (oc h3 (oc h4 on))))) (ih _ _ _ _ _ h)) fun h1 h =>
   iE h fun h2 h => iE h fun h3 h => tS fk102 (p102_3_1 x0 x1 x5 x6) (oc h0 (oc h1 (oc h2 (oc h3 on)))) (ih _ _ _ _ _ h)) fun h0 h =>
   dS h fk102 (p102_3_2 x0 x1 x5 x6) (oc h0 on)
theorem c102_e {N : Nat} : ∀ a0 a1 r, xEq N a0 a1 = some r → RE Tryd.f102 I102 (xDc a0 a1) (xBE r) := fun a0 a1 r h =>
 tE fk102 (p102_e_3 a0 a1) on (c102_3 _ _ _ _ _ _ h)
theorem xEV {N : Nat} {a0 : List Str} {a1 : Str} {r : Str} (h : xEq N  a0 a1 = some r) : AbC 102 (xDc a0 a1) (xBE r) :=
 AbsCalls.of_reach fk102 rfl rfl (Nat.le_of_ble_eq_true rfl) (c102_e a0 a1 r h)
noncomputable def I103 : Info := { body := (Tryd.f103.body).getD .skip, nt := 48, results := [.tmp 2], keep := [0, 4, 6, 8, 10, 12, 22, 44], live := [(3, [0, 6, 8]), (7, [0, 6, 8, 10, 12])], modes := [(9, [(0, .take, false)]), (10, [(0, .take, false)])] }
theorem fk103 : FnOk Tryd.prog 103 Tryd.f103 I103 := ⟨Tryd.func103, by kernel_rfl, by kernel_rfl, by kernel_rfl, by kernel_rfl⟩
def S103_3 (x0 : List Rowd) (x3 : List Str) (x4 : Int) : St := [(0, .v false [.sl .ro .row x0]), (6, .v false [.sl .own .str x3]), (8, .v false [.int .i64 x4])]
def S103_7 (x0 : List Rowd) (x3 : List Str) (x4 : Int) (x5 : List Str) (x6 : Int) : St := [(0, .v false [.sl .ro .row x0]), (6, .v false [.sl .own .str x3]), (8, .v false [.int .i64 x4]), (10, .v false [.sl .own .str x5]), (12, .v false [.int .i64 x6])]
theorem p103_7_0 (x0 : List Rowd) (x3 : List Str) (x4 : Int) (x5 : List Str) (x6 : Int) (r1 : Str) : rS 7 I103 (S103_7 x0 x3 x4 x5 x6) [Y] [xAu r1] = st 7 I103 (S103_7 x0 x3 x4 (x5 ++ [r1]) (W (x6 + 1))) [(0 : Int) ≤ x4 ∧ x4 < (Ln x0), (decide ((x6 : Int) < (Ln (Rowd.cells (gD x0 (tN x4) rd)) : Int))) = true, (0 : Int) ≤ x4 ∧ x4 < (Ln x0), (0 : Int) ≤ x6 ∧ x6 < (Ln (Rowd.cells (gD x0 (tN x4) rd))), AbC 86 (xBt (gD (Rowd.cells (gD x0 (tN x4) rd)) (tN x6) Ty.int.dflt)) (xAu r1), Ln x5 + Ln [r1] ≤ Lim] := by kernel_rfl
theorem p103_7_1 (x0 : List Rowd) (x3 : List Str) (x4 : Int) (x5 : List Str) (x6 : Int) (r1 : Str) : rS 7 I103 (S103_7 x0 x3 x4 x5 x6) [F] [xBE r1] = st 3 I103 (S103_3 x0 (x3 ++ [(([91] ++ r1) ++ [93])]) (W (x4 + 1))) [(0 : Int) ≤ x4 ∧ x4 < (Ln x0), (decide ((x6 : Int) < (Ln (Rowd.cells (gD x0 (tN x4) rd)) : Int))) = false, AbC 102 (xDc x5 [44, 32]) (xBE r1), Ln [91] + Ln r1 ≤ Lim, Ln ([91] ++ r1) + Ln [93] ≤ Lim, Ln x3 + Ln [(([91] ++ r1) ++ [93])] ≤ Lim] := by kernel_rfl
theorem p103_3_2 (x0 : List Rowd) (x3 : List Str) (x4 : Int) : rS 3 I103 (S103_3 x0 x3 x4) [Y] [] = st 7 I103 (S103_7 x0 x3 x4 [] 0) [(decide ((x4 : Int) < (Ln x0 : Int))) = true] := by kernel_rfl
theorem p103_3_3 (x0 : List Rowd) (x3 : List Str) (x4 : Int) (r1 : Str) : rS 3 I103 (S103_3 x0 x3 x4) [F] [xBE r1] = dn (xB4 (([91] ++ r1) ++ [93])) [(decide ((x4 : Int) < (Ln x0 : Int))) = false, AbC 102 (xDc x3 [44, 32]) (xBE r1), Ln [91] + Ln r1 ≤ Lim, Ln ([91] ++ r1) + Ln [93] ≤ Lim] := by kernel_rfl
theorem p103_e_4 (a0 : List Rowd) : rE I103 (xEm a0) [] [] = st 3 I103 (S103_3 a0 [] 0) [] := by kernel_rfl
theorem c103_7 {N : Nat} {k3 : (List Rowd) → (List Str) → Int → Option (Str)} (hk3 : ∀ z0 z1 z2 r, k3 z0 z1 z2 = some r → RS Tryd.f103 I103 3 (S103_3 z0 z1 z2) (xB4 r)) : ∀ n x0 x3 x4 x5 x6 r, xCB N k3 n x0 x3 x4 x5 x6 = some r → RS Tryd.f103 I103 7 (S103_7 x0 x3 x4 x5 x6) (xB4 r) := by
 intro n
 induction n with
 | zero => exact fun _ _ _ _ _ _ h => nE h
 | succ n ih =>
  exact fun x0 x3 x4 x5 x6 r h =>
   iE h fun h0 h => cE h (fun h1 h => iE h fun h3 h => bE h fun r1 h4 h => iE h fun h5 h => tS fk103 (p103_7_0 x0 x3 x4 x5 x6 r1) (oc h0 (oc h1 (oc h0 (oc h3 (oc (xDo h4) (oc h5 on)))))) (ih _ _ _ _ _ _ h)) fun h1 h =>
   bE h fun r1 h2 h => iE h fun h3 h => iE h fun h4 h => iE h fun h5 h => tS fk103 (p103_7_1 x0 x3 x4 x5 x6 r1) (oc h0 (oc h1 (oc (xEV h2) (oc h3 (oc h4 (oc h5 on)))))) (hk3 _ _ _ _ h)
theorem c103_3 {N : Nat} : ∀ n x0 x3 x4 r, xC3 N n x0 x3 x4 = some r → RS Tryd.f103 I103 3 (S103_3 x0 x3 x4) (xB4 r) := by
 intro n
 induction n with
 | zero => exact fun _ _ _ _ h => nE h
 | succ n ih =>
  exact fun x0 x3 x4 r h =>
   cE h (fun h0 h => tS fk103 (p103_3_2 x0 x3 x4) (oc h0 on) (c103_7 ih _ _ _ _ _ _ _ h)) fun h0 h =>
   bE h fun r1 h1 h => iE h fun h2 h => iE h fun h3 h => dS h fk103 (p103_3_3 x0 x3 x4 r1) (oc h0 (oc (xEV h1) (oc h2 (oc h3 on))))
theorem c103_e {N : Nat} : ∀ a0 r, xFq N a0 = some r → RE Tryd.f103 I103 (xEm a0) (xB4 r) := fun a0 r h =>
 tE fk103 (p103_e_4 a0) on (c103_3 _ _ _ _ _ h)
theorem spec_l4Rows_ok {N : Nat} {a0 : List Rowd} {r : Str} (h : xFq N  a0 = some r) : AbC 103 (xEm a0) (xB4 r) :=
 AbsCalls.of_reach fk103 rfl rfl (Nat.le_of_ble_eq_true rfl) (c103_e a0 r h)
noncomputable def I128 : Info := { body := (Tryd.f128.body).getD .skip, nt := 2, results := [.tmp 0], keep := [0], live := [], modes := [] }
theorem fk128 : FnOk Tryd.prog 128 Tryd.f128 I128 := ⟨Tryd.func128, by kernel_rfl, by kernel_rfl, by kernel_rfl, by kernel_rfl⟩
theorem p128_e_0 : rE I128 (xDL ) [] [] = dn (xCV [[], [109, 105, 115, 115, 105, 110, 103], [100, 117, 112, 108, 105, 99, 97, 116, 101], [99, 121, 99, 108, 101], [116, 121, 112, 101], [114, 97, 110, 103, 101], [108, 105, 109, 105, 116], [99, 111, 108, 117, 109, 110], [115, 121, 110, 116, 97, 120]]) [] := by kernel_rfl
theorem c128_e {N : Nat} : ∀ r, xFp N = some r → RE Tryd.f128 I128 (xDL ) (xCV r) := fun r h =>
 dE h fk128 (p128_e_0) on
theorem spec_l4Errors_ok {N : Nat} {r : (List Str)} (h : xFp N   = some r) : AbC 128 (xDL ) (xCV r) :=
 AbsCalls.of_reach fk128 rfl rfl (Nat.le_of_ble_eq_true rfl) (c128_e  r h)
noncomputable def I104 : Info := { body := (Tryd.f104.body).getD .skip, nt := 10, results := [.tmp 2], keep := [0, 4, 10], live := [], modes := [] }
theorem fk104 : FnOk Tryd.prog 104 Tryd.f104 I104 := ⟨Tryd.func104, by kernel_rfl, by kernel_rfl, by kernel_rfl, by kernel_rfl⟩
theorem p104_e_0 (a0 : Int) (r1 : Bool) : rE I104 (xCG a0) [Y] [xA2 r1] = dn (xCb [63]) [AbC 68 (xB2 a0 1 8) (xA2 r1), (!r1) = true] := by kernel_rfl
theorem p104_e_1 (a0 : Int) (r1 : Bool) (r2 : (List Str)) : rE I104 (xCG a0) [F] [xA2 r1, xCV r2] = dn (xCb (gD r2 (tN a0) Ty.str.dflt)) [AbC 68 (xB2 a0 1 8) (xA2 r1), (!r1) = false, AbC 128 xDL (xCV r2), (0 : Int) ≤ a0 ∧ a0 < (Ln r2)] := by kernel_rfl
theorem c104_e {N : Nat} : ∀ a0 r, xDA N a0 = some r → RE Tryd.f104 I104 (xCG a0) (xCb r) := fun a0 r h =>
 bE h fun r1 h0 h => cE h (fun h1 h => dE h fk104 (p104_e_0 a0 r1) (oc (xDQ h0) (oc h1 on))) fun h1 h =>
 bE h fun r2 h2 h => iE h fun h3 h => dE h fk104 (p104_e_1 a0 r1 r2) (oc (xDQ h0) (oc h1 (oc (spec_l4Errors_ok h2) (oc h3 on))))
theorem spec_ErrorName_ok {N : Nat} {a0 : Int} {r : Str} (h : xDA N  a0 = some r) : AbC 104 (xCG a0) (xCb r) :=
 AbsCalls.of_reach fk104 rfl rfl (Nat.le_of_ble_eq_true rfl) (c104_e a0 r h)
def G59 (q : Val → Option (Str)) : Prop := ∀ a0 r, q a0 = some r → AbC 59 (xA7 a0) (xAK r)
noncomputable def I59 : Info := { body := (Tryd.f59.body).getD .skip, nt := 69, results := [.tmp 2], keep := [0, 2, 4, 6, 8, 12, 14, 24, 36, 60, 84, 106, 3], live := [(14, [2, 6, 8, 3])], modes := [(16, [(0, .take, false)])] }
theorem fk59 : FnOk Tryd.prog 59 Tryd.f59 I59 := ⟨Tryd.func59, by kernel_rfl, by kernel_rfl, by kernel_rfl, by kernel_rfl⟩
def S59_14 (x3 : List Str) (x4 : Int) (b1 : Val) : St := [(2, .v false [.ptr 1 0]), (6, .v false [.sl .own .str x3]), (8, .v false [.int .i64 x4]), (3, .v true [.int .i64 (Val.kind b1), .int .i64 (Val.n b1), .int .i64 (Val.step b1), .str (Val.text b1), .sl .ro .val (Val.list b1), .sl .ro .str (Val.columns b1), .sl .ro .row (Val.rows b1)])]
theorem p59_14_0 (x3 : List Str) (x4 : Int) (b1 : Val) (r1 : Str) : rS 14 I59 (S59_14 x3 x4 b1) [Y] [xAK r1] = st 14 I59 (S59_14 (x3 ++ [r1]) (W (x4 + 1)) b1) [(decide ((x4 : Int) < (Ln (Val.list b1) : Int))) = true, (0 : Int) ≤ x4 ∧ x4 < (Ln (Val.list b1)), AbC 59 (xA7 (gD (Val.list b1) (tN x4) vd)) (xAK r1), Ln x3 + Ln [r1] ≤ Lim] := by kernel_rfl
theorem p59_14_1 (x3 : List Str) (x4 : Int) (b1 : Val) (r1 : Str) : rS 14 I59 (S59_14 x3 x4 b1) [F] [xBE r1] = dn (xAK (([91] ++ r1) ++ [93])) [(decide ((x4 : Int) < (Ln (Val.list b1) : Int))) = false, AbC 102 (xDc x3 [44, 32]) (xBE r1), Ln [91] + Ln r1 ≤ Lim, Ln ([91] ++ r1) + Ln [93] ≤ Lim] := by kernel_rfl
theorem p59_e_2 (a0 : Val) (r1 : Str) : rE I59 (xA7 a0) [Y] [xAu r1] = dn (xAK r1) [(((Val.kind a0) : Int) == 1) = true, AbC 86 (xBt (Val.n a0)) (xAu r1)] := by kernel_rfl
theorem p59_e_3 (a0 : Val) : rE I59 (xA7 a0) [F, Y] [] = dn (xAK (([34] ++ (Val.text a0)) ++ [34])) [(((Val.kind a0) : Int) == 1) = false, (((Val.kind a0) : Int) == 2) = true, Ln [34] + Ln (Val.text a0) ≤ Lim, Ln ([34] ++ (Val.text a0)) + Ln [34] ≤ Lim] := by kernel_rfl
theorem p59_e_4 (a0 : Val) (r1 r2 : Str) : rE I59 (xA7 a0) [F, F, Y] [xAu r1, xAu r2] = dn (xAK (((([114, 97, 110, 103, 101, 40] ++ r1) ++ [44, 32]) ++ r2) ++ [41])) [(((Val.kind a0) : Int) == 1) = false, (((Val.kind a0) : Int) == 2) = false, (((Val.kind a0) : Int) == 4) = true, AbC 86 (xBt (Val.n a0)) (xAu r1), Ln [114, 97, 110, 103, 101, 40] + Ln r1 ≤ Lim, Ln ([114, 97, 110, 103, 101, 40] ++ r1) + Ln [44, 32] ≤ Lim, AbC 86 (xBt (Val.step a0)) (xAu r2), Ln (([114, 97, 110, 103, 101, 40] ++ r1) ++ [44, 32]) + Ln r2 ≤ Lim, Ln ((([114, 97, 110, 103, 101, 40] ++ r1) ++ [44, 32]) ++ r2) + Ln [41] ≤ Lim] := by kernel_rfl
theorem p59_e_5 (a0 : Val) (r1 r2 : Str) : rE I59 (xA7 a0) [F, F, F, Y] [xBE r1, xB4 r2] = dn (xAK (((([116, 97, 98, 108, 101, 40, 34] ++ r1) ++ [34, 44, 32]) ++ r2) ++ [41])) [(((Val.kind a0) : Int) == 1) = false, (((Val.kind a0) : Int) == 2) = false, (((Val.kind a0) : Int) == 4) = false, (((Val.kind a0) : Int) == 5) = true, AbC 102 (xDc (Val.columns a0) [32]) (xBE r1), Ln [116, 97, 98, 108, 101, 40, 34] + Ln r1 ≤ Lim, Ln ([116, 97, 98, 108, 101, 40, 34] ++ r1) + Ln [34, 44, 32] ≤ Lim, AbC 103 (xEm (Val.rows a0)) (xB4 r2), Ln (([116, 97, 98, 108, 101, 40, 34] ++ r1) ++ [34, 44, 32]) + Ln r2 ≤ Lim, Ln ((([116, 97, 98, 108, 101, 40, 34] ++ r1) ++ [34, 44, 32]) ++ r2) + Ln [41] ≤ Lim] := by kernel_rfl
theorem p59_e_6 (a0 : Val) (r1 : Str) : rE I59 (xA7 a0) [F, F, F, F, Y] [xCb r1] = dn (xAK ([101, 114, 114, 111, 114, 32] ++ r1)) [(((Val.kind a0) : Int) == 1) = false, (((Val.kind a0) : Int) == 2) = false, (((Val.kind a0) : Int) == 4) = false, (((Val.kind a0) : Int) == 5) = false, (((Val.kind a0) : Int) == 6) = true, AbC 104 (xCG (Val.n a0)) (xCb r1), Ln [101, 114, 114, 111, 114, 32] + Ln r1 ≤ Lim] := by kernel_rfl
theorem p59_e_7 (a0 : Val) : rE I59 (xA7 a0) [F, F, F, F, F] [] = st 14 I59 (S59_14 [] 0 a0) [(((Val.kind a0) : Int) == 1) = false, (((Val.kind a0) : Int) == 2) = false, (((Val.kind a0) : Int) == 4) = false, (((Val.kind a0) : Int) == 5) = false, (((Val.kind a0) : Int) == 6) = false] := by kernel_rfl
theorem c59_14 {N : Nat} {q0 : Val → Option (Str)} (g0 : G59 q0) : ∀ n x3 x4 b1 r, xBO N q0 n x3 x4 b1 = some r → RS Tryd.f59 I59 14 (S59_14 x3 x4 b1) (xAK r) := by
 intro n
 induction n with
 | zero => exact fun _ _ _ _ h => nE h
 | succ n ih =>
  exact fun x3 x4 b1 r h =>
   cE h (fun h0 h => iE h fun h1 h => bE h fun r1 h2 h => iE h fun h3 h => tS fk59 (p59_14_0 x3 x4 b1 r1) (oc h0 (oc h1 (oc (g0 _ _ h2) (oc h3 on)))) (ih _ _ _ _ h)) fun h0 h =>
   bE h fun r1 h1 h => iE h fun h2 h => iE h fun h3 h => dS h fk59 (p59_14_1 x3 x4 b1 r1) (oc h0 (oc (xEV h1) (oc h2 (oc h3 on))))
theorem c59_e {N : Nat} {q0 : Val → Option (Str)} (g0 : G59 q0) : ∀ a0 r, xA8 N q0 a0 = some r → RE Tryd.f59 I59 (xA7 a0) (xAK r) := fun a0 r h =>
 cE h (fun h0 h => bE h fun r1 h1 h => dE h fk59 (p59_e_2 a0 r1) (oc h0 (oc (xDo h1) on))) fun h0 h =>
 cE h (fun h1 h => iE h fun h2 h => iE h fun h3 h => dE h fk59 (p59_e_3 a0) (oc h0 (oc h1 (oc h2 (oc h3 on))))) fun h1 h =>
 cE h (fun h2 h => bE h fun r1 h3 h => iE h fun h4 h => iE h fun h5 h => bE h fun r2 h6 h => iE h fun h7 h => iE h fun h8 h => dE h fk59 (p59_e_4 a0 r1 r2) (oc h0 (oc h1 (oc h2 (oc (xDo h3) (oc h4 (oc h5 (oc (xDo h6) (oc h7 (oc h8 on)))))))))) fun h2 h =>
 cE h (fun h3 h => bE h fun r1 h4 h => iE h fun h5 h => iE h fun h6 h => bE h fun r2 h7 h => iE h fun h8 h => iE h fun h9 h => dE h fk59 (p59_e_5 a0 r1 r2) (oc h0 (oc h1 (oc h2 (oc h3 (oc (xEV h4) (oc h5 (oc h6 (oc (spec_l4Rows_ok h7) (oc h8 (oc h9 on))))))))))) fun h3 h =>
 cE h (fun h4 h => bE h fun r1 h5 h => iE h fun h6 h => dE h fk59 (p59_e_6 a0 r1) (oc h0 (oc h1 (oc h2 (oc h3 (oc h4 (oc (spec_ErrorName_ok h5) (oc h6 on)))))))) fun h4 h =>
 tE fk59 (p59_e_7 a0) (oc h0 (oc h1 (oc h2 (oc h3 (oc h4 on))))) (c59_14 g0 _ _ _ _ _ h)
theorem xGg {N : Nat} {q0 : Val → Option (Str)} (g0 : G59 q0) {a0 : Val} {r : Str} (h : xA8 N q0 a0 = some r) : AbC 59 (xA7 a0) (xAK r) :=
 AbsCalls.of_reach fk59 rfl rfl (Nat.le_of_ble_eq_true rfl) (c59_e g0 a0 r h)
theorem xEY {N : Nat} : ∀ d, G59 (xCn N d)
 | 0 => fun _ _ h => nE h
 | d + 1 => fun _ _ h => xGg (N := N) (xEY d) h
theorem spec_l4Text_ok {N : Nat} {a0 : Val} {r : Str} (h : xGf N a0 = some r) : AbC 59 (xA7 a0) (xAK r) := xEY N _ r h
noncomputable def I21 : Info := { body := (Tryd.f21.body).getD .skip, nt := 8, results := [.tmp 2], keep := [0, 2, 4, 10, 3], live := [], modes := [] }
theorem fk21 : FnOk Tryd.prog 21 Tryd.f21 I21 := ⟨Tryd.func21, by kernel_rfl, by kernel_rfl, by kernel_rfl, by kernel_rfl⟩
theorem p21_e_0 (a0 : Val) (r1 : Bool) : rE I21 (xBq a0) [Y] [xAc r1] = dn (xAJ []) [AbC 58 (xAd a0) (xAc r1), (!r1) = true] := by kernel_rfl
theorem p21_e_1 (a0 : Val) (r1 : Bool) (r2 : Str) : rE I21 (xBq a0) [F] [xAc r1, xAK r2] = dn (xAJ r2) [AbC 58 (xAd a0) (xAc r1), (!r1) = false, AbC 59 (xA7 a0) (xAK r2)] := by kernel_rfl
theorem c21_e {N : Nat} : ∀ a0 r, xCr N a0 = some r → RE Tryd.f21 I21 (xBq a0) (xAJ r) := fun a0 r h =>
 bE h fun r1 h0 h => cE h (fun h1 h => dE h fk21 (p21_e_0 a0 r1) (oc (xEw h0) (oc h1 on))) fun h1 h =>
 bE h fun r2 h2 h => dE h fk21 (p21_e_1 a0 r1 r2) (oc (xEw h0) (oc h1 (oc (spec_l4Text_ok h2) on)))
theorem xDN {N : Nat} {a0 : Val} {r : Str} (h : xCr N  a0 = some r) : AbC 21 (xBq a0) (xAJ r) :=
 AbsCalls.of_reach fk21 rfl rfl (Nat.le_of_ble_eq_true rfl) (c21_e a0 r h)
noncomputable def I73 : Info := { body := (Tryd.f73.body).getD .skip, nt := 15, results := [.tmp 6], keep := [0, 2, 4, 12], live := [], modes := [(1, [(3, .take, false)])] }
theorem fk73 : FnOk Tryd.prog 73 Tryd.f73 I73 := ⟨Tryd.func73, by kernel_rfl, by kernel_rfl, by kernel_rfl, by kernel_rfl⟩
theorem p73_e_0 (a0 a1 a2 : Int) : rE I73 (xBM a0 a1 a2) [Y] [] = dn (xAR (decide ((a0 : Int) ≤ a2))) [(decide ((a1 : Int) ≤ a0)) = true] := by kernel_rfl
theorem p73_e_1 (a0 a1 a2 : Int) : rE I73 (xBM a0 a1 a2) [F] [] = dn (xAR false) [(decide ((a1 : Int) ≤ a0)) = false] := by kernel_rfl
theorem c73_e {N : Nat} : ∀ a0 a1 a2 r, xDa N a0 a1 a2 = some r → RE Tryd.f73 I73 (xBM a0 a1 a2) (xAR r) := fun a0 a1 a2 r h =>
 cE h (fun h0 h => dE h fk73 (p73_e_0 a0 a1 a2) (oc h0 on)) fun h0 h =>
 dE h fk73 (p73_e_1 a0 a1 a2) (oc h0 on)
theorem xDv {N : Nat} {a0 : Int} {a1 : Int} {a2 : Int} {r : Bool} (h : xDa N  a0 a1 a2 = some r) : AbC 73 (xBM a0 a1 a2) (xAR r) :=
 AbsCalls.of_reach fk73 rfl rfl (Nat.le_of_ble_eq_true rfl) (c73_e a0 a1 a2 r h)
noncomputable def I105 : Info := { body := (Tryd.f105.body).getD .skip, nt := 5, results := [.tmp 2], keep := [0, 4], live := [], modes := [] }
theorem fk105 : FnOk Tryd.prog 105 Tryd.f105 I105 := ⟨Tryd.func105, by kernel_rfl, by kernel_rfl, by kernel_rfl, by kernel_rfl⟩
theorem p105_e_0 (a0 : Int) (r1 : Bool) : rE I105 (xBf a0) [] [xAR r1] = dn (xAv r1) [AbC 73 (xBM a0 (-1000000000) 1000000000) (xAR r1)] := by kernel_rfl
theorem c105_e {N : Nat} : ∀ a0 r, xCt N a0 = some r → RE Tryd.f105 I105 (xBf a0) (xAv r) := fun a0 r h =>
 bE h fun r1 h0 h => dE h fk105 (p105_e_0 a0 r1) (oc (xDv h0) on)
theorem xCo {N : Nat} {a0 : Int} {r : Bool} (h : xCt N  a0 = some r) : AbC 105 (xBf a0) (xAv r) :=
 AbsCalls.of_reach fk105 rfl rfl (Nat.le_of_ble_eq_true rfl) (c105_e a0 r h)
noncomputable def I106 : Info := { body := (Tryd.f106.body).getD .skip, nt := 29, results := [.tmp 2], keep := [0, 4, 6, 14, 50], live := [(2, [0, 6])], modes := [(4, [(4, .take, false), (10, .take, false)])] }
theorem fk106 : FnOk Tryd.prog 106 Tryd.f106 I106 := ⟨Tryd.func106, by kernel_rfl, by kernel_rfl, by kernel_rfl, by kernel_rfl⟩
def S106_2 (x0 : Str) (x3 : Int) : St := [(0, .v false [.str x0]), (6, .v false [.int .i64 x3])]
theorem p106_2_0 (x0 : Str) (x3 : Int) : rS 2 I106 (S106_2 x0 x3) [Y, Y, Y, Y] [] = dn (xAU false) [(decide ((x3 : Int) < (Ln x0 : Int))) = true, (0 : Int) ≤ x3 ∧ x3 < (Ln x0), (decide ((((gD x0 (tN x3) 0).toNat : Int) : Int) < 32)) = true, true = true, true = true] := by kernel_rfl
theorem p106_2_1 (x0 : Str) (x3 : Int) : rS 2 I106 (S106_2 x0 x3) [Y, F, Y, Y] [] = dn (xAU false) [(decide ((x3 : Int) < (Ln x0 : Int))) = true, (0 : Int) ≤ x3 ∧ x3 < (Ln x0), (decide ((((gD x0 (tN x3) 0).toNat : Int) : Int) < 32)) = false, (0 : Int) ≤ x3 ∧ x3 < (Ln x0), (decide ((((gD x0 (tN x3) 0).toNat : Int) : Int) > 126)) = true, true = true] := by kernel_rfl
theorem p106_2_2 (x0 : Str) (x3 : Int) : rS 2 I106 (S106_2 x0 x3) [Y, F, F, Y] [] = dn (xAU false) [(decide ((x3 : Int) < (Ln x0 : Int))) = true, (0 : Int) ≤ x3 ∧ x3 < (Ln x0), (decide ((((gD x0 (tN x3) 0).toNat : Int) : Int) < 32)) = false, (0 : Int) ≤ x3 ∧ x3 < (Ln x0), (decide ((((gD x0 (tN x3) 0).toNat : Int) : Int) > 126)) = false, (0 : Int) ≤ x3 ∧ x3 < (Ln x0), ((((gD x0 (tN x3) 0).toNat : Int) : Int) == 34) = true] := by kernel_rfl
theorem p106_2_3 (x0 : Str) (x3 : Int) : rS 2 I106 (S106_2 x0 x3) [Y, F, F, F] [] = st 2 I106 (S106_2 x0 (W (x3 + 1))) [(decide ((x3 : Int) < (Ln x0 : Int))) = true, (0 : Int) ≤ x3 ∧ x3 < (Ln x0), (decide ((((gD x0 (tN x3) 0).toNat : Int) : Int) < 32)) = false, (0 : Int) ≤ x3 ∧ x3 < (Ln x0), (decide ((((gD x0 (tN x3) 0).toNat : Int) : Int) > 126)) = false, (0 : Int) ≤ x3 ∧ x3 < (Ln x0), ((((gD x0 (tN x3) 0).toNat : Int) : Int) == 34) = false] := by kernel_rfl
theorem p106_2_4 (x0 : Str) (x3 : Int) : rS 2 I106 (S106_2 x0 x3) [F] [] = dn (xAU (decide (((Ln x0 : Int) : Int) ≤ 20))) [(decide ((x3 : Int) < (Ln x0 : Int))) = false] := by kernel_rfl
theorem p106_e_5 (a0 : Str) : rE I106 (xCK a0) [] [] = st 2 I106 (S106_2 a0 0) [] := by kernel_rfl
theorem c106_2 {N : Nat} : ∀ n x0 x3 r, xCg N n x0 x3 = some r → RS Tryd.f106 I106 2 (S106_2 x0 x3) (xAU r) := by
 intro n
 induction n with
 | zero => exact fun _ _ _ h => nE h
 | succ n ih =>
  exact fun x0 x3 r h =>
   cE h (fun h0 h => iE h fun h1 h => cE h (fun h2 h => dS h fk106 (p106_2_0 x0 x3) (oc h0 (oc h1 (oc h2 (oc rfl (oc rfl on)))))) fun h2 h =>
   cE h (fun h4 h => dS h fk106 (p106_2_1 x0 x3) (oc h0 (oc h1 (oc h2 (oc h1 (oc h4 (oc rfl on))))))) fun h4 h =>
   cE h (fun h6 h => dS h fk106 (p106_2_2 x0 x3) (oc h0 (oc h1 (oc h2 (oc h1 (oc h4 (oc h1 (oc h6 on)))))))) fun h6 h =>
   tS fk106 (p106_2_3 x0 x3) (oc h0 (oc h1 (oc h2 (oc h1 (oc h4 (oc h1 (oc h6 on))))))) (ih _ _ _ h)) fun h0 h =>
   dS h fk106 (p106_2_4 x0 x3) (oc h0 on)
theorem c106_e {N : Nat} : ∀ a0 r, xDE N a0 = some r → RE Tryd.f106 I106 (xCK a0) (xAU r) := fun a0 r h =>
 tE fk106 (p106_e_5 a0) on (c106_2 _ _ _ _ h)
theorem xF1 {N : Nat} {a0 : Str} {r : Bool} (h : xDE N  a0 = some r) : AbC 106 (xCK a0) (xAU r) :=
 AbsCalls.of_reach fk106 rfl rfl (Nat.le_of_ble_eq_true rfl) (c106_e a0 r h)
end Go.Ab.T
end
