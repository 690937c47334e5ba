/- The statement FnExactEffectResult holds: plain functions, certificates, laws. Conditions: none. -/
import Derived.Test.YtkbojckenecnbaaChecked
import Derived.Test.YtkbojckenecnbaaProg
import Derived.Test.YtkbojckenecnbaaRows
import Derived.Test.YtkbojckenecnbaaL2
set_option linter.all false
section
namespace Go.Ab
set_option linter.unusedVariables false
def xB1 (a0 : List Str) (a1 : Int) : List Arg := [.val (.v false [.sl .ro .str a0]), .val (.v false [.int .i64 a1])]
def xAZ (r : Int) : CallO := ⟨.v false [.int .i64 r], [], []⟩
def xCW (N : Nat) : Nat → (List Str) → Int → Int → Option (Int)
  | 0, _, _, _ => none
  | n + 1, x0, x1, x5 =>
    bif (decide ((x5 : Int) < (List.length x0 : Int))) then (
      if (0 : Int) ≤ x5 ∧ x5 < (List.length x0) then
      bif (decide (((IntKind.i64.wrap (x1 - (List.length (List.getD x0 (Int.toNat x5) Ty.str.dflt) : Int))) : Int) < 0)) then (
        some (-1)
      ) else (
        (xCW N n x0 (IntKind.i64.wrap (x1 - (List.length (List.getD x0 (Int.toNat x5) Ty.str.dflt) : Int))) (IntKind.i64.wrap (x5 + 1)))
      )
      else none
    ) else (
      some x1
    )
def xDG (N : Nat) (a0 : List Str) (a1 : Int) : Option (Int) :=
  bif (decide (((IntKind.i64.wrap (a1 - (List.length a0 : Int))) : Int) < 0)) then (
    some (-1)
  ) else (
    (xCW N N a0 (IntKind.i64.wrap (a1 - (List.length a0 : Int))) 0)
  )
def xCR (a0 : List Int) (a1 : Int) : List Arg := [.val (.v false [.sl .ro .int a0]), .val (.v false [.int .i64 a1])]
def xBM (r : Int) : CallO := ⟨.v false [.int .i64 r], [], []⟩
def xEv (N : Nat) (a0 : List Int) (a1 : Int) : Option (Int) :=
  bif (decide (((IntKind.i64.wrap (a1 - (List.length a0 : Int))) : Int) < 0)) then (
    some (-1)
  ) else (
    some (IntKind.i64.wrap (a1 - (List.length a0 : Int)))
  )
def xCx (a0 : List Org) (a1 : Int) : List Arg := [.val (.v false [.sl .ro .org a0]), .val (.v false [.int .i64 a1])]
def xBK (r : Int) : CallO := ⟨.v false [.int .i64 r], [], []⟩
def xDE (N : Nat) (a0 : List Org) (a1 : Int) : Option (Int) :=
  bif (decide (((IntKind.i64.wrap (a1 - (List.length a0 : Int))) : Int) < 0)) then (
    some (-1)
  ) else (
    some (IntKind.i64.wrap (a1 - (List.length a0 : Int)))
  )
def xC3 (a0 : Rowd) (a1 : Int) : List Arg := [.val (.v true [.sl .ro .int (Rowd.cells a0), .sl .ro .org (Rowd.frm a0)]), .val (.v false [.int .i64 a1])]
def xCn (r : Int) : CallO := ⟨.v false [.int .i64 r], [], []⟩
def xEq (N : Nat) (a0 : Rowd) (a1 : Int) : Option (Int) :=
  Option.bind (xEv N (Rowd.cells a0) a1) fun r1 =>
  bif (decide ((r1 : Int) < 0)) then (
    some (-1)
  ) else (
    Option.bind (xDE N (Rowd.frm a0) r1) fun r2 =>
    bif (decide ((r2 : Int) < 0)) then (
      some (-1)
    ) else (
      some r2
    )
  )
def xDk (a0 : List Rowd) (a1 : Int) : List Arg := [.val (.v false [.sl .ro .row a0]), .val (.v false [.int .i64 a1])]
def xBN (r : Int) : CallO := ⟨.v false [.int .i64 r], [], []⟩
def xDF (N : Nat) : Nat → (List Rowd) → Int → Int → Option (Int)
  | 0, _, _, _ => none
  | n + 1, x0, x1, x5 =>
    bif (decide ((x5 : Int) < (List.length x0 : Int))) then (
      if (0 : Int) ≤ x5 ∧ x5 < (List.length x0) then
      Option.bind (xEq N (List.getD x0 (Int.toNat x5) Ty.row.dflt) x1) fun r1 =>
      bif (decide ((r1 : Int) < 0)) then (
        some (-1)
      ) else (
        (xDF N n x0 r1 (IntKind.i64.wrap (x5 + 1)))
      )
      else none
    ) else (
      some x1
    )
def xEx (N : Nat) (a0 : List Rowd) (a1 : Int) : Option (Int) :=
  bif (decide (((IntKind.i64.wrap (a1 - (List.length a0 : Int))) : Int) < 0)) then (
    some (-1)
  ) else (
    (xDF N N a0 (IntKind.i64.wrap (a1 - (List.length a0 : Int))) 0)
  )
def xAH (a0 : Val) (a1 : Int) : List Arg := [.val (.v true [.int .i64 (Val.kind a0), .int .i64 (Val.n a0), .int .i64 (Val.step a0), .str (Val.text a0), .sl .ro .val (Val.list a0), .sl .ro .str (Val.columns a0), .sl .ro .row (Val.rows a0)]), .val (.v false [.int .i64 a1])]
def xAy (r : Int) : CallO := ⟨.v false [.int .i64 r], [], []⟩
def xDB (N : Nat) (rc_laws_szValue : Val → Int → Option (Int)) (rc_laws_szValueS : (List Val) → Int → Option (Int)) (a0 : Val) (a1 : Int) : Option (Int) :=
  bif (decide (((IntKind.i64.wrap (a1 - (List.length (Val.text a0) : Int))) : Int) < 0)) then (
    some (-1)
  ) else (
    Option.bind (rc_laws_szValueS (Val.list a0) (IntKind.i64.wrap (a1 - (List.length (Val.text a0) : Int)))) fun r1 =>
    bif (decide ((r1 : Int) < 0)) then (
      some (-1)
    ) else (
      Option.bind (xDG N (Val.columns a0) r1) fun r2 =>
      bif (decide ((r2 : Int) < 0)) then (
        some (-1)
      ) else (
        Option.bind (xEx N (Val.rows a0) r2) fun r3 =>
        bif (decide ((r3 : Int) < 0)) then (
          some (-1)
        ) else (
          some r3
        )
      )
    )
  )
def xAV (a0 : List Val) (a1 : Int) : List Arg := [.val (.v false [.sl .ro .val a0]), .val (.v false [.int .i64 a1])]
def xAA (r : Int) : CallO := ⟨.v false [.int .i64 r], [], []⟩
def xDa (N : Nat) (rc_laws_szValue : Val → Int → Option (Int)) (rc_laws_szValueS : (List Val) → Int → Option (Int)) : Nat → (List Val) → Int → Int → Option (Int)
  | 0, _, _, _ => none
  | n + 1, x0, x1, x5 =>
    bif (decide ((x5 : Int) < (List.length x0 : Int))) then (
      if (0 : Int) ≤ x5 ∧ x5 < (List.length x0) then
      Option.bind (rc_laws_szValue (List.getD x0 (Int.toNat x5) Ty.val.dflt) x1) fun r1 =>
      bif (decide ((r1 : Int) < 0)) then (
        some (-1)
      ) else (
        (xDa N rc_laws_szValue rc_laws_szValueS n x0 r1 (IntKind.i64.wrap (x5 + 1)))
      )
      else none
    ) else (
      some x1
    )
def xDq (N : Nat) (rc_laws_szValue : Val → Int → Option (Int)) (rc_laws_szValueS : (List Val) → Int → Option (Int)) (a0 : List Val) (a1 : Int) : Option (Int) :=
  bif (decide (((IntKind.i64.wrap (a1 - (List.length a0 : Int))) : Int) < 0)) then (
    some (-1)
  ) else (
    (xDa N rc_laws_szValue rc_laws_szValueS N a0 (IntKind.i64.wrap (a1 - (List.length a0 : Int))) 0)
  )
structure laws_szValue_rec where
  c_laws_szValue : Val → Int → Option (Int)
  c_laws_szValueS : (List Val) → Int → Option (Int)
def xBd (N : Nat) : Nat → laws_szValue_rec
  | 0 => ⟨fun _ _ => none, fun _ _ => none⟩
  | d + 1 => ⟨xDB N (xBd N d).c_laws_szValue (xBd N d).c_laws_szValueS, xDq N (xBd N d).c_laws_szValue (xBd N d).c_laws_szValueS⟩
def xEU (N : Nat) (a0 : Val) (a1 : Int) : Option (Int) := (xBd N N).c_laws_szValue a0 a1
def xDD (a0 : List Str) : List Arg := [.val (.v false [.sl .ro .str a0])]
def xCz (r : (List Str)) : CallO := ⟨.v false [.sl .own .str r], [], []⟩
def xCZ (N : Nat) : Nat → (List Str) → (List Str) → Int → Option ((List Str))
  | 0, _, _, _ => none
  | n + 1, x0, x3, x4 =>
    bif (decide ((x4 : Int) < (List.length x0 : Int))) then (
      if (0 : Int) ≤ x4 ∧ x4 < (List.length x0) then
      if (0 : Int) ≤ x4 ∧ x4 < (List.length x3) then
      (xCZ N n x0 (List.set x3 (Int.toNat x4) (List.getD x0 (Int.toNat x4) Ty.str.dflt)) (IntKind.i64.wrap (x4 + 1)))
      else none
      else none
    ) else (
      some x3
    )
def xDo (N : Nat) (a0 : List Str) : Option ((List Str)) :=
  if (0 : Int) ≤ (List.length a0 : Int) ∧ (List.length a0 : Int) = (List.length a0 : Int) ∧ (List.length a0 : Int) ≤ Lim then
  (xCZ N N a0 (List.replicate (Int.toNat (List.length a0 : Int)) Ty.str.dflt) 0)
  else none
def xEg (a0 : List Int) : List Arg := [.val (.v false [.sl .ro .int a0])]
def xDl (r : (List Int)) : CallO := ⟨.v false [.sl .own .int r], [], []⟩
def xDI (N : Nat) : Nat → (List Int) → (List Int) → Int → Option ((List Int))
  | 0, _, _, _ => none
  | n + 1, x0, x3, x4 =>
    bif (decide ((x4 : Int) < (List.length x0 : Int))) then (
      if (0 : Int) ≤ x4 ∧ x4 < (List.length x0) then
      if (0 : Int) ≤ x4 ∧ x4 < (List.length x3) then
      (xDI N n x0 (List.set x3 (Int.toNat x4) (List.getD x0 (Int.toNat x4) Ty.int.dflt)) (IntKind.i64.wrap (x4 + 1)))
      else none
      else none
    ) else (
      some x3
    )
def xEa (N : Nat) (a0 : List Int) : Option ((List Int)) :=
  if (0 : Int) ≤ (List.length a0 : Int) ∧ (List.length a0 : Int) = (List.length a0 : Int) ∧ (List.length a0 : Int) ≤ Lim then
  (xDI N N a0 (List.replicate (Int.toNat (List.length a0 : Int)) Ty.int.dflt) 0)
  else none
def xDM (a0 : Org) : List Arg := [.val (.v true [.int .i64 (Org.cell a0), .int .i64 (Org.row a0)])]
def xDb (r : Org) : CallO := ⟨.v true [.int .i64 (Org.cell r), .int .i64 (Org.row r)], [], []⟩
def xD0 (N : Nat) (a0 : Org) : Option (Org) :=
  some a0
def xDC (a0 : List Org) : List Arg := [.val (.v false [.sl .ro .org a0])]
def xCy (r : (List Org)) : CallO := ⟨.v false [.sl .own .org r], [], []⟩
def xCY (N : Nat) : Nat → (List Org) → (List Org) → Int → Option ((List Org))
  | 0, _, _, _ => none
  | n + 1, x0, x3, x4 =>
    bif (decide ((x4 : Int) < (List.length x0 : Int))) then (
      if (0 : Int) ≤ x4 ∧ x4 < (List.length x0) then
      Option.bind (xD0 N (List.getD x0 (Int.toNat x4) Ty.org.dflt)) fun r1 =>
      if (0 : Int) ≤ x4 ∧ x4 < (List.length x3) then
      (xCY N n x0 (List.set x3 (Int.toNat x4) r1) (IntKind.i64.wrap (x4 + 1)))
      else none
      else none
    ) else (
      some x3
    )
def xDm (N : Nat) (a0 : List Org) : Option ((List Org)) :=
  if (0 : Int) ≤ (List.length a0 : Int) ∧ (List.length a0 : Int) = (List.length a0 : Int) ∧ (List.length a0 : Int) ≤ Lim then
  (xCY N N a0 (List.replicate (Int.toNat (List.length a0 : Int)) Ty.org.dflt) 0)
  else none
def xEo (a0 : Rowd) : List Arg := [.val (.v true [.sl .ro .int (Rowd.cells a0), .sl .ro .org (Rowd.frm a0)])]
def xD1 (r : Rowd) : CallO := ⟨.v true [.sl .own .int (Rowd.cells r), .sl .own .org (Rowd.frm r)], [], []⟩
def xEb (N : Nat) (a0 : Rowd) : Option (Rowd) :=
  Option.bind (xEa N (Rowd.cells a0)) fun r1 =>
  Option.bind (xDm N (Rowd.frm a0)) fun r2 =>
  some (Rowd.mk r1 r2)
def xEh (a0 : List Rowd) : List Arg := [.val (.v false [.sl .ro .row a0])]
def xDn (r : (List Rowd)) : CallO := ⟨.v false [.sl .own .row r], [], []⟩
def xDJ (N : Nat) : Nat → (List Rowd) → (List Rowd) → Int → Option ((List Rowd))
  | 0, _, _, _ => none
  | n + 1, x0, x3, x4 =>
    bif (decide ((x4 : Int) < (List.length x0 : Int))) then (
      if (0 : Int) ≤ x4 ∧ x4 < (List.length x0) then
      Option.bind (xEb N (List.getD x0 (Int.toNat x4) Ty.row.dflt)) fun r1 =>
      if (0 : Int) ≤ x4 ∧ x4 < (List.length x3) then
      (xDJ N n x0 (List.set x3 (Int.toNat x4) r1) (IntKind.i64.wrap (x4 + 1)))
      else none
      else none
    ) else (
      some x3
    )
def xEc (N : Nat) (a0 : List Rowd) : Option ((List Rowd)) :=
  if (0 : Int) ≤ (List.length a0 : Int) ∧ (List.length a0 : Int) = (List.length a0 : Int) ∧ (List.length a0 : Int) ≤ Lim then
  (xDJ N N a0 (List.replicate (Int.toNat (List.length a0 : Int)) Ty.row.dflt) 0)
  else none
def xBe (a0 : Val) : List Arg := [.val (.v true [.int .i64 (Val.kind a0), .int .i64 (Val.n a0), .int .i64 (Val.step a0), .str (Val.text a0), .sl .ro .val (Val.list a0), .sl .ro .str (Val.columns a0), .sl .ro .row (Val.rows a0)])]
def xA0 (r : Val) : CallO := ⟨.v true [.int .i64 (Val.kind r), .int .i64 (Val.n r), .int .i64 (Val.step r), .str (Val.text r), .sl .own .val (Val.list r), .sl .own .str (Val.columns r), .sl .own .row (Val.rows r)], [], []⟩
def xCA (N : Nat) (rc_laws_toValue : Val → Option (Val)) (rc_laws_toValueS : (List Val) → Option ((List Val))) (a0 : Val) : Option (Val) :=
  Option.bind (rc_laws_toValueS (Val.list a0)) fun r1 =>
  Option.bind (xDo N (Val.columns a0)) fun r2 =>
  Option.bind (xEc N (Val.rows a0)) fun r3 =>
  some (Val.mk (Val.kind a0) (Val.n a0) (Val.step a0) (Val.text a0) r1 r2 r3)
def xBs (a0 : List Val) : List Arg := [.val (.v false [.sl .ro .val a0])]
def xA2 (r : (List Val)) : CallO := ⟨.v false [.sl .own .val r], [], []⟩
def xDc (N : Nat) (rc_laws_toValue : Val → Option (Val)) (rc_laws_toValueS : (List Val) → Option ((List Val))) : Nat → (List Val) → (List Val) → Int → Option ((List Val))
  | 0, _, _, _ => none
  | n + 1, x0, x3, x4 =>
    bif (decide ((x4 : Int) < (List.length x0 : Int))) then (
      if (0 : Int) ≤ x4 ∧ x4 < (List.length x0) then
      Option.bind (rc_laws_toValue (List.getD x0 (Int.toNat x4) Ty.val.dflt)) fun r1 =>
      if (0 : Int) ≤ x4 ∧ x4 < (List.length x3) then
      (xDc N rc_laws_toValue rc_laws_toValueS n x0 (List.set x3 (Int.toNat x4) (Val.re r1)) (IntKind.i64.wrap (x4 + 1)))
      else none
      else none
    ) else (
      some x3
    )
def xCb (N : Nat) (rc_laws_toValue : Val → Option (Val)) (rc_laws_toValueS : (List Val) → Option ((List Val))) (a0 : List Val) : Option ((List Val)) :=
  if (0 : Int) ≤ (List.length a0 : Int) ∧ (List.length a0 : Int) = (List.length a0 : Int) ∧ (List.length a0 : Int) ≤ Lim then
  (xDc N rc_laws_toValue rc_laws_toValueS N a0 (List.replicate (Int.toNat (List.length a0 : Int)) Ty.val.dflt) 0)
  else none
structure laws_toValue_rec where
  c_laws_toValue : Val → Option (Val)
  c_laws_toValueS : (List Val) → Option ((List Val))
def xAG (N : Nat) : Nat → laws_toValue_rec
  | 0 => ⟨fun _ => none, fun _ => none⟩
  | d + 1 => ⟨xCA N (xAG N d).c_laws_toValue (xAG N d).c_laws_toValueS, xCb N (xAG N d).c_laws_toValue (xAG N d).c_laws_toValueS⟩
def xEX (N : Nat) (a0 : Val) : Option (Val) := (xAG N N).c_laws_toValue a0
def xBw (a0 : Int) : List Arg := [.val (.v false [.int .i64 a0])]
def xAM (r : Val) : CallO := ⟨.v true [.int .i64 (Val.kind r), .int .i64 (Val.n r), .int .i64 (Val.step r), .str (Val.text r), .sl .own .val (Val.list r), .sl .own .str (Val.columns r), .sl .own .row (Val.rows r)], [], []⟩
def xBf (N : Nat) (a0 : Int) : Option (Val) :=
  some (Val.mk 6 a0 0 [] [] [] [])
def xBk (a0 : Int) : List Arg := [.val (.v false [.int .i64 a0])]
def xAF (r : Val) : CallO := ⟨.v true [.int .i64 (Val.kind r), .int .i64 (Val.n r), .int .i64 (Val.step r), .str (Val.text r), .sl .own .val (Val.list r), .sl .own .str (Val.columns r), .sl .own .row (Val.rows r)], [], []⟩
def xA3 (N : Nat) (a0 : Int) : Option (Val) :=
  some (Val.mk 6 a0 0 [] [] [] [])
def xBV (a0 : List Str) (a1 : List Str) : List Arg := [.val (.v false [.sl .ro .str a0]), .val (.v false [.sl .ro .str a1])]
def xAY (r : Bool) : CallO := ⟨.v false [.bool r], [], []⟩
def xBW (N : Nat) : Nat → (List Str) → (List Str) → Int → Option (Bool)
  | 0, _, _, _ => none
  | n + 1, x0, x1, x5 =>
    bif (decide ((x5 : Int) < (List.length x0 : Int))) then (
      if (0 : Int) ≤ x5 ∧ x5 < (List.length x0) then
      if (0 : Int) ≤ x5 ∧ x5 < (List.length x1) then
      bif (!(((List.getD x0 (Int.toNat x5) Ty.str.dflt) : Str) == (List.getD x1 (Int.toNat x5) Ty.str.dflt))) then (
        some false
      ) else (
        (xBW N n x0 x1 (IntKind.i64.wrap (x5 + 1)))
      )
      else none
      else none
    ) else (
      some true
    )
def xDg (N : Nat) (a0 : List Str) (a1 : List Str) : Option (Bool) :=
  bif (((List.length a0 : Int) : Int) != (List.length a1 : Int)) then (
    some false
  ) else (
    (xBW N N a0 a1 0)
  )
def xCO (a0 : List Int) (a1 : List Int) : List Arg := [.val (.v false [.sl .ro .int a0]), .val (.v false [.sl .ro .int a1])]
def xBp (r : Bool) : CallO := ⟨.v false [.bool r], [], []⟩
def xCP (N : Nat) : Nat → (List Int) → (List Int) → Int → Option (Bool)
  | 0, _, _, _ => none
  | n + 1, x0, x1, x5 =>
    bif (decide ((x5 : Int) < (List.length x0 : Int))) then (
      if (0 : Int) ≤ x5 ∧ x5 < (List.length x0) then
      if (0 : Int) ≤ x5 ∧ x5 < (List.length x1) then
      bif (((List.getD x0 (Int.toNat x5) Ty.int.dflt) : Int) != (List.getD x1 (Int.toNat x5) Ty.int.dflt)) then (
        some false
      ) else (
        (xCP N n x0 x1 (IntKind.i64.wrap (x5 + 1)))
      )
      else none
      else none
    ) else (
      some true
    )
def xD4 (N : Nat) (a0 : List Int) (a1 : List Int) : Option (Bool) :=
  bif (((List.length a0 : Int) : Int) != (List.length a1 : Int)) then (
    some false
  ) else (
    (xCP N N a0 a1 0)
  )
def xCc (a0 : Org) (a1 : Org) : List Arg := [.val (.v true [.int .i64 (Org.cell a0), .int .i64 (Org.row a0)]), .val (.v true [.int .i64 (Org.cell a1), .int .i64 (Org.row a1)])]
def xBD (r : Bool) : CallO := ⟨.v false [.bool r], [], []⟩
def xDx (N : Nat) (a0 : Org) (a1 : Org) : Option (Bool) :=
  bif (((Org.cell a0) : Int) != (Org.cell a1)) then (
    some false
  ) else (
    bif (((Org.row a0) : Int) != (Org.row a1)) then (
      some false
    ) else (
      some true
    )
  )
def xCu (a0 : List Org) (a1 : List Org) : List Arg := [.val (.v false [.sl .ro .org a0]), .val (.v false [.sl .ro .org a1])]
def xBi (r : Bool) : CallO := ⟨.v false [.bool r], [], []⟩
def xBU (N : Nat) : Nat → (List Org) → (List Org) → Int → Option (Bool)
  | 0, _, _, _ => none
  | n + 1, x0, x1, x5 =>
    bif (decide ((x5 : Int) < (List.length x0 : Int))) then (
      if (0 : Int) ≤ x5 ∧ x5 < (List.length x0) then
      if (0 : Int) ≤ x5 ∧ x5 < (List.length x1) then
      Option.bind (xDx N (List.getD x0 (Int.toNat x5) Ty.org.dflt) (List.getD x1 (Int.toNat x5) Ty.org.dflt)) fun r1 =>
      bif (!r1) then (
        some false
      ) else (
        (xBU N n x0 x1 (IntKind.i64.wrap (x5 + 1)))
      )
      else none
      else none
    ) else (
      some true
    )
def xDe (N : Nat) (a0 : List Org) (a1 : List Org) : Option (Bool) :=
  bif (((List.length a0 : Int) : Int) != (List.length a1 : Int)) then (
    some false
  ) else (
    (xBU N N a0 a1 0)
  )
def xC1 (a0 : Rowd) (a1 : Rowd) : List Arg := [.val (.v true [.sl .ro .int (Rowd.cells a0), .sl .ro .org (Rowd.frm a0)]), .val (.v true [.sl .ro .int (Rowd.cells a1), .sl .ro .org (Rowd.frm a1)])]
def xCm (r : Bool) : CallO := ⟨.v false [.bool r], [], []⟩
def xEp (N : Nat) (a0 : Rowd) (a1 : Rowd) : Option (Bool) :=
  Option.bind (xD4 N (Rowd.cells a0) (Rowd.cells a1)) fun r1 =>
  bif (!r1) then (
    some false
  ) else (
    Option.bind (xDe N (Rowd.frm a0) (Rowd.frm a1)) fun r2 =>
    bif (!r2) then (
      some false
    ) else (
      some true
    )
  )
def xDf (a0 : List Rowd) (a1 : List Rowd) : List Arg := [.val (.v false [.sl .ro .row a0]), .val (.v false [.sl .ro .row a1])]
def xBL (r : Bool) : CallO := ⟨.v false [.bool r], [], []⟩
def xCQ (N : Nat) : Nat → (List Rowd) → (List Rowd) → Int → Option (Bool)
  | 0, _, _, _ => none
  | n + 1, x0, x1, x5 =>
    bif (decide ((x5 : Int) < (List.length x0 : Int))) then (
      if (0 : Int) ≤ x5 ∧ x5 < (List.length x0) then
      if (0 : Int) ≤ x5 ∧ x5 < (List.length x1) then
      Option.bind (xEp N (List.getD x0 (Int.toNat x5) Ty.row.dflt) (List.getD x1 (Int.toNat x5) Ty.row.dflt)) fun r1 =>
      bif (!r1) then (
        some false
      ) else (
        (xCQ N n x0 x1 (IntKind.i64.wrap (x5 + 1)))
      )
      else none
      else none
    ) else (
      some true
    )
def xD6 (N : Nat) (a0 : List Rowd) (a1 : List Rowd) : Option (Bool) :=
  bif (((List.length a0 : Int) : Int) != (List.length a1 : Int)) then (
    some false
  ) else (
    (xCQ N N a0 a1 0)
  )
def xAf (a0 : Val) (a1 : Val) : List Arg := [.val (.v true [.int .i64 (Val.kind a0), .int .i64 (Val.n a0), .int .i64 (Val.step a0), .str (Val.text a0), .sl .ro .val (Val.list a0), .sl .ro .str (Val.columns a0), .sl .ro .row (Val.rows a0)]), .val (.v true [.int .i64 (Val.kind a1), .int .i64 (Val.n a1), .int .i64 (Val.step a1), .str (Val.text a1), .sl .ro .val (Val.list a1), .sl .ro .str (Val.columns a1), .sl .ro .row (Val.rows a1)])]
def xAb (r : Bool) : CallO := ⟨.v false [.bool r], [], []⟩
def xCv (N : Nat) (rc_laws_eqValue : Val → Val → Option (Bool)) (rc_laws_eqValueS : (List Val) → (List Val) → Option (Bool)) (a0 : Val) (a1 : Val) : Option (Bool) :=
  bif (((Val.kind a0) : Int) != (Val.kind a1)) then (
    some false
  ) else (
    bif (((Val.n a0) : Int) != (Val.n a1)) then (
      some false
    ) else (
      bif (((Val.step a0) : Int) != (Val.step a1)) then (
        some false
      ) else (
        bif (!(((Val.text a0) : Str) == (Val.text a1))) then (
          some false
        ) else (
          Option.bind (rc_laws_eqValueS (Val.list a0) (Val.list a1)) fun r1 =>
          bif (!r1) then (
            some false
          ) else (
            Option.bind (xDg N (Val.columns a0) (Val.columns a1)) fun r2 =>
            bif (!r2) then (
              some false
            ) else (
              Option.bind (xD6 N (Val.rows a0) (Val.rows a1)) fun r3 =>
              bif (!r3) then (
                some false
              ) else (
                some true
              )
            )
          )
        )
      )
    )
  )
def xAS (a0 : List Val) (a1 : List Val) : List Arg := [.val (.v false [.sl .ro .val a0]), .val (.v false [.sl .ro .val a1])]
def xAz (r : Bool) : CallO := ⟨.v false [.bool r], [], []⟩
def xCd (N : Nat) (rc_laws_eqValue : Val → Val → Option (Bool)) (rc_laws_eqValueS : (List Val) → (List Val) → Option (Bool)) : Nat → (List Val) → (List Val) → Int → Option (Bool)
  | 0, _, _, _ => none
  | n + 1, x0, x1, x5 =>
    bif (decide ((x5 : Int) < (List.length x0 : Int))) then (
      if (0 : Int) ≤ x5 ∧ x5 < (List.length x0) then
      if (0 : Int) ≤ x5 ∧ x5 < (List.length x1) then
      Option.bind (rc_laws_eqValue (List.getD x0 (Int.toNat x5) Ty.val.dflt) (List.getD x1 (Int.toNat x5) Ty.val.dflt)) fun r1 =>
      bif (!r1) then (
        some false
      ) else (
        (xCd N rc_laws_eqValue rc_laws_eqValueS n x0 x1 (IntKind.i64.wrap (x5 + 1)))
      )
      else none
      else none
    ) else (
      some true
    )
def xCa (N : Nat) (rc_laws_eqValue : Val → Val → Option (Bool)) (rc_laws_eqValueS : (List Val) → (List Val) → Option (Bool)) (a0 : List Val) (a1 : List Val) : Option (Bool) :=
  bif (((List.length a0 : Int) : Int) != (List.length a1 : Int)) then (
    some false
  ) else (
    (xCd N rc_laws_eqValue rc_laws_eqValueS N a0 a1 0)
  )
structure laws_eqValue_rec where
  c_laws_eqValue : Val → Val → Option (Bool)
  c_laws_eqValueS : (List Val) → (List Val) → Option (Bool)
def xAJ (N : Nat) : Nat → laws_eqValue_rec
  | 0 => ⟨fun _ _ => none, fun _ _ => none⟩
  | d + 1 => ⟨xCv N (xAJ N d).c_laws_eqValue (xAJ N d).c_laws_eqValueS, xCa N (xAJ N d).c_laws_eqValue (xAJ N d).c_laws_eqValueS⟩
def xDU (N : Nat) (a0 : Val) (a1 : Val) : Option (Bool) := (xAJ N N).c_laws_eqValue a0 a1
def xAU (a0 : Int) : List Arg := [.val (.v false [.int .i64 a0])]
def xAr (r : Str) : CallO := ⟨.v false [.str r], [], []⟩
def xCj (N : Nat) : Nat → Int → Str → Option (Str)
  | 0, _, _ => none
  | n + 1, x0, x3 =>
    bif (decide ((x0 : Int) > 0)) then (
      if List.length (List.map (fun n => UInt8.ofNat (Int.toNat n)) [(IntKind.u8.wrap ((IntKind.i64.wrap (48 + (Int.tmod x0 10)))))]) + List.length x3 ≤ Lim then
      (xCj N n (IntKind.i64.wrap (Int.tdiv x0 10)) ((List.map (fun n => UInt8.ofNat (Int.toNat n)) [(IntKind.u8.wrap ((IntKind.i64.wrap (48 + (Int.tmod x0 10)))))]) ++ x3))
      else none
    ) else (
      if List.length [109] + List.length x3 ≤ Lim then
      some ([109] ++ x3)
      else none
    )
def xB6 (N : Nat) (a0 : Int) : Option (Str) :=
  bif (decide ((a0 : Int) ≤ 0)) then (
    some [109, 48]
  ) else (
    (xCj N N a0 [])
  )
def xCE (a0 : List Str) (a1 : Int) : List Arg := [.val (.v false [.sl (.lnt 0) .str a0]), .val (.v false [.int .i64 a1])]
def xBm (r : Int × (List Str)) : CallO := ⟨.v false [.int .i64 r.1], [], [.sl (.lnt 0) .str r.2]⟩
def xBI (N : Nat) : Nat → (List Str) → Int → Int → Option (Int × (List Str))
  | 0, _, _, _ => none
  | n + 1, x0, x1, x5 =>
    bif (decide ((x5 : Int) < (List.length x0 : Int))) then (
      Option.bind (xB6 N x1) fun r1 =>
      if (0 : Int) ≤ x5 ∧ x5 < (List.length x0) then
      (xBI N n (List.set x0 (Int.toNat x5) r1) (IntKind.i64.wrap (x1 + 1)) (IntKind.i64.wrap (x5 + 1)))
      else none
    ) else (
      some (x1, x0)
    )
def xCK (N : Nat) (a0 : List Str) (a1 : Int) : Option (Int × (List Str)) :=
  (xBI N N a0 a1 0)
def xDL (a0 : List Int) (a1 : Int) : List Arg := [.val (.v false [.sl (.lnt 0) .int a0]), .val (.v false [.int .i64 a1])]
def xCJ (r : Int × (List Int)) : CallO := ⟨.v false [.int .i64 r.1], [], [.sl (.lnt 0) .int r.2]⟩
def xCh (N : Nat) : Nat → (List Int) → Int → Int → Option (Int × (List Int))
  | 0, _, _, _ => none
  | n + 1, x0, x1, x5 =>
    bif (decide ((x5 : Int) < (List.length x0 : Int))) then (
      if (0 : Int) ≤ x5 ∧ x5 < (List.length x0) then
      (xCh N n (List.set x0 (Int.toNat x5) x1) (IntKind.i64.wrap (x1 + 1)) (IntKind.i64.wrap (x5 + 1)))
      else none
    ) else (
      some (x1, x0)
    )
def xDX (N : Nat) (a0 : List Int) (a1 : Int) : Option (Int × (List Int)) :=
  (xCh N N a0 a1 0)
def xC2 (a0 : List Org) (a1 : Int) : List Arg := [.val (.v false [.sl (.lnt 0) .org a0]), .val (.v false [.int .i64 a1])]
def xBZ (r : Int × (List Org)) : CallO := ⟨.v false [.int .i64 r.1], [], [.sl (.lnt 0) .org r.2]⟩
def xBH (N : Nat) : Nat → (List Org) → Int → Int → Option (Int × (List Org))
  | 0, _, _, _ => none
  | n + 1, x0, x1, x5 =>
    bif (decide ((x5 : Int) < (List.length x0 : Int))) then (
      if (0 : Int) ≤ x5 ∧ x5 < (List.length x0) then
      if (0 : Int) ≤ x5 ∧ x5 < (List.length (List.set x0 (Int.toNat x5) (Org.mk x1 (Org.row (List.getD x0 (Int.toNat x5) Ty.org.dflt))))) then
      (xBH N n ((fun (z1 : List Org) => List.set z1 (Int.toNat x5) (Org.mk (Org.cell (List.getD z1 (Int.toNat x5) Ty.org.dflt)) (IntKind.i64.wrap (x1 + 1)))) (List.set x0 (Int.toNat x5) (Org.mk x1 (Org.row (List.getD x0 (Int.toNat x5) Ty.org.dflt))))) (IntKind.i64.wrap ((IntKind.i64.wrap (x1 + 1)) + 1)) (IntKind.i64.wrap (x5 + 1)))
      else none
      else none
    ) else (
      some (x1, x0)
    )
def xC8 (N : Nat) (a0 : List Org) (a1 : Int) : Option (Int × (List Org)) :=
  (xBH N N a0 a1 0)
def xC9 (a0 : List Rowd) (a1 : Int) : List Arg := [.val (.v false [.sl (.lnt 0) .row a0]), .val (.v false [.int .i64 a1])]
def xBR (r : Int × (List Rowd)) : CallO := ⟨.v false [.int .i64 r.1], [], [.sl (.lnt 0) .row r.2]⟩
def xCi (N : Nat) : Nat → (List Rowd) → Int → Int → Option (Int × (List Rowd))
  | 0, _, _, _ => none
  | n + 1, x0, x1, x5 =>
    bif (decide ((x5 : Int) < (List.length x0 : Int))) then (
      if (0 : Int) ≤ x5 ∧ x5 < (List.length x0) then
      Option.bind (xDX N (Rowd.cells (List.getD x0 (Int.toNat x5) Ty.row.dflt)) x1) fun r1 =>
      if List.length r1.2 = List.length (Rowd.cells (List.getD x0 (Int.toNat x5) Ty.row.dflt)) then
      if (0 : Int) ≤ x5 ∧ x5 < (List.length (List.set x0 (Int.toNat x5) (Rowd.mk r1.2 (Rowd.frm (List.getD x0 (Int.toNat x5) Ty.row.dflt))))) then
      Option.bind (xC8 N (Rowd.frm (List.getD (List.set x0 (Int.toNat x5) (Rowd.mk r1.2 (Rowd.frm (List.getD x0 (Int.toNat x5) Ty.row.dflt)))) (Int.toNat x5) Ty.row.dflt)) r1.1) fun r2 =>
      if List.length r2.2 = List.length (Rowd.frm (List.getD (List.set x0 (Int.toNat x5) (Rowd.mk r1.2 (Rowd.frm (List.getD x0 (Int.toNat x5) Ty.row.dflt)))) (Int.toNat x5) Ty.row.dflt)) then
      (xCi N n ((fun (z1 : List Rowd) => List.set z1 (Int.toNat x5) (Rowd.mk (Rowd.cells (List.getD z1 (Int.toNat x5) Ty.row.dflt)) r2.2)) (List.set x0 (Int.toNat x5) (Rowd.mk r1.2 (Rowd.frm (List.getD x0 (Int.toNat x5) Ty.row.dflt))))) r2.1 (IntKind.i64.wrap (x5 + 1)))
      else none
      else none
      else none
      else none
    ) else (
      some (x1, x0)
    )
def xDA (N : Nat) (a0 : List Rowd) (a1 : Int) : Option (Int × (List Rowd)) :=
  (xCi N N a0 a1 0)
def xA7 (a0 : List Val) (a1 : Int) : List Arg := [.val (.v false [.sl (.lnt 0) .val a0]), .val (.v false [.int .i64 a1])]
def xAL (r : Int × (List Val)) : CallO := ⟨.v false [.int .i64 r.1], [], [.sl (.lnt 0) .val r.2]⟩
def xBP (N : Nat) (rc_laws_markValueS : (List Val) → Int → Option (Int × (List Val))) : Nat → (List Val) → Int → Int → Option (Int × (List Val))
  | 0, _, _, _ => none
  | n + 1, x0, x1, x5 =>
    bif (decide ((x5 : Int) < (List.length x0 : Int))) then (
      if (0 : Int) ≤ x5 ∧ x5 < (List.length x0) then
      if (0 : Int) ≤ x5 ∧ x5 < (List.length (List.set x0 (Int.toNat x5) (Val.mk x1 (Val.n (List.getD x0 (Int.toNat x5) Ty.val.dflt)) (Val.step (List.getD x0 (Int.toNat x5) Ty.val.dflt)) (Val.text (List.getD x0 (Int.toNat x5) Ty.val.dflt)) (Val.list (List.getD x0 (Int.toNat x5) Ty.val.dflt)) (Val.columns (List.getD x0 (Int.toNat x5) Ty.val.dflt)) (Val.rows (List.getD x0 (Int.toNat x5) Ty.val.dflt))))) then
      if (0 : Int) ≤ x5 ∧ x5 < (List.length ((fun (z40 : List Val) => List.set z40 (Int.toNat x5) (Val.mk (Val.kind (List.getD z40 (Int.toNat x5) Ty.val.dflt)) (IntKind.i64.wrap (x1 + 1)) (Val.step (List.getD z40 (Int.toNat x5) Ty.val.dflt)) (Val.text (List.getD z40 (Int.toNat x5) Ty.val.dflt)) (Val.list (List.getD z40 (Int.toNat x5) Ty.val.dflt)) (Val.columns (List.getD z40 (Int.toNat x5) Ty.val.dflt)) (Val.rows (List.getD z40 (Int.toNat x5) Ty.val.dflt)))) (List.set x0 (Int.toNat x5) (Val.mk x1 (Val.n (List.getD x0 (Int.toNat x5) Ty.val.dflt)) (Val.step (List.getD x0 (Int.toNat x5) Ty.val.dflt)) (Val.text (List.getD x0 (Int.toNat x5) Ty.val.dflt)) (Val.list (List.getD x0 (Int.toNat x5) Ty.val.dflt)) (Val.columns (List.getD x0 (Int.toNat x5) Ty.val.dflt)) (Val.rows (List.getD x0 (Int.toNat x5) Ty.val.dflt)))))) then
      Option.bind (xB6 N (IntKind.i64.wrap ((IntKind.i64.wrap ((IntKind.i64.wrap (x1 + 1)) + 1)) + 1))) fun r1 =>
      if (0 : Int) ≤ x5 ∧ x5 < (List.length ((fun (z41 : List Val) => List.set z41 (Int.toNat x5) (Val.mk (Val.kind (List.getD z41 (Int.toNat x5) Ty.val.dflt)) (Val.n (List.getD z41 (Int.toNat x5) Ty.val.dflt)) (IntKind.i64.wrap ((IntKind.i64.wrap (x1 + 1)) + 1)) (Val.text (List.getD z41 (Int.toNat x5) Ty.val.dflt)) (Val.list (List.getD z41 (Int.toNat x5) Ty.val.dflt)) (Val.columns (List.getD z41 (Int.toNat x5) Ty.val.dflt)) (Val.rows (List.getD z41 (Int.toNat x5) Ty.val.dflt)))) ((fun (z40 : List Val) => List.set z40 (Int.toNat x5) (Val.mk (Val.kind (List.getD z40 (Int.toNat x5) Ty.val.dflt)) (IntKind.i64.wrap (x1 + 1)) (Val.step (List.getD z40 (Int.toNat x5) Ty.val.dflt)) (Val.text (List.getD z40 (Int.toNat x5) Ty.val.dflt)) (Val.list (List.getD z40 (Int.toNat x5) Ty.val.dflt)) (Val.columns (List.getD z40 (Int.toNat x5) Ty.val.dflt)) (Val.rows (List.getD z40 (Int.toNat x5) Ty.val.dflt)))) (List.set x0 (Int.toNat x5) (Val.mk x1 (Val.n (List.getD x0 (Int.toNat x5) Ty.val.dflt)) (Val.step (List.getD x0 (Int.toNat x5) Ty.val.dflt)) (Val.text (List.getD x0 (Int.toNat x5) Ty.val.dflt)) (Val.list (List.getD x0 (Int.toNat x5) Ty.val.dflt)) (Val.columns (List.getD x0 (Int.toNat x5) Ty.val.dflt)) (Val.rows (List.getD x0 (Int.toNat x5) Ty.val.dflt))))))) then
      if (0 : Int) ≤ x5 ∧ x5 < (List.length ((fun (z42 : List Val) => List.set z42 (Int.toNat x5) (Val.mk (Val.kind (List.getD z42 (Int.toNat x5) Ty.val.dflt)) (Val.n (List.getD z42 (Int.toNat x5) Ty.val.dflt)) (Val.step (List.getD z42 (Int.toNat x5) Ty.val.dflt)) r1 (Val.list (List.getD z42 (Int.toNat x5) Ty.val.dflt)) (Val.columns (List.getD z42 (Int.toNat x5) Ty.val.dflt)) (Val.rows (List.getD z42 (Int.toNat x5) Ty.val.dflt)))) ((fun (z41 : List Val) => List.set z41 (Int.toNat x5) (Val.mk (Val.kind (List.getD z41 (Int.toNat x5) Ty.val.dflt)) (Val.n (List.getD z41 (Int.toNat x5) Ty.val.dflt)) (IntKind.i64.wrap ((IntKind.i64.wrap (x1 + 1)) + 1)) (Val.text (List.getD z41 (Int.toNat x5) Ty.val.dflt)) (Val.list (List.getD z41 (Int.toNat x5) Ty.val.dflt)) (Val.columns (List.getD z41 (Int.toNat x5) Ty.val.dflt)) (Val.rows (List.getD z41 (Int.toNat x5) Ty.val.dflt)))) ((fun (z40 : List Val) => List.set z40 (Int.toNat x5) (Val.mk (Val.kind (List.getD z40 (Int.toNat x5) Ty.val.dflt)) (IntKind.i64.wrap (x1 + 1)) (Val.step (List.getD z40 (Int.toNat x5) Ty.val.dflt)) (Val.text (List.getD z40 (Int.toNat x5) Ty.val.dflt)) (Val.list (List.getD z40 (Int.toNat x5) Ty.val.dflt)) (Val.columns (List.getD z40 (Int.toNat x5) Ty.val.dflt)) (Val.rows (List.getD z40 (Int.toNat x5) Ty.val.dflt)))) (List.set x0 (Int.toNat x5) (Val.mk x1 (Val.n (List.getD x0 (Int.toNat x5) Ty.val.dflt)) (Val.step (List.getD x0 (Int.toNat x5) Ty.val.dflt)) (Val.text (List.getD x0 (Int.toNat x5) Ty.val.dflt)) (Val.list (List.getD x0 (Int.toNat x5) Ty.val.dflt)) (Val.columns (List.getD x0 (Int.toNat x5) Ty.val.dflt)) (Val.rows (List.getD x0 (Int.toNat x5) Ty.val.dflt)))))))) then
      Option.bind (rc_laws_markValueS (Val.list (List.getD ((fun (z42 : List Val) => List.set z42 (Int.toNat x5) (Val.mk (Val.kind (List.getD z42 (Int.toNat x5) Ty.val.dflt)) (Val.n (List.getD z42 (Int.toNat x5) Ty.val.dflt)) (Val.step (List.getD z42 (Int.toNat x5) Ty.val.dflt)) r1 (Val.list (List.getD z42 (Int.toNat x5) Ty.val.dflt)) (Val.columns (List.getD z42 (Int.toNat x5) Ty.val.dflt)) (Val.rows (List.getD z42 (Int.toNat x5) Ty.val.dflt)))) ((fun (z41 : List Val) => List.set z41 (Int.toNat x5) (Val.mk (Val.kind (List.getD z41 (Int.toNat x5) Ty.val.dflt)) (Val.n (List.getD z41 (Int.toNat x5) Ty.val.dflt)) (IntKind.i64.wrap ((IntKind.i64.wrap (x1 + 1)) + 1)) (Val.text (List.getD z41 (Int.toNat x5) Ty.val.dflt)) (Val.list (List.getD z41 (Int.toNat x5) Ty.val.dflt)) (Val.columns (List.getD z41 (Int.toNat x5) Ty.val.dflt)) (Val.rows (List.getD z41 (Int.toNat x5) Ty.val.dflt)))) ((fun (z40 : List Val) => List.set z40 (Int.toNat x5) (Val.mk (Val.kind (List.getD z40 (Int.toNat x5) Ty.val.dflt)) (IntKind.i64.wrap (x1 + 1)) (Val.step (List.getD z40 (Int.toNat x5) Ty.val.dflt)) (Val.text (List.getD z40 (Int.toNat x5) Ty.val.dflt)) (Val.list (List.getD z40 (Int.toNat x5) Ty.val.dflt)) (Val.columns (List.getD z40 (Int.toNat x5) Ty.val.dflt)) (Val.rows (List.getD z40 (Int.toNat x5) Ty.val.dflt)))) (List.set x0 (Int.toNat x5) (Val.mk x1 (Val.n (List.getD x0 (Int.toNat x5) Ty.val.dflt)) (Val.step (List.getD x0 (Int.toNat x5) Ty.val.dflt)) (Val.text (List.getD x0 (Int.toNat x5) Ty.val.dflt)) (Val.list (List.getD x0 (Int.toNat x5) Ty.val.dflt)) (Val.columns (List.getD x0 (Int.toNat x5) Ty.val.dflt)) (Val.rows (List.getD x0 (Int.toNat x5) Ty.val.dflt))))))) (Int.toNat x5) Ty.val.dflt)) (IntKind.i64.wrap ((IntKind.i64.wrap ((IntKind.i64.wrap ((IntKind.i64.wrap (x1 + 1)) + 1)) + 1)) + 1))) fun r2 =>
      if List.length r2.2 = List.length (Val.list (List.getD ((fun (z42 : List Val) => List.set z42 (Int.toNat x5) (Val.mk (Val.kind (List.getD z42 (Int.toNat x5) Ty.val.dflt)) (Val.n (List.getD z42 (Int.toNat x5) Ty.val.dflt)) (Val.step (List.getD z42 (Int.toNat x5) Ty.val.dflt)) r1 (Val.list (List.getD z42 (Int.toNat x5) Ty.val.dflt)) (Val.columns (List.getD z42 (Int.toNat x5) Ty.val.dflt)) (Val.rows (List.getD z42 (Int.toNat x5) Ty.val.dflt)))) ((fun (z41 : List Val) => List.set z41 (Int.toNat x5) (Val.mk (Val.kind (List.getD z41 (Int.toNat x5) Ty.val.dflt)) (Val.n (List.getD z41 (Int.toNat x5) Ty.val.dflt)) (IntKind.i64.wrap ((IntKind.i64.wrap (x1 + 1)) + 1)) (Val.text (List.getD z41 (Int.toNat x5) Ty.val.dflt)) (Val.list (List.getD z41 (Int.toNat x5) Ty.val.dflt)) (Val.columns (List.getD z41 (Int.toNat x5) Ty.val.dflt)) (Val.rows (List.getD z41 (Int.toNat x5) Ty.val.dflt)))) ((fun (z40 : List Val) => List.set z40 (Int.toNat x5) (Val.mk (Val.kind (List.getD z40 (Int.toNat x5) Ty.val.dflt)) (IntKind.i64.wrap (x1 + 1)) (Val.step (List.getD z40 (Int.toNat x5) Ty.val.dflt)) (Val.text (List.getD z40 (Int.toNat x5) Ty.val.dflt)) (Val.list (List.getD z40 (Int.toNat x5) Ty.val.dflt)) (Val.columns (List.getD z40 (Int.toNat x5) Ty.val.dflt)) (Val.rows (List.getD z40 (Int.toNat x5) Ty.val.dflt)))) (List.set x0 (Int.toNat x5) (Val.mk x1 (Val.n (List.getD x0 (Int.toNat x5) Ty.val.dflt)) (Val.step (List.getD x0 (Int.toNat x5) Ty.val.dflt)) (Val.text (List.getD x0 (Int.toNat x5) Ty.val.dflt)) (Val.list (List.getD x0 (Int.toNat x5) Ty.val.dflt)) (Val.columns (List.getD x0 (Int.toNat x5) Ty.val.dflt)) (Val.rows (List.getD x0 (Int.toNat x5) Ty.val.dflt))))))) (Int.toNat x5) Ty.val.dflt)) then
      if (0 : Int) ≤ x5 ∧ x5 < (List.length ((fun (z43 : List Val) => List.set z43 (Int.toNat x5) (Val.mk (Val.kind (List.getD z43 (Int.toNat x5) Ty.val.dflt)) (Val.n (List.getD z43 (Int.toNat x5) Ty.val.dflt)) (Val.step (List.getD z43 (Int.toNat x5) Ty.val.dflt)) (Val.text (List.getD z43 (Int.toNat x5) Ty.val.dflt)) r2.2 (Val.columns (List.getD z43 (Int.toNat x5) Ty.val.dflt)) (Val.rows (List.getD z43 (Int.toNat x5) Ty.val.dflt)))) ((fun (z42 : List Val) => List.set z42 (Int.toNat x5) (Val.mk (Val.kind (List.getD z42 (Int.toNat x5) Ty.val.dflt)) (Val.n (List.getD z42 (Int.toNat x5) Ty.val.dflt)) (Val.step (List.getD z42 (Int.toNat x5) Ty.val.dflt)) r1 (Val.list (List.getD z42 (Int.toNat x5) Ty.val.dflt)) (Val.columns (List.getD z42 (Int.toNat x5) Ty.val.dflt)) (Val.rows (List.getD z42 (Int.toNat x5) Ty.val.dflt)))) ((fun (z41 : List Val) => List.set z41 (Int.toNat x5) (Val.mk (Val.kind (List.getD z41 (Int.toNat x5) Ty.val.dflt)) (Val.n (List.getD z41 (Int.toNat x5) Ty.val.dflt)) (IntKind.i64.wrap ((IntKind.i64.wrap (x1 + 1)) + 1)) (Val.text (List.getD z41 (Int.toNat x5) Ty.val.dflt)) (Val.list (List.getD z41 (Int.toNat x5) Ty.val.dflt)) (Val.columns (List.getD z41 (Int.toNat x5) Ty.val.dflt)) (Val.rows (List.getD z41 (Int.toNat x5) Ty.val.dflt)))) ((fun (z40 : List Val) => List.set z40 (Int.toNat x5) (Val.mk (Val.kind (List.getD z40 (Int.toNat x5) Ty.val.dflt)) (IntKind.i64.wrap (x1 + 1)) (Val.step (List.getD z40 (Int.toNat x5) Ty.val.dflt)) (Val.text (List.getD z40 (Int.toNat x5) Ty.val.dflt)) (Val.list (List.getD z40 (Int.toNat x5) Ty.val.dflt)) (Val.columns (List.getD z40 (Int.toNat x5) Ty.val.dflt)) (Val.rows (List.getD z40 (Int.toNat x5) Ty.val.dflt)))) (List.set x0 (Int.toNat x5) (Val.mk x1 (Val.n (List.getD x0 (Int.toNat x5) Ty.val.dflt)) (Val.step (List.getD x0 (Int.toNat x5) Ty.val.dflt)) (Val.text (List.getD x0 (Int.toNat x5) Ty.val.dflt)) (Val.list (List.getD x0 (Int.toNat x5) Ty.val.dflt)) (Val.columns (List.getD x0 (Int.toNat x5) Ty.val.dflt)) (Val.rows (List.getD x0 (Int.toNat x5) Ty.val.dflt))))))))) then
      Option.bind (xCK N (Val.columns (List.getD ((fun (z43 : List Val) => List.set z43 (Int.toNat x5) (Val.mk (Val.kind (List.getD z43 (Int.toNat x5) Ty.val.dflt)) (Val.n (List.getD z43 (Int.toNat x5) Ty.val.dflt)) (Val.step (List.getD z43 (Int.toNat x5) Ty.val.dflt)) (Val.text (List.getD z43 (Int.toNat x5) Ty.val.dflt)) r2.2 (Val.columns (List.getD z43 (Int.toNat x5) Ty.val.dflt)) (Val.rows (List.getD z43 (Int.toNat x5) Ty.val.dflt)))) ((fun (z42 : List Val) => List.set z42 (Int.toNat x5) (Val.mk (Val.kind (List.getD z42 (Int.toNat x5) Ty.val.dflt)) (Val.n (List.getD z42 (Int.toNat x5) Ty.val.dflt)) (Val.step (List.getD z42 (Int.toNat x5) Ty.val.dflt)) r1 (Val.list (List.getD z42 (Int.toNat x5) Ty.val.dflt)) (Val.columns (List.getD z42 (Int.toNat x5) Ty.val.dflt)) (Val.rows (List.getD z42 (Int.toNat x5) Ty.val.dflt)))) ((fun (z41 : List Val) => List.set z41 (Int.toNat x5) (Val.mk (Val.kind (List.getD z41 (Int.toNat x5) Ty.val.dflt)) (Val.n (List.getD z41 (Int.toNat x5) Ty.val.dflt)) (IntKind.i64.wrap ((IntKind.i64.wrap (x1 + 1)) + 1)) (Val.text (List.getD z41 (Int.toNat x5) Ty.val.dflt)) (Val.list (List.getD z41 (Int.toNat x5) Ty.val.dflt)) (Val.columns (List.getD z41 (Int.toNat x5) Ty.val.dflt)) (Val.rows (List.getD z41 (Int.toNat x5) Ty.val.dflt)))) ((fun (z40 : List Val) => List.set z40 (Int.toNat x5) (Val.mk (Val.kind (List.getD z40 (Int.toNat x5) Ty.val.dflt)) (IntKind.i64.wrap (x1 + 1)) (Val.step (List.getD z40 (Int.toNat x5) Ty.val.dflt)) (Val.text (List.getD z40 (Int.toNat x5) Ty.val.dflt)) (Val.list (List.getD z40 (Int.toNat x5) Ty.val.dflt)) (Val.columns (List.getD z40 (Int.toNat x5) Ty.val.dflt)) (Val.rows (List.getD z40 (Int.toNat x5) Ty.val.dflt)))) (List.set x0 (Int.toNat x5) (Val.mk x1 (Val.n (List.getD x0 (Int.toNat x5) Ty.val.dflt)) (Val.step (List.getD x0 (Int.toNat x5) Ty.val.dflt)) (Val.text (List.getD x0 (Int.toNat x5) Ty.val.dflt)) (Val.list (List.getD x0 (Int.toNat x5) Ty.val.dflt)) (Val.columns (List.getD x0 (Int.toNat x5) Ty.val.dflt)) (Val.rows (List.getD x0 (Int.toNat x5) Ty.val.dflt)))))))) (Int.toNat x5) Ty.val.dflt)) r2.1) fun r3 =>
      if List.length r3.2 = List.length (Val.columns (List.getD ((fun (z43 : List Val) => List.set z43 (Int.toNat x5) (Val.mk (Val.kind (List.getD z43 (Int.toNat x5) Ty.val.dflt)) (Val.n (List.getD z43 (Int.toNat x5) Ty.val.dflt)) (Val.step (List.getD z43 (Int.toNat x5) Ty.val.dflt)) (Val.text (List.getD z43 (Int.toNat x5) Ty.val.dflt)) r2.2 (Val.columns (List.getD z43 (Int.toNat x5) Ty.val.dflt)) (Val.rows (List.getD z43 (Int.toNat x5) Ty.val.dflt)))) ((fun (z42 : List Val) => List.set z42 (Int.toNat x5) (Val.mk (Val.kind (List.getD z42 (Int.toNat x5) Ty.val.dflt)) (Val.n (List.getD z42 (Int.toNat x5) Ty.val.dflt)) (Val.step (List.getD z42 (Int.toNat x5) Ty.val.dflt)) r1 (Val.list (List.getD z42 (Int.toNat x5) Ty.val.dflt)) (Val.columns (List.getD z42 (Int.toNat x5) Ty.val.dflt)) (Val.rows (List.getD z42 (Int.toNat x5) Ty.val.dflt)))) ((fun (z41 : List Val) => List.set z41 (Int.toNat x5) (Val.mk (Val.kind (List.getD z41 (Int.toNat x5) Ty.val.dflt)) (Val.n (List.getD z41 (Int.toNat x5) Ty.val.dflt)) (IntKind.i64.wrap ((IntKind.i64.wrap (x1 + 1)) + 1)) (Val.text (List.getD z41 (Int.toNat x5) Ty.val.dflt)) (Val.list (List.getD z41 (Int.toNat x5) Ty.val.dflt)) (Val.columns (List.getD z41 (Int.toNat x5) Ty.val.dflt)) (Val.rows (List.getD z41 (Int.toNat x5) Ty.val.dflt)))) ((fun (z40 : List Val) => List.set z40 (Int.toNat x5) (Val.mk (Val.kind (List.getD z40 (Int.toNat x5) Ty.val.dflt)) (IntKind.i64.wrap (x1 + 1)) (Val.step (List.getD z40 (Int.toNat x5) Ty.val.dflt)) (Val.text (List.getD z40 (Int.toNat x5) Ty.val.dflt)) (Val.list (List.getD z40 (Int.toNat x5) Ty.val.dflt)) (Val.columns (List.getD z40 (Int.toNat x5) Ty.val.dflt)) (Val.rows (List.getD z40 (Int.toNat x5) Ty.val.dflt)))) (List.set x0 (Int.toNat x5) (Val.mk x1 (Val.n (List.getD x0 (Int.toNat x5) Ty.val.dflt)) (Val.step (List.getD x0 (Int.toNat x5) Ty.val.dflt)) (Val.text (List.getD x0 (Int.toNat x5) Ty.val.dflt)) (Val.list (List.getD x0 (Int.toNat x5) Ty.val.dflt)) (Val.columns (List.getD x0 (Int.toNat x5) Ty.val.dflt)) (Val.rows (List.getD x0 (Int.toNat x5) Ty.val.dflt)))))))) (Int.toNat x5) Ty.val.dflt)) then
      if (0 : Int) ≤ x5 ∧ x5 < (List.length ((fun (z44 : List Val) => List.set z44 (Int.toNat x5) (Val.mk (Val.kind (List.getD z44 (Int.toNat x5) Ty.val.dflt)) (Val.n (List.getD z44 (Int.toNat x5) Ty.val.dflt)) (Val.step (List.getD z44 (Int.toNat x5) Ty.val.dflt)) (Val.text (List.getD z44 (Int.toNat x5) Ty.val.dflt)) (Val.list (List.getD z44 (Int.toNat x5) Ty.val.dflt)) r3.2 (Val.rows (List.getD z44 (Int.toNat x5) Ty.val.dflt)))) ((fun (z43 : List Val) => List.set z43 (Int.toNat x5) (Val.mk (Val.kind (List.getD z43 (Int.toNat x5) Ty.val.dflt)) (Val.n (List.getD z43 (Int.toNat x5) Ty.val.dflt)) (Val.step (List.getD z43 (Int.toNat x5) Ty.val.dflt)) (Val.text (List.getD z43 (Int.toNat x5) Ty.val.dflt)) r2.2 (Val.columns (List.getD z43 (Int.toNat x5) Ty.val.dflt)) (Val.rows (List.getD z43 (Int.toNat x5) Ty.val.dflt)))) ((fun (z42 : List Val) => List.set z42 (Int.toNat x5) (Val.mk (Val.kind (List.getD z42 (Int.toNat x5) Ty.val.dflt)) (Val.n (List.getD z42 (Int.toNat x5) Ty.val.dflt)) (Val.step (List.getD z42 (Int.toNat x5) Ty.val.dflt)) r1 (Val.list (List.getD z42 (Int.toNat x5) Ty.val.dflt)) (Val.columns (List.getD z42 (Int.toNat x5) Ty.val.dflt)) (Val.rows (List.getD z42 (Int.toNat x5) Ty.val.dflt)))) ((fun (z41 : List Val) => List.set z41 (Int.toNat x5) (Val.mk (Val.kind (List.getD z41 (Int.toNat x5) Ty.val.dflt)) (Val.n (List.getD z41 (Int.toNat x5) Ty.val.dflt)) (IntKind.i64.wrap ((IntKind.i64.wrap (x1 + 1)) + 1)) (Val.text (List.getD z41 (Int.toNat x5) Ty.val.dflt)) (Val.list (List.getD z41 (Int.toNat x5) Ty.val.dflt)) (Val.columns (List.getD z41 (Int.toNat x5) Ty.val.dflt)) (Val.rows (List.getD z41 (Int.toNat x5) Ty.val.dflt)))) ((fun (z40 : List Val) => List.set z40 (Int.toNat x5) (Val.mk (Val.kind (List.getD z40 (Int.toNat x5) Ty.val.dflt)) (IntKind.i64.wrap (x1 + 1)) (Val.step (List.getD z40 (Int.toNat x5) Ty.val.dflt)) (Val.text (List.getD z40 (Int.toNat x5) Ty.val.dflt)) (Val.list (List.getD z40 (Int.toNat x5) Ty.val.dflt)) (Val.columns (List.getD z40 (Int.toNat x5) Ty.val.dflt)) (Val.rows (List.getD z40 (Int.toNat x5) Ty.val.dflt)))) (List.set x0 (Int.toNat x5) (Val.mk x1 (Val.n (List.getD x0 (Int.toNat x5) Ty.val.dflt)) (Val.step (List.getD x0 (Int.toNat x5) Ty.val.dflt)) (Val.text (List.getD x0 (Int.toNat x5) Ty.val.dflt)) (Val.list (List.getD x0 (Int.toNat x5) Ty.val.dflt)) (Val.columns (List.getD x0 (Int.toNat x5) Ty.val.dflt)) (Val.rows (List.getD x0 (Int.toNat x5) Ty.val.dflt)))))))))) then
      Option.bind (xDA N (Val.rows (List.getD ((fun (z44 : List Val) => List.set z44 (Int.toNat x5) (Val.mk (Val.kind (List.getD z44 (Int.toNat x5) Ty.val.dflt)) (Val.n (List.getD z44 (Int.toNat x5) Ty.val.dflt)) (Val.step (List.getD z44 (Int.toNat x5) Ty.val.dflt)) (Val.text (List.getD z44 (Int.toNat x5) Ty.val.dflt)) (Val.list (List.getD z44 (Int.toNat x5) Ty.val.dflt)) r3.2 (Val.rows (List.getD z44 (Int.toNat x5) Ty.val.dflt)))) ((fun (z43 : List Val) => List.set z43 (Int.toNat x5) (Val.mk (Val.kind (List.getD z43 (Int.toNat x5) Ty.val.dflt)) (Val.n (List.getD z43 (Int.toNat x5) Ty.val.dflt)) (Val.step (List.getD z43 (Int.toNat x5) Ty.val.dflt)) (Val.text (List.getD z43 (Int.toNat x5) Ty.val.dflt)) r2.2 (Val.columns (List.getD z43 (Int.toNat x5) Ty.val.dflt)) (Val.rows (List.getD z43 (Int.toNat x5) Ty.val.dflt)))) ((fun (z42 : List Val) => List.set z42 (Int.toNat x5) (Val.mk (Val.kind (List.getD z42 (Int.toNat x5) Ty.val.dflt)) (Val.n (List.getD z42 (Int.toNat x5) Ty.val.dflt)) (Val.step (List.getD z42 (Int.toNat x5) Ty.val.dflt)) r1 (Val.list (List.getD z42 (Int.toNat x5) Ty.val.dflt)) (Val.columns (List.getD z42 (Int.toNat x5) Ty.val.dflt)) (Val.rows (List.getD z42 (Int.toNat x5) Ty.val.dflt)))) ((fun (z41 : List Val) => List.set z41 (Int.toNat x5) (Val.mk (Val.kind (List.getD z41 (Int.toNat x5) Ty.val.dflt)) (Val.n (List.getD z41 (Int.toNat x5) Ty.val.dflt)) (IntKind.i64.wrap ((IntKind.i64.wrap (x1 + 1)) + 1)) (Val.text (List.getD z41 (Int.toNat x5) Ty.val.dflt)) (Val.list (List.getD z41 (Int.toNat x5) Ty.val.dflt)) (Val.columns (List.getD z41 (Int.toNat x5) Ty.val.dflt)) (Val.rows (List.getD z41 (Int.toNat x5) Ty.val.dflt)))) ((fun (z40 : List Val) => List.set z40 (Int.toNat x5) (Val.mk (Val.kind (List.getD z40 (Int.toNat x5) Ty.val.dflt)) (IntKind.i64.wrap (x1 + 1)) (Val.step (List.getD z40 (Int.toNat x5) Ty.val.dflt)) (Val.text (List.getD z40 (Int.toNat x5) Ty.val.dflt)) (Val.list (List.getD z40 (Int.toNat x5) Ty.val.dflt)) (Val.columns (List.getD z40 (Int.toNat x5) Ty.val.dflt)) (Val.rows (List.getD z40 (Int.toNat x5) Ty.val.dflt)))) (List.set x0 (Int.toNat x5) (Val.mk x1 (Val.n (List.getD x0 (Int.toNat x5) Ty.val.dflt)) (Val.step (List.getD x0 (Int.toNat x5) Ty.val.dflt)) (Val.text (List.getD x0 (Int.toNat x5) Ty.val.dflt)) (Val.list (List.getD x0 (Int.toNat x5) Ty.val.dflt)) (Val.columns (List.getD x0 (Int.toNat x5) Ty.val.dflt)) (Val.rows (List.getD x0 (Int.toNat x5) Ty.val.dflt))))))))) (Int.toNat x5) Ty.val.dflt)) r3.1) fun r4 =>
      if List.length r4.2 = List.length (Val.rows (List.getD ((fun (z44 : List Val) => List.set z44 (Int.toNat x5) (Val.mk (Val.kind (List.getD z44 (Int.toNat x5) Ty.val.dflt)) (Val.n (List.getD z44 (Int.toNat x5) Ty.val.dflt)) (Val.step (List.getD z44 (Int.toNat x5) Ty.val.dflt)) (Val.text (List.getD z44 (Int.toNat x5) Ty.val.dflt)) (Val.list (List.getD z44 (Int.toNat x5) Ty.val.dflt)) r3.2 (Val.rows (List.getD z44 (Int.toNat x5) Ty.val.dflt)))) ((fun (z43 : List Val) => List.set z43 (Int.toNat x5) (Val.mk (Val.kind (List.getD z43 (Int.toNat x5) Ty.val.dflt)) (Val.n (List.getD z43 (Int.toNat x5) Ty.val.dflt)) (Val.step (List.getD z43 (Int.toNat x5) Ty.val.dflt)) (Val.text (List.getD z43 (Int.toNat x5) Ty.val.dflt)) r2.2 (Val.columns (List.getD z43 (Int.toNat x5) Ty.val.dflt)) (Val.rows (List.getD z43 (Int.toNat x5) Ty.val.dflt)))) ((fun (z42 : List Val) => List.set z42 (Int.toNat x5) (Val.mk (Val.kind (List.getD z42 (Int.toNat x5) Ty.val.dflt)) (Val.n (List.getD z42 (Int.toNat x5) Ty.val.dflt)) (Val.step (List.getD z42 (Int.toNat x5) Ty.val.dflt)) r1 (Val.list (List.getD z42 (Int.toNat x5) Ty.val.dflt)) (Val.columns (List.getD z42 (Int.toNat x5) Ty.val.dflt)) (Val.rows (List.getD z42 (Int.toNat x5) Ty.val.dflt)))) ((fun (z41 : List Val) => List.set z41 (Int.toNat x5) (Val.mk (Val.kind (List.getD z41 (Int.toNat x5) Ty.val.dflt)) (Val.n (List.getD z41 (Int.toNat x5) Ty.val.dflt)) (IntKind.i64.wrap ((IntKind.i64.wrap (x1 + 1)) + 1)) (Val.text (List.getD z41 (Int.toNat x5) Ty.val.dflt)) (Val.list (List.getD z41 (Int.toNat x5) Ty.val.dflt)) (Val.columns (List.getD z41 (Int.toNat x5) Ty.val.dflt)) (Val.rows (List.getD z41 (Int.toNat x5) Ty.val.dflt)))) ((fun (z40 : List Val) => List.set z40 (Int.toNat x5) (Val.mk (Val.kind (List.getD z40 (Int.toNat x5) Ty.val.dflt)) (IntKind.i64.wrap (x1 + 1)) (Val.step (List.getD z40 (Int.toNat x5) Ty.val.dflt)) (Val.text (List.getD z40 (Int.toNat x5) Ty.val.dflt)) (Val.list (List.getD z40 (Int.toNat x5) Ty.val.dflt)) (Val.columns (List.getD z40 (Int.toNat x5) Ty.val.dflt)) (Val.rows (List.getD z40 (Int.toNat x5) Ty.val.dflt)))) (List.set x0 (Int.toNat x5) (Val.mk x1 (Val.n (List.getD x0 (Int.toNat x5) Ty.val.dflt)) (Val.step (List.getD x0 (Int.toNat x5) Ty.val.dflt)) (Val.text (List.getD x0 (Int.toNat x5) Ty.val.dflt)) (Val.list (List.getD x0 (Int.toNat x5) Ty.val.dflt)) (Val.columns (List.getD x0 (Int.toNat x5) Ty.val.dflt)) (Val.rows (List.getD x0 (Int.toNat x5) Ty.val.dflt))))))))) (Int.toNat x5) Ty.val.dflt)) then
      (xBP N rc_laws_markValueS n ((fun (z45 : List Val) => List.set z45 (Int.toNat x5) (Val.mk (Val.kind (List.getD z45 (Int.toNat x5) Ty.val.dflt)) (Val.n (List.getD z45 (Int.toNat x5) Ty.val.dflt)) (Val.step (List.getD z45 (Int.toNat x5) Ty.val.dflt)) (Val.text (List.getD z45 (Int.toNat x5) Ty.val.dflt)) (Val.list (List.getD z45 (Int.toNat x5) Ty.val.dflt)) (Val.columns (List.getD z45 (Int.toNat x5) Ty.val.dflt)) r4.2)) ((fun (z44 : List Val) => List.set z44 (Int.toNat x5) (Val.mk (Val.kind (List.getD z44 (Int.toNat x5) Ty.val.dflt)) (Val.n (List.getD z44 (Int.toNat x5) Ty.val.dflt)) (Val.step (List.getD z44 (Int.toNat x5) Ty.val.dflt)) (Val.text (List.getD z44 (Int.toNat x5) Ty.val.dflt)) (Val.list (List.getD z44 (Int.toNat x5) Ty.val.dflt)) r3.2 (Val.rows (List.getD z44 (Int.toNat x5) Ty.val.dflt)))) ((fun (z43 : List Val) => List.set z43 (Int.toNat x5) (Val.mk (Val.kind (List.getD z43 (Int.toNat x5) Ty.val.dflt)) (Val.n (List.getD z43 (Int.toNat x5) Ty.val.dflt)) (Val.step (List.getD z43 (Int.toNat x5) Ty.val.dflt)) (Val.text (List.getD z43 (Int.toNat x5) Ty.val.dflt)) r2.2 (Val.columns (List.getD z43 (Int.toNat x5) Ty.val.dflt)) (Val.rows (List.getD z43 (Int.toNat x5) Ty.val.dflt)))) ((fun (z42 : List Val) => List.set z42 (Int.toNat x5) (Val.mk (Val.kind (List.getD z42 (Int.toNat x5) Ty.val.dflt)) (Val.n (List.getD z42 (Int.toNat x5) Ty.val.dflt)) (Val.step (List.getD z42 (Int.toNat x5) Ty.val.dflt)) r1 (Val.list (List.getD z42 (Int.toNat x5) Ty.val.dflt)) (Val.columns (List.getD z42 (Int.toNat x5) Ty.val.dflt)) (Val.rows (List.getD z42 (Int.toNat x5) Ty.val.dflt)))) ((fun (z41 : List Val) => List.set z41 (Int.toNat x5) (Val.mk (Val.kind (List.getD z41 (Int.toNat x5) Ty.val.dflt)) (Val.n (List.getD z41 (Int.toNat x5) Ty.val.dflt)) (IntKind.i64.wrap ((IntKind.i64.wrap (x1 + 1)) + 1)) (Val.text (List.getD z41 (Int.toNat x5) Ty.val.dflt)) (Val.list (List.getD z41 (Int.toNat x5) Ty.val.dflt)) (Val.columns (List.getD z41 (Int.toNat x5) Ty.val.dflt)) (Val.rows (List.getD z41 (Int.toNat x5) Ty.val.dflt)))) ((fun (z40 : List Val) => List.set z40 (Int.toNat x5) (Val.mk (Val.kind (List.getD z40 (Int.toNat x5) Ty.val.dflt)) (IntKind.i64.wrap (x1 + 1)) (Val.step (List.getD z40 (Int.toNat x5) Ty.val.dflt)) (Val.text (List.getD z40 (Int.toNat x5) Ty.val.dflt)) (Val.list (List.getD z40 (Int.toNat x5) Ty.val.dflt)) (Val.columns (List.getD z40 (Int.toNat x5) Ty.val.dflt)) (Val.rows (List.getD z40 (Int.toNat x5) Ty.val.dflt)))) (List.set x0 (Int.toNat x5) (Val.mk x1 (Val.n (List.getD x0 (Int.toNat x5) Ty.val.dflt)) (Val.step (List.getD x0 (Int.toNat x5) Ty.val.dflt)) (Val.text (List.getD x0 (Int.toNat x5) Ty.val.dflt)) (Val.list (List.getD x0 (Int.toNat x5) Ty.val.dflt)) (Val.columns (List.getD x0 (Int.toNat x5) Ty.val.dflt)) (Val.rows (List.getD x0 (Int.toNat x5) Ty.val.dflt)))))))))) r4.1 (IntKind.i64.wrap (x5 + 1)))
      else none
      else none
      else none
      else none
      else none
      else none
      else none
      else none
      else none
      else none
    ) else (
      some (x1, x0)
    )
def xCT (N : Nat) (rc_laws_markValueS : (List Val) → Int → Option (Int × (List Val))) (a0 : List Val) (a1 : Int) : Option (Int × (List Val)) :=
  (xBP N rc_laws_markValueS N a0 a1 0)
def xCF (N : Nat) : Nat → (List Val) → Int → Option (Int × (List Val))
  | 0, _, _ => none
  | d + 1, a0, a1 => xCT N (xCF N d) a0 a1
def xEu (N : Nat) (a0 : List Val) (a1 : Int) : Option (Int × (List Val)) := xCF N N a0 a1
def xBj (a0 : Val) (a1 : Int) : List Arg := [.val (.v true [.int .i64 (Val.kind a0), .int .i64 (Val.n a0), .int .i64 (Val.step a0), .str (Val.text a0), .sl (.lnt 0) .val (Val.list a0), .sl (.lnt 1) .str (Val.columns a0), .sl (.lnt 2) .row (Val.rows a0)]), .val (.v false [.int .i64 a1])]
def xAE (r : Int × (List Val) × (List Str) × (List Rowd)) : CallO := ⟨.v false [.int .i64 r.1], [], [.sl (.lnt 0) .val r.2.1, .sl (.lnt 1) .str r.2.2.1, .sl (.lnt 2) .row r.2.2.2]⟩
def xCq (N : Nat) (a0 : Val) (a1 : Int) : Option (Int × (List Val) × (List Str) × (List Rowd)) :=
  Option.bind (xEu N (Val.list a0) a1) fun r1 =>
  if List.length r1.2 = List.length (Val.list a0) then
  Option.bind (xCK N (Val.columns a0) r1.1) fun r2 =>
  if List.length r2.2 = List.length (Val.columns a0) then
  Option.bind (xDA N (Val.rows a0) r2.1) fun r3 =>
  if List.length r3.2 = List.length (Val.rows a0) then
  some (r3.1, r1.2, r2.2, r3.2)
  else none
  else none
  else none
def xA9 (a0 : List Str) (a1 : Int) : List Arg := [.val (.v false [.sl .ro .str a0]), .val (.v false [.int .i64 a1])]
def xAw (r : Int) : CallO := ⟨.v false [.int .i64 r], [], []⟩
def xBG (N : Nat) : Nat → (List Str) → Int → Int → Option (Int)
  | 0, _, _, _ => none
  | n + 1, x0, x1, x5 =>
    bif (decide ((x5 : Int) < (List.length x0 : Int))) then (
      if (0 : Int) ≤ x5 ∧ x5 < (List.length x0) then
      Option.bind (xB6 N x1) fun r1 =>
      bif (!(((List.getD x0 (Int.toNat x5) Ty.str.dflt) : Str) == r1)) then (
        some (-1)
      ) else (
        (xBG N n x0 (IntKind.i64.wrap (x1 + 1)) (IntKind.i64.wrap (x5 + 1)))
      )
      else none
    ) else (
      some x1
    )
def xCI (N : Nat) (a0 : List Str) (a1 : Int) : Option (Int) :=
  (xBG N N a0 a1 0)
def xCH (a0 : List Int) (a1 : Int) : List Arg := [.val (.v false [.sl .ro .int a0]), .val (.v false [.int .i64 a1])]
def xBb (r : Int) : CallO := ⟨.v false [.int .i64 r], [], []⟩
def xCe (N : Nat) : Nat → (List Int) → Int → Int → Option (Int)
  | 0, _, _, _ => none
  | n + 1, x0, x1, x5 =>
    bif (decide ((x5 : Int) < (List.length x0 : Int))) then (
      if (0 : Int) ≤ x5 ∧ x5 < (List.length x0) then
      bif (((List.getD x0 (Int.toNat x5) Ty.int.dflt) : Int) != x1) then (
        some (-1)
      ) else (
        (xCe N n x0 (IntKind.i64.wrap (x1 + 1)) (IntKind.i64.wrap (x5 + 1)))
      )
      else none
    ) else (
      some x1
    )
def xDW (N : Nat) (a0 : List Int) (a1 : Int) : Option (Int) :=
  (xCe N N a0 a1 0)
def xCC (a0 : List Org) (a1 : Int) : List Arg := [.val (.v false [.sl .ro .org a0]), .val (.v false [.int .i64 a1])]
def xA1 (r : Int) : CallO := ⟨.v false [.int .i64 r], [], []⟩
def xBF (N : Nat) : Nat → (List Org) → Int → Int → Option (Int)
  | 0, _, _, _ => none
  | n + 1, x0, x1, x5 =>
    bif (decide ((x5 : Int) < (List.length x0 : Int))) then (
      if (0 : Int) ≤ x5 ∧ x5 < (List.length x0) then
      bif (((Org.cell (List.getD x0 (Int.toNat x5) Ty.org.dflt)) : Int) != x1) then (
        some (-1)
      ) else (
        bif (((Org.row (List.getD x0 (Int.toNat x5) Ty.org.dflt)) : Int) != (IntKind.i64.wrap (x1 + 1))) then (
          some (-1)
        ) else (
          (xBF N n x0 (IntKind.i64.wrap ((IntKind.i64.wrap (x1 + 1)) + 1)) (IntKind.i64.wrap (x5 + 1)))
        )
      )
      else none
    ) else (
      some x1
    )
def xC7 (N : Nat) (a0 : List Org) (a1 : Int) : Option (Int) :=
  (xBF N N a0 a1 0)
def xCf (a0 : List Rowd) (a1 : Int) : List Arg := [.val (.v false [.sl .ro .row a0]), .val (.v false [.int .i64 a1])]
def xAT (r : Int) : CallO := ⟨.v false [.int .i64 r], [], []⟩
def xCg (N : Nat) : Nat → (List Rowd) → Int → Int → Option (Int)
  | 0, _, _, _ => none
  | n + 1, x0, x1, x5 =>
    bif (decide ((x5 : Int) < (List.length x0 : Int))) then (
      if (0 : Int) ≤ x5 ∧ x5 < (List.length x0) then
      Option.bind (xDW N (Rowd.cells (List.getD x0 (Int.toNat x5) Ty.row.dflt)) x1) fun r1 =>
      bif (decide ((r1 : Int) < 0)) then (
        some (-1)
      ) else (
        Option.bind (xC7 N (Rowd.frm (List.getD x0 (Int.toNat x5) Ty.row.dflt)) r1) fun r2 =>
        bif (decide ((r2 : Int) < 0)) then (
          some (-1)
        ) else (
          (xCg N n x0 r2 (IntKind.i64.wrap (x5 + 1)))
        )
      )
      else none
    ) else (
      some x1
    )
def xDy (N : Nat) (a0 : List Rowd) (a1 : Int) : Option (Int) :=
  (xCg N N a0 a1 0)
def xAD (a0 : List Val) (a1 : Int) : List Arg := [.val (.v false [.sl .ro .val a0]), .val (.v false [.int .i64 a1])]
def xAg (r : Int) : CallO := ⟨.v false [.int .i64 r], [], []⟩
def xBO (N : Nat) (rc_laws_heldValueS : (List Val) → Int → Option (Int)) : Nat → (List Val) → Int → Int → Option (Int)
  | 0, _, _, _ => none
  | n + 1, x0, x1, x5 =>
    bif (decide ((x5 : Int) < (List.length x0 : Int))) then (
      if (0 : Int) ≤ x5 ∧ x5 < (List.length x0) then
      bif (((Val.kind (List.getD x0 (Int.toNat x5) Ty.val.dflt)) : Int) != x1) then (
        some (-1)
      ) else (
        bif (((Val.n (List.getD x0 (Int.toNat x5) Ty.val.dflt)) : Int) != (IntKind.i64.wrap (x1 + 1))) then (
          some (-1)
        ) else (
          bif (((Val.step (List.getD x0 (Int.toNat x5) Ty.val.dflt)) : Int) != (IntKind.i64.wrap ((IntKind.i64.wrap (x1 + 1)) + 1))) then (
            some (-1)
          ) else (
            Option.bind (xB6 N (IntKind.i64.wrap ((IntKind.i64.wrap ((IntKind.i64.wrap (x1 + 1)) + 1)) + 1))) fun r1 =>
            bif (!(((Val.text (List.getD x0 (Int.toNat x5) Ty.val.dflt)) : Str) == r1)) then (
              some (-1)
            ) else (
              Option.bind (rc_laws_heldValueS (Val.list (List.getD x0 (Int.toNat x5) Ty.val.dflt)) (IntKind.i64.wrap ((IntKind.i64.wrap ((IntKind.i64.wrap ((IntKind.i64.wrap (x1 + 1)) + 1)) + 1)) + 1))) fun r2 =>
              bif (decide ((r2 : Int) < 0)) then (
                some (-1)
              ) else (
                Option.bind (xCI N (Val.columns (List.getD x0 (Int.toNat x5) Ty.val.dflt)) r2) fun r3 =>
                bif (decide ((r3 : Int) < 0)) then (
                  some (-1)
                ) else (
                  Option.bind (xDy N (Val.rows (List.getD x0 (Int.toNat x5) Ty.val.dflt)) r3) fun r4 =>
                  bif (decide ((r4 : Int) < 0)) then (
                    some (-1)
                  ) else (
                    (xBO N rc_laws_heldValueS n x0 r4 (IntKind.i64.wrap (x5 + 1)))
                  )
                )
              )
            )
          )
        )
      )
      else none
    ) else (
      some x1
    )
def xCS (N : Nat) (rc_laws_heldValueS : (List Val) → Int → Option (Int)) (a0 : List Val) (a1 : Int) : Option (Int) :=
  (xBO N rc_laws_heldValueS N a0 a1 0)
def xCD (N : Nat) : Nat → (List Val) → Int → Option (Int)
  | 0, _, _ => none
  | d + 1, a0, a1 => xCS N (xCD N d) a0 a1
def xEs (N : Nat) (a0 : List Val) (a1 : Int) : Option (Int) := xCD N N a0 a1
def xAI (a0 : Val) (a1 : Int) : List Arg := [.val (.v true [.int .i64 (Val.kind a0), .int .i64 (Val.n a0), .int .i64 (Val.step a0), .str (Val.text a0), .sl .ro .val (Val.list a0), .sl .ro .str (Val.columns a0), .sl .ro .row (Val.rows a0)]), .val (.v false [.int .i64 a1])]
def xAq (r : Int) : CallO := ⟨.v false [.int .i64 r], [], []⟩
def xCp (N : Nat) (a0 : Val) (a1 : Int) : Option (Int) :=
  Option.bind (xEs N (Val.list a0) a1) fun r1 =>
  bif (decide ((r1 : Int) < 0)) then (
    some (-1)
  ) else (
    Option.bind (xCI N (Val.columns a0) r1) fun r2 =>
    bif (decide ((r2 : Int) < 0)) then (
      some (-1)
    ) else (
      Option.bind (xDy N (Val.rows a0) r2) fun r3 =>
      bif (decide ((r3 : Int) < 0)) then (
        some (-1)
      ) else (
        some r3
      )
    )
  )
def xAR (a0 : Rea) (a1 : Int) : List Arg := [.val (.v true [.int .i64 (Rea.kind a0), .int .i64 (Rea.n a0), .int .i64 (Rea.time a0), .str (Rea.text a0), .int .i64 (Val.kind (Rea.result a0)), .int .i64 (Val.n (Rea.result a0)), .int .i64 (Val.step (Rea.result a0)), .str (Val.text (Rea.result a0)), .sl .ro .val (Val.list (Rea.result a0)), .sl .ro .str (Val.columns (Rea.result a0)), .sl .ro .row (Val.rows (Rea.result a0))]), .val (.v false [.int .i64 a1])]
def xAs (r : Int) : CallO := ⟨.v false [.int .i64 r], [], []⟩
def xEw (N : Nat) (a0 : Rea) (a1 : Int) : Option (Int) :=
  bif (decide (((IntKind.i64.wrap (a1 - (List.length (Rea.text a0) : Int))) : Int) < 0)) then (
    some (-1)
  ) else (
    Option.bind (xEU N (Rea.result a0) (IntKind.i64.wrap (a1 - (List.length (Rea.text a0) : Int)))) fun r1 =>
    bif (decide ((r1 : Int) < 0)) then (
      some (-1)
    ) else (
      some r1
    )
  )
def xAk (a0 : Rea) : List Arg := [.val (.v true [.int .i64 (Rea.kind a0), .int .i64 (Rea.n a0), .int .i64 (Rea.time a0), .str (Rea.text a0), .int .i64 (Val.kind (Rea.result a0)), .int .i64 (Val.n (Rea.result a0)), .int .i64 (Val.step (Rea.result a0)), .str (Val.text (Rea.result a0)), .sl .ro .val (Val.list (Rea.result a0)), .sl .ro .str (Val.columns (Rea.result a0)), .sl .ro .row (Val.rows (Rea.result a0))])]
def xAc (r : Rea) : CallO := ⟨.v true [.int .i64 (Rea.kind r), .int .i64 (Rea.n r), .int .i64 (Rea.time r), .str (Rea.text r), .int .i64 (Val.kind (Rea.result r)), .int .i64 (Val.n (Rea.result r)), .int .i64 (Val.step (Rea.result r)), .str (Val.text (Rea.result r)), .sl .own .val (Val.list (Rea.result r)), .sl .own .str (Val.columns (Rea.result r)), .sl .own .row (Val.rows (Rea.result r))], [], []⟩
def xC4 (N : Nat) (a0 : Rea) : Option (Rea) :=
  Option.bind (xEX N (Rea.result a0)) fun r1 =>
  some (Rea.mk (Rea.kind a0) (Rea.n a0) (Rea.time a0) (Rea.text a0) r1)
def xAQ (a0 : Rea) (a1 : Rea) : List Arg := [.val (.v true [.int .i64 (Rea.kind a0), .int .i64 (Rea.n a0), .int .i64 (Rea.time a0), .str (Rea.text a0), .int .i64 (Val.kind (Rea.result a0)), .int .i64 (Val.n (Rea.result a0)), .int .i64 (Val.step (Rea.result a0)), .str (Val.text (Rea.result a0)), .sl .ro .val (Val.list (Rea.result a0)), .sl .ro .str (Val.columns (Rea.result a0)), .sl .ro .row (Val.rows (Rea.result a0))]), .val (.v true [.int .i64 (Rea.kind a1), .int .i64 (Rea.n a1), .int .i64 (Rea.time a1), .str (Rea.text a1), .int .i64 (Val.kind (Rea.result a1)), .int .i64 (Val.n (Rea.result a1)), .int .i64 (Val.step (Rea.result a1)), .str (Val.text (Rea.result a1)), .sl .ro .val (Val.list (Rea.result a1)), .sl .ro .str (Val.columns (Rea.result a1)), .sl .ro .row (Val.rows (Rea.result a1))])]
def xAv (r : Bool) : CallO := ⟨.v false [.bool r], [], []⟩
def xD5 (N : Nat) (a0 : Rea) (a1 : Rea) : Option (Bool) :=
  bif (((Rea.kind a0) : Int) != (Rea.kind a1)) then (
    some false
  ) else (
    bif (((Rea.n a0) : Int) != (Rea.n a1)) then (
      some false
    ) else (
      bif (((Rea.time a0) : Int) != (Rea.time a1)) then (
        some false
      ) else (
        bif (!(((Rea.text a0) : Str) == (Rea.text a1))) then (
          some false
        ) else (
          Option.bind (xDU N (Rea.result a0) (Rea.result a1)) fun r1 =>
          bif (!r1) then (
            some false
          ) else (
            some true
          )
        )
      )
    )
  )
def xDj (a0 : Fil) (a1 : Int) : List Arg := [.val (.v true [.str (Fil.name a0), .int .i64 (Fil.n a0)]), .val (.v false [.int .i64 a1])]
def xCr (r : Int) : CallO := ⟨.v false [.int .i64 r], [], []⟩
def xD8 (N : Nat) (a0 : Fil) (a1 : Int) : Option (Int) :=
  bif (decide (((IntKind.i64.wrap (a1 - (List.length (Fil.name a0) : Int))) : Int) < 0)) then (
    some (-1)
  ) else (
    some (IntKind.i64.wrap (a1 - (List.length (Fil.name a0) : Int)))
  )
def xCV (a0 : List Fil) (a1 : Int) : List Arg := [.val (.v false [.sl .ro .fil a0]), .val (.v false [.int .i64 a1])]
def xBA (r : Int) : CallO := ⟨.v false [.int .i64 r], [], []⟩
def xDt (N : Nat) : Nat → (List Fil) → Int → Int → Option (Int)
  | 0, _, _, _ => none
  | n + 1, x0, x1, x5 =>
    bif (decide ((x5 : Int) < (List.length x0 : Int))) then (
      if (0 : Int) ≤ x5 ∧ x5 < (List.length x0) then
      Option.bind (xD8 N (List.getD x0 (Int.toNat x5) Ty.fil.dflt) x1) fun r1 =>
      bif (decide ((r1 : Int) < 0)) then (
        some (-1)
      ) else (
        (xDt N n x0 r1 (IntKind.i64.wrap (x5 + 1)))
      )
      else none
    ) else (
      some x1
    )
def xEi (N : Nat) (a0 : List Fil) (a1 : Int) : Option (Int) :=
  bif (decide (((IntKind.i64.wrap (a1 - (List.length a0 : Int))) : Int) < 0)) then (
    some (-1)
  ) else (
    (xDt N N a0 (IntKind.i64.wrap (a1 - (List.length a0 : Int))) 0)
  )
def xAK (a0 : Wld) (a1 : Int) : List Arg := [.val (.v true [.int .i64 (Wld.clock a0), .int .i64 (Wld.seed a0), .sl .ro .fil (Wld.files a0)]), .val (.v false [.int .i64 a1])]
def xAp (r : Int) : CallO := ⟨.v false [.int .i64 r], [], []⟩
def xEj (N : Nat) (a0 : Wld) (a1 : Int) : Option (Int) :=
  Option.bind (xEi N (Wld.files a0) a1) fun r1 =>
  bif (decide ((r1 : Int) < 0)) then (
    some (-1)
  ) else (
    some r1
  )
def xEf (a0 : Fil) : List Arg := [.val (.v true [.str (Fil.name a0), .int .i64 (Fil.n a0)])]
def xDH (r : Fil) : CallO := ⟨.v true [.str (Fil.name r), .int .i64 (Fil.n r)], [], []⟩
def xEy (N : Nat) (a0 : Fil) : Option (Fil) :=
  some a0
def xDZ (a0 : List Fil) : List Arg := [.val (.v false [.sl .ro .fil a0])]
def xCX (r : (List Fil)) : CallO := ⟨.v false [.sl .own .fil r], [], []⟩
def xDu (N : Nat) : Nat → (List Fil) → (List Fil) → Int → Option ((List Fil))
  | 0, _, _, _ => none
  | n + 1, x0, x3, x4 =>
    bif (decide ((x4 : Int) < (List.length x0 : Int))) then (
      if (0 : Int) ≤ x4 ∧ x4 < (List.length x0) then
      Option.bind (xEy N (List.getD x0 (Int.toNat x4) Ty.fil.dflt)) fun r1 =>
      if (0 : Int) ≤ x4 ∧ x4 < (List.length x3) then
      (xDu N n x0 (List.set x3 (Int.toNat x4) r1) (IntKind.i64.wrap (x4 + 1)))
      else none
      else none
    ) else (
      some x3
    )
def xDV (N : Nat) (a0 : List Fil) : Option ((List Fil)) :=
  if (0 : Int) ≤ (List.length a0 : Int) ∧ (List.length a0 : Int) = (List.length a0 : Int) ∧ (List.length a0 : Int) ≤ Lim then
  (xDu N N a0 (List.replicate (Int.toNat (List.length a0 : Int)) Ty.fil.dflt) 0)
  else none
def xAh (a0 : Wld) : List Arg := [.val (.v true [.int .i64 (Wld.clock a0), .int .i64 (Wld.seed a0), .sl .ro .fil (Wld.files a0)])]
def xAa (r : Wld) : CallO := ⟨.v true [.int .i64 (Wld.clock r), .int .i64 (Wld.seed r), .sl .own .fil (Wld.files r)], [], []⟩
def xCs (N : Nat) (a0 : Wld) : Option (Wld) :=
  Option.bind (xDV N (Wld.files a0)) fun r1 =>
  some (Wld.mk (Wld.clock a0) (Wld.seed a0) r1)
def xDw (a0 : Int) (a1 : Int) (a2 : Int) : List Arg := [.val (.v false [.int .i64 a0]), .val (.v false [.int .i64 a1]), .val (.v false [.int .i64 a2])]
def xCt (r : Bool) : CallO := ⟨.v false [.bool r], [], []⟩
def xEA (N : Nat) (a0 : Int) (a1 : Int) (a2 : Int) : Option (Bool) :=
  bif (decide ((a0 : Int) ≥ a1)) then (
    some (decide ((a0 : Int) ≤ a2))
  ) else (
    some false
  )
def xCk (a0 : Int) : List Arg := [.val (.v false [.int .i64 a0])]
def xBg (r : Bool) : CallO := ⟨.v false [.bool r], [], []⟩
def xC5 (N : Nat) (a0 : Int) : Option (Bool) :=
  Option.bind (xEA N a0 (-1000000000) 1000000000) fun r1 =>
  some r1
def xB3 (a0 : Int) : List Arg := [.val (.v false [.int .i64 a0])]
def xBa (r : Val) : CallO := ⟨.v true [.int .i64 (Val.kind r), .int .i64 (Val.n r), .int .i64 (Val.step r), .str (Val.text r), .sl .own .val (Val.list r), .sl .own .str (Val.columns r), .sl .own .row (Val.rows r)], [], []⟩
def xBE (N : Nat) (a0 : Int) : Option (Val) :=
  some (Val.mk 1 a0 0 [] [] [] [])
def xC0 (a0 : Int) : List Arg := [.val (.v false [.int .i64 a0])]
def xB7 (r : Int) : CallO := ⟨.v false [.int .i64 r], [], []⟩
def xDv (N : Nat) (a0 : Int) : Option (Int) :=
  bif (decide (((Int.tmod a0 2147483647) : Int) < 0)) then (
    some (IntKind.i64.wrap ((Int.tmod a0 2147483647) + 2147483647))
  ) else (
    some (Int.tmod a0 2147483647)
  )
def xEI (a0 : Int) (a1 : Int) (a2 : Int) (a3 : Int) : List Arg := [.val (.v false [.int .i64 a0]), .val (.v false [.int .i64 a1]), .val (.v false [.int .i64 a2]), .val (.v false [.int .i64 a3])]
def xEz (r : Int) : CallO := ⟨.v false [.int .i64 r], [], []⟩
def xE3 (N : Nat) (a0 : Int) (a1 : Int) (a2 : Int) (a3 : Int) : Option (Int) :=
  Option.bind (xDv N (IntKind.i64.wrap ((IntKind.i64.wrap ((IntKind.i64.wrap ((IntKind.i64.wrap (48271 * a0)) + (IntKind.i64.wrap (7919 * a1)))) + (IntKind.i64.wrap (104729 * a2)))) + (IntKind.i64.wrap (1299709 * a3))))) fun r1 =>
  Option.bind (xDv N (IntKind.i64.wrap (16807 * r1))) fun r2 =>
  some r2
def xB2 (a0 : Wld) (a1 : Str) : List Arg := [.val (.v true [.int .i64 (Wld.clock a0), .int .i64 (Wld.seed a0), .sl .ro .fil (Wld.files a0)]), .val (.v false [.str a1])]
def xAX (r : Int × Bool) : CallO := ⟨.tup [(false, [.int .i64 r.1]), (false, [.bool r.2])], [], []⟩
def xBn (N : Nat) : Nat → Str → Int → Wld → Option (Int × Bool)
  | 0, _, _, _ => none
  | n + 1, x1, x6, b2 =>
    bif (decide ((x6 : Int) < (List.length (Wld.files b2) : Int))) then (
      if (0 : Int) ≤ x6 ∧ x6 < (List.length (Wld.files b2)) then
      bif (((Fil.name (List.getD (Wld.files b2) (Int.toNat x6) Ty.fil.dflt)) : Str) == x1) then (
        some ((Fil.n (List.getD (Wld.files b2) (Int.toNat x6) Ty.fil.dflt)), true)
      ) else (
        (xBn N n x1 (IntKind.i64.wrap (x6 + 1)) b2)
      )
      else none
    ) else (
      some (0, false)
    )
def xDd (N : Nat) (a0 : Wld) (a1 : Str) : Option (Int × Bool) :=
  (xBn N N a1 0 a0)
def xAo (a0 : Wld) (a1 : Int) (a2 : Int) (a3 : Rea) : List Arg := [.val (.v true [.int .i64 (Wld.clock a0), .int .i64 (Wld.seed a0), .sl .ro .fil (Wld.files a0)]), .val (.v false [.int .i64 a1]), .val (.v false [.int .i64 a2]), .val (.v true [.int .i64 (Rea.kind a3), .int .i64 (Rea.n a3), .int .i64 (Rea.time a3), .str (Rea.text a3), .int .i64 (Val.kind (Rea.result a3)), .int .i64 (Val.n (Rea.result a3)), .int .i64 (Val.step (Rea.result a3)), .str (Val.text (Rea.result a3)), .sl .ro .val (Val.list (Rea.result a3)), .sl .ro .str (Val.columns (Rea.result a3)), .sl .ro .row (Val.rows (Rea.result a3))])]
def xAe (r : Val) : CallO := ⟨.v true [.int .i64 (Val.kind r), .int .i64 (Val.n r), .int .i64 (Val.step r), .str (Val.text r), .sl .own .val (Val.list r), .sl .own .str (Val.columns r), .sl .own .row (Val.rows r)], [], []⟩
def xBu (N : Nat) (a0 : Wld) (a1 : Int) (a2 : Int) (a3 : Rea) : Option (Val) :=
  bif (((Rea.kind a3) : Int) == 1) then (
    Option.bind (xC5 N (Wld.clock a0)) fun r1 =>
    bif r1 then (
      Option.bind (xBE N (Wld.clock a0)) fun r2 =>
      some r2
    ) else (
      Option.bind (xBf N 4) fun r2 =>
      some r2
    )
  ) else (
    bif (((Rea.kind a3) : Int) == 2) then (
      Option.bind (xEA N (Rea.n a3) 1 1000000000) fun r1 =>
      bif (!r1) then (
        Option.bind (xBf N 5) fun r2 =>
        some r2
      ) else (
        Option.bind (xE3 N (Wld.seed a0) a1 a2 (Rea.time a3)) fun r2 =>
        if (Rea.n a3) ≠ (0 : Int) then
        Option.bind (xBE N (Int.tmod r2 (Rea.n a3))) fun r3 =>
        some r3
        else none
      )
    ) else (
      bif (((Rea.kind a3) : Int) == 3) then (
        Option.bind (xDd N a0 (Rea.text a3)) fun r1 =>
        bif (!r1.2) then (
          Option.bind (xBf N 1) fun r2 =>
          some r2
        ) else (
          Option.bind (xC5 N r1.1) fun r2 =>
          bif r2 then (
            Option.bind (xBE N r1.1) fun r3 =>
            some r3
          ) else (
            Option.bind (xBf N 4) fun r3 =>
            some r3
          )
        )
      ) else (
        Option.bind (xBf N 4) fun r1 =>
        some r1
      )
    )
  )
def xCo (a0 : Int) (a1 : Int) (a2 : Int) : List Arg := [.val (.v false [.int .i64 a0]), .val (.v false [.int .i64 a1]), .val (.v false [.int .i64 a2])]
def xBo (r : Bool) : CallO := ⟨.v false [.bool r], [], []⟩
def xDQ (N : Nat) (a0 : Int) (a1 : Int) (a2 : Int) : Option (Bool) :=
  bif (decide ((a1 : Int) ≤ a0)) then (
    some (decide ((a0 : Int) ≤ a2))
  ) else (
    some false
  )
def xD2 (a0 : Int) (a1 : Int) (a2 : Int) (a3 : Int) : List Arg := [.val (.v false [.int .i64 a0]), .val (.v false [.int .i64 a1]), .val (.v false [.int .i64 a2]), .val (.v false [.int .i64 a3])]
def xDr (r : Int) : CallO := ⟨.v false [.int .i64 r], [], []⟩
def xE1 (N : Nat) (a0 : Int) (a1 : Int) (a2 : Int) (a3 : Int) : Option (Int) :=
  bif (decide (((Int.tmod (IntKind.i64.wrap ((IntKind.i64.wrap ((IntKind.i64.wrap ((IntKind.i64.wrap (48271 * a0)) + (IntKind.i64.wrap (7919 * a1)))) + (IntKind.i64.wrap (104729 * a2)))) + (IntKind.i64.wrap (1299709 * a3)))) 2147483647) : Int) < 0)) then (
    some (Int.tmod (IntKind.i64.wrap (16807 * (IntKind.i64.wrap ((Int.tmod (IntKind.i64.wrap ((IntKind.i64.wrap ((IntKind.i64.wrap ((IntKind.i64.wrap (48271 * a0)) + (IntKind.i64.wrap (7919 * a1)))) + (IntKind.i64.wrap (104729 * a2)))) + (IntKind.i64.wrap (1299709 * a3)))) 2147483647) + 2147483647)))) 2147483647)
  ) else (
    some (Int.tmod (IntKind.i64.wrap (16807 * (Int.tmod (IntKind.i64.wrap ((IntKind.i64.wrap ((IntKind.i64.wrap ((IntKind.i64.wrap (48271 * a0)) + (IntKind.i64.wrap (7919 * a1)))) + (IntKind.i64.wrap (104729 * a2)))) + (IntKind.i64.wrap (1299709 * a3)))) 2147483647))) 2147483647)
  )
def xBS (a0 : Wld) (a1 : Str) : List Arg := [.val (.v true [.int .i64 (Wld.clock a0), .int .i64 (Wld.seed a0), .sl .ro .fil (Wld.files a0)]), .val (.v false [.str a1])]
def xAW (r : Int × Bool) : CallO := ⟨.tup [(false, [.int .i64 r.1]), (false, [.bool r.2])], [], []⟩
def xBl (N : Nat) : Nat → Str → (List Fil) → Int → Int → Option (Int × Bool)
  | 0, _, _, _, _ => none
  | n + 1, x1, x9, x10, x11 =>
    bif (decide ((x11 : Int) < x10)) then (
      if (0 : Int) ≤ x11 ∧ x11 < (List.length x9) then
      bif (((Fil.name (List.getD x9 (Int.toNat x11) Ty.fil.dflt)) : Str) == x1) then (
        some ((Fil.n (List.getD x9 (Int.toNat x11) Ty.fil.dflt)), true)
      ) else (
        (xBl N n x1 x9 x10 (IntKind.i64.wrap (x11 + 1)))
      )
      else none
    ) else (
      some (0, false)
    )
def xC6 (N : Nat) (a0 : Wld) (a1 : Str) : Option (Int × Bool) :=
  (xBl N N a1 (Wld.files a0) (List.length (Wld.files a0) : Int) 0)
def xBC (a0 : Int) : List Arg := [.val (.v false [.int .i64 a0])]
def xAN (r : Bool) : CallO := ⟨.v false [.bool r], [], []⟩
def xCL (N : Nat) (a0 : Int) : Option (Bool) :=
  Option.bind (xDQ N a0 (-1000000000) 1000000000) fun r1 =>
  some r1
def xBT (a0 : Int) : List Arg := [.val (.v false [.int .i64 a0])]
def xA8 (r : Val) : CallO := ⟨.v true [.int .i64 (Val.kind r), .int .i64 (Val.n r), .int .i64 (Val.step r), .str (Val.text r), .sl .own .val (Val.list r), .sl .own .str (Val.columns r), .sl .own .row (Val.rows r)], [], []⟩
def xBB (N : Nat) (a0 : Int) : Option (Val) :=
  some (Val.mk 1 a0 0 [] [] [] [])
def xAi (a0 : Wld) (a1 : Int) (a2 : Int) (a3 : Rea) : List Arg := [.val (.v true [.int .i64 (Wld.clock a0), .int .i64 (Wld.seed a0), .sl .ro .fil (Wld.files a0)]), .val (.v false [.int .i64 a1]), .val (.v false [.int .i64 a2]), .val (.v true [.int .i64 (Rea.kind a3), .int .i64 (Rea.n a3), .int .i64 (Rea.time a3), .str (Rea.text a3), .int .i64 (Val.kind (Rea.result a3)), .int .i64 (Val.n (Rea.result a3)), .int .i64 (Val.step (Rea.result a3)), .str (Val.text (Rea.result a3)), .sl .ro .val (Val.list (Rea.result a3)), .sl .ro .str (Val.columns (Rea.result a3)), .sl .ro .row (Val.rows (Rea.result a3))])]
def xAd (r : Val) : CallO := ⟨.v true [.int .i64 (Val.kind r), .int .i64 (Val.n r), .int .i64 (Val.step r), .str (Val.text r), .sl .own .val (Val.list r), .sl .own .str (Val.columns r), .sl .own .row (Val.rows r)], [], []⟩
def xBh (N : Nat) (a0 : Wld) (a1 : Int) (a2 : Int) (a3 : Rea) : Option (Val) :=
  bif (((Rea.kind a3) : Int) == 1) then (
    Option.bind (xCL N (Wld.clock a0)) fun r1 =>
    bif (!r1) then (
      Option.bind (xA3 N 4) fun r2 =>
      some r2
    ) else (
      Option.bind (xBB N (Wld.clock a0)) fun r2 =>
      some r2
    )
  ) else (
    bif (((Rea.kind a3) : Int) == 2) then (
      Option.bind (xDQ N (Rea.n a3) 1 1000000000) fun r1 =>
      bif (!r1) then (
        Option.bind (xA3 N 5) fun r2 =>
        some r2
      ) else (
        Option.bind (xE1 N (Wld.seed a0) a1 a2 (Rea.time a3)) fun r2 =>
        if (Rea.n a3) ≠ (0 : Int) then
        Option.bind (xCL N (Int.tmod r2 (Rea.n a3))) fun r3 =>
        bif (!r3) then (
          Option.bind (xA3 N 4) fun r4 =>
          some r4
        ) else (
          Option.bind (xBB N (Int.tmod r2 (Rea.n a3))) fun r4 =>
          some r4
        )
        else none
      )
    ) else (
      bif (((Rea.kind a3) : Int) == 3) then (
        Option.bind (xC6 N a0 (Rea.text a3)) fun r1 =>
        bif (!r1.2) then (
          Option.bind (xA3 N 1) fun r2 =>
          some r2
        ) else (
          Option.bind (xCL N r1.1) fun r2 =>
          bif (!r2) then (
            Option.bind (xA3 N 4) fun r3 =>
            some r3
          ) else (
            Option.bind (xBB N r1.1) fun r3 =>
            some r3
          )
        )
      ) else (
        Option.bind (xA3 N 4) fun r1 =>
        some r1
      )
    )
  )
def xCN (a0 : Fil) (a1 : Fil) : List Arg := [.val (.v true [.str (Fil.name a0), .int .i64 (Fil.n a0)]), .val (.v true [.str (Fil.name a1), .int .i64 (Fil.n a1)])]
def xB4 (r : Bool) : CallO := ⟨.v false [.bool r], [], []⟩
def xD3 (N : Nat) (a0 : Fil) (a1 : Fil) : Option (Bool) :=
  bif (!(((Fil.name a0) : Str) == (Fil.name a1))) then (
    some false
  ) else (
    bif (((Fil.n a0) : Int) != (Fil.n a1)) then (
      some false
    ) else (
      some true
    )
  )
def xCU (a0 : List Fil) (a1 : List Fil) : List Arg := [.val (.v false [.sl .ro .fil a0]), .val (.v false [.sl .ro .fil a1])]
def xBy (r : Bool) : CallO := ⟨.v false [.bool r], [], []⟩
def xCB (N : Nat) : Nat → (List Fil) → (List Fil) → Int → Option (Bool)
  | 0, _, _, _ => none
  | n + 1, x0, x1, x5 =>
    bif (decide ((x5 : Int) < (List.length x0 : Int))) then (
      if (0 : Int) ≤ x5 ∧ x5 < (List.length x0) then
      if (0 : Int) ≤ x5 ∧ x5 < (List.length x1) then
      Option.bind (xD3 N (List.getD x0 (Int.toNat x5) Ty.fil.dflt) (List.getD x1 (Int.toNat x5) Ty.fil.dflt)) fun r1 =>
      bif (!r1) then (
        some false
      ) else (
        (xCB N n x0 x1 (IntKind.i64.wrap (x5 + 1)))
      )
      else none
      else none
    ) else (
      some true
    )
def xDT (N : Nat) (a0 : List Fil) (a1 : List Fil) : Option (Bool) :=
  bif (((List.length a0 : Int) : Int) != (List.length a1 : Int)) then (
    some false
  ) else (
    (xCB N N a0 a1 0)
  )
def xAO (a0 : Wld) (a1 : Wld) : List Arg := [.val (.v true [.int .i64 (Wld.clock a0), .int .i64 (Wld.seed a0), .sl .ro .fil (Wld.files a0)]), .val (.v true [.int .i64 (Wld.clock a1), .int .i64 (Wld.seed a1), .sl .ro .fil (Wld.files a1)])]
def xAt (r : Bool) : CallO := ⟨.v false [.bool r], [], []⟩
def xDs (N : Nat) (a0 : Wld) (a1 : Wld) : Option (Bool) :=
  bif (((Wld.clock a0) : Int) != (Wld.clock a1)) then (
    some false
  ) else (
    bif (((Wld.seed a0) : Int) != (Wld.seed a1)) then (
      some false
    ) else (
      Option.bind (xDT N (Wld.files a0) (Wld.files a1)) fun r1 =>
      bif (!r1) then (
        some false
      ) else (
        some true
      )
    )
  )
def xDz (a0 : List Fil) (a1 : Int) : List Arg := [.val (.v false [.sl (.lnt 0) .fil a0]), .val (.v false [.int .i64 a1])]
def xCw (r : Int × (List Fil)) : CallO := ⟨.v false [.int .i64 r.1], [], [.sl (.lnt 0) .fil r.2]⟩
def xBY (N : Nat) : Nat → (List Fil) → Int → Int → Option (Int × (List Fil))
  | 0, _, _, _ => none
  | n + 1, x0, x1, x5 =>
    bif (decide ((x5 : Int) < (List.length x0 : Int))) then (
      Option.bind (xB6 N x1) fun r1 =>
      if (0 : Int) ≤ x5 ∧ x5 < (List.length x0) then
      if (0 : Int) ≤ x5 ∧ x5 < (List.length (List.set x0 (Int.toNat x5) (Fil.mk r1 (Fil.n (List.getD x0 (Int.toNat x5) Ty.fil.dflt))))) then
      (xBY N n ((fun (z1 : List Fil) => List.set z1 (Int.toNat x5) (Fil.mk (Fil.name (List.getD z1 (Int.toNat x5) Ty.fil.dflt)) (IntKind.i64.wrap (x1 + 1)))) (List.set x0 (Int.toNat x5) (Fil.mk r1 (Fil.n (List.getD x0 (Int.toNat x5) Ty.fil.dflt))))) (IntKind.i64.wrap ((IntKind.i64.wrap (x1 + 1)) + 1)) (IntKind.i64.wrap (x5 + 1)))
      else none
      else none
    ) else (
      some (x1, x0)
    )
def xDh (N : Nat) (a0 : List Fil) (a1 : Int) : Option (Int × (List Fil)) :=
  (xBY N N a0 a1 0)
def xA5 (a0 : Wld) (a1 : Int) : List Arg := [.val (.v true [.int .i64 (Wld.clock a0), .int .i64 (Wld.seed a0), .sl (.lnt 0) .fil (Wld.files a0)]), .val (.v false [.int .i64 a1])]
def xAx (r : Int × (List Fil)) : CallO := ⟨.v false [.int .i64 r.1], [], [.sl (.lnt 0) .fil r.2]⟩
def xDi (N : Nat) (a0 : Wld) (a1 : Int) : Option (Int × (List Fil)) :=
  Option.bind (xDh N (Wld.files a0) a1) fun r1 =>
  if List.length r1.2 = List.length (Wld.files a0) then
  some (r1.1, r1.2)
  else none
def xBc (a0 : Rea) (a1 : Int) : List Arg := [.val (.v true [.int .i64 (Rea.kind a0), .int .i64 (Rea.n a0), .int .i64 (Rea.time a0), .str (Rea.text a0), .int .i64 (Val.kind (Rea.result a0)), .int .i64 (Val.n (Rea.result a0)), .int .i64 (Val.step (Rea.result a0)), .str (Val.text (Rea.result a0)), .sl (.lnt 0) .val (Val.list (Rea.result a0)), .sl (.lnt 1) .str (Val.columns (Rea.result a0)), .sl (.lnt 2) .row (Val.rows (Rea.result a0))]), .val (.v false [.int .i64 a1])]
def xAC (r : Int × (List Val) × (List Str) × (List Rowd)) : CallO := ⟨.v false [.int .i64 r.1], [], [.sl (.lnt 0) .val r.2.1, .sl (.lnt 1) .str r.2.2.1, .sl (.lnt 2) .row r.2.2.2]⟩
def xDY (N : Nat) (a0 : Rea) (a1 : Int) : Option (Int × (List Val) × (List Str) × (List Rowd)) :=
  Option.bind (xCq N (Rea.result a0) a1) fun r1 =>
  if List.length r1.2.1 = List.length (Val.list (Rea.result a0)) then
  if List.length r1.2.2.1 = List.length (Val.columns (Rea.result a0)) then
  if List.length r1.2.2.2 = List.length (Val.rows (Rea.result a0)) then
  some (r1.1, r1.2.1, r1.2.2.1, r1.2.2.2)
  else none
  else none
  else none
def xAm (a0 : Wld) (a1 : Int) (a2 : Int) (a3 : Rea) : List Arg := [.val (.v true [.int .i64 (Wld.clock a0), .int .i64 (Wld.seed a0), .sl .ro .fil (Wld.files a0)]), .val (.v false [.int .i64 a1]), .val (.v false [.int .i64 a2]), .val (.v true [.int .i64 (Rea.kind a3), .int .i64 (Rea.n a3), .int .i64 (Rea.time a3), .str (Rea.text a3), .int .i64 (Val.kind (Rea.result a3)), .int .i64 (Val.n (Rea.result a3)), .int .i64 (Val.step (Rea.result a3)), .str (Val.text (Rea.result a3)), .sl .ro .val (Val.list (Rea.result a3)), .sl .ro .str (Val.columns (Rea.result a3)), .sl .ro .row (Val.rows (Rea.result a3))])]
def xAn (r : Bool) : CallO := ⟨.v false [.bool r], [], []⟩
def xA4 (N : Nat) (a0 : Wld) (a1 : Int) (a2 : Int) (a3 : Rea) : Option (Bool) :=
  Option.bind (xEj N a0 1048576) fun r1 =>
  bif (decide ((r1 : Int) < 0)) then (
    some true
  ) else (
    Option.bind (xEw N a3 r1) fun r2 =>
    bif (decide ((r2 : Int) < 0)) then (
      some true
    ) else (
      Option.bind (xCs N a0) fun r3 =>
      Option.bind (xC4 N a3) fun r4 =>
      Option.bind (xBu N r3 a1 a2 r4) fun r5 =>
      Option.bind (xCs N a0) fun r6 =>
      Option.bind (xC4 N a3) fun r7 =>
      Option.bind (xBh N r6 a1 a2 r7) fun r8 =>
      Option.bind (xDU N r8 r5) fun r9 =>
      bif (!r9) then (
        some false
      ) else (
        Option.bind (xCs N a0) fun r10 =>
        Option.bind (xDs N r6 r10) fun r11 =>
        bif (!r11) then (
          some false
        ) else (
          Option.bind (xC4 N a3) fun r12 =>
          Option.bind (xD5 N r7 r12) fun r13 =>
          bif (!r13) then (
            some false
          ) else (
            Option.bind (xDi N r6 1) fun r14 =>
            if List.length r14.2 = List.length (Wld.files r6) then
            Option.bind (xDY N r7 r14.1) fun r15 =>
            if List.length r15.2.1 = List.length (Val.list (Rea.result r7)) then
            if List.length r15.2.2.1 = List.length (Val.columns (Rea.result r7)) then
            if List.length r15.2.2.2 = List.length (Val.rows (Rea.result r7)) then
            bif (decide ((r15.1 : Int) < 0)) then (
              some false
            ) else (
              Option.bind (xDU N r8 r5) fun r16 =>
              bif (!r16) then (
                some false
              ) else (
                Option.bind (xCq N r8 1) fun r17 =>
                if List.length r17.2.1 = List.length (Val.list r8) then
                if List.length r17.2.2.1 = List.length (Val.columns r8) then
                if List.length r17.2.2.2 = List.length (Val.rows r8) then
                Option.bind (xCp N (Val.mk (Val.kind r8) (Val.n r8) (Val.step r8) (Val.text r8) r17.2.1 r17.2.2.1 r17.2.2.2) 1) fun r18 =>
                bif (decide ((r18 : Int) < 0)) then (
                  some false
                ) else (
                  bif ((r18 : Int) != r17.1) then (
                    some false
                  ) else (
                    Option.bind (xCs N a0) fun r19 =>
                    Option.bind (xC4 N a3) fun r20 =>
                    Option.bind (xBh N r19 a1 a2 r20) fun r21 =>
                    Option.bind (xDU N r21 r5) fun r22 =>
                    bif (!r22) then (
                      some false
                    ) else (
                      Option.bind (xCp N (Val.mk (Val.kind r8) (Val.n r8) (Val.step r8) (Val.text r8) r17.2.1 r17.2.2.1 r17.2.2.2) 1) fun r23 =>
                      bif (decide ((r23 : Int) < 0)) then (
                        some false
                      ) else (
                        bif ((r23 : Int) != r17.1) then (
                          some false
                        ) else (
                          some true
                        )
                      )
                    )
                  )
                )
                else none
                else none
                else none
              )
            )
            else none
            else none
            else none
            else none
          )
        )
      )
    )
  )
end Go.Ab
end
section
open Go.Proofs
namespace Go.Ab.T
abbrev AbC (f : FuncId) (a : List Arg) (r : CallO) : Prop := AbsCalls Try.prog f a r
end Go.Ab.T
end
section
open Go.Proofs
namespace Go.Ab.T
set_option linter.unusedVariables false
set_option maxRecDepth 100000
def tt : TT := [(3, { zero := some [.int .i64 0], ik := some .i64 }),
 (4, { zero := some [.bool false], isBool := true }),
 (5, { zero := some [.int .u8 0], ik := some .u8 }),
 (9, { zero := some [.str []], isStr := true }),
 (22, { zero := some [.sl .own .bnd []], elem := some (100, .bnd) }),
 (24, { zero := some [.sl .own .val []], elem := some (28, .val) }),
 (25, { zero := some [.sl .own .str []], elem := some (9, .str) }),
 (26, { zero := some [.sl .own .row []], elem := some (130, .row) }),
 (28, { sz := 7, agg := true, zero := some [.int .i64 0, .int .i64 0, .int .i64 0, .str [], .sl .own .val [], .sl .own .str [], .sl .own .row []], offs := [0, 1, 2, 3, 4, 5, 6], fsz := [1, 1, 1, 1, 1, 1, 1] }),
 (30, { zero := some [.sl .own .bnd []], elem := some (102, .bnd) }),
 (37, { zero := some [.sl .own .val []], elem := some (40, .val) }),
 (38, { zero := some [.sl .own .row []], elem := some (148, .row) }),
 (40, { sz := 7, agg := true, zero := some [.int .i64 0, .int .i64 0, .int .i64 0, .str [], .sl .own .val [], .sl .own .str [], .sl .own .row []], offs := [0, 1, 2, 3, 4, 5, 6], fsz := [1, 1, 1, 1, 1, 1, 1] }),
 (45, { zero := some [.sl .own .rea []], elem := some (47, .rea) }),
 (47, { sz := 11, agg := true, zero := some [.int .i64 0, .int .i64 0, .int .i64 0, .str [], .int .i64 0, .int .i64 0, .int .i64 0, .str [], .sl .own .val [], .sl .own .str [], .sl .own .row []], offs := [0, 1, 2, 3, 4], fsz := [1, 1, 1, 1, 7] }),
 (52, { zero := some [.sl .own .rea []], elem := some (55, .rea) }),
 (55, { sz := 11, agg := true, zero := some [.int .i64 0, .int .i64 0, .int .i64 0, .str [], .int .i64 0, .int .i64 0, .int .i64 0, .str [], .sl .own .val [], .sl .own .str [], .sl .own .row []], offs := [0, 1, 2, 3, 4], fsz := [1, 1, 1, 1, 7] }),
 (64, { zero := some [.sl .own .fil []], elem := some (152, .fil) }),
 (66, { sz := 3, agg := true, zero := some [.int .i64 0, .int .i64 0, .sl .own .fil []], offs := [0, 1, 2], fsz := [1, 1, 1] }),
 (69, { zero := some [.sl .own .fil []], elem := some (154, .fil) }),
 (71, { sz := 3, agg := true, zero := some [.int .i64 0, .int .i64 0, .sl .own .fil []], offs := [0, 1, 2], fsz := [1, 1, 1] }),
 (80, { zero := some [.sl .own .org []], elem := some (137, .org) }),
 (83, { zero := some [.sl .own .org []], elem := some (127, .org) }),
 (100, { sz := 8, agg := true, zero := some [.str [], .int .i64 0, .int .i64 0, .int .i64 0, .str [], .sl .own .val [], .sl .own .str [], .sl .own .row []], offs := [0, 1], fsz := [1, 7] }),
 (102, { sz := 8, agg := true, zero := some [.str [], .int .i64 0, .int .i64 0, .int .i64 0, .str [], .sl .own .val [], .sl .own .str [], .sl .own .row []], offs := [0, 1], fsz := [1, 7] }),
 (127, { sz := 2, agg := true, zero := some [.int .i64 0, .int .i64 0], offs := [0, 1], fsz := [1, 1], same := true }),
 (128, { zero := some [.sl .own .int []], elem := some (3, .int) }),
 (130, { sz := 2, agg := true, zero := some [.sl .own .int [], .sl .own .org []], offs := [0, 1], fsz := [1, 1] }),
 (137, { sz := 2, agg := true, zero := some [.int .i64 0, .int .i64 0], offs := [0, 1], fsz := [1, 1], same := true }),
 (144, { zero := some [.sl .own .byte []], elem := some (5, .byte) }),
 (148, { sz := 2, agg := true, zero := some [.sl .own .int [], .sl .own .org []], offs := [0, 1], fsz := [1, 1] }),
 (152, { sz := 2, agg := true, zero := some [.str [], .int .i64 0], offs := [0, 1], fsz := [1, 1] }),
 (154, { sz := 2, agg := true, zero := some [.str [], .int .i64 0], offs := [0, 1], fsz := [1, 1] })]
theorem ttok : TTok Try.prog tt := ttChk_ok (by kernel_rfl)
theorem mix : Try.prog.follows .mixedOrders = true := by kernel_rfl
noncomputable def I85 : Info := { body := (Try.f85.body).getD .skip, nt := 28, results := [.tmp 4], keep := [0, 2, 8, 10, 22, 30, 52], live := [(5, [0, 2, 10])], modes := [], ext := [], lnt := [], casts := [], fcast := [] }
theorem fk85 : FnOk Try.prog 85 Try.f85 I85 := ⟨Try.func85, by kernel_rfl, by kernel_rfl, by kernel_rfl, by kernel_rfl⟩
def S85_5 (x0 : List Str) (x1 x5 : Int) : St := [(0, .v false [.sl .ro .str x0]), (2, .v false [.int .i64 x1]), (10, .v false [.int .i64 x5])]
theorem p85_5_0 (x0 : List Str) (x1 x5 : Int) : run tt (AbsCalls Try.prog) I85 3000 true (stkAt 5 I85.body) ⟨(S85_5 x0 x1 x5), [true, true], [], []⟩ = some (.done (xAZ (-1)) [(decide ((x5 : Int) < (List.length x0 : Int))) = true, (0 : Int) ≤ x5 ∧ x5 < (List.length x0), (decide (((IntKind.i64.wrap (x1 - (List.length (List.getD x0 (Int.toNat x5) Ty.str.dflt) : Int))) : Int) < 0)) = true]) := by kernel_rfl
theorem p85_5_1 (x0 : List Str) (x1 x5 : Int) : run tt (AbsCalls Try.prog) I85 3000 true (stkAt 5 I85.body) ⟨(S85_5 x0 x1 x5), [true, false], [], []⟩ = some (.stop (stkAt 5 I85.body) (S85_5 x0 (IntKind.i64.wrap (x1 - (List.length (List.getD x0 (Int.toNat x5) Ty.str.dflt) : Int))) (IntKind.i64.wrap (x5 + 1))) [(decide ((x5 : Int) < (List.length x0 : Int))) = true, (0 : Int) ≤ x5 ∧ x5 < (List.length x0), (decide (((IntKind.i64.wrap (x1 - (List.length (List.getD x0 (Int.toNat x5) Ty.str.dflt) : Int))) : Int) < 0)) = false]) := by kernel_rfl
theorem p85_5_2 (x0 : List Str) (x1 x5 : Int) : run tt (AbsCalls Try.prog) I85 3000 true (stkAt 5 I85.body) ⟨(S85_5 x0 x1 x5), [false], [], []⟩ = some (.done (xAZ x1) [(decide ((x5 : Int) < (List.length x0 : Int))) = false]) := by kernel_rfl
theorem p85_e_3 (a0 : List Str) (a1 : Int) : run tt (AbsCalls Try.prog) I85 3000 false [.code I85.body] ⟨(zBg 0 (xB1 a0 a1)), [true], [], []⟩ = some (.done (xAZ (-1)) [(decide (((IntKind.i64.wrap (a1 - (List.length a0 : Int))) : Int) < 0)) = true]) := by kernel_rfl
theorem p85_e_4 (a0 : List Str) (a1 : Int) : run tt (AbsCalls Try.prog) I85 3000 false [.code I85.body] ⟨(zBg 0 (xB1 a0 a1)), [false], [], []⟩ = some (.stop (stkAt 5 I85.body) (S85_5 a0 (IntKind.i64.wrap (a1 - (List.length a0 : Int))) 0) [(decide (((IntKind.i64.wrap (a1 - (List.length a0 : Int))) : Int) < 0)) = false]) := by kernel_rfl
theorem c85_5 {N : Nat} : ∀ n x0 x1 x5 r, xCW N n x0 x1 x5 = some r → Reach Try.prog Try.f85 I85 (stkAt 5 I85.body) (S85_5 x0 x1 x5) (xAZ r) := by
 intro n
 induction n with
 | zero => intro x0 x1 x5 r h; have h' : (none : Option (Int)) = some r := h; cases h'
 | succ n ih =>
  intro x0 x1 x5 r h
  rw [xCW] at h
  rcases cond_inv h with ⟨h0, h⟩ | ⟨h0, h⟩
  ·obtain ⟨h1, h⟩ := ite_inv h
   rcases cond_inv h with ⟨h2, h⟩ | ⟨h2, h⟩
   ·obtain rfl := Option.some.inj h
    exact Reach.done ttok mix fk85 (p85_5_0 x0 x1 x5) (obs_cons h0 (obs_cons h1 (obs_cons h2 obs_nil)))
   ·exact Reach.stop ttok mix fk85 (p85_5_1 x0 x1 x5) (obs_cons h0 (obs_cons h1 (obs_cons h2 obs_nil))) (ih _ _ _ _ h)
  ·obtain rfl := Option.some.inj h
   exact Reach.done ttok mix fk85 (p85_5_2 x0 x1 x5) (obs_cons h0 obs_nil)
theorem c85_e {N : Nat} : ∀ a0 a1 r, xDG N a0 a1 = some r → Reach Try.prog Try.f85 I85 [.code I85.body] (zBg 0 (xB1 a0 a1)) (xAZ r) := by
 intro a0 a1 r h
 unfold xDG at h
 rcases cond_inv h with ⟨h0, h⟩ | ⟨h0, h⟩
 ·obtain rfl := Option.some.inj h
  exact Reach.done ttok mix fk85 (p85_e_3 a0 a1) (obs_cons h0 obs_nil)
 ·exact Reach.stop ttok mix fk85 (p85_e_4 a0 a1) (obs_cons h0 obs_nil) (c85_5   _ _ _ _ _ h)
theorem xD9 {N : Nat} {a0 : List Str} {a1 : Int} {r : Int} (h : xDG N  a0 a1 = some r) : AbC 85 (xB1 a0 a1) (xAZ r) :=
 AbsCalls.of_reach fk85 rfl rfl (Nat.le_of_ble_eq_true rfl) (c85_e a0 a1 r h)
noncomputable def I149 : Info := { body := (Try.f149.body).getD .skip, nt := 12, results := [.tmp 4], keep := [0, 2, 8, 20], live := [], modes := [], ext := [], lnt := [], casts := [], fcast := [] }
theorem fk149 : FnOk Try.prog 149 Try.f149 I149 := ⟨Try.func149, by kernel_rfl, by kernel_rfl, by kernel_rfl, by kernel_rfl⟩
theorem p149_e_0 (a0 : List Int) (a1 : Int) : run tt (AbsCalls Try.prog) I149 3000 false [.code I149.body] ⟨(zBg 0 (xCR a0 a1)), [true], [], []⟩ = some (.done (xBM (-1)) [(decide (((IntKind.i64.wrap (a1 - (List.length a0 : Int))) : Int) < 0)) = true]) := by kernel_rfl
theorem p149_e_1 (a0 : List Int) (a1 : Int) : run tt (AbsCalls Try.prog) I149 3000 false [.code I149.body] ⟨(zBg 0 (xCR a0 a1)), [false], [], []⟩ = some (.done (xBM (IntKind.i64.wrap (a1 - (List.length a0 : Int)))) [(decide (((IntKind.i64.wrap (a1 - (List.length a0 : Int))) : Int) < 0)) = false]) := by kernel_rfl
theorem c149_e {N : Nat} : ∀ a0 a1 r, xEv N a0 a1 = some r → Reach Try.prog Try.f149 I149 [.code I149.body] (zBg 0 (xCR a0 a1)) (xBM r) := by
 intro a0 a1 r h
 unfold xEv at h
 rcases cond_inv h with ⟨h0, h⟩ | ⟨h0, h⟩
 ·obtain rfl := Option.some.inj h
  exact Reach.done ttok mix fk149 (p149_e_0 a0 a1) (obs_cons h0 obs_nil)
 ·obtain rfl := Option.some.inj h
  exact Reach.done ttok mix fk149 (p149_e_1 a0 a1) (obs_cons h0 obs_nil)
theorem xEC {N : Nat} {a0 : List Int} {a1 : Int} {r : Int} (h : xEv N  a0 a1 = some r) : AbC 149 (xCR a0 a1) (xBM r) :=
 AbsCalls.of_reach fk149 rfl rfl (Nat.le_of_ble_eq_true rfl) (c149_e a0 a1 r h)
noncomputable def I54 : Info := { body := (Try.f54.body).getD .skip, nt := 12, results := [.tmp 4], keep := [0, 2, 8, 20], live := [], modes := [], ext := [], lnt := [], casts := [], fcast := [] }
theorem fk54 : FnOk Try.prog 54 Try.f54 I54 := ⟨Try.func54, by kernel_rfl, by kernel_rfl, by kernel_rfl, by kernel_rfl⟩
theorem p54_e_0 (a0 : List Org) (a1 : Int) : run tt (AbsCalls Try.prog) I54 3000 false [.code I54.body] ⟨(zBg 0 (xCx a0 a1)), [true], [], []⟩ = some (.done (xBK (-1)) [(decide (((IntKind.i64.wrap (a1 - (List.length a0 : Int))) : Int) < 0)) = true]) := by kernel_rfl
theorem p54_e_1 (a0 : List Org) (a1 : Int) : run tt (AbsCalls Try.prog) I54 3000 false [.code I54.body] ⟨(zBg 0 (xCx a0 a1)), [false], [], []⟩ = some (.done (xBK (IntKind.i64.wrap (a1 - (List.length a0 : Int)))) [(decide (((IntKind.i64.wrap (a1 - (List.length a0 : Int))) : Int) < 0)) = false]) := by kernel_rfl
theorem c54_e {N : Nat} : ∀ a0 a1 r, xDE N a0 a1 = some r → Reach Try.prog Try.f54 I54 [.code I54.body] (zBg 0 (xCx a0 a1)) (xBK r) := by
 intro a0 a1 r h
 unfold xDE at h
 rcases cond_inv h with ⟨h0, h⟩ | ⟨h0, h⟩
 ·obtain rfl := Option.some.inj h
  exact Reach.done ttok mix fk54 (p54_e_0 a0 a1) (obs_cons h0 obs_nil)
 ·obtain rfl := Option.some.inj h
  exact Reach.done ttok mix fk54 (p54_e_1 a0 a1) (obs_cons h0 obs_nil)
theorem xEE {N : Nat} {a0 : List Org} {a1 : Int} {r : Int} (h : xDE N  a0 a1 = some r) : AbC 54 (xCx a0 a1) (xBK r) :=
 AbsCalls.of_reach fk54 rfl rfl (Nat.le_of_ble_eq_true rfl) (c54_e a0 a1 r h)
noncomputable def I133 : Info := { body := (Try.f133.body).getD .skip, nt := 18, results := [.tmp 4], keep := [0, 2, 4, 8, 20, 32, 5], live := [], modes := [], ext := [], lnt := [], casts := [], fcast := [] }
theorem fk133 : FnOk Try.prog 133 Try.f133 I133 := ⟨Try.func133, by kernel_rfl, by kernel_rfl, by kernel_rfl, by kernel_rfl⟩
theorem p133_e_0 (a0 : Rowd) (a1 r1 : Int) : run tt (AbsCalls Try.prog) I133 3000 false [.code I133.body] ⟨(zBg 0 (xC3 a0 a1)), [true], [xBM r1], []⟩ = some (.done (xCn (-1)) [AbC 149 (xCR (Rowd.cells a0) a1) (xBM r1), (decide ((r1 : Int) < 0)) = true]) := by kernel_rfl
theorem p133_e_1 (a0 : Rowd) (a1 r1 r2 : Int) : run tt (AbsCalls Try.prog) I133 3000 false [.code I133.body] ⟨(zBg 0 (xC3 a0 a1)), [false, true], [xBM r1, xBK r2], []⟩ = some (.done (xCn (-1)) [AbC 149 (xCR (Rowd.cells a0) a1) (xBM r1), (decide ((r1 : Int) < 0)) = false, AbC 54 (xCx (Rowd.frm a0) r1) (xBK r2), (decide ((r2 : Int) < 0)) = true]) := by kernel_rfl
theorem p133_e_2 (a0 : Rowd) (a1 r1 r2 : Int) : run tt (AbsCalls Try.prog) I133 3000 false [.code I133.body] ⟨(zBg 0 (xC3 a0 a1)), [false, false], [xBM r1, xBK r2], []⟩ = some (.done (xCn r2) [AbC 149 (xCR (Rowd.cells a0) a1) (xBM r1), (decide ((r1 : Int) < 0)) = false, AbC 54 (xCx (Rowd.frm a0) r1) (xBK r2), (decide ((r2 : Int) < 0)) = false]) := by kernel_rfl
theorem c133_e {N : Nat} : ∀ a0 a1 r, xEq N a0 a1 = some r → Reach Try.prog Try.f133 I133 [.code I133.body] (zBg 0 (xC3 a0 a1)) (xCn r) := by
 intro a0 a1 r h
 unfold xEq at h
 obtain ⟨r1, h0, h⟩ := bind_inv h
 rcases cond_inv h with ⟨h1, h⟩ | ⟨h1, h⟩
 ·obtain rfl := Option.some.inj h
  exact Reach.done ttok mix fk133 (p133_e_0 a0 a1 r1) (obs_cons (xEC h0) (obs_cons h1 obs_nil))
 ·obtain ⟨r2, h2, h⟩ := bind_inv h
  rcases cond_inv h with ⟨h3, h⟩ | ⟨h3, h⟩
  ·obtain rfl := Option.some.inj h
   exact Reach.done ttok mix fk133 (p133_e_1 a0 a1 r1 r2) (obs_cons (xEC h0) (obs_cons h1 (obs_cons (xEE h2) (obs_cons h3 obs_nil))))
  ·obtain rfl := Option.some.inj h
   exact Reach.done ttok mix fk133 (p133_e_2 a0 a1 r1 r2) (obs_cons (xEC h0) (obs_cons h1 (obs_cons (xEE h2) (obs_cons h3 obs_nil))))
theorem laws_szRow_ok {N : Nat} {a0 : Rowd} {a1 : Int} {r : Int} (h : xEq N  a0 a1 = some r) : AbC 133 (xC3 a0 a1) (xCn r) :=
 AbsCalls.of_reach fk133 rfl rfl (Nat.le_of_ble_eq_true rfl) (c133_e a0 a1 r h)
noncomputable def I86 : Info := { body := (Try.f86.body).getD .skip, nt := 27, results := [.tmp 4], keep := [0, 2, 8, 10, 22, 30, 50], live := [(5, [0, 2, 10])], modes := [], ext := [], lnt := [], casts := [], fcast := [] }
theorem fk86 : FnOk Try.prog 86 Try.f86 I86 := ⟨Try.func86, by kernel_rfl, by kernel_rfl, by kernel_rfl, by kernel_rfl⟩
def S86_5 (x0 : List Rowd) (x1 x5 : Int) : St := [(0, .v false [.sl .ro .row x0]), (2, .v false [.int .i64 x1]), (10, .v false [.int .i64 x5])]
theorem p86_5_0 (x0 : List Rowd) (x1 x5 r1 : Int) : run tt (AbsCalls Try.prog) I86 3000 true (stkAt 5 I86.body) ⟨(S86_5 x0 x1 x5), [true, true], [xCn r1], []⟩ = some (.done (xBN (-1)) [(decide ((x5 : Int) < (List.length x0 : Int))) = true, (0 : Int) ≤ x5 ∧ x5 < (List.length x0), AbC 133 (xC3 (List.getD x0 (Int.toNat x5) Ty.row.dflt) x1) (xCn r1), (decide ((r1 : Int) < 0)) = true]) := by kernel_rfl
theorem p86_5_1 (x0 : List Rowd) (x1 x5 r1 : Int) : run tt (AbsCalls Try.prog) I86 3000 true (stkAt 5 I86.body) ⟨(S86_5 x0 x1 x5), [true, false], [xCn r1], []⟩ = some (.stop (stkAt 5 I86.body) (S86_5 x0 r1 (IntKind.i64.wrap (x5 + 1))) [(decide ((x5 : Int) < (List.length x0 : Int))) = true, (0 : Int) ≤ x5 ∧ x5 < (List.length x0), AbC 133 (xC3 (List.getD x0 (Int.toNat x5) Ty.row.dflt) x1) (xCn r1), (decide ((r1 : Int) < 0)) = false]) := by kernel_rfl
theorem p86_5_2 (x0 : List Rowd) (x1 x5 : Int) : run tt (AbsCalls Try.prog) I86 3000 true (stkAt 5 I86.body) ⟨(S86_5 x0 x1 x5), [false], [], []⟩ = some (.done (xBN x1) [(decide ((x5 : Int) < (List.length x0 : Int))) = false]) := by kernel_rfl
theorem p86_e_3 (a0 : List Rowd) (a1 : Int) : run tt (AbsCalls Try.prog) I86 3000 false [.code I86.body] ⟨(zBg 0 (xDk a0 a1)), [true], [], []⟩ = some (.done (xBN (-1)) [(decide (((IntKind.i64.wrap (a1 - (List.length a0 : Int))) : Int) < 0)) = true]) := by kernel_rfl
theorem p86_e_4 (a0 : List Rowd) (a1 : Int) : run tt (AbsCalls Try.prog) I86 3000 false [.code I86.body] ⟨(zBg 0 (xDk a0 a1)), [false], [], []⟩ = some (.stop (stkAt 5 I86.body) (S86_5 a0 (IntKind.i64.wrap (a1 - (List.length a0 : Int))) 0) [(decide (((IntKind.i64.wrap (a1 - (List.length a0 : Int))) : Int) < 0)) = false]) := by kernel_rfl
theorem c86_5 {N : Nat} : ∀ n x0 x1 x5 r, xDF N n x0 x1 x5 = some r → Reach Try.prog Try.f86 I86 (stkAt 5 I86.body) (S86_5 x0 x1 x5) (xBN r) := by
 intro n
 induction n with
 | zero => intro x0 x1 x5 r h; have h' : (none : Option (Int)) = some r := h; cases h'
 | succ n ih =>
  intro x0 x1 x5 r h
  rw [xDF] at h
  rcases cond_inv h with ⟨h0, h⟩ | ⟨h0, h⟩
  ·obtain ⟨h1, h⟩ := ite_inv h
   obtain ⟨r1, h2, h⟩ := bind_inv h
   rcases cond_inv h with ⟨h3, h⟩ | ⟨h3, h⟩
   ·obtain rfl := Option.some.inj h
    exact Reach.done ttok mix fk86 (p86_5_0 x0 x1 x5 r1) (obs_cons h0 (obs_cons h1 (obs_cons (laws_szRow_ok h2) (obs_cons h3 obs_nil))))
   ·exact Reach.stop ttok mix fk86 (p86_5_1 x0 x1 x5 r1) (obs_cons h0 (obs_cons h1 (obs_cons (laws_szRow_ok h2) (obs_cons h3 obs_nil)))) (ih _ _ _ _ h)
  ·obtain rfl := Option.some.inj h
   exact Reach.done ttok mix fk86 (p86_5_2 x0 x1 x5) (obs_cons h0 obs_nil)
theorem c86_e {N : Nat} : ∀ a0 a1 r, xEx N a0 a1 = some r → Reach Try.prog Try.f86 I86 [.code I86.body] (zBg 0 (xDk a0 a1)) (xBN r) := by
 intro a0 a1 r h
 unfold xEx at h
 rcases cond_inv h with ⟨h0, h⟩ | ⟨h0, h⟩
 ·obtain rfl := Option.some.inj h
  exact Reach.done ttok mix fk86 (p86_e_3 a0 a1) (obs_cons h0 obs_nil)
 ·exact Reach.stop ttok mix fk86 (p86_e_4 a0 a1) (obs_cons h0 obs_nil) (c86_5   _ _ _ _ _ h)
theorem xFb {N : Nat} {a0 : List Rowd} {a1 : Int} {r : Int} (h : xEx N  a0 a1 = some r) : AbC 86 (xDk a0 a1) (xBN r) :=
 AbsCalls.of_reach fk86 rfl rfl (Nat.le_of_ble_eq_true rfl) (c86_e a0 a1 r h)
noncomputable def I24 : Info := { body := (Try.f24.body).getD .skip, nt := 31, results := [.tmp 4], keep := [0, 2, 4, 8, 22, 34, 46, 58, 5], live := [], modes := [], ext := [], lnt := [], casts := [], fcast := [] }
theorem fk24 : FnOk Try.prog 24 Try.f24 I24 := ⟨Try.func24, by kernel_rfl, by kernel_rfl, by kernel_rfl, by kernel_rfl⟩
theorem p24_e_0 (a0 : Val) (a1 : Int) : run tt (AbsCalls Try.prog) I24 3000 false [.code I24.body] ⟨(zBg 0 (xAH a0 a1)), [true], [], []⟩ = some (.done (xAy (-1)) [(decide (((IntKind.i64.wrap (a1 - (List.length (Val.text a0) : Int))) : Int) < 0)) = true]) := by kernel_rfl
theorem p24_e_1 (a0 : Val) (a1 r1 : Int) : run tt (AbsCalls Try.prog) I24 3000 false [.code I24.body] ⟨(zBg 0 (xAH a0 a1)), [false, true], [xAA r1], []⟩ = some (.done (xAy (-1)) [(decide (((IntKind.i64.wrap (a1 - (List.length (Val.text a0) : Int))) : Int) < 0)) = false, AbC 62 (xAV (Val.list a0) (IntKind.i64.wrap (a1 - (List.length (Val.text a0) : Int)))) (xAA r1), (decide ((r1 : Int) < 0)) = true]) := by kernel_rfl
theorem p24_e_2 (a0 : Val) (a1 r1 r2 : Int) : run tt (AbsCalls Try.prog) I24 3000 false [.code I24.body] ⟨(zBg 0 (xAH a0 a1)), [false, false, true], [xAA r1, xAZ r2], []⟩ = some (.done (xAy (-1)) [(decide (((IntKind.i64.wrap (a1 - (List.length (Val.text a0) : Int))) : Int) < 0)) = false, AbC 62 (xAV (Val.list a0) (IntKind.i64.wrap (a1 - (List.length (Val.text a0) : Int)))) (xAA r1), (decide ((r1 : Int) < 0)) = false, AbC 85 (xB1 (Val.columns a0) r1) (xAZ r2), (decide ((r2 : Int) < 0)) = true]) := by kernel_rfl
theorem p24_e_3 (a0 : Val) (a1 r1 r2 r3 : Int) : run tt (AbsCalls Try.prog) I24 3000 false [.code I24.body] ⟨(zBg 0 (xAH a0 a1)), [false, false, false, true], [xAA r1, xAZ r2, xBN r3], []⟩ = some (.done (xAy (-1)) [(decide (((IntKind.i64.wrap (a1 - (List.length (Val.text a0) : Int))) : Int) < 0)) = false, AbC 62 (xAV (Val.list a0) (IntKind.i64.wrap (a1 - (List.length (Val.text a0) : Int)))) (xAA r1), (decide ((r1 : Int) < 0)) = false, AbC 85 (xB1 (Val.columns a0) r1) (xAZ r2), (decide ((r2 : Int) < 0)) = false, AbC 86 (xDk (Val.rows a0) r2) (xBN r3), (decide ((r3 : Int) < 0)) = true]) := by kernel_rfl
theorem p24_e_4 (a0 : Val) (a1 r1 r2 r3 : Int) : run tt (AbsCalls Try.prog) I24 3000 false [.code I24.body] ⟨(zBg 0 (xAH a0 a1)), [false, false, false, false], [xAA r1, xAZ r2, xBN r3], []⟩ = some (.done (xAy r3) [(decide (((IntKind.i64.wrap (a1 - (List.length (Val.text a0) : Int))) : Int) < 0)) = false, AbC 62 (xAV (Val.list a0) (IntKind.i64.wrap (a1 - (List.length (Val.text a0) : Int)))) (xAA r1), (decide ((r1 : Int) < 0)) = false, AbC 85 (xB1 (Val.columns a0) r1) (xAZ r2), (decide ((r2 : Int) < 0)) = false, AbC 86 (xDk (Val.rows a0) r2) (xBN r3), (decide ((r3 : Int) < 0)) = false]) := by kernel_rfl
theorem c24_e {N : Nat} {rc_laws_szValue : Val → Int → Option (Int)} (hrc_laws_szValue : ∀ a0 a1 r, rc_laws_szValue a0 a1 = some r → AbC 24 (xAH a0 a1) (xAy r)) {rc_laws_szValueS : (List Val) → Int → Option (Int)} (hrc_laws_szValueS : ∀ a0 a1 r, rc_laws_szValueS a0 a1 = some r → AbC 62 (xAV a0 a1) (xAA r)) : ∀ a0 a1 r, xDB N rc_laws_szValue rc_laws_szValueS a0 a1 = some r → Reach Try.prog Try.f24 I24 [.code I24.body] (zBg 0 (xAH a0 a1)) (xAy r) := by
 intro a0 a1 r h
 unfold xDB at h
 rcases cond_inv h with ⟨h0, h⟩ | ⟨h0, h⟩
 ·obtain rfl := Option.some.inj h
  exact Reach.done ttok mix fk24 (p24_e_0 a0 a1) (obs_cons h0 obs_nil)
 ·obtain ⟨r1, h1, h⟩ := bind_inv h
  rcases cond_inv h with ⟨h2, h⟩ | ⟨h2, h⟩
  ·obtain rfl := Option.some.inj h
   exact Reach.done ttok mix fk24 (p24_e_1 a0 a1 r1) (obs_cons h0 (obs_cons (hrc_laws_szValueS _ _ _ h1) (obs_cons h2 obs_nil)))
  ·obtain ⟨r2, h3, h⟩ := bind_inv h
   rcases cond_inv h with ⟨h4, h⟩ | ⟨h4, h⟩
   ·obtain rfl := Option.some.inj h
    exact Reach.done ttok mix fk24 (p24_e_2 a0 a1 r1 r2) (obs_cons h0 (obs_cons (hrc_laws_szValueS _ _ _ h1) (obs_cons h2 (obs_cons (xD9 h3) (obs_cons h4 obs_nil)))))
   ·obtain ⟨r3, h5, h⟩ := bind_inv h
    rcases cond_inv h with ⟨h6, h⟩ | ⟨h6, h⟩
    ·obtain rfl := Option.some.inj h
     exact Reach.done ttok mix fk24 (p24_e_3 a0 a1 r1 r2 r3) (obs_cons h0 (obs_cons (hrc_laws_szValueS _ _ _ h1) (obs_cons h2 (obs_cons (xD9 h3) (obs_cons h4 (obs_cons (xFb h5) (obs_cons h6 obs_nil)))))))
    ·obtain rfl := Option.some.inj h
     exact Reach.done ttok mix fk24 (p24_e_4 a0 a1 r1 r2 r3) (obs_cons h0 (obs_cons (hrc_laws_szValueS _ _ _ h1) (obs_cons h2 (obs_cons (xD9 h3) (obs_cons h4 (obs_cons (xFb h5) (obs_cons h6 obs_nil)))))))
theorem xE5 {N : Nat} {rc_laws_szValue : Val → Int → Option (Int)} (hrc_laws_szValue : ∀ a0 a1 r, rc_laws_szValue a0 a1 = some r → AbC 24 (xAH a0 a1) (xAy r)) {rc_laws_szValueS : (List Val) → Int → Option (Int)} (hrc_laws_szValueS : ∀ a0 a1 r, rc_laws_szValueS a0 a1 = some r → AbC 62 (xAV a0 a1) (xAA r)) {a0 : Val} {a1 : Int} {r : Int} (h : xDB N rc_laws_szValue rc_laws_szValueS a0 a1 = some r) : AbC 24 (xAH a0 a1) (xAy r) :=
 AbsCalls.of_reach fk24 rfl rfl (Nat.le_of_ble_eq_true rfl) (c24_e hrc_laws_szValue hrc_laws_szValueS a0 a1 r h)
noncomputable def I62 : Info := { body := (Try.f62.body).getD .skip, nt := 27, results := [.tmp 4], keep := [0, 2, 8, 10, 22, 30, 50], live := [(5, [0, 2, 10])], modes := [], ext := [], lnt := [], casts := [], fcast := [] }
theorem fk62 : FnOk Try.prog 62 Try.f62 I62 := ⟨Try.func62, by kernel_rfl, by kernel_rfl, by kernel_rfl, by kernel_rfl⟩
def S62_5 (x0 : List Val) (x1 x5 : Int) : St := [(0, .v false [.sl .ro .val x0]), (2, .v false [.int .i64 x1]), (10, .v false [.int .i64 x5])]
theorem p62_5_0 (x0 : List Val) (x1 x5 r1 : Int) : run tt (AbsCalls Try.prog) I62 3000 true (stkAt 5 I62.body) ⟨(S62_5 x0 x1 x5), [true, true], [xAy r1], []⟩ = some (.done (xAA (-1)) [(decide ((x5 : Int) < (List.length x0 : Int))) = true, (0 : Int) ≤ x5 ∧ x5 < (List.length x0), AbC 24 (xAH (List.getD x0 (Int.toNat x5) Ty.val.dflt) x1) (xAy r1), (decide ((r1 : Int) < 0)) = true]) := by kernel_rfl
theorem p62_5_1 (x0 : List Val) (x1 x5 r1 : Int) : run tt (AbsCalls Try.prog) I62 3000 true (stkAt 5 I62.body) ⟨(S62_5 x0 x1 x5), [true, false], [xAy r1], []⟩ = some (.stop (stkAt 5 I62.body) (S62_5 x0 r1 (IntKind.i64.wrap (x5 + 1))) [(decide ((x5 : Int) < (List.length x0 : Int))) = true, (0 : Int) ≤ x5 ∧ x5 < (List.length x0), AbC 24 (xAH (List.getD x0 (Int.toNat x5) Ty.val.dflt) x1) (xAy r1), (decide ((r1 : Int) < 0)) = false]) := by kernel_rfl
theorem p62_5_2 (x0 : List Val) (x1 x5 : Int) : run tt (AbsCalls Try.prog) I62 3000 true (stkAt 5 I62.body) ⟨(S62_5 x0 x1 x5), [false], [], []⟩ = some (.done (xAA x1) [(decide ((x5 : Int) < (List.length x0 : Int))) = false]) := by kernel_rfl
theorem p62_e_3 (a0 : List Val) (a1 : Int) : run tt (AbsCalls Try.prog) I62 3000 false [.code I62.body] ⟨(zBg 0 (xAV a0 a1)), [true], [], []⟩ = some (.done (xAA (-1)) [(decide (((IntKind.i64.wrap (a1 - (List.length a0 : Int))) : Int) < 0)) = true]) := by kernel_rfl
theorem p62_e_4 (a0 : List Val) (a1 : Int) : run tt (AbsCalls Try.prog) I62 3000 false [.code I62.body] ⟨(zBg 0 (xAV a0 a1)), [false], [], []⟩ = some (.stop (stkAt 5 I62.body) (S62_5 a0 (IntKind.i64.wrap (a1 - (List.length a0 : Int))) 0) [(decide (((IntKind.i64.wrap (a1 - (List.length a0 : Int))) : Int) < 0)) = false]) := by kernel_rfl
theorem c62_5 {N : Nat} {rc_laws_szValue : Val → Int → Option (Int)} (hrc_laws_szValue : ∀ a0 a1 r, rc_laws_szValue a0 a1 = some r → AbC 24 (xAH a0 a1) (xAy r)) {rc_laws_szValueS : (List Val) → Int → Option (Int)} (hrc_laws_szValueS : ∀ a0 a1 r, rc_laws_szValueS a0 a1 = some r → AbC 62 (xAV a0 a1) (xAA r)) : ∀ n x0 x1 x5 r, xDa N rc_laws_szValue rc_laws_szValueS n x0 x1 x5 = some r → Reach Try.prog Try.f62 I62 (stkAt 5 I62.body) (S62_5 x0 x1 x5) (xAA r) := by
 intro n
 induction n with
 | zero => intro x0 x1 x5 r h; have h' : (none : Option (Int)) = some r := h; cases h'
 | succ n ih =>
  intro x0 x1 x5 r h
  rw [xDa] at h
  rcases cond_inv h with ⟨h0, h⟩ | ⟨h0, h⟩
  ·obtain ⟨h1, h⟩ := ite_inv h
   obtain ⟨r1, h2, h⟩ := bind_inv h
   rcases cond_inv h with ⟨h3, h⟩ | ⟨h3, h⟩
   ·obtain rfl := Option.some.inj h
    exact Reach.done ttok mix fk62 (p62_5_0 x0 x1 x5 r1) (obs_cons h0 (obs_cons h1 (obs_cons (hrc_laws_szValue _ _ _ h2) (obs_cons h3 obs_nil))))
   ·exact Reach.stop ttok mix fk62 (p62_5_1 x0 x1 x5 r1) (obs_cons h0 (obs_cons h1 (obs_cons (hrc_laws_szValue _ _ _ h2) (obs_cons h3 obs_nil)))) (ih _ _ _ _ h)
  ·obtain rfl := Option.some.inj h
   exact Reach.done ttok mix fk62 (p62_5_2 x0 x1 x5) (obs_cons h0 obs_nil)
theorem c62_e {N : Nat} {rc_laws_szValue : Val → Int → Option (Int)} (hrc_laws_szValue : ∀ a0 a1 r, rc_laws_szValue a0 a1 = some r → AbC 24 (xAH a0 a1) (xAy r)) {rc_laws_szValueS : (List Val) → Int → Option (Int)} (hrc_laws_szValueS : ∀ a0 a1 r, rc_laws_szValueS a0 a1 = some r → AbC 62 (xAV a0 a1) (xAA r)) : ∀ a0 a1 r, xDq N rc_laws_szValue rc_laws_szValueS a0 a1 = some r → Reach Try.prog Try.f62 I62 [.code I62.body] (zBg 0 (xAV a0 a1)) (xAA r) := by
 intro a0 a1 r h
 unfold xDq at h
 rcases cond_inv h with ⟨h0, h⟩ | ⟨h0, h⟩
 ·obtain rfl := Option.some.inj h
  exact Reach.done ttok mix fk62 (p62_e_3 a0 a1) (obs_cons h0 obs_nil)
 ·exact Reach.stop ttok mix fk62 (p62_e_4 a0 a1) (obs_cons h0 obs_nil) (c62_5 hrc_laws_szValue hrc_laws_szValueS  _ _ _ _ _ h)
theorem xEV {N : Nat} {rc_laws_szValue : Val → Int → Option (Int)} (hrc_laws_szValue : ∀ a0 a1 r, rc_laws_szValue a0 a1 = some r → AbC 24 (xAH a0 a1) (xAy r)) {rc_laws_szValueS : (List Val) → Int → Option (Int)} (hrc_laws_szValueS : ∀ a0 a1 r, rc_laws_szValueS a0 a1 = some r → AbC 62 (xAV a0 a1) (xAA r)) {a0 : List Val} {a1 : Int} {r : Int} (h : xDq N rc_laws_szValue rc_laws_szValueS a0 a1 = some r) : AbC 62 (xAV a0 a1) (xAA r) :=
 AbsCalls.of_reach fk62 rfl rfl (Nat.le_of_ble_eq_true rfl) (c62_e hrc_laws_szValue hrc_laws_szValueS a0 a1 r h)
theorem xFf {N : Nat} : ∀ d, (∀ a0 a1 r, (xBd N d).c_laws_szValue a0 a1 = some r → AbC 24 (xAH a0 a1) (xAy r)) ∧ (∀ a0 a1 r, (xBd N d).c_laws_szValueS a0 a1 = some r → AbC 62 (xAV a0 a1) (xAA r)) := by
 intro d
 induction d with
 | zero =>
  refine ⟨?_, ?_⟩ <;> (intros; rename_i h; cases h)
 | succ d ih =>
  obtain ⟨ih0, ih1⟩ := ih
  refine ⟨?_, ?_⟩
  ·intro _ _ r h; exact xE5 (N := N) ih0 ih1 h
  ·intro _ _ r h; exact xEV (N := N) ih0 ih1 h
theorem xEW {N : Nat} {a0 : Val} {a1 : Int} {r : Int} (h : xEU N a0 a1 = some r) : AbC 24 (xAH a0 a1) (xAy r) := (xFf N).1 _ _ r h
noncomputable def I87 : Info := { body := (Try.f87.body).getD .skip, nt := 22, results := [.tmp 2], keep := [0, 4, 6, 8, 22], live := [(3, [0, 6, 8])], modes := [(5, [(0, .ref, false)]), (6, [(0, .take, false)])], ext := [], lnt := [], casts := [], fcast := [] }
theorem fk87 : FnOk Try.prog 87 Try.f87 I87 := ⟨Try.func87, by kernel_rfl, by kernel_rfl, by kernel_rfl, by kernel_rfl⟩
def S87_3 (x0 x3 : List Str) (x4 : Int) : St := [(0, .v false [.sl .ro .str x0]), (6, .v false [.sl .own .str x3]), (8, .v false [.int .i64 x4])]
theorem p87_3_0 (x0 x3 : List Str) (x4 : Int) : run tt (AbsCalls Try.prog) I87 3000 true (stkAt 3 I87.body) ⟨(S87_3 x0 x3 x4), [true], [], []⟩ = some (.stop (stkAt 3 I87.body) (S87_3 x0 (List.set x3 (Int.toNat x4) (List.getD x0 (Int.toNat x4) Ty.str.dflt)) (IntKind.i64.wrap (x4 + 1))) [(decide ((x4 : Int) < (List.length x0 : Int))) = true, (0 : Int) ≤ x4 ∧ x4 < (List.length x0), (0 : Int) ≤ x4 ∧ x4 < (List.length x3)]) := by kernel_rfl
theorem p87_3_1 (x0 x3 : List Str) (x4 : Int) : run tt (AbsCalls Try.prog) I87 3000 true (stkAt 3 I87.body) ⟨(S87_3 x0 x3 x4), [false], [], []⟩ = some (.done (xCz x3) [(decide ((x4 : Int) < (List.length x0 : Int))) = false]) := by kernel_rfl
theorem p87_e_2 (a0 : List Str) : run tt (AbsCalls Try.prog) I87 3000 false [.code I87.body] ⟨(zBg 0 (xDD a0)), [], [], []⟩ = some (.stop (stkAt 3 I87.body) (S87_3 a0 (List.replicate (Int.toNat (List.length a0 : Int)) Ty.str.dflt) 0) [(0 : Int) ≤ (List.length a0 : Int) ∧ (List.length a0 : Int) = (List.length a0 : Int) ∧ (List.length a0 : Int) ≤ Lim]) := by kernel_rfl
theorem c87_3 {N : Nat} : ∀ n x0 x3 x4 r, xCZ N n x0 x3 x4 = some r → Reach Try.prog Try.f87 I87 (stkAt 3 I87.body) (S87_3 x0 x3 x4) (xCz r) := by
 intro n
 induction n with
 | zero => intro x0 x3 x4 r h; have h' : (none : Option ((List Str))) = some r := h; cases h'
 | succ n ih =>
  intro x0 x3 x4 r h
  rw [xCZ] at h
  rcases cond_inv h with ⟨h0, h⟩ | ⟨h0, h⟩
  ·obtain ⟨h1, h⟩ := ite_inv h
   obtain ⟨h2, h⟩ := ite_inv h
   exact Reach.stop ttok mix fk87 (p87_3_0 x0 x3 x4) (obs_cons h0 (obs_cons h1 (obs_cons h2 obs_nil))) (ih _ _ _ _ h)
  ·obtain rfl := Option.some.inj h
   exact Reach.done ttok mix fk87 (p87_3_1 x0 x3 x4) (obs_cons h0 obs_nil)
theorem c87_e {N : Nat} : ∀ a0 r, xDo N a0 = some r → Reach Try.prog Try.f87 I87 [.code I87.body] (zBg 0 (xDD a0)) (xCz r) := by
 intro a0 r h
 unfold xDo at h
 obtain ⟨h0, h⟩ := ite_inv h
 exact Reach.stop ttok mix fk87 (p87_e_2 a0) (obs_cons h0 obs_nil) (c87_3   _ _ _ _ _ h)
theorem laws_toStringS_ok {N : Nat} {a0 : List Str} {r : (List Str)} (h : xDo N  a0 = some r) : AbC 87 (xDD a0) (xCz r) :=
 AbsCalls.of_reach fk87 rfl rfl (Nat.le_of_ble_eq_true rfl) (c87_e a0 r h)
noncomputable def I150 : Info := { body := (Try.f150.body).getD .skip, nt := 22, results := [.tmp 2], keep := [0, 4, 6, 8, 22], live := [(3, [0, 6, 8])], modes := [(5, [(0, .ref, false)]), (6, [(0, .take, false)])], ext := [], lnt := [], casts := [], fcast := [] }
theorem fk150 : FnOk Try.prog 150 Try.f150 I150 := ⟨Try.func150, by kernel_rfl, by kernel_rfl, by kernel_rfl, by kernel_rfl⟩
def S150_3 (x0 x3 : List Int) (x4 : Int) : St := [(0, .v false [.sl .ro .int x0]), (6, .v false [.sl .own .int x3]), (8, .v false [.int .i64 x4])]
theorem p150_3_0 (x0 x3 : List Int) (x4 : Int) : run tt (AbsCalls Try.prog) I150 3000 true (stkAt 3 I150.body) ⟨(S150_3 x0 x3 x4), [true], [], []⟩ = some (.stop (stkAt 3 I150.body) (S150_3 x0 (List.set x3 (Int.toNat x4) (List.getD x0 (Int.toNat x4) Ty.int.dflt)) (IntKind.i64.wrap (x4 + 1))) [(decide ((x4 : Int) < (List.length x0 : Int))) = true, (0 : Int) ≤ x4 ∧ x4 < (List.length x0), (0 : Int) ≤ x4 ∧ x4 < (List.length x3)]) := by kernel_rfl
theorem p150_3_1 (x0 x3 : List Int) (x4 : Int) : run tt (AbsCalls Try.prog) I150 3000 true (stkAt 3 I150.body) ⟨(S150_3 x0 x3 x4), [false], [], []⟩ = some (.done (xDl x3) [(decide ((x4 : Int) < (List.length x0 : Int))) = false]) := by kernel_rfl
theorem p150_e_2 (a0 : List Int) : run tt (AbsCalls Try.prog) I150 3000 false [.code I150.body] ⟨(zBg 0 (xEg a0)), [], [], []⟩ = some (.stop (stkAt 3 I150.body) (S150_3 a0 (List.replicate (Int.toNat (List.length a0 : Int)) Ty.int.dflt) 0) [(0 : Int) ≤ (List.length a0 : Int) ∧ (List.length a0 : Int) = (List.length a0 : Int) ∧ (List.length a0 : Int) ≤ Lim]) := by kernel_rfl
theorem c150_3 {N : Nat} : ∀ n x0 x3 x4 r, xDI N n x0 x3 x4 = some r → Reach Try.prog Try.f150 I150 (stkAt 3 I150.body) (S150_3 x0 x3 x4) (xDl r) := by
 intro n
 induction n with
 | zero => intro x0 x3 x4 r h; have h' : (none : Option ((List Int))) = some r := h; cases h'
 | succ n ih =>
  intro x0 x3 x4 r h
  rw [xDI] at h
  rcases cond_inv h with ⟨h0, h⟩ | ⟨h0, h⟩
  ·obtain ⟨h1, h⟩ := ite_inv h
   obtain ⟨h2, h⟩ := ite_inv h
   exact Reach.stop ttok mix fk150 (p150_3_0 x0 x3 x4) (obs_cons h0 (obs_cons h1 (obs_cons h2 obs_nil))) (ih _ _ _ _ h)
  ·obtain rfl := Option.some.inj h
   exact Reach.done ttok mix fk150 (p150_3_1 x0 x3 x4) (obs_cons h0 obs_nil)
theorem c150_e {N : Nat} : ∀ a0 r, xEa N a0 = some r → Reach Try.prog Try.f150 I150 [.code I150.body] (zBg 0 (xEg a0)) (xDl r) := by
 intro a0 r h
 unfold xEa at h
 obtain ⟨h0, h⟩ := ite_inv h
 exact Reach.stop ttok mix fk150 (p150_e_2 a0) (obs_cons h0 obs_nil) (c150_3   _ _ _ _ _ h)
theorem laws_toIntS_ok {N : Nat} {a0 : List Int} {r : (List Int)} (h : xEa N  a0 = some r) : AbC 150 (xEg a0) (xDl r) :=
 AbsCalls.of_reach fk150 rfl rfl (Nat.le_of_ble_eq_true rfl) (c150_e a0 r h)
noncomputable def I117 : Info := { body := (Try.f117.body).getD .skip, nt := 11, results := [.cell 2 127], keep := [0, 2, 4, 6, 3, 5, 7], live := [], modes := [], ext := [], lnt := [], casts := [], fcast := [] }
theorem fk117 : FnOk Try.prog 117 Try.f117 I117 := ⟨Try.func117, by kernel_rfl, by kernel_rfl, by kernel_rfl, by kernel_rfl⟩
theorem p117_e_0 (a0 : Org) : run tt (AbsCalls Try.prog) I117 3000 false [.code I117.body] ⟨(zBg 0 (xDM a0)), [], [], []⟩ = some (.done (xDb a0) []) := by kernel_rfl
theorem c117_e {N : Nat} : ∀ a0 r, xD0 N a0 = some r → Reach Try.prog Try.f117 I117 [.code I117.body] (zBg 0 (xDM a0)) (xDb r) := by
 intro a0 r h
 unfold xD0 at h
 obtain rfl := Option.some.inj h
 exact Reach.done ttok mix fk117 (p117_e_0 a0) obs_nil
theorem laws_toOrigin_ok {N : Nat} {a0 : Org} {r : Org} (h : xD0 N  a0 = some r) : AbC 117 (xDM a0) (xDb r) :=
 AbsCalls.of_reach fk117 rfl rfl (Nat.le_of_ble_eq_true rfl) (c117_e a0 r h)
noncomputable def I56 : Info := { body := (Try.f56.body).getD .skip, nt := 23, results := [.tmp 2], keep := [0, 4, 6, 8, 22], live := [(3, [0, 6, 8])], modes := [(5, [(0, .ref, false)]), (6, [(0, .take, false)])], ext := [], lnt := [], casts := [], fcast := [] }
theorem fk56 : FnOk Try.prog 56 Try.f56 I56 := ⟨Try.func56, by kernel_rfl, by kernel_rfl, by kernel_rfl, by kernel_rfl⟩
def S56_3 (x0 x3 : List Org) (x4 : Int) : St := [(0, .v false [.sl .ro .org x0]), (6, .v false [.sl .own .org x3]), (8, .v false [.int .i64 x4])]
theorem p56_3_0 (x0 x3 : List Org) (x4 : Int) (r1 : Org) : run tt (AbsCalls Try.prog) I56 3000 true (stkAt 3 I56.body) ⟨(S56_3 x0 x3 x4), [true], [xDb r1], []⟩ = some (.stop (stkAt 3 I56.body) (S56_3 x0 (List.set x3 (Int.toNat x4) r1) (IntKind.i64.wrap (x4 + 1))) [(decide ((x4 : Int) < (List.length x0 : Int))) = true, (0 : Int) ≤ x4 ∧ x4 < (List.length x0), AbC 117 (xDM (List.getD x0 (Int.toNat x4) Ty.org.dflt)) (xDb r1), (0 : Int) ≤ x4 ∧ x4 < (List.length x3)]) := by kernel_rfl
theorem p56_3_1 (x0 x3 : List Org) (x4 : Int) : run tt (AbsCalls Try.prog) I56 3000 true (stkAt 3 I56.body) ⟨(S56_3 x0 x3 x4), [false], [], []⟩ = some (.done (xCy x3) [(decide ((x4 : Int) < (List.length x0 : Int))) = false]) := by kernel_rfl
theorem p56_e_2 (a0 : List Org) : run tt (AbsCalls Try.prog) I56 3000 false [.code I56.body] ⟨(zBg 0 (xDC a0)), [], [], []⟩ = some (.stop (stkAt 3 I56.body) (S56_3 a0 (List.replicate (Int.toNat (List.length a0 : Int)) Ty.org.dflt) 0) [(0 : Int) ≤ (List.length a0 : Int) ∧ (List.length a0 : Int) = (List.length a0 : Int) ∧ (List.length a0 : Int) ≤ Lim]) := by kernel_rfl
theorem c56_3 {N : Nat} : ∀ n x0 x3 x4 r, xCY N n x0 x3 x4 = some r → Reach Try.prog Try.f56 I56 (stkAt 3 I56.body) (S56_3 x0 x3 x4) (xCy r) := by
 intro n
 induction n with
 | zero => intro x0 x3 x4 r h; have h' : (none : Option ((List Org))) = some r := h; cases h'
 | succ n ih =>
  intro x0 x3 x4 r h
  rw [xCY] at h
  rcases cond_inv h with ⟨h0, h⟩ | ⟨h0, h⟩
  ·obtain ⟨h1, h⟩ := ite_inv h
   obtain ⟨r1, h2, h⟩ := bind_inv h
   obtain ⟨h3, h⟩ := ite_inv h
   exact Reach.stop ttok mix fk56 (p56_3_0 x0 x3 x4 r1) (obs_cons h0 (obs_cons h1 (obs_cons (laws_toOrigin_ok h2) (obs_cons h3 obs_nil)))) (ih _ _ _ _ h)
  ·obtain rfl := Option.some.inj h
   exact Reach.done ttok mix fk56 (p56_3_1 x0 x3 x4) (obs_cons h0 obs_nil)
theorem c56_e {N : Nat} : ∀ a0 r, xDm N a0 = some r → Reach Try.prog Try.f56 I56 [.code I56.body] (zBg 0 (xDC a0)) (xCy r) := by
 intro a0 r h
 unfold xDm at h
 obtain ⟨h0, h⟩ := ite_inv h
 exact Reach.stop ttok mix fk56 (p56_e_2 a0) (obs_cons h0 obs_nil) (c56_3   _ _ _ _ _ h)
theorem laws_toOriginS_ok {N : Nat} {a0 : List Org} {r : (List Org)} (h : xDm N  a0 = some r) : AbC 56 (xDC a0) (xCy r) :=
 AbsCalls.of_reach fk56 rfl rfl (Nat.le_of_ble_eq_true rfl) (c56_e a0 r h)
noncomputable def I134 : Info := { body := (Try.f134.body).getD .skip, nt := 13, results := [.cell 2 130], keep := [0, 2, 4, 6, 3, 5, 7], live := [], modes := [(4, [(0, .take, false)])], ext := [], lnt := [], casts := [], fcast := [] }
theorem fk134 : FnOk Try.prog 134 Try.f134 I134 := ⟨Try.func134, by kernel_rfl, by kernel_rfl, by kernel_rfl, by kernel_rfl⟩
theorem p134_e_0 (a0 : Rowd) (r1 : (List Int)) (r2 : (List Org)) : run tt (AbsCalls Try.prog) I134 3000 false [.code I134.body] ⟨(zBg 0 (xEo a0)), [], [xDl r1, xCy r2], []⟩ = some (.done (xD1 (Rowd.mk r1 r2)) [AbC 150 (xEg (Rowd.cells a0)) (xDl r1), AbC 56 (xDC (Rowd.frm a0)) (xCy r2)]) := by kernel_rfl
theorem c134_e {N : Nat} : ∀ a0 r, xEb N a0 = some r → Reach Try.prog Try.f134 I134 [.code I134.body] (zBg 0 (xEo a0)) (xD1 r) := by
 intro a0 r h
 unfold xEb at h
 obtain ⟨r1, h0, h⟩ := bind_inv h
 obtain ⟨r2, h1, h⟩ := bind_inv h
 obtain rfl := Option.some.inj h
 exact Reach.done ttok mix fk134 (p134_e_0 a0 r1 r2) (obs_cons (laws_toIntS_ok h0) (obs_cons (laws_toOriginS_ok h1) obs_nil))
theorem laws_toRow_ok {N : Nat} {a0 : Rowd} {r : Rowd} (h : xEb N  a0 = some r) : AbC 134 (xEo a0) (xD1 r) :=
 AbsCalls.of_reach fk134 rfl rfl (Nat.le_of_ble_eq_true rfl) (c134_e a0 r h)
noncomputable def I88 : Info := { body := (Try.f88.body).getD .skip, nt := 23, results := [.tmp 2], keep := [0, 4, 6, 8, 22], live := [(3, [0, 6, 8])], modes := [(5, [(0, .ref, false)]), (6, [(0, .take, false)])], ext := [], lnt := [], casts := [], fcast := [] }
theorem fk88 : FnOk Try.prog 88 Try.f88 I88 := ⟨Try.func88, by kernel_rfl, by kernel_rfl, by kernel_rfl, by kernel_rfl⟩
def S88_3 (x0 x3 : List Rowd) (x4 : Int) : St := [(0, .v false [.sl .ro .row x0]), (6, .v false [.sl .own .row x3]), (8, .v false [.int .i64 x4])]
theorem p88_3_0 (x0 x3 : List Rowd) (x4 : Int) (r1 : Rowd) : run tt (AbsCalls Try.prog) I88 3000 true (stkAt 3 I88.body) ⟨(S88_3 x0 x3 x4), [true], [xD1 r1], []⟩ = some (.stop (stkAt 3 I88.body) (S88_3 x0 (List.set x3 (Int.toNat x4) r1) (IntKind.i64.wrap (x4 + 1))) [(decide ((x4 : Int) < (List.length x0 : Int))) = true, (0 : Int) ≤ x4 ∧ x4 < (List.length x0), AbC 134 (xEo (List.getD x0 (Int.toNat x4) Ty.row.dflt)) (xD1 r1), (0 : Int) ≤ x4 ∧ x4 < (List.length x3)]) := by kernel_rfl
theorem p88_3_1 (x0 x3 : List Rowd) (x4 : Int) : run tt (AbsCalls Try.prog) I88 3000 true (stkAt 3 I88.body) ⟨(S88_3 x0 x3 x4), [false], [], []⟩ = some (.done (xDn x3) [(decide ((x4 : Int) < (List.length x0 : Int))) = false]) := by kernel_rfl
theorem p88_e_2 (a0 : List Rowd) : run tt (AbsCalls Try.prog) I88 3000 false [.code I88.body] ⟨(zBg 0 (xEh a0)), [], [], []⟩ = some (.stop (stkAt 3 I88.body) (S88_3 a0 (List.replicate (Int.toNat (List.length a0 : Int)) Ty.row.dflt) 0) [(0 : Int) ≤ (List.length a0 : Int) ∧ (List.length a0 : Int) = (List.length a0 : Int) ∧ (List.length a0 : Int) ≤ Lim]) := by kernel_rfl
theorem c88_3 {N : Nat} : ∀ n x0 x3 x4 r, xDJ N n x0 x3 x4 = some r → Reach Try.prog Try.f88 I88 (stkAt 3 I88.body) (S88_3 x0 x3 x4) (xDn r) := by
 intro n
 induction n with
 | zero => intro x0 x3 x4 r h; have h' : (none : Option ((List Rowd))) = some r := h; cases h'
 | succ n ih =>
  intro x0 x3 x4 r h
  rw [xDJ] at h
  rcases cond_inv h with ⟨h0, h⟩ | ⟨h0, h⟩
  ·obtain ⟨h1, h⟩ := ite_inv h
   obtain ⟨r1, h2, h⟩ := bind_inv h
   obtain ⟨h3, h⟩ := ite_inv h
   exact Reach.stop ttok mix fk88 (p88_3_0 x0 x3 x4 r1) (obs_cons h0 (obs_cons h1 (obs_cons (laws_toRow_ok h2) (obs_cons h3 obs_nil)))) (ih _ _ _ _ h)
  ·obtain rfl := Option.some.inj h
   exact Reach.done ttok mix fk88 (p88_3_1 x0 x3 x4) (obs_cons h0 obs_nil)
theorem c88_e {N : Nat} : ∀ a0 r, xEc N a0 = some r → Reach Try.prog Try.f88 I88 [.code I88.body] (zBg 0 (xEh a0)) (xDn r) := by
 intro a0 r h
 unfold xEc at h
 obtain ⟨h0, h⟩ := ite_inv h
 exact Reach.stop ttok mix fk88 (p88_e_2 a0) (obs_cons h0 obs_nil) (c88_3   _ _ _ _ _ h)
theorem laws_toRowS_ok {N : Nat} {a0 : List Rowd} {r : (List Rowd)} (h : xEc N  a0 = some r) : AbC 88 (xEh a0) (xDn r) :=
 AbsCalls.of_reach fk88 rfl rfl (Nat.le_of_ble_eq_true rfl) (c88_e a0 r h)
noncomputable def I26 : Info := { body := (Try.f26.body).getD .skip, nt := 29, results := [.cell 2 28], keep := [0, 2, 4, 6, 3, 5, 7], live := [], modes := [(9, [(0, .take, false)])], ext := [], lnt := [], casts := [], fcast := [] }
theorem fk26 : FnOk Try.prog 26 Try.f26 I26 := ⟨Try.func26, by kernel_rfl, by kernel_rfl, by kernel_rfl, by kernel_rfl⟩
theorem p26_e_0 (a0 : Val) (r1 : (List Val)) (r2 : (List Str)) (r3 : (List Rowd)) : run tt (AbsCalls Try.prog) I26 3000 false [.code I26.body] ⟨(zBg 0 (xBe a0)), [], [xA2 r1, xCz r2, xDn r3], []⟩ = some (.done (xA0 (Val.mk (Val.kind a0) (Val.n a0) (Val.step a0) (Val.text a0) r1 r2 r3)) [AbC 64 (xBs (Val.list a0)) (xA2 r1), AbC 87 (xDD (Val.columns a0)) (xCz r2), AbC 88 (xEh (Val.rows a0)) (xDn r3)]) := by kernel_rfl
theorem c26_e {N : Nat} {rc_laws_toValue : Val → Option (Val)} (hrc_laws_toValue : ∀ a0 r, rc_laws_toValue a0 = some r → AbC 26 (xBe a0) (xA0 r)) {rc_laws_toValueS : (List Val) → Option ((List Val))} (hrc_laws_toValueS : ∀ a0 r, rc_laws_toValueS a0 = some r → AbC 64 (xBs a0) (xA2 r)) : ∀ a0 r, xCA N rc_laws_toValue rc_laws_toValueS a0 = some r → Reach Try.prog Try.f26 I26 [.code I26.body] (zBg 0 (xBe a0)) (xA0 r) := by
 intro a0 r h
 unfold xCA at h
 obtain ⟨r1, h0, h⟩ := bind_inv h
 obtain ⟨r2, h1, h⟩ := bind_inv h
 obtain ⟨r3, h2, h⟩ := bind_inv h
 obtain rfl := Option.some.inj h
 exact Reach.done ttok mix fk26 (p26_e_0 a0 r1 r2 r3) (obs_cons (hrc_laws_toValueS _ _ h0) (obs_cons (laws_toStringS_ok h1) (obs_cons (laws_toRowS_ok h2) obs_nil)))
theorem xE6 {N : Nat} {rc_laws_toValue : Val → Option (Val)} (hrc_laws_toValue : ∀ a0 r, rc_laws_toValue a0 = some r → AbC 26 (xBe a0) (xA0 r)) {rc_laws_toValueS : (List Val) → Option ((List Val))} (hrc_laws_toValueS : ∀ a0 r, rc_laws_toValueS a0 = some r → AbC 64 (xBs a0) (xA2 r)) {a0 : Val} {r : Val} (h : xCA N rc_laws_toValue rc_laws_toValueS a0 = some r) : AbC 26 (xBe a0) (xA0 r) :=
 AbsCalls.of_reach fk26 rfl rfl (Nat.le_of_ble_eq_true rfl) (c26_e hrc_laws_toValue hrc_laws_toValueS a0 r h)
noncomputable def I64 : Info := { body := (Try.f64.body).getD .skip, nt := 23, results := [.tmp 2], keep := [0, 4, 6, 8, 22], live := [(3, [0, 6, 8])], modes := [(5, [(0, .ref, false)]), (6, [(0, .take, false)])], ext := [], lnt := [], casts := [], fcast := [] }
theorem fk64 : FnOk Try.prog 64 Try.f64 I64 := ⟨Try.func64, by kernel_rfl, by kernel_rfl, by kernel_rfl, by kernel_rfl⟩
def S64_3 (x0 x3 : List Val) (x4 : Int) : St := [(0, .v false [.sl .ro .val x0]), (6, .v false [.sl .own .val x3]), (8, .v false [.int .i64 x4])]
theorem p64_3_0 (x0 x3 : List Val) (x4 : Int) (r1 : Val) : run tt (AbsCalls Try.prog) I64 3000 true (stkAt 3 I64.body) ⟨(S64_3 x0 x3 x4), [true], [xA0 r1], []⟩ = some (.stop (stkAt 3 I64.body) (S64_3 x0 (List.set x3 (Int.toNat x4) (Val.re r1)) (IntKind.i64.wrap (x4 + 1))) [(decide ((x4 : Int) < (List.length x0 : Int))) = true, (0 : Int) ≤ x4 ∧ x4 < (List.length x0), AbC 26 (xBe (List.getD x0 (Int.toNat x4) Ty.val.dflt)) (xA0 r1), (0 : Int) ≤ x4 ∧ x4 < (List.length x3)]) := by kernel_rfl
theorem p64_3_1 (x0 x3 : List Val) (x4 : Int) : run tt (AbsCalls Try.prog) I64 3000 true (stkAt 3 I64.body) ⟨(S64_3 x0 x3 x4), [false], [], []⟩ = some (.done (xA2 x3) [(decide ((x4 : Int) < (List.length x0 : Int))) = false]) := by kernel_rfl
theorem p64_e_2 (a0 : List Val) : run tt (AbsCalls Try.prog) I64 3000 false [.code I64.body] ⟨(zBg 0 (xBs a0)), [], [], []⟩ = some (.stop (stkAt 3 I64.body) (S64_3 a0 (List.replicate (Int.toNat (List.length a0 : Int)) Ty.val.dflt) 0) [(0 : Int) ≤ (List.length a0 : Int) ∧ (List.length a0 : Int) = (List.length a0 : Int) ∧ (List.length a0 : Int) ≤ Lim]) := by kernel_rfl
theorem c64_3 {N : Nat} {rc_laws_toValue : Val → Option (Val)} (hrc_laws_toValue : ∀ a0 r, rc_laws_toValue a0 = some r → AbC 26 (xBe a0) (xA0 r)) {rc_laws_toValueS : (List Val) → Option ((List Val))} (hrc_laws_toValueS : ∀ a0 r, rc_laws_toValueS a0 = some r → AbC 64 (xBs a0) (xA2 r)) : ∀ n x0 x3 x4 r, xDc N rc_laws_toValue rc_laws_toValueS n x0 x3 x4 = some r → Reach Try.prog Try.f64 I64 (stkAt 3 I64.body) (S64_3 x0 x3 x4) (xA2 r) := by
 intro n
 induction n with
 | zero => intro x0 x3 x4 r h; have h' : (none : Option ((List Val))) = some r := h; cases h'
 | succ n ih =>
  intro x0 x3 x4 r h
  rw [xDc] at h
  rcases cond_inv h with ⟨h0, h⟩ | ⟨h0, h⟩
  ·obtain ⟨h1, h⟩ := ite_inv h
   obtain ⟨r1, h2, h⟩ := bind_inv h
   obtain ⟨h3, h⟩ := ite_inv h
   exact Reach.stop ttok mix fk64 (p64_3_0 x0 x3 x4 r1) (obs_cons h0 (obs_cons h1 (obs_cons (hrc_laws_toValue _ _ h2) (obs_cons h3 obs_nil)))) (ih _ _ _ _ h)
  ·obtain rfl := Option.some.inj h
   exact Reach.done ttok mix fk64 (p64_3_1 x0 x3 x4) (obs_cons h0 obs_nil)
theorem c64_e {N : Nat} {rc_laws_toValue : Val → Option (Val)} (hrc_laws_toValue : ∀ a0 r, rc_laws_toValue a0 = some r → AbC 26 (xBe a0) (xA0 r)) {rc_laws_toValueS : (List Val) → Option ((List Val))} (hrc_laws_toValueS : ∀ a0 r, rc_laws_toValueS a0 = some r → AbC 64 (xBs a0) (xA2 r)) : ∀ a0 r, xCb N rc_laws_toValue rc_laws_toValueS a0 = some r → Reach Try.prog Try.f64 I64 [.code I64.body] (zBg 0 (xBs a0)) (xA2 r) := by
 intro a0 r h
 unfold xCb at h
 obtain ⟨h0, h⟩ := ite_inv h
 exact Reach.stop ttok mix fk64 (p64_e_2 a0) (obs_cons h0 obs_nil) (c64_3 hrc_laws_toValue hrc_laws_toValueS  _ _ _ _ _ h)
theorem xEY {N : Nat} {rc_laws_toValue : Val → Option (Val)} (hrc_laws_toValue : ∀ a0 r, rc_laws_toValue a0 = some r → AbC 26 (xBe a0) (xA0 r)) {rc_laws_toValueS : (List Val) → Option ((List Val))} (hrc_laws_toValueS : ∀ a0 r, rc_laws_toValueS a0 = some r → AbC 64 (xBs a0) (xA2 r)) {a0 : List Val} {r : (List Val)} (h : xCb N rc_laws_toValue rc_laws_toValueS a0 = some r) : AbC 64 (xBs a0) (xA2 r) :=
 AbsCalls.of_reach fk64 rfl rfl (Nat.le_of_ble_eq_true rfl) (c64_e hrc_laws_toValue hrc_laws_toValueS a0 r h)
theorem xFg {N : Nat} : ∀ d, (∀ a0 r, (xAG N d).c_laws_toValue a0 = some r → AbC 26 (xBe a0) (xA0 r)) ∧ (∀ a0 r, (xAG N d).c_laws_toValueS a0 = some r → AbC 64 (xBs a0) (xA2 r)) := by
 intro d
 induction d with
 | zero =>
  refine ⟨?_, ?_⟩ <;> (intros; rename_i h; cases h)
 | succ d ih =>
  obtain ⟨ih0, ih1⟩ := ih
  refine ⟨?_, ?_⟩
  ·intro _ r h; exact xE6 (N := N) ih0 ih1 h
  ·intro _ r h; exact xEY (N := N) ih0 ih1 h
theorem laws_toValue_ok {N : Nat} {a0 : Val} {r : Val} (h : xEX N a0 = some r) : AbC 26 (xBe a0) (xA0 r) := (xFg N).1 _ r h
noncomputable def I72 : Info := { body := (Try.f72.body).getD .skip, nt := 5, results := [.cell 2 28], keep := [0, 4, 5], live := [], modes := [], ext := [], lnt := [], casts := [], fcast := [] }
theorem fk72 : FnOk Try.prog 72 Try.f72 I72 := ⟨Try.func72, by kernel_rfl, by kernel_rfl, by kernel_rfl, by kernel_rfl⟩
theorem p72_e_0 (a0 : Int) : run tt (AbsCalls Try.prog) I72 3000 false [.code I72.body] ⟨(zBg 0 (xBw a0)), [], [], []⟩ = some (.done (xAM (Val.mk 6 a0 0 [] [] [] [])) []) := by kernel_rfl
theorem c72_e {N : Nat} : ∀ a0 r, xBf N a0 = some r → Reach Try.prog Try.f72 I72 [.code I72.body] (zBg 0 (xBw a0)) (xAM r) := by
 intro a0 r h
 unfold xBf at h
 obtain rfl := Option.some.inj h
 exact Reach.done ttok mix fk72 (p72_e_0 a0) obs_nil
theorem xCM {N : Nat} {a0 : Int} {r : Val} (h : xBf N  a0 = some r) : AbC 72 (xBw a0) (xAM r) :=
 AbsCalls.of_reach fk72 rfl rfl (Nat.le_of_ble_eq_true rfl) (c72_e a0 r h)
noncomputable def I75 : Info := { body := (Try.f75.body).getD .skip, nt := 5, results := [.cell 2 28], keep := [0, 4, 5], live := [], modes := [], ext := [], lnt := [], casts := [], fcast := [] }
theorem fk75 : FnOk Try.prog 75 Try.f75 I75 := ⟨Try.func75, by kernel_rfl, by kernel_rfl, by kernel_rfl, by kernel_rfl⟩
theorem p75_e_0 (a0 : Int) : run tt (AbsCalls Try.prog) I75 3000 false [.code I75.body] ⟨(zBg 0 (xBk a0)), [], [], []⟩ = some (.done (xAF (Val.mk 6 a0 0 [] [] [] [])) []) := by kernel_rfl
theorem c75_e {N : Nat} : ∀ a0 r, xA3 N a0 = some r → Reach Try.prog Try.f75 I75 [.code I75.body] (zBg 0 (xBk a0)) (xAF r) := by
 intro a0 r h
 unfold xA3 at h
 obtain rfl := Option.some.inj h
 exact Reach.done ttok mix fk75 (p75_e_0 a0) obs_nil
theorem xB8 {N : Nat} {a0 : Int} {r : Val} (h : xA3 N  a0 = some r) : AbC 75 (xBk a0) (xAF r) :=
 AbsCalls.of_reach fk75 rfl rfl (Nat.le_of_ble_eq_true rfl) (c75_e a0 r h)
noncomputable def I76 : Info := { body := (Try.f76.body).getD .skip, nt := 26, results := [.tmp 4], keep := [0, 2, 8, 10, 20, 28, 50], live := [(4, [0, 2, 10])], modes := [], ext := [], lnt := [], casts := [], fcast := [] }
theorem fk76 : FnOk Try.prog 76 Try.f76 I76 := ⟨Try.func76, by kernel_rfl, by kernel_rfl, by kernel_rfl, by kernel_rfl⟩
def S76_4 (x0 x1 : List Str) (x5 : Int) : St := [(0, .v false [.sl .ro .str x0]), (2, .v false [.sl .ro .str x1]), (10, .v false [.int .i64 x5])]
theorem p76_4_0 (x0 x1 : List Str) (x5 : Int) : run tt (AbsCalls Try.prog) I76 3000 true (stkAt 4 I76.body) ⟨(S76_4 x0 x1 x5), [true, true], [], []⟩ = some (.done (xAY false) [(decide ((x5 : Int) < (List.length x0 : Int))) = true, (0 : Int) ≤ x5 ∧ x5 < (List.length x0), (0 : Int) ≤ x5 ∧ x5 < (List.length x1), (!(((List.getD x0 (Int.toNat x5) Ty.str.dflt) : Str) == (List.getD x1 (Int.toNat x5) Ty.str.dflt))) = true]) := by kernel_rfl
theorem p76_4_1 (x0 x1 : List Str) (x5 : Int) : run tt (AbsCalls Try.prog) I76 3000 true (stkAt 4 I76.body) ⟨(S76_4 x0 x1 x5), [true, false], [], []⟩ = some (.stop (stkAt 4 I76.body) (S76_4 x0 x1 (IntKind.i64.wrap (x5 + 1))) [(decide ((x5 : Int) < (List.length x0 : Int))) = true, (0 : Int) ≤ x5 ∧ x5 < (List.length x0), (0 : Int) ≤ x5 ∧ x5 < (List.length x1), (!(((List.getD x0 (Int.toNat x5) Ty.str.dflt) : Str) == (List.getD x1 (Int.toNat x5) Ty.str.dflt))) = false]) := by kernel_rfl
theorem p76_4_2 (x0 x1 : List Str) (x5 : Int) : run tt (AbsCalls Try.prog) I76 3000 true (stkAt 4 I76.body) ⟨(S76_4 x0 x1 x5), [false], [], []⟩ = some (.done (xAY true) [(decide ((x5 : Int) < (List.length x0 : Int))) = false]) := by kernel_rfl
theorem p76_e_3 (a0 a1 : List Str) : run tt (AbsCalls Try.prog) I76 3000 false [.code I76.body] ⟨(zBg 0 (xBV a0 a1)), [true], [], []⟩ = some (.done (xAY false) [(((List.length a0 : Int) : Int) != (List.length a1 : Int)) = true]) := by kernel_rfl
theorem p76_e_4 (a0 a1 : List Str) : run tt (AbsCalls Try.prog) I76 3000 false [.code I76.body] ⟨(zBg 0 (xBV a0 a1)), [false], [], []⟩ = some (.stop (stkAt 4 I76.body) (S76_4 a0 a1 0) [(((List.length a0 : Int) : Int) != (List.length a1 : Int)) = false]) := by kernel_rfl
theorem c76_4 {N : Nat} : ∀ n x0 x1 x5 r, xBW N n x0 x1 x5 = some r → Reach Try.prog Try.f76 I76 (stkAt 4 I76.body) (S76_4 x0 x1 x5) (xAY r) := by
 intro n
 induction n with
 | zero => intro x0 x1 x5 r h; have h' : (none : Option (Bool)) = some r := h; cases h'
 | succ n ih =>
  intro x0 x1 x5 r h
  rw [xBW] at h
  rcases cond_inv h with ⟨h0, h⟩ | ⟨h0, h⟩
  ·obtain ⟨h1, h⟩ := ite_inv h
   obtain ⟨h2, h⟩ := ite_inv h
   rcases cond_inv h with ⟨h3, h⟩ | ⟨h3, h⟩
   ·obtain rfl := Option.some.inj h
    exact Reach.done ttok mix fk76 (p76_4_0 x0 x1 x5) (obs_cons h0 (obs_cons h1 (obs_cons h2 (obs_cons h3 obs_nil))))
   ·exact Reach.stop ttok mix fk76 (p76_4_1 x0 x1 x5) (obs_cons h0 (obs_cons h1 (obs_cons h2 (obs_cons h3 obs_nil)))) (ih _ _ _ _ h)
  ·obtain rfl := Option.some.inj h
   exact Reach.done ttok mix fk76 (p76_4_2 x0 x1 x5) (obs_cons h0 obs_nil)
theorem c76_e {N : Nat} : ∀ a0 a1 r, xDg N a0 a1 = some r → Reach Try.prog Try.f76 I76 [.code I76.body] (zBg 0 (xBV a0 a1)) (xAY r) := by
 intro a0 a1 r h
 unfold xDg at h
 rcases cond_inv h with ⟨h0, h⟩ | ⟨h0, h⟩
 ·obtain rfl := Option.some.inj h
  exact Reach.done ttok mix fk76 (p76_e_3 a0 a1) (obs_cons h0 obs_nil)
 ·exact Reach.stop ttok mix fk76 (p76_e_4 a0 a1) (obs_cons h0 obs_nil) (c76_4   _ _ _ _ _ h)
theorem xD7 {N : Nat} {a0 : List Str} {a1 : List Str} {r : Bool} (h : xDg N  a0 a1 = some r) : AbC 76 (xBV a0 a1) (xAY r) :=
 AbsCalls.of_reach fk76 rfl rfl (Nat.le_of_ble_eq_true rfl) (c76_e a0 a1 r h)
noncomputable def I148 : Info := { body := (Try.f148.body).getD .skip, nt := 26, results := [.tmp 4], keep := [0, 2, 8, 10, 20, 28, 50], live := [(4, [0, 2, 10])], modes := [], ext := [], lnt := [], casts := [], fcast := [] }
theorem fk148 : FnOk Try.prog 148 Try.f148 I148 := ⟨Try.func148, by kernel_rfl, by kernel_rfl, by kernel_rfl, by kernel_rfl⟩
def S148_4 (x0 x1 : List Int) (x5 : Int) : St := [(0, .v false [.sl .ro .int x0]), (2, .v false [.sl .ro .int x1]), (10, .v false [.int .i64 x5])]
theorem p148_4_0 (x0 x1 : List Int) (x5 : Int) : run tt (AbsCalls Try.prog) I148 3000 true (stkAt 4 I148.body) ⟨(S148_4 x0 x1 x5), [true, true], [], []⟩ = some (.done (xBp false) [(decide ((x5 : Int) < (List.length x0 : Int))) = true, (0 : Int) ≤ x5 ∧ x5 < (List.length x0), (0 : Int) ≤ x5 ∧ x5 < (List.length x1), (((List.getD x0 (Int.toNat x5) Ty.int.dflt) : Int) != (List.getD x1 (Int.toNat x5) Ty.int.dflt)) = true]) := by kernel_rfl
theorem p148_4_1 (x0 x1 : List Int) (x5 : Int) : run tt (AbsCalls Try.prog) I148 3000 true (stkAt 4 I148.body) ⟨(S148_4 x0 x1 x5), [true, false], [], []⟩ = some (.stop (stkAt 4 I148.body) (S148_4 x0 x1 (IntKind.i64.wrap (x5 + 1))) [(decide ((x5 : Int) < (List.length x0 : Int))) = true, (0 : Int) ≤ x5 ∧ x5 < (List.length x0), (0 : Int) ≤ x5 ∧ x5 < (List.length x1), (((List.getD x0 (Int.toNat x5) Ty.int.dflt) : Int) != (List.getD x1 (Int.toNat x5) Ty.int.dflt)) = false]) := by kernel_rfl
theorem p148_4_2 (x0 x1 : List Int) (x5 : Int) : run tt (AbsCalls Try.prog) I148 3000 true (stkAt 4 I148.body) ⟨(S148_4 x0 x1 x5), [false], [], []⟩ = some (.done (xBp true) [(decide ((x5 : Int) < (List.length x0 : Int))) = false]) := by kernel_rfl
theorem p148_e_3 (a0 a1 : List Int) : run tt (AbsCalls Try.prog) I148 3000 false [.code I148.body] ⟨(zBg 0 (xCO a0 a1)), [true], [], []⟩ = some (.done (xBp false) [(((List.length a0 : Int) : Int) != (List.length a1 : Int)) = true]) := by kernel_rfl
theorem p148_e_4 (a0 a1 : List Int) : run tt (AbsCalls Try.prog) I148 3000 false [.code I148.body] ⟨(zBg 0 (xCO a0 a1)), [false], [], []⟩ = some (.stop (stkAt 4 I148.body) (S148_4 a0 a1 0) [(((List.length a0 : Int) : Int) != (List.length a1 : Int)) = false]) := by kernel_rfl
theorem c148_4 {N : Nat} : ∀ n x0 x1 x5 r, xCP N n x0 x1 x5 = some r → Reach Try.prog Try.f148 I148 (stkAt 4 I148.body) (S148_4 x0 x1 x5) (xBp r) := by
 intro n
 induction n with
 | zero => intro x0 x1 x5 r h; have h' : (none : Option (Bool)) = some r := h; cases h'
 | succ n ih =>
  intro x0 x1 x5 r h
  rw [xCP] at h
  rcases cond_inv h with ⟨h0, h⟩ | ⟨h0, h⟩
  ·obtain ⟨h1, h⟩ := ite_inv h
   obtain ⟨h2, h⟩ := ite_inv h
   rcases cond_inv h with ⟨h3, h⟩ | ⟨h3, h⟩
   ·obtain rfl := Option.some.inj h
    exact Reach.done ttok mix fk148 (p148_4_0 x0 x1 x5) (obs_cons h0 (obs_cons h1 (obs_cons h2 (obs_cons h3 obs_nil))))
   ·exact Reach.stop ttok mix fk148 (p148_4_1 x0 x1 x5) (obs_cons h0 (obs_cons h1 (obs_cons h2 (obs_cons h3 obs_nil)))) (ih _ _ _ _ h)
  ·obtain rfl := Option.some.inj h
   exact Reach.done ttok mix fk148 (p148_4_2 x0 x1 x5) (obs_cons h0 obs_nil)
theorem c148_e {N : Nat} : ∀ a0 a1 r, xD4 N a0 a1 = some r → Reach Try.prog Try.f148 I148 [.code I148.body] (zBg 0 (xCO a0 a1)) (xBp r) := by
 intro a0 a1 r h
 unfold xD4 at h
 rcases cond_inv h with ⟨h0, h⟩ | ⟨h0, h⟩
 ·obtain rfl := Option.some.inj h
  exact Reach.done ttok mix fk148 (p148_e_3 a0 a1) (obs_cons h0 obs_nil)
 ·exact Reach.stop ttok mix fk148 (p148_e_4 a0 a1) (obs_cons h0 obs_nil) (c148_4   _ _ _ _ _ h)
theorem xEB {N : Nat} {a0 : List Int} {a1 : List Int} {r : Bool} (h : xD4 N  a0 a1 = some r) : AbC 148 (xCO a0 a1) (xBp r) :=
 AbsCalls.of_reach fk148 rfl rfl (Nat.le_of_ble_eq_true rfl) (c148_e a0 a1 r h)
noncomputable def I120 : Info := { body := (Try.f120.body).getD .skip, nt := 15, results := [.tmp 4], keep := [0, 2, 4, 6, 8, 18, 28, 5, 7], live := [], modes := [], ext := [], lnt := [], casts := [], fcast := [] }
theorem fk120 : FnOk Try.prog 120 Try.f120 I120 := ⟨Try.func120, by kernel_rfl, by kernel_rfl, by kernel_rfl, by kernel_rfl⟩
theorem p120_e_0 (a0 a1 : Org) : run tt (AbsCalls Try.prog) I120 3000 false [.code I120.body] ⟨(zBg 0 (xCc a0 a1)), [true], [], []⟩ = some (.done (xBD false) [(((Org.cell a0) : Int) != (Org.cell a1)) = true]) := by kernel_rfl
theorem p120_e_1 (a0 a1 : Org) : run tt (AbsCalls Try.prog) I120 3000 false [.code I120.body] ⟨(zBg 0 (xCc a0 a1)), [false, true], [], []⟩ = some (.done (xBD false) [(((Org.cell a0) : Int) != (Org.cell a1)) = false, (((Org.row a0) : Int) != (Org.row a1)) = true]) := by kernel_rfl
theorem p120_e_2 (a0 a1 : Org) : run tt (AbsCalls Try.prog) I120 3000 false [.code I120.body] ⟨(zBg 0 (xCc a0 a1)), [false, false], [], []⟩ = some (.done (xBD true) [(((Org.cell a0) : Int) != (Org.cell a1)) = false, (((Org.row a0) : Int) != (Org.row a1)) = false]) := by kernel_rfl
theorem c120_e {N : Nat} : ∀ a0 a1 r, xDx N a0 a1 = some r → Reach Try.prog Try.f120 I120 [.code I120.body] (zBg 0 (xCc a0 a1)) (xBD r) := by
 intro a0 a1 r h
 unfold xDx at h
 rcases cond_inv h with ⟨h0, h⟩ | ⟨h0, h⟩
 ·obtain rfl := Option.some.inj h
  exact Reach.done ttok mix fk120 (p120_e_0 a0 a1) (obs_cons h0 obs_nil)
 ·rcases cond_inv h with ⟨h1, h⟩ | ⟨h1, h⟩
  ·obtain rfl := Option.some.inj h
   exact Reach.done ttok mix fk120 (p120_e_1 a0 a1) (obs_cons h0 (obs_cons h1 obs_nil))
  ·obtain rfl := Option.some.inj h
   exact Reach.done ttok mix fk120 (p120_e_2 a0 a1) (obs_cons h0 (obs_cons h1 obs_nil))
theorem xEJ {N : Nat} {a0 : Org} {a1 : Org} {r : Bool} (h : xDx N  a0 a1 = some r) : AbC 120 (xCc a0 a1) (xBD r) :=
 AbsCalls.of_reach fk120 rfl rfl (Nat.le_of_ble_eq_true rfl) (c120_e a0 a1 r h)
noncomputable def I58 : Info := { body := (Try.f58.body).getD .skip, nt := 27, results := [.tmp 4], keep := [0, 2, 8, 10, 20, 28, 52], live := [(4, [0, 2, 10])], modes := [], ext := [], lnt := [], casts := [], fcast := [] }
theorem fk58 : FnOk Try.prog 58 Try.f58 I58 := ⟨Try.func58, by kernel_rfl, by kernel_rfl, by kernel_rfl, by kernel_rfl⟩
def S58_4 (x0 x1 : List Org) (x5 : Int) : St := [(0, .v false [.sl .ro .org x0]), (2, .v false [.sl .ro .org x1]), (10, .v false [.int .i64 x5])]
theorem p58_4_0 (x0 x1 : List Org) (x5 : Int) (r1 : Bool) : run tt (AbsCalls Try.prog) I58 3000 true (stkAt 4 I58.body) ⟨(S58_4 x0 x1 x5), [true, true], [xBD r1], []⟩ = some (.done (xBi false) [(decide ((x5 : Int) < (List.length x0 : Int))) = true, (0 : Int) ≤ x5 ∧ x5 < (List.length x0), (0 : Int) ≤ x5 ∧ x5 < (List.length x1), AbC 120 (xCc (List.getD x0 (Int.toNat x5) Ty.org.dflt) (List.getD x1 (Int.toNat x5) Ty.org.dflt)) (xBD r1), (!r1) = true]) := by kernel_rfl
theorem p58_4_1 (x0 x1 : List Org) (x5 : Int) (r1 : Bool) : run tt (AbsCalls Try.prog) I58 3000 true (stkAt 4 I58.body) ⟨(S58_4 x0 x1 x5), [true, false], [xBD r1], []⟩ = some (.stop (stkAt 4 I58.body) (S58_4 x0 x1 (IntKind.i64.wrap (x5 + 1))) [(decide ((x5 : Int) < (List.length x0 : Int))) = true, (0 : Int) ≤ x5 ∧ x5 < (List.length x0), (0 : Int) ≤ x5 ∧ x5 < (List.length x1), AbC 120 (xCc (List.getD x0 (Int.toNat x5) Ty.org.dflt) (List.getD x1 (Int.toNat x5) Ty.org.dflt)) (xBD r1), (!r1) = false]) := by kernel_rfl
theorem p58_4_2 (x0 x1 : List Org) (x5 : Int) : run tt (AbsCalls Try.prog) I58 3000 true (stkAt 4 I58.body) ⟨(S58_4 x0 x1 x5), [false], [], []⟩ = some (.done (xBi true) [(decide ((x5 : Int) < (List.length x0 : Int))) = false]) := by kernel_rfl
theorem p58_e_3 (a0 a1 : List Org) : run tt (AbsCalls Try.prog) I58 3000 false [.code I58.body] ⟨(zBg 0 (xCu a0 a1)), [true], [], []⟩ = some (.done (xBi false) [(((List.length a0 : Int) : Int) != (List.length a1 : Int)) = true]) := by kernel_rfl
theorem p58_e_4 (a0 a1 : List Org) : run tt (AbsCalls Try.prog) I58 3000 false [.code I58.body] ⟨(zBg 0 (xCu a0 a1)), [false], [], []⟩ = some (.stop (stkAt 4 I58.body) (S58_4 a0 a1 0) [(((List.length a0 : Int) : Int) != (List.length a1 : Int)) = false]) := by kernel_rfl
theorem c58_4 {N : Nat} : ∀ n x0 x1 x5 r, xBU N n x0 x1 x5 = some r → Reach Try.prog Try.f58 I58 (stkAt 4 I58.body) (S58_4 x0 x1 x5) (xBi r) := by
 intro n
 induction n with
 | zero => intro x0 x1 x5 r h; have h' : (none : Option (Bool)) = some r := h; cases h'
 | succ n ih =>
  intro x0 x1 x5 r h
  rw [xBU] at h
  rcases cond_inv h with ⟨h0, h⟩ | ⟨h0, h⟩
  ·obtain ⟨h1, h⟩ := ite_inv h
   obtain ⟨h2, h⟩ := ite_inv h
   obtain ⟨r1, h3, h⟩ := bind_inv h
   rcases cond_inv h with ⟨h4, h⟩ | ⟨h4, h⟩
   ·obtain rfl := Option.some.inj h
    exact Reach.done ttok mix fk58 (p58_4_0 x0 x1 x5 r1) (obs_cons h0 (obs_cons h1 (obs_cons h2 (obs_cons (xEJ h3) (obs_cons h4 obs_nil)))))
   ·exact Reach.stop ttok mix fk58 (p58_4_1 x0 x1 x5 r1) (obs_cons h0 (obs_cons h1 (obs_cons h2 (obs_cons (xEJ h3) (obs_cons h4 obs_nil))))) (ih _ _ _ _ h)
  ·obtain rfl := Option.some.inj h
   exact Reach.done ttok mix fk58 (p58_4_2 x0 x1 x5) (obs_cons h0 obs_nil)
theorem c58_e {N : Nat} : ∀ a0 a1 r, xDe N a0 a1 = some r → Reach Try.prog Try.f58 I58 [.code I58.body] (zBg 0 (xCu a0 a1)) (xBi r) := by
 intro a0 a1 r h
 unfold xDe at h
 rcases cond_inv h with ⟨h0, h⟩ | ⟨h0, h⟩
 ·obtain rfl := Option.some.inj h
  exact Reach.done ttok mix fk58 (p58_e_3 a0 a1) (obs_cons h0 obs_nil)
 ·exact Reach.stop ttok mix fk58 (p58_e_4 a0 a1) (obs_cons h0 obs_nil) (c58_4   _ _ _ _ _ h)
theorem xED {N : Nat} {a0 : List Org} {a1 : List Org} {r : Bool} (h : xDe N  a0 a1 = some r) : AbC 58 (xCu a0 a1) (xBi r) :=
 AbsCalls.of_reach fk58 rfl rfl (Nat.le_of_ble_eq_true rfl) (c58_e a0 a1 r h)
noncomputable def I129 : Info := { body := (Try.f129.body).getD .skip, nt := 17, results := [.tmp 4], keep := [0, 2, 4, 6, 8, 20, 32, 5, 7], live := [], modes := [], ext := [], lnt := [], casts := [], fcast := [] }
theorem fk129 : FnOk Try.prog 129 Try.f129 I129 := ⟨Try.func129, by kernel_rfl, by kernel_rfl, by kernel_rfl, by kernel_rfl⟩
theorem p129_e_0 (a0 a1 : Rowd) (r1 : Bool) : run tt (AbsCalls Try.prog) I129 3000 false [.code I129.body] ⟨(zBg 0 (xC1 a0 a1)), [true], [xBp r1], []⟩ = some (.done (xCm false) [AbC 148 (xCO (Rowd.cells a0) (Rowd.cells a1)) (xBp r1), (!r1) = true]) := by kernel_rfl
theorem p129_e_1 (a0 a1 : Rowd) (r1 r2 : Bool) : run tt (AbsCalls Try.prog) I129 3000 false [.code I129.body] ⟨(zBg 0 (xC1 a0 a1)), [false, true], [xBp r1, xBi r2], []⟩ = some (.done (xCm false) [AbC 148 (xCO (Rowd.cells a0) (Rowd.cells a1)) (xBp r1), (!r1) = false, AbC 58 (xCu (Rowd.frm a0) (Rowd.frm a1)) (xBi r2), (!r2) = true]) := by kernel_rfl
theorem p129_e_2 (a0 a1 : Rowd) (r1 r2 : Bool) : run tt (AbsCalls Try.prog) I129 3000 false [.code I129.body] ⟨(zBg 0 (xC1 a0 a1)), [false, false], [xBp r1, xBi r2], []⟩ = some (.done (xCm true) [AbC 148 (xCO (Rowd.cells a0) (Rowd.cells a1)) (xBp r1), (!r1) = false, AbC 58 (xCu (Rowd.frm a0) (Rowd.frm a1)) (xBi r2), (!r2) = false]) := by kernel_rfl
theorem c129_e {N : Nat} : ∀ a0 a1 r, xEp N a0 a1 = some r → Reach Try.prog Try.f129 I129 [.code I129.body] (zBg 0 (xC1 a0 a1)) (xCm r) := by
 intro a0 a1 r h
 unfold xEp at h
 obtain ⟨r1, h0, h⟩ := bind_inv h
 rcases cond_inv h with ⟨h1, h⟩ | ⟨h1, h⟩
 ·obtain rfl := Option.some.inj h
  exact Reach.done ttok mix fk129 (p129_e_0 a0 a1 r1) (obs_cons (xEB h0) (obs_cons h1 obs_nil))
 ·obtain ⟨r2, h2, h⟩ := bind_inv h
  rcases cond_inv h with ⟨h3, h⟩ | ⟨h3, h⟩
  ·obtain rfl := Option.some.inj h
   exact Reach.done ttok mix fk129 (p129_e_1 a0 a1 r1 r2) (obs_cons (xEB h0) (obs_cons h1 (obs_cons (xED h2) (obs_cons h3 obs_nil))))
  ·obtain rfl := Option.some.inj h
   exact Reach.done ttok mix fk129 (p129_e_2 a0 a1 r1 r2) (obs_cons (xEB h0) (obs_cons h1 (obs_cons (xED h2) (obs_cons h3 obs_nil))))
theorem laws_eqRow_ok {N : Nat} {a0 : Rowd} {a1 : Rowd} {r : Bool} (h : xEp N  a0 a1 = some r) : AbC 129 (xC1 a0 a1) (xCm r) :=
 AbsCalls.of_reach fk129 rfl rfl (Nat.le_of_ble_eq_true rfl) (c129_e a0 a1 r h)
noncomputable def I77 : Info := { body := (Try.f77.body).getD .skip, nt := 27, results := [.tmp 4], keep := [0, 2, 8, 10, 20, 28, 52], live := [(4, [0, 2, 10])], modes := [], ext := [], lnt := [], casts := [], fcast := [] }
theorem fk77 : FnOk Try.prog 77 Try.f77 I77 := ⟨Try.func77, by kernel_rfl, by kernel_rfl, by kernel_rfl, by kernel_rfl⟩
def S77_4 (x0 x1 : List Rowd) (x5 : Int) : St := [(0, .v false [.sl .ro .row x0]), (2, .v false [.sl .ro .row x1]), (10, .v false [.int .i64 x5])]
theorem p77_4_0 (x0 x1 : List Rowd) (x5 : Int) (r1 : Bool) : run tt (AbsCalls Try.prog) I77 3000 true (stkAt 4 I77.body) ⟨(S77_4 x0 x1 x5), [true, true], [xCm r1], []⟩ = some (.done (xBL false) [(decide ((x5 : Int) < (List.length x0 : Int))) = true, (0 : Int) ≤ x5 ∧ x5 < (List.length x0), (0 : Int) ≤ x5 ∧ x5 < (List.length x1), AbC 129 (xC1 (List.getD x0 (Int.toNat x5) Ty.row.dflt) (List.getD x1 (Int.toNat x5) Ty.row.dflt)) (xCm r1), (!r1) = true]) := by kernel_rfl
theorem p77_4_1 (x0 x1 : List Rowd) (x5 : Int) (r1 : Bool) : run tt (AbsCalls Try.prog) I77 3000 true (stkAt 4 I77.body) ⟨(S77_4 x0 x1 x5), [true, false], [xCm r1], []⟩ = some (.stop (stkAt 4 I77.body) (S77_4 x0 x1 (IntKind.i64.wrap (x5 + 1))) [(decide ((x5 : Int) < (List.length x0 : Int))) = true, (0 : Int) ≤ x5 ∧ x5 < (List.length x0), (0 : Int) ≤ x5 ∧ x5 < (List.length x1), AbC 129 (xC1 (List.getD x0 (Int.toNat x5) Ty.row.dflt) (List.getD x1 (Int.toNat x5) Ty.row.dflt)) (xCm r1), (!r1) = false]) := by kernel_rfl
theorem p77_4_2 (x0 x1 : List Rowd) (x5 : Int) : run tt (AbsCalls Try.prog) I77 3000 true (stkAt 4 I77.body) ⟨(S77_4 x0 x1 x5), [false], [], []⟩ = some (.done (xBL true) [(decide ((x5 : Int) < (List.length x0 : Int))) = false]) := by kernel_rfl
theorem p77_e_3 (a0 a1 : List Rowd) : run tt (AbsCalls Try.prog) I77 3000 false [.code I77.body] ⟨(zBg 0 (xDf a0 a1)), [true], [], []⟩ = some (.done (xBL false) [(((List.length a0 : Int) : Int) != (List.length a1 : Int)) = true]) := by kernel_rfl
theorem p77_e_4 (a0 a1 : List Rowd) : run tt (AbsCalls Try.prog) I77 3000 false [.code I77.body] ⟨(zBg 0 (xDf a0 a1)), [false], [], []⟩ = some (.stop (stkAt 4 I77.body) (S77_4 a0 a1 0) [(((List.length a0 : Int) : Int) != (List.length a1 : Int)) = false]) := by kernel_rfl
theorem c77_4 {N : Nat} : ∀ n x0 x1 x5 r, xCQ N n x0 x1 x5 = some r → Reach Try.prog Try.f77 I77 (stkAt 4 I77.body) (S77_4 x0 x1 x5) (xBL r) := by
 intro n
 induction n with
 | zero => intro x0 x1 x5 r h; have h' : (none : Option (Bool)) = some r := h; cases h'
 | succ n ih =>
  intro x0 x1 x5 r h
  rw [xCQ] at h
  rcases cond_inv h with ⟨h0, h⟩ | ⟨h0, h⟩
  ·obtain ⟨h1, h⟩ := ite_inv h
   obtain ⟨h2, h⟩ := ite_inv h
   obtain ⟨r1, h3, h⟩ := bind_inv h
   rcases cond_inv h with ⟨h4, h⟩ | ⟨h4, h⟩
   ·obtain rfl := Option.some.inj h
    exact Reach.done ttok mix fk77 (p77_4_0 x0 x1 x5 r1) (obs_cons h0 (obs_cons h1 (obs_cons h2 (obs_cons (laws_eqRow_ok h3) (obs_cons h4 obs_nil)))))
   ·exact Reach.stop ttok mix fk77 (p77_4_1 x0 x1 x5 r1) (obs_cons h0 (obs_cons h1 (obs_cons h2 (obs_cons (laws_eqRow_ok h3) (obs_cons h4 obs_nil))))) (ih _ _ _ _ h)
  ·obtain rfl := Option.some.inj h
   exact Reach.done ttok mix fk77 (p77_4_2 x0 x1 x5) (obs_cons h0 obs_nil)
theorem c77_e {N : Nat} : ∀ a0 a1 r, xD6 N a0 a1 = some r → Reach Try.prog Try.f77 I77 [.code I77.body] (zBg 0 (xDf a0 a1)) (xBL r) := by
 intro a0 a1 r h
 unfold xD6 at h
 rcases cond_inv h with ⟨h0, h⟩ | ⟨h0, h⟩
 ·obtain rfl := Option.some.inj h
  exact Reach.done ttok mix fk77 (p77_e_3 a0 a1) (obs_cons h0 obs_nil)
 ·exact Reach.stop ttok mix fk77 (p77_e_4 a0 a1) (obs_cons h0 obs_nil) (c77_4   _ _ _ _ _ h)
theorem xE9 {N : Nat} {a0 : List Rowd} {a1 : List Rowd} {r : Bool} (h : xD6 N  a0 a1 = some r) : AbC 77 (xDf a0 a1) (xBL r) :=
 AbsCalls.of_reach fk77 rfl rfl (Nat.le_of_ble_eq_true rfl) (c77_e a0 a1 r h)
noncomputable def I19 : Info := { body := (Try.f19.body).getD .skip, nt := 43, results := [.tmp 4], keep := [0, 2, 4, 6, 8, 18, 28, 38, 48, 60, 72, 84, 5, 7], live := [], modes := [], ext := [], lnt := [], casts := [], fcast := [] }
theorem fk19 : FnOk Try.prog 19 Try.f19 I19 := ⟨Try.func19, by kernel_rfl, by kernel_rfl, by kernel_rfl, by kernel_rfl⟩
theorem p19_e_0 (a0 a1 : Val) : run tt (AbsCalls Try.prog) I19 3000 false [.code I19.body] ⟨(zBg 0 (xAf a0 a1)), [true], [], []⟩ = some (.done (xAb false) [(((Val.kind a0) : Int) != (Val.kind a1)) = true]) := by kernel_rfl
theorem p19_e_1 (a0 a1 : Val) : run tt (AbsCalls Try.prog) I19 3000 false [.code I19.body] ⟨(zBg 0 (xAf a0 a1)), [false, true], [], []⟩ = some (.done (xAb false) [(((Val.kind a0) : Int) != (Val.kind a1)) = false, (((Val.n a0) : Int) != (Val.n a1)) = true]) := by kernel_rfl
theorem p19_e_2 (a0 a1 : Val) : run tt (AbsCalls Try.prog) I19 3000 false [.code I19.body] ⟨(zBg 0 (xAf a0 a1)), [false, false, true], [], []⟩ = some (.done (xAb false) [(((Val.kind a0) : Int) != (Val.kind a1)) = false, (((Val.n a0) : Int) != (Val.n a1)) = false, (((Val.step a0) : Int) != (Val.step a1)) = true]) := by kernel_rfl
theorem p19_e_3 (a0 a1 : Val) : run tt (AbsCalls Try.prog) I19 3000 false [.code I19.body] ⟨(zBg 0 (xAf a0 a1)), [false, false, false, true], [], []⟩ = some (.done (xAb false) [(((Val.kind a0) : Int) != (Val.kind a1)) = false, (((Val.n a0) : Int) != (Val.n a1)) = false, (((Val.step a0) : Int) != (Val.step a1)) = false, (!(((Val.text a0) : Str) == (Val.text a1))) = true]) := by kernel_rfl
theorem p19_e_4 (a0 a1 : Val) (r1 : Bool) : run tt (AbsCalls Try.prog) I19 3000 false [.code I19.body] ⟨(zBg 0 (xAf a0 a1)), [false, false, false, false, true], [xAz r1], []⟩ = some (.done (xAb false) [(((Val.kind a0) : Int) != (Val.kind a1)) = false, (((Val.n a0) : Int) != (Val.n a1)) = false, (((Val.step a0) : Int) != (Val.step a1)) = false, (!(((Val.text a0) : Str) == (Val.text a1))) = false, AbC 66 (xAS (Val.list a0) (Val.list a1)) (xAz r1), (!r1) = true]) := by kernel_rfl
theorem p19_e_5 (a0 a1 : Val) (r1 r2 : Bool) : run tt (AbsCalls Try.prog) I19 3000 false [.code I19.body] ⟨(zBg 0 (xAf a0 a1)), [false, false, false, false, false, true], [xAz r1, xAY r2], []⟩ = some (.done (xAb false) [(((Val.kind a0) : Int) != (Val.kind a1)) = false, (((Val.n a0) : Int) != (Val.n a1)) = false, (((Val.step a0) : Int) != (Val.step a1)) = false, (!(((Val.text a0) : Str) == (Val.text a1))) = false, AbC 66 (xAS (Val.list a0) (Val.list a1)) (xAz r1), (!r1) = false, AbC 76 (xBV (Val.columns a0) (Val.columns a1)) (xAY r2), (!r2) = true]) := by kernel_rfl
theorem p19_e_6 (a0 a1 : Val) (r1 r2 r3 : Bool) : run tt (AbsCalls Try.prog) I19 3000 false [.code I19.body] ⟨(zBg 0 (xAf a0 a1)), [false, false, false, false, false, false, true], [xAz r1, xAY r2, xBL r3], []⟩ = some (.done (xAb false) [(((Val.kind a0) : Int) != (Val.kind a1)) = false, (((Val.n a0) : Int) != (Val.n a1)) = false, (((Val.step a0) : Int) != (Val.step a1)) = false, (!(((Val.text a0) : Str) == (Val.text a1))) = false, AbC 66 (xAS (Val.list a0) (Val.list a1)) (xAz r1), (!r1) = false, AbC 76 (xBV (Val.columns a0) (Val.columns a1)) (xAY r2), (!r2) = false, AbC 77 (xDf (Val.rows a0) (Val.rows a1)) (xBL r3), (!r3) = true]) := by kernel_rfl
theorem p19_e_7 (a0 a1 : Val) (r1 r2 r3 : Bool) : run tt (AbsCalls Try.prog) I19 3000 false [.code I19.body] ⟨(zBg 0 (xAf a0 a1)), [false, false, false, false, false, false, false], [xAz r1, xAY r2, xBL r3], []⟩ = some (.done (xAb true) [(((Val.kind a0) : Int) != (Val.kind a1)) = false, (((Val.n a0) : Int) != (Val.n a1)) = false, (((Val.step a0) : Int) != (Val.step a1)) = false, (!(((Val.text a0) : Str) == (Val.text a1))) = false, AbC 66 (xAS (Val.list a0) (Val.list a1)) (xAz r1), (!r1) = false, AbC 76 (xBV (Val.columns a0) (Val.columns a1)) (xAY r2), (!r2) = false, AbC 77 (xDf (Val.rows a0) (Val.rows a1)) (xBL r3), (!r3) = false]) := by kernel_rfl
theorem c19_e {N : Nat} {rc_laws_eqValue : Val → Val → Option (Bool)} (hrc_laws_eqValue : ∀ a0 a1 r, rc_laws_eqValue a0 a1 = some r → AbC 19 (xAf a0 a1) (xAb r)) {rc_laws_eqValueS : (List Val) → (List Val) → Option (Bool)} (hrc_laws_eqValueS : ∀ a0 a1 r, rc_laws_eqValueS a0 a1 = some r → AbC 66 (xAS a0 a1) (xAz r)) : ∀ a0 a1 r, xCv N rc_laws_eqValue rc_laws_eqValueS a0 a1 = some r → Reach Try.prog Try.f19 I19 [.code I19.body] (zBg 0 (xAf a0 a1)) (xAb r) := by
 intro a0 a1 r h
 unfold xCv at h
 rcases cond_inv h with ⟨h0, h⟩ | ⟨h0, h⟩
 ·obtain rfl := Option.some.inj h
  exact Reach.done ttok mix fk19 (p19_e_0 a0 a1) (obs_cons h0 obs_nil)
 ·rcases cond_inv h with ⟨h1, h⟩ | ⟨h1, h⟩
  ·obtain rfl := Option.some.inj h
   exact Reach.done ttok mix fk19 (p19_e_1 a0 a1) (obs_cons h0 (obs_cons h1 obs_nil))
  ·rcases cond_inv h with ⟨h2, h⟩ | ⟨h2, h⟩
   ·obtain rfl := Option.some.inj h
    exact Reach.done ttok mix fk19 (p19_e_2 a0 a1) (obs_cons h0 (obs_cons h1 (obs_cons h2 obs_nil)))
   ·rcases cond_inv h with ⟨h3, h⟩ | ⟨h3, h⟩
    ·obtain rfl := Option.some.inj h
     exact Reach.done ttok mix fk19 (p19_e_3 a0 a1) (obs_cons h0 (obs_cons h1 (obs_cons h2 (obs_cons h3 obs_nil))))
    ·obtain ⟨r1, h4, h⟩ := bind_inv h
     rcases cond_inv h with ⟨h5, h⟩ | ⟨h5, h⟩
     ·obtain rfl := Option.some.inj h
      exact Reach.done ttok mix fk19 (p19_e_4 a0 a1 r1) (obs_cons h0 (obs_cons h1 (obs_cons h2 (obs_cons h3 (obs_cons (hrc_laws_eqValueS _ _ _ h4) (obs_cons h5 obs_nil))))))
     ·obtain ⟨r2, h6, h⟩ := bind_inv h
      rcases cond_inv h with ⟨h7, h⟩ | ⟨h7, h⟩
      ·obtain rfl := Option.some.inj h
       exact Reach.done ttok mix fk19 (p19_e_5 a0 a1 r1 r2) (obs_cons h0 (obs_cons h1 (obs_cons h2 (obs_cons h3 (obs_cons (hrc_laws_eqValueS _ _ _ h4) (obs_cons h5 (obs_cons (xD7 h6) (obs_cons h7 obs_nil))))))))
      ·obtain ⟨r3, h8, h⟩ := bind_inv h
       rcases cond_inv h with ⟨h9, h⟩ | ⟨h9, h⟩
       ·obtain rfl := Option.some.inj h
        exact Reach.done ttok mix fk19 (p19_e_6 a0 a1 r1 r2 r3) (obs_cons h0 (obs_cons h1 (obs_cons h2 (obs_cons h3 (obs_cons (hrc_laws_eqValueS _ _ _ h4) (obs_cons h5 (obs_cons (xD7 h6) (obs_cons h7 (obs_cons (xE9 h8) (obs_cons h9 obs_nil))))))))))
       ·obtain rfl := Option.some.inj h
        exact Reach.done ttok mix fk19 (p19_e_7 a0 a1 r1 r2 r3) (obs_cons h0 (obs_cons h1 (obs_cons h2 (obs_cons h3 (obs_cons (hrc_laws_eqValueS _ _ _ h4) (obs_cons h5 (obs_cons (xD7 h6) (obs_cons h7 (obs_cons (xE9 h8) (obs_cons h9 obs_nil))))))))))
theorem xE4 {N : Nat} {rc_laws_eqValue : Val → Val → Option (Bool)} (hrc_laws_eqValue : ∀ a0 a1 r, rc_laws_eqValue a0 a1 = some r → AbC 19 (xAf a0 a1) (xAb r)) {rc_laws_eqValueS : (List Val) → (List Val) → Option (Bool)} (hrc_laws_eqValueS : ∀ a0 a1 r, rc_laws_eqValueS a0 a1 = some r → AbC 66 (xAS a0 a1) (xAz r)) {a0 : Val} {a1 : Val} {r : Bool} (h : xCv N rc_laws_eqValue rc_laws_eqValueS a0 a1 = some r) : AbC 19 (xAf a0 a1) (xAb r) :=
 AbsCalls.of_reach fk19 rfl rfl (Nat.le_of_ble_eq_true rfl) (c19_e hrc_laws_eqValue hrc_laws_eqValueS a0 a1 r h)
noncomputable def I66 : Info := { body := (Try.f66.body).getD .skip, nt := 27, results := [.tmp 4], keep := [0, 2, 8, 10, 20, 28, 52], live := [(4, [0, 2, 10])], modes := [], ext := [], lnt := [], casts := [], fcast := [] }
theorem fk66 : FnOk Try.prog 66 Try.f66 I66 := ⟨Try.func66, by kernel_rfl, by kernel_rfl, by kernel_rfl, by kernel_rfl⟩
def S66_4 (x0 x1 : List Val) (x5 : Int) : St := [(0, .v false [.sl .ro .val x0]), (2, .v false [.sl .ro .val x1]), (10, .v false [.int .i64 x5])]
theorem p66_4_0 (x0 x1 : List Val) (x5 : Int) (r1 : Bool) : run tt (AbsCalls Try.prog) I66 3000 true (stkAt 4 I66.body) ⟨(S66_4 x0 x1 x5), [true, true], [xAb r1], []⟩ = some (.done (xAz false) [(decide ((x5 : Int) < (List.length x0 : Int))) = true, (0 : Int) ≤ x5 ∧ x5 < (List.length x0), (0 : Int) ≤ x5 ∧ x5 < (List.length x1), AbC 19 (xAf (List.getD x0 (Int.toNat x5) Ty.val.dflt) (List.getD x1 (Int.toNat x5) Ty.val.dflt)) (xAb r1), (!r1) = true]) := by kernel_rfl
theorem p66_4_1 (x0 x1 : List Val) (x5 : Int) (r1 : Bool) : run tt (AbsCalls Try.prog) I66 3000 true (stkAt 4 I66.body) ⟨(S66_4 x0 x1 x5), [true, false], [xAb r1], []⟩ = some (.stop (stkAt 4 I66.body) (S66_4 x0 x1 (IntKind.i64.wrap (x5 + 1))) [(decide ((x5 : Int) < (List.length x0 : Int))) = true, (0 : Int) ≤ x5 ∧ x5 < (List.length x0), (0 : Int) ≤ x5 ∧ x5 < (List.length x1), AbC 19 (xAf (List.getD x0 (Int.toNat x5) Ty.val.dflt) (List.getD x1 (Int.toNat x5) Ty.val.dflt)) (xAb r1), (!r1) = false]) := by kernel_rfl
theorem p66_4_2 (x0 x1 : List Val) (x5 : Int) : run tt (AbsCalls Try.prog) I66 3000 true (stkAt 4 I66.body) ⟨(S66_4 x0 x1 x5), [false], [], []⟩ = some (.done (xAz true) [(decide ((x5 : Int) < (List.length x0 : Int))) = false]) := by kernel_rfl
theorem p66_e_3 (a0 a1 : List Val) : run tt (AbsCalls Try.prog) I66 3000 false [.code I66.body] ⟨(zBg 0 (xAS a0 a1)), [true], [], []⟩ = some (.done (xAz false) [(((List.length a0 : Int) : Int) != (List.length a1 : Int)) = true]) := by kernel_rfl
theorem p66_e_4 (a0 a1 : List Val) : run tt (AbsCalls Try.prog) I66 3000 false [.code I66.body] ⟨(zBg 0 (xAS a0 a1)), [false], [], []⟩ = some (.stop (stkAt 4 I66.body) (S66_4 a0 a1 0) [(((List.length a0 : Int) : Int) != (List.length a1 : Int)) = false]) := by kernel_rfl
theorem c66_4 {N : Nat} {rc_laws_eqValue : Val → Val → Option (Bool)} (hrc_laws_eqValue : ∀ a0 a1 r, rc_laws_eqValue a0 a1 = some r → AbC 19 (xAf a0 a1) (xAb r)) {rc_laws_eqValueS : (List Val) → (List Val) → Option (Bool)} (hrc_laws_eqValueS : ∀ a0 a1 r, rc_laws_eqValueS a0 a1 = some r → AbC 66 (xAS a0 a1) (xAz r)) : ∀ n x0 x1 x5 r, xCd N rc_laws_eqValue rc_laws_eqValueS n x0 x1 x5 = some r → Reach Try.prog Try.f66 I66 (stkAt 4 I66.body) (S66_4 x0 x1 x5) (xAz r) := by
 intro n
 induction n with
 | zero => intro x0 x1 x5 r h; have h' : (none : Option (Bool)) = some r := h; cases h'
 | succ n ih =>
  intro x0 x1 x5 r h
  rw [xCd] at h
  rcases cond_inv h with ⟨h0, h⟩ | ⟨h0, h⟩
  ·obtain ⟨h1, h⟩ := ite_inv h
   obtain ⟨h2, h⟩ := ite_inv h
   obtain ⟨r1, h3, h⟩ := bind_inv h
   rcases cond_inv h with ⟨h4, h⟩ | ⟨h4, h⟩
   ·obtain rfl := Option.some.inj h
    exact Reach.done ttok mix fk66 (p66_4_0 x0 x1 x5 r1) (obs_cons h0 (obs_cons h1 (obs_cons h2 (obs_cons (hrc_laws_eqValue _ _ _ h3) (obs_cons h4 obs_nil)))))
   ·exact Reach.stop ttok mix fk66 (p66_4_1 x0 x1 x5 r1) (obs_cons h0 (obs_cons h1 (obs_cons h2 (obs_cons (hrc_laws_eqValue _ _ _ h3) (obs_cons h4 obs_nil))))) (ih _ _ _ _ h)
  ·obtain rfl := Option.some.inj h
   exact Reach.done ttok mix fk66 (p66_4_2 x0 x1 x5) (obs_cons h0 obs_nil)
theorem c66_e {N : Nat} {rc_laws_eqValue : Val → Val → Option (Bool)} (hrc_laws_eqValue : ∀ a0 a1 r, rc_laws_eqValue a0 a1 = some r → AbC 19 (xAf a0 a1) (xAb r)) {rc_laws_eqValueS : (List Val) → (List Val) → Option (Bool)} (hrc_laws_eqValueS : ∀ a0 a1 r, rc_laws_eqValueS a0 a1 = some r → AbC 66 (xAS a0 a1) (xAz r)) : ∀ a0 a1 r, xCa N rc_laws_eqValue rc_laws_eqValueS a0 a1 = some r → Reach Try.prog Try.f66 I66 [.code I66.body] (zBg 0 (xAS a0 a1)) (xAz r) := by
 intro a0 a1 r h
 unfold xCa at h
 rcases cond_inv h with ⟨h0, h⟩ | ⟨h0, h⟩
 ·obtain rfl := Option.some.inj h
  exact Reach.done ttok mix fk66 (p66_e_3 a0 a1) (obs_cons h0 obs_nil)
 ·exact Reach.stop ttok mix fk66 (p66_e_4 a0 a1) (obs_cons h0 obs_nil) (c66_4 hrc_laws_eqValue hrc_laws_eqValueS  _ _ _ _ _ h)
theorem xES {N : Nat} {rc_laws_eqValue : Val → Val → Option (Bool)} (hrc_laws_eqValue : ∀ a0 a1 r, rc_laws_eqValue a0 a1 = some r → AbC 19 (xAf a0 a1) (xAb r)) {rc_laws_eqValueS : (List Val) → (List Val) → Option (Bool)} (hrc_laws_eqValueS : ∀ a0 a1 r, rc_laws_eqValueS a0 a1 = some r → AbC 66 (xAS a0 a1) (xAz r)) {a0 : List Val} {a1 : List Val} {r : Bool} (h : xCa N rc_laws_eqValue rc_laws_eqValueS a0 a1 = some r) : AbC 66 (xAS a0 a1) (xAz r) :=
 AbsCalls.of_reach fk66 rfl rfl (Nat.le_of_ble_eq_true rfl) (c66_e hrc_laws_eqValue hrc_laws_eqValueS a0 a1 r h)
theorem xFd {N : Nat} : ∀ d, (∀ a0 a1 r, (xAJ N d).c_laws_eqValue a0 a1 = some r → AbC 19 (xAf a0 a1) (xAb r)) ∧ (∀ a0 a1 r, (xAJ N d).c_laws_eqValueS a0 a1 = some r → AbC 66 (xAS a0 a1) (xAz r)) := by
 intro d
 induction d with
 | zero =>
  refine ⟨?_, ?_⟩ <;> (intros; rename_i h; cases h)
 | succ d ih =>
  obtain ⟨ih0, ih1⟩ := ih
  refine ⟨?_, ?_⟩
  ·intro _ _ r h; exact xE4 (N := N) ih0 ih1 h
  ·intro _ _ r h; exact xES (N := N) ih0 ih1 h
theorem xAu {N : Nat} {a0 : Val} {a1 : Val} {r : Bool} (h : xDU N a0 a1 = some r) : AbC 19 (xAf a0 a1) (xAb r) := (xFd N).1 _ _ r h
noncomputable def I79 : Info := { body := (Try.f79.body).getD .skip, nt := 20, results := [.tmp 2], keep := [0, 4, 6, 10, 14], live := [(4, [0, 6])], modes := [], ext := [], lnt := [], casts := [], fcast := [] }
theorem fk79 : FnOk Try.prog 79 Try.f79 I79 := ⟨Try.func79, by kernel_rfl, by kernel_rfl, by kernel_rfl, by kernel_rfl⟩
def S79_4 (x0 : Int) (x3 : Str) : St := [(0, .v false [.int .i64 x0]), (6, .v false [.str x3])]
theorem p79_4_0 (x0 : Int) (x3 : Str) : run tt (AbsCalls Try.prog) I79 3000 true (stkAt 4 I79.body) ⟨(S79_4 x0 x3), [true], [], []⟩ = some (.stop (stkAt 4 I79.body) (S79_4 (IntKind.i64.wrap (Int.tdiv x0 10)) ((List.map (fun n => UInt8.ofNat (Int.toNat n)) [(IntKind.u8.wrap ((IntKind.i64.wrap (48 + (Int.tmod x0 10)))))]) ++ x3)) [(decide ((x0 : Int) > 0)) = true, 10 ≠ (0 : Int), List.length (List.map (fun n => UInt8.ofNat (Int.toNat n)) [(IntKind.u8.wrap ((IntKind.i64.wrap (48 + (Int.tmod x0 10)))))]) + List.length x3 ≤ Lim, 10 ≠ (0 : Int)]) := by kernel_rfl
theorem p79_4_1 (x0 : Int) (x3 : Str) : run tt (AbsCalls Try.prog) I79 3000 true (stkAt 4 I79.body) ⟨(S79_4 x0 x3), [false], [], []⟩ = some (.done (xAr ([109] ++ x3)) [(decide ((x0 : Int) > 0)) = false, List.length [109] + List.length x3 ≤ Lim]) := by kernel_rfl
theorem p79_e_2 (a0 : Int) : run tt (AbsCalls Try.prog) I79 3000 false [.code I79.body] ⟨(zBg 0 (xAU a0)), [true], [], []⟩ = some (.done (xAr [109, 48]) [(decide ((a0 : Int) ≤ 0)) = true]) := by kernel_rfl
theorem p79_e_3 (a0 : Int) : run tt (AbsCalls Try.prog) I79 3000 false [.code I79.body] ⟨(zBg 0 (xAU a0)), [false], [], []⟩ = some (.stop (stkAt 4 I79.body) (S79_4 a0 []) [(decide ((a0 : Int) ≤ 0)) = false]) := by kernel_rfl
theorem c79_4 {N : Nat} : ∀ n x0 x3 r, xCj N n x0 x3 = some r → Reach Try.prog Try.f79 I79 (stkAt 4 I79.body) (S79_4 x0 x3) (xAr r) := by
 intro n
 induction n with
 | zero => intro x0 x3 r h; have h' : (none : Option (Str)) = some r := h; cases h'
 | succ n ih =>
  intro x0 x3 r h
  rw [xCj] at h
  rcases cond_inv h with ⟨h0, h⟩ | ⟨h0, h⟩
  ·obtain ⟨h2, h⟩ := ite_inv h
   exact Reach.stop ttok mix fk79 (p79_4_0 x0 x3) (obs_cons h0 (obs_cons (by decide) (obs_cons h2 (obs_cons (by decide) obs_nil)))) (ih _ _ _ h)
  ·obtain ⟨h1, h⟩ := ite_inv h
   obtain rfl := Option.some.inj h
   exact Reach.done ttok mix fk79 (p79_4_1 x0 x3) (obs_cons h0 (obs_cons h1 obs_nil))
theorem c79_e {N : Nat} : ∀ a0 r, xB6 N a0 = some r → Reach Try.prog Try.f79 I79 [.code I79.body] (zBg 0 (xAU a0)) (xAr r) := by
 intro a0 r h
 unfold xB6 at h
 rcases cond_inv h with ⟨h0, h⟩ | ⟨h0, h⟩
 ·obtain rfl := Option.some.inj h
  exact Reach.done ttok mix fk79 (p79_e_2 a0) (obs_cons h0 obs_nil)
 ·exact Reach.stop ttok mix fk79 (p79_e_3 a0) (obs_cons h0 obs_nil) (c79_4   _ _ _ _ h)
theorem xBq {N : Nat} {a0 : Int} {r : Str} (h : xB6 N  a0 = some r) : AbC 79 (xAU a0) (xAr r) :=
 AbsCalls.of_reach fk79 rfl rfl (Nat.le_of_ble_eq_true rfl) (c79_e a0 r h)
noncomputable def I80 : Info := { body := (Try.f80.body).getD .skip, nt := 20, results := [.tmp 4], keep := [0, 2, 8, 10, 18], live := [(2, [0, 2, 10])], modes := [(4, [(0, .ref, false)])], ext := [], lnt := [(0, 0)], casts := [], fcast := [] }
theorem fk80 : FnOk Try.prog 80 Try.f80 I80 := ⟨Try.func80, by kernel_rfl, by kernel_rfl, by kernel_rfl, by kernel_rfl⟩
def S80_2 (x0 : List Str) (x1 x5 : Int) : St := [(0, .v false [.sl (.lnt 0) .str x0]), (2, .v false [.int .i64 x1]), (10, .v false [.int .i64 x5])]
theorem p80_2_0 (x0 : List Str) (x1 x5 : Int) (r1 : Str) : run tt (AbsCalls Try.prog) I80 3000 true (stkAt 2 I80.body) ⟨(S80_2 x0 x1 x5), [true], [xAr r1], []⟩ = some (.stop (stkAt 2 I80.body) (S80_2 (List.set x0 (Int.toNat x5) r1) (IntKind.i64.wrap (x1 + 1)) (IntKind.i64.wrap (x5 + 1))) [(decide ((x5 : Int) < (List.length x0 : Int))) = true, AbC 79 (xAU x1) (xAr r1), (0 : Int) ≤ x5 ∧ x5 < (List.length x0)]) := by kernel_rfl
theorem p80_2_1 (x0 : List Str) (x1 x5 : Int) : run tt (AbsCalls Try.prog) I80 3000 true (stkAt 2 I80.body) ⟨(S80_2 x0 x1 x5), [false], [], []⟩ = some (.done (xBm (x1, x0)) [(decide ((x5 : Int) < (List.length x0 : Int))) = false]) := by kernel_rfl
theorem p80_e_2 (a0 : List Str) (a1 : Int) : run tt (AbsCalls Try.prog) I80 3000 false [.code I80.body] ⟨(zBg 0 (xCE a0 a1)), [], [], []⟩ = some (.stop (stkAt 2 I80.body) (S80_2 a0 a1 0) []) := by kernel_rfl
theorem c80_2 {N : Nat} : ∀ n x0 x1 x5 r, xBI N n x0 x1 x5 = some r → Reach Try.prog Try.f80 I80 (stkAt 2 I80.body) (S80_2 x0 x1 x5) (xBm r) := by
 intro n
 induction n with
 | zero => intro x0 x1 x5 r h; have h' : (none : Option (Int × (List Str))) = some r := h; cases h'
 | succ n ih =>
  intro x0 x1 x5 r h
  rw [xBI] at h
  rcases cond_inv h with ⟨h0, h⟩ | ⟨h0, h⟩
  ·obtain ⟨r1, h1, h⟩ := bind_inv h
   obtain ⟨h2, h⟩ := ite_inv h
   exact Reach.stop ttok mix fk80 (p80_2_0 x0 x1 x5 r1) (obs_cons h0 (obs_cons (xBq h1) (obs_cons h2 obs_nil))) (ih _ _ _ _ h)
  ·obtain rfl := Option.some.inj h
   exact Reach.done ttok mix fk80 (p80_2_1 x0 x1 x5) (obs_cons h0 obs_nil)
theorem c80_e {N : Nat} : ∀ a0 a1 r, xCK N a0 a1 = some r → Reach Try.prog Try.f80 I80 [.code I80.body] (zBg 0 (xCE a0 a1)) (xBm r) := by
 intro a0 a1 r h
 unfold xCK at h
 exact Reach.stop ttok mix fk80 (p80_e_2 a0 a1) obs_nil (c80_2   _ _ _ _ _ h)
theorem xEt {N : Nat} {a0 : List Str} {a1 : Int} {r : Int × (List Str)} (h : xCK N  a0 a1 = some r) : AbC 80 (xCE a0 a1) (xBm r) :=
 AbsCalls.of_reach fk80 rfl rfl (Nat.le_of_ble_eq_true rfl) (c80_e a0 a1 r h)
end Go.Ab.T
end
section
open Go.Proofs
namespace Go.Ab.T
set_option linter.unusedVariables false
set_option maxRecDepth 100000
noncomputable def I130 : Info := { body := (Try.f130.body).getD .skip, nt := 19, results := [.tmp 4], keep := [0, 2, 8, 10, 18], live := [(2, [0, 2, 10])], modes := [(4, [(0, .ref, false)])], ext := [], lnt := [(0, 0)], casts := [], fcast := [] }
theorem fk130 : FnOk Try.prog 130 Try.f130 I130 := ⟨Try.func130, by kernel_rfl, by kernel_rfl, by kernel_rfl, by kernel_rfl⟩
def S130_2 (x0 : List Int) (x1 x5 : Int) : St := [(0, .v false [.sl (.lnt 0) .int x0]), (2, .v false [.int .i64 x1]), (10, .v false [.int .i64 x5])]
theorem p130_2_0 (x0 : List Int) (x1 x5 : Int) : run tt (AbsCalls Try.prog) I130 3000 true (stkAt 2 I130.body) ⟨(S130_2 x0 x1 x5), [true], [], []⟩ = some (.stop (stkAt 2 I130.body) (S130_2 (List.set x0 (Int.toNat x5) x1) (IntKind.i64.wrap (x1 + 1)) (IntKind.i64.wrap (x5 + 1))) [(decide ((x5 : Int) < (List.length x0 : Int))) = true, (0 : Int) ≤ x5 ∧ x5 < (List.length x0)]) := by kernel_rfl
theorem p130_2_1 (x0 : List Int) (x1 x5 : Int) : run tt (AbsCalls Try.prog) I130 3000 true (stkAt 2 I130.body) ⟨(S130_2 x0 x1 x5), [false], [], []⟩ = some (.done (xCJ (x1, x0)) [(decide ((x5 : Int) < (List.length x0 : Int))) = false]) := by kernel_rfl
theorem p130_e_2 (a0 : List Int) (a1 : Int) : run tt (AbsCalls Try.prog) I130 3000 false [.code I130.body] ⟨(zBg 0 (xDL a0 a1)), [], [], []⟩ = some (.stop (stkAt 2 I130.body) (S130_2 a0 a1 0) []) := by kernel_rfl
theorem c130_2 {N : Nat} : ∀ n x0 x1 x5 r, xCh N n x0 x1 x5 = some r → Reach Try.prog Try.f130 I130 (stkAt 2 I130.body) (S130_2 x0 x1 x5) (xCJ r) := by
 intro n
 induction n with
 | zero => intro x0 x1 x5 r h; have h' : (none : Option (Int × (List Int))) = some r := h; cases h'
 | succ n ih =>
  intro x0 x1 x5 r h
  rw [xCh] at h
  rcases cond_inv h with ⟨h0, h⟩ | ⟨h0, h⟩
  ·obtain ⟨h1, h⟩ := ite_inv h
   exact Reach.stop ttok mix fk130 (p130_2_0 x0 x1 x5) (obs_cons h0 (obs_cons h1 obs_nil)) (ih _ _ _ _ h)
  ·obtain rfl := Option.some.inj h
   exact Reach.done ttok mix fk130 (p130_2_1 x0 x1 x5) (obs_cons h0 obs_nil)
theorem c130_e {N : Nat} : ∀ a0 a1 r, xDX N a0 a1 = some r → Reach Try.prog Try.f130 I130 [.code I130.body] (zBg 0 (xDL a0 a1)) (xCJ r) := by
 intro a0 a1 r h
 unfold xDX at h
 exact Reach.stop ttok mix fk130 (p130_e_2 a0 a1) obs_nil (c130_2   _ _ _ _ _ h)
theorem laws_markIntS_ok {N : Nat} {a0 : List Int} {a1 : Int} {r : Int × (List Int)} (h : xDX N  a0 a1 = some r) : AbC 130 (xDL a0 a1) (xCJ r) :=
 AbsCalls.of_reach fk130 rfl rfl (Nat.le_of_ble_eq_true rfl) (c130_e a0 a1 r h)
noncomputable def I59 : Info := { body := (Try.f59.body).getD .skip, nt := 27, results := [.tmp 4], keep := [0, 2, 8, 10, 18], live := [(2, [0, 2, 10])], modes := [(4, [(0, .ref, false)]), (6, [(0, .ref, false)])], ext := [], lnt := [(0, 0)], casts := [], fcast := [] }
theorem fk59 : FnOk Try.prog 59 Try.f59 I59 := ⟨Try.func59, by kernel_rfl, by kernel_rfl, by kernel_rfl, by kernel_rfl⟩
def S59_2 (x0 : List Org) (x1 x5 : Int) : St := [(0, .v false [.sl (.lnt 0) .org x0]), (2, .v false [.int .i64 x1]), (10, .v false [.int .i64 x5])]
theorem p59_2_0 (x0 : List Org) (x1 x5 : Int) : run tt (AbsCalls Try.prog) I59 3000 true (stkAt 2 I59.body) ⟨(S59_2 x0 x1 x5), [true], [], []⟩ = some (.stop (stkAt 2 I59.body) (S59_2 ((fun (z1 : List Org) => List.set z1 (Int.toNat x5) (Org.mk (Org.cell (List.getD z1 (Int.toNat x5) Ty.org.dflt)) (IntKind.i64.wrap (x1 + 1)))) (List.set x0 (Int.toNat x5) (Org.mk x1 (Org.row (List.getD x0 (Int.toNat x5) Ty.org.dflt))))) (IntKind.i64.wrap ((IntKind.i64.wrap (x1 + 1)) + 1)) (IntKind.i64.wrap (x5 + 1))) [(decide ((x5 : Int) < (List.length x0 : Int))) = true, (0 : Int) ≤ x5 ∧ x5 < (List.length x0), (0 : Int) ≤ x5 ∧ x5 < (List.length (List.set x0 (Int.toNat x5) (Org.mk x1 (Org.row (List.getD x0 (Int.toNat x5) Ty.org.dflt)))))]) := by kernel_rfl
theorem p59_2_1 (x0 : List Org) (x1 x5 : Int) : run tt (AbsCalls Try.prog) I59 3000 true (stkAt 2 I59.body) ⟨(S59_2 x0 x1 x5), [false], [], []⟩ = some (.done (xBZ (x1, x0)) [(decide ((x5 : Int) < (List.length x0 : Int))) = false]) := by kernel_rfl
theorem p59_e_2 (a0 : List Org) (a1 : Int) : run tt (AbsCalls Try.prog) I59 3000 false [.code I59.body] ⟨(zBg 0 (xC2 a0 a1)), [], [], []⟩ = some (.stop (stkAt 2 I59.body) (S59_2 a0 a1 0) []) := by kernel_rfl
theorem c59_2 {N : Nat} : ∀ n x0 x1 x5 r, xBH N n x0 x1 x5 = some r → Reach Try.prog Try.f59 I59 (stkAt 2 I59.body) (S59_2 x0 x1 x5) (xBZ r) := by
 intro n
 induction n with
 | zero => intro x0 x1 x5 r h; have h' : (none : Option (Int × (List Org))) = some r := h; cases h'
 | succ n ih =>
  intro x0 x1 x5 r h
  rw [xBH] at h
  rcases cond_inv h with ⟨h0, h⟩ | ⟨h0, h⟩
  ·obtain ⟨h1, h⟩ := ite_inv h
   obtain ⟨h2, h⟩ := ite_inv h
   exact Reach.stop ttok mix fk59 (p59_2_0 x0 x1 x5) (obs_cons h0 (obs_cons h1 (obs_cons h2 obs_nil))) (ih _ _ _ _ h)
  ·obtain rfl := Option.some.inj h
   exact Reach.done ttok mix fk59 (p59_2_1 x0 x1 x5) (obs_cons h0 obs_nil)
theorem c59_e {N : Nat} : ∀ a0 a1 r, xC8 N a0 a1 = some r → Reach Try.prog Try.f59 I59 [.code I59.body] (zBg 0 (xC2 a0 a1)) (xBZ r) := by
 intro a0 a1 r h
 unfold xC8 at h
 exact Reach.stop ttok mix fk59 (p59_e_2 a0 a1) obs_nil (c59_2   _ _ _ _ _ h)
theorem xFe {N : Nat} {a0 : List Org} {a1 : Int} {r : Int × (List Org)} (h : xC8 N  a0 a1 = some r) : AbC 59 (xC2 a0 a1) (xBZ r) :=
 AbsCalls.of_reach fk59 rfl rfl (Nat.le_of_ble_eq_true rfl) (c59_e a0 a1 r h)
noncomputable def I81 : Info := { body := (Try.f81.body).getD .skip, nt := 27, results := [.tmp 4], keep := [0, 2, 8, 10, 18], live := [(2, [0, 2, 10])], modes := [(4, [(0, .ref, false), (4, .ref, false), (6, .ref, false)]), (5, [(0, .ref, false), (4, .ref, false), (6, .ref, false)])], ext := [], lnt := [(0, 0)], casts := [], fcast := [] }
theorem fk81 : FnOk Try.prog 81 Try.f81 I81 := ⟨Try.func81, by kernel_rfl, by kernel_rfl, by kernel_rfl, by kernel_rfl⟩
def S81_2 (x0 : List Rowd) (x1 x5 : Int) : St := [(0, .v false [.sl (.lnt 0) .row x0]), (2, .v false [.int .i64 x1]), (10, .v false [.int .i64 x5])]
theorem p81_2_0 (x0 : List Rowd) (x1 x5 : Int) (r1 : Int × (List Int)) (r2 : Int × (List Org)) : run tt (AbsCalls Try.prog) I81 3000 true (stkAt 2 I81.body) ⟨(S81_2 x0 x1 x5), [true], [xCJ r1, xBZ r2], []⟩ = some (.stop (stkAt 2 I81.body) (S81_2 ((fun (z1 : List Rowd) => List.set z1 (Int.toNat x5) (Rowd.mk (Rowd.cells (List.getD z1 (Int.toNat x5) Ty.row.dflt)) r2.2)) (List.set x0 (Int.toNat x5) (Rowd.mk r1.2 (Rowd.frm (List.getD x0 (Int.toNat x5) Ty.row.dflt))))) r2.1 (IntKind.i64.wrap (x5 + 1))) [(decide ((x5 : Int) < (List.length x0 : Int))) = true, (0 : Int) ≤ x5 ∧ x5 < (List.length x0), AbC 130 (xDL (Rowd.cells (List.getD x0 (Int.toNat x5) Ty.row.dflt)) x1) (xCJ r1), (Int.toNat x5) = (Int.toNat x5), List.length r1.2 = List.length (Rowd.cells (List.getD x0 (Int.toNat x5) Ty.row.dflt)), (0 : Int) ≤ x5 ∧ x5 < (List.length (List.set x0 (Int.toNat x5) (Rowd.mk r1.2 (Rowd.frm (List.getD x0 (Int.toNat x5) Ty.row.dflt))))), AbC 59 (xC2 (Rowd.frm (List.getD (List.set x0 (Int.toNat x5) (Rowd.mk r1.2 (Rowd.frm (List.getD x0 (Int.toNat x5) Ty.row.dflt)))) (Int.toNat x5) Ty.row.dflt)) r1.1) (xBZ r2), (Int.toNat x5) = (Int.toNat x5), List.length r2.2 = List.length (Rowd.frm (List.getD (List.set x0 (Int.toNat x5) (Rowd.mk r1.2 (Rowd.frm (List.getD x0 (Int.toNat x5) Ty.row.dflt)))) (Int.toNat x5) Ty.row.dflt))]) := by kernel_rfl
theorem p81_2_1 (x0 : List Rowd) (x1 x5 : Int) : run tt (AbsCalls Try.prog) I81 3000 true (stkAt 2 I81.body) ⟨(S81_2 x0 x1 x5), [false], [], []⟩ = some (.done (xBR (x1, x0)) [(decide ((x5 : Int) < (List.length x0 : Int))) = false]) := by kernel_rfl
theorem p81_e_2 (a0 : List Rowd) (a1 : Int) : run tt (AbsCalls Try.prog) I81 3000 false [.code I81.body] ⟨(zBg 0 (xC9 a0 a1)), [], [], []⟩ = some (.stop (stkAt 2 I81.body) (S81_2 a0 a1 0) []) := by kernel_rfl
theorem c81_2 {N : Nat} : ∀ n x0 x1 x5 r, xCi N n x0 x1 x5 = some r → Reach Try.prog Try.f81 I81 (stkAt 2 I81.body) (S81_2 x0 x1 x5) (xBR r) := by
 intro n
 induction n with
 | zero => intro x0 x1 x5 r h; have h' : (none : Option (Int × (List Rowd))) = some r := h; cases h'
 | succ n ih =>
  intro x0 x1 x5 r h
  rw [xCi] at h
  rcases cond_inv h with ⟨h0, h⟩ | ⟨h0, h⟩
  ·obtain ⟨h1, h⟩ := ite_inv h
   obtain ⟨r1, h2, h⟩ := bind_inv h
   obtain ⟨h4, h⟩ := ite_inv h
   obtain ⟨h5, h⟩ := ite_inv h
   obtain ⟨r2, h6, h⟩ := bind_inv h
   obtain ⟨h8, h⟩ := ite_inv h
   exact Reach.stop ttok mix fk81 (p81_2_0 x0 x1 x5 r1 r2) (obs_cons h0 (obs_cons h1 (obs_cons (laws_markIntS_ok h2) (obs_cons rfl (obs_cons h4 (obs_cons h5 (obs_cons (xFe h6) (obs_cons rfl (obs_cons h8 obs_nil))))))))) (ih _ _ _ _ h)
  ·obtain rfl := Option.some.inj h
   exact Reach.done ttok mix fk81 (p81_2_1 x0 x1 x5) (obs_cons h0 obs_nil)
theorem c81_e {N : Nat} : ∀ a0 a1 r, xDA N a0 a1 = some r → Reach Try.prog Try.f81 I81 [.code I81.body] (zBg 0 (xC9 a0 a1)) (xBR r) := by
 intro a0 a1 r h
 unfold xDA at h
 exact Reach.stop ttok mix fk81 (p81_e_2 a0 a1) obs_nil (c81_2   _ _ _ _ _ h)
theorem xEK {N : Nat} {a0 : List Rowd} {a1 : Int} {r : Int × (List Rowd)} (h : xDA N  a0 a1 = some r) : AbC 81 (xC9 a0 a1) (xBR r) :=
 AbsCalls.of_reach fk81 rfl rfl (Nat.le_of_ble_eq_true rfl) (c81_e a0 a1 r h)
noncomputable def I67 : Info := { body := (Try.f67.body).getD .skip, nt := 63, results := [.tmp 4], keep := [0, 2, 8, 10, 18], live := [(2, [0, 2, 10])], modes := [(4, [(0, .ref, false)]), (6, [(0, .ref, false)]), (8, [(0, .ref, false)]), (10, [(0, .ref, false)]), (12, [(0, .ref, false), (4, .ref, false), (6, .ref, false)]), (13, [(0, .ref, false), (4, .ref, false), (6, .ref, false)]), (14, [(0, .ref, false), (4, .ref, false), (6, .ref, false)])], ext := [], lnt := [(0, 0)], casts := [], fcast := [] }
theorem fk67 : FnOk Try.prog 67 Try.f67 I67 := ⟨Try.func67, by kernel_rfl, by kernel_rfl, by kernel_rfl, by kernel_rfl⟩
def S67_2 (x0 : List Val) (x1 x5 : Int) : St := [(0, .v false [.sl (.lnt 0) .val x0]), (2, .v false [.int .i64 x1]), (10, .v false [.int .i64 x5])]
theorem p67_2_0 (x0 : List Val) (x1 x5 : Int) (r1 : Str) (r2 : Int × (List Val)) (r3 : Int × (List Str)) (r4 : Int × (List Rowd)) : run tt (AbsCalls Try.prog) I67 3000 true (stkAt 2 I67.body) ⟨(S67_2 x0 x1 x5), [true], [xAr r1, xAL r2, xBm r3, xBR r4], []⟩ = some (.stop (stkAt 2 I67.body) (S67_2 ((fun (z45 : List Val) => List.set z45 (Int.toNat x5) (Val.mk (Val.kind (List.getD z45 (Int.toNat x5) Ty.val.dflt)) (Val.n (List.getD z45 (Int.toNat x5) Ty.val.dflt)) (Val.step (List.getD z45 (Int.toNat x5) Ty.val.dflt)) (Val.text (List.getD z45 (Int.toNat x5) Ty.val.dflt)) (Val.list (List.getD z45 (Int.toNat x5) Ty.val.dflt)) (Val.columns (List.getD z45 (Int.toNat x5) Ty.val.dflt)) r4.2)) ((fun (z44 : List Val) => List.set z44 (Int.toNat x5) (Val.mk (Val.kind (List.getD z44 (Int.toNat x5) Ty.val.dflt)) (Val.n (List.getD z44 (Int.toNat x5) Ty.val.dflt)) (Val.step (List.getD z44 (Int.toNat x5) Ty.val.dflt)) (Val.text (List.getD z44 (Int.toNat x5) Ty.val.dflt)) (Val.list (List.getD z44 (Int.toNat x5) Ty.val.dflt)) r3.2 (Val.rows (List.getD z44 (Int.toNat x5) Ty.val.dflt)))) ((fun (z43 : List Val) => List.set z43 (Int.toNat x5) (Val.mk (Val.kind (List.getD z43 (Int.toNat x5) Ty.val.dflt)) (Val.n (List.getD z43 (Int.toNat x5) Ty.val.dflt)) (Val.step (List.getD z43 (Int.toNat x5) Ty.val.dflt)) (Val.text (List.getD z43 (Int.toNat x5) Ty.val.dflt)) r2.2 (Val.columns (List.getD z43 (Int.toNat x5) Ty.val.dflt)) (Val.rows (List.getD z43 (Int.toNat x5) Ty.val.dflt)))) ((fun (z42 : List Val) => List.set z42 (Int.toNat x5) (Val.mk (Val.kind (List.getD z42 (Int.toNat x5) Ty.val.dflt)) (Val.n (List.getD z42 (Int.toNat x5) Ty.val.dflt)) (Val.step (List.getD z42 (Int.toNat x5) Ty.val.dflt)) r1 (Val.list (List.getD z42 (Int.toNat x5) Ty.val.dflt)) (Val.columns (List.getD z42 (Int.toNat x5) Ty.val.dflt)) (Val.rows (List.getD z42 (Int.toNat x5) Ty.val.dflt)))) ((fun (z41 : List Val) => List.set z41 (Int.toNat x5) (Val.mk (Val.kind (List.getD z41 (Int.toNat x5) Ty.val.dflt)) (Val.n (List.getD z41 (Int.toNat x5) Ty.val.dflt)) (IntKind.i64.wrap ((IntKind.i64.wrap (x1 + 1)) + 1)) (Val.text (List.getD z41 (Int.toNat x5) Ty.val.dflt)) (Val.list (List.getD z41 (Int.toNat x5) Ty.val.dflt)) (Val.columns (List.getD z41 (Int.toNat x5) Ty.val.dflt)) (Val.rows (List.getD z41 (Int.toNat x5) Ty.val.dflt)))) ((fun (z40 : List Val) => List.set z40 (Int.toNat x5) (Val.mk (Val.kind (List.getD z40 (Int.toNat x5) Ty.val.dflt)) (IntKind.i64.wrap (x1 + 1)) (Val.step (List.getD z40 (Int.toNat x5) Ty.val.dflt)) (Val.text (List.getD z40 (Int.toNat x5) Ty.val.dflt)) (Val.list (List.getD z40 (Int.toNat x5) Ty.val.dflt)) (Val.columns (List.getD z40 (Int.toNat x5) Ty.val.dflt)) (Val.rows (List.getD z40 (Int.toNat x5) Ty.val.dflt)))) (List.set x0 (Int.toNat x5) (Val.mk x1 (Val.n (List.getD x0 (Int.toNat x5) Ty.val.dflt)) (Val.step (List.getD x0 (Int.toNat x5) Ty.val.dflt)) (Val.text (List.getD x0 (Int.toNat x5) Ty.val.dflt)) (Val.list (List.getD x0 (Int.toNat x5) Ty.val.dflt)) (Val.columns (List.getD x0 (Int.toNat x5) Ty.val.dflt)) (Val.rows (List.getD x0 (Int.toNat x5) Ty.val.dflt)))))))))) r4.1 (IntKind.i64.wrap (x5 + 1))) [(decide ((x5 : Int) < (List.length x0 : Int))) = true, (0 : Int) ≤ x5 ∧ x5 < (List.length x0), (0 : Int) ≤ x5 ∧ x5 < (List.length (List.set x0 (Int.toNat x5) (Val.mk x1 (Val.n (List.getD x0 (Int.toNat x5) Ty.val.dflt)) (Val.step (List.getD x0 (Int.toNat x5) Ty.val.dflt)) (Val.text (List.getD x0 (Int.toNat x5) Ty.val.dflt)) (Val.list (List.getD x0 (Int.toNat x5) Ty.val.dflt)) (Val.columns (List.getD x0 (Int.toNat x5) Ty.val.dflt)) (Val.rows (List.getD x0 (Int.toNat x5) Ty.val.dflt))))), (0 : Int) ≤ x5 ∧ x5 < (List.length ((fun (z40 : List Val) => List.set z40 (Int.toNat x5) (Val.mk (Val.kind (List.getD z40 (Int.toNat x5) Ty.val.dflt)) (IntKind.i64.wrap (x1 + 1)) (Val.step (List.getD z40 (Int.toNat x5) Ty.val.dflt)) (Val.text (List.getD z40 (Int.toNat x5) Ty.val.dflt)) (Val.list (List.getD z40 (Int.toNat x5) Ty.val.dflt)) (Val.columns (List.getD z40 (Int.toNat x5) Ty.val.dflt)) (Val.rows (List.getD z40 (Int.toNat x5) Ty.val.dflt)))) (List.set x0 (Int.toNat x5) (Val.mk x1 (Val.n (List.getD x0 (Int.toNat x5) Ty.val.dflt)) (Val.step (List.getD x0 (Int.toNat x5) Ty.val.dflt)) (Val.text (List.getD x0 (Int.toNat x5) Ty.val.dflt)) (Val.list (List.getD x0 (Int.toNat x5) Ty.val.dflt)) (Val.columns (List.getD x0 (Int.toNat x5) Ty.val.dflt)) (Val.rows (List.getD x0 (Int.toNat x5) Ty.val.dflt)))))), AbC 79 (xAU (IntKind.i64.wrap ((IntKind.i64.wrap ((IntKind.i64.wrap (x1 + 1)) + 1)) + 1))) (xAr r1), (0 : Int) ≤ x5 ∧ x5 < (List.length ((fun (z41 : List Val) => List.set z41 (Int.toNat x5) (Val.mk (Val.kind (List.getD z41 (Int.toNat x5) Ty.val.dflt)) (Val.n (List.getD z41 (Int.toNat x5) Ty.val.dflt)) (IntKind.i64.wrap ((IntKind.i64.wrap (x1 + 1)) + 1)) (Val.text (List.getD z41 (Int.toNat x5) Ty.val.dflt)) (Val.list (List.getD z41 (Int.toNat x5) Ty.val.dflt)) (Val.columns (List.getD z41 (Int.toNat x5) Ty.val.dflt)) (Val.rows (List.getD z41 (Int.toNat x5) Ty.val.dflt)))) ((fun (z40 : List Val) => List.set z40 (Int.toNat x5) (Val.mk (Val.kind (List.getD z40 (Int.toNat x5) Ty.val.dflt)) (IntKind.i64.wrap (x1 + 1)) (Val.step (List.getD z40 (Int.toNat x5) Ty.val.dflt)) (Val.text (List.getD z40 (Int.toNat x5) Ty.val.dflt)) (Val.list (List.getD z40 (Int.toNat x5) Ty.val.dflt)) (Val.columns (List.getD z40 (Int.toNat x5) Ty.val.dflt)) (Val.rows (List.getD z40 (Int.toNat x5) Ty.val.dflt)))) (List.set x0 (Int.toNat x5) (Val.mk x1 (Val.n (List.getD x0 (Int.toNat x5) Ty.val.dflt)) (Val.step (List.getD x0 (Int.toNat x5) Ty.val.dflt)) (Val.text (List.getD x0 (Int.toNat x5) Ty.val.dflt)) (Val.list (List.getD x0 (Int.toNat x5) Ty.val.dflt)) (Val.columns (List.getD x0 (Int.toNat x5) Ty.val.dflt)) (Val.rows (List.getD x0 (Int.toNat x5) Ty.val.dflt))))))), (0 : Int) ≤ x5 ∧ x5 < (List.length ((fun (z42 : List Val) => List.set z42 (Int.toNat x5) (Val.mk (Val.kind (List.getD z42 (Int.toNat x5) Ty.val.dflt)) (Val.n (List.getD z42 (Int.toNat x5) Ty.val.dflt)) (Val.step (List.getD z42 (Int.toNat x5) Ty.val.dflt)) r1 (Val.list (List.getD z42 (Int.toNat x5) Ty.val.dflt)) (Val.columns (List.getD z42 (Int.toNat x5) Ty.val.dflt)) (Val.rows (List.getD z42 (Int.toNat x5) Ty.val.dflt)))) ((fun (z41 : List Val) => List.set z41 (Int.toNat x5) (Val.mk (Val.kind (List.getD z41 (Int.toNat x5) Ty.val.dflt)) (Val.n (List.getD z41 (Int.toNat x5) Ty.val.dflt)) (IntKind.i64.wrap ((IntKind.i64.wrap (x1 + 1)) + 1)) (Val.text (List.getD z41 (Int.toNat x5) Ty.val.dflt)) (Val.list (List.getD z41 (Int.toNat x5) Ty.val.dflt)) (Val.columns (List.getD z41 (Int.toNat x5) Ty.val.dflt)) (Val.rows (List.getD z41 (Int.toNat x5) Ty.val.dflt)))) ((fun (z40 : List Val) => List.set z40 (Int.toNat x5) (Val.mk (Val.kind (List.getD z40 (Int.toNat x5) Ty.val.dflt)) (IntKind.i64.wrap (x1 + 1)) (Val.step (List.getD z40 (Int.toNat x5) Ty.val.dflt)) (Val.text (List.getD z40 (Int.toNat x5) Ty.val.dflt)) (Val.list (List.getD z40 (Int.toNat x5) Ty.val.dflt)) (Val.columns (List.getD z40 (Int.toNat x5) Ty.val.dflt)) (Val.rows (List.getD z40 (Int.toNat x5) Ty.val.dflt)))) (List.set x0 (Int.toNat x5) (Val.mk x1 (Val.n (List.getD x0 (Int.toNat x5) Ty.val.dflt)) (Val.step (List.getD x0 (Int.toNat x5) Ty.val.dflt)) (Val.text (List.getD x0 (Int.toNat x5) Ty.val.dflt)) (Val.list (List.getD x0 (Int.toNat x5) Ty.val.dflt)) (Val.columns (List.getD x0 (Int.toNat x5) Ty.val.dflt)) (Val.rows (List.getD x0 (Int.toNat x5) Ty.val.dflt)))))))), AbC 67 (xA7 (Val.list (List.getD ((fun (z42 : List Val) => List.set z42 (Int.toNat x5) (Val.mk (Val.kind (List.getD z42 (Int.toNat x5) Ty.val.dflt)) (Val.n (List.getD z42 (Int.toNat x5) Ty.val.dflt)) (Val.step (List.getD z42 (Int.toNat x5) Ty.val.dflt)) r1 (Val.list (List.getD z42 (Int.toNat x5) Ty.val.dflt)) (Val.columns (List.getD z42 (Int.toNat x5) Ty.val.dflt)) (Val.rows (List.getD z42 (Int.toNat x5) Ty.val.dflt)))) ((fun (z41 : List Val) => List.set z41 (Int.toNat x5) (Val.mk (Val.kind (List.getD z41 (Int.toNat x5) Ty.val.dflt)) (Val.n (List.getD z41 (Int.toNat x5) Ty.val.dflt)) (IntKind.i64.wrap ((IntKind.i64.wrap (x1 + 1)) + 1)) (Val.text (List.getD z41 (Int.toNat x5) Ty.val.dflt)) (Val.list (List.getD z41 (Int.toNat x5) Ty.val.dflt)) (Val.columns (List.getD z41 (Int.toNat x5) Ty.val.dflt)) (Val.rows (List.getD z41 (Int.toNat x5) Ty.val.dflt)))) ((fun (z40 : List Val) => List.set z40 (Int.toNat x5) (Val.mk (Val.kind (List.getD z40 (Int.toNat x5) Ty.val.dflt)) (IntKind.i64.wrap (x1 + 1)) (Val.step (List.getD z40 (Int.toNat x5) Ty.val.dflt)) (Val.text (List.getD z40 (Int.toNat x5) Ty.val.dflt)) (Val.list (List.getD z40 (Int.toNat x5) Ty.val.dflt)) (Val.columns (List.getD z40 (Int.toNat x5) Ty.val.dflt)) (Val.rows (List.getD z40 (Int.toNat x5) Ty.val.dflt)))) (List.set x0 (Int.toNat x5) (Val.mk x1 (Val.n (List.getD x0 (Int.toNat x5) Ty.val.dflt)) (Val.step (List.getD x0 (Int.toNat x5) Ty.val.dflt)) (Val.text (List.getD x0 (Int.toNat x5) Ty.val.dflt)) (Val.list (List.getD x0 (Int.toNat x5) Ty.val.dflt)) (Val.columns (List.getD x0 (Int.toNat x5) Ty.val.dflt)) (Val.rows (List.getD x0 (Int.toNat x5) Ty.val.dflt))))))) (Int.toNat x5) Ty.val.dflt)) (IntKind.i64.wrap ((IntKind.i64.wrap ((IntKind.i64.wrap ((IntKind.i64.wrap (x1 + 1)) + 1)) + 1)) + 1))) (xAL r2), (Int.toNat x5) = (Int.toNat x5), List.length r2.2 = List.length (Val.list (List.getD ((fun (z42 : List Val) => List.set z42 (Int.toNat x5) (Val.mk (Val.kind (List.getD z42 (Int.toNat x5) Ty.val.dflt)) (Val.n (List.getD z42 (Int.toNat x5) Ty.val.dflt)) (Val.step (List.getD z42 (Int.toNat x5) Ty.val.dflt)) r1 (Val.list (List.getD z42 (Int.toNat x5) Ty.val.dflt)) (Val.columns (List.getD z42 (Int.toNat x5) Ty.val.dflt)) (Val.rows (List.getD z42 (Int.toNat x5) Ty.val.dflt)))) ((fun (z41 : List Val) => List.set z41 (Int.toNat x5) (Val.mk (Val.kind (List.getD z41 (Int.toNat x5) Ty.val.dflt)) (Val.n (List.getD z41 (Int.toNat x5) Ty.val.dflt)) (IntKind.i64.wrap ((IntKind.i64.wrap (x1 + 1)) + 1)) (Val.text (List.getD z41 (Int.toNat x5) Ty.val.dflt)) (Val.list (List.getD z41 (Int.toNat x5) Ty.val.dflt)) (Val.columns (List.getD z41 (Int.toNat x5) Ty.val.dflt)) (Val.rows (List.getD z41 (Int.toNat x5) Ty.val.dflt)))) ((fun (z40 : List Val) => List.set z40 (Int.toNat x5) (Val.mk (Val.kind (List.getD z40 (Int.toNat x5) Ty.val.dflt)) (IntKind.i64.wrap (x1 + 1)) (Val.step (List.getD z40 (Int.toNat x5) Ty.val.dflt)) (Val.text (List.getD z40 (Int.toNat x5) Ty.val.dflt)) (Val.list (List.getD z40 (Int.toNat x5) Ty.val.dflt)) (Val.columns (List.getD z40 (Int.toNat x5) Ty.val.dflt)) (Val.rows (List.getD z40 (Int.toNat x5) Ty.val.dflt)))) (List.set x0 (Int.toNat x5) (Val.mk x1 (Val.n (List.getD x0 (Int.toNat x5) Ty.val.dflt)) (Val.step (List.getD x0 (Int.toNat x5) Ty.val.dflt)) (Val.text (List.getD x0 (Int.toNat x5) Ty.val.dflt)) (Val.list (List.getD x0 (Int.toNat x5) Ty.val.dflt)) (Val.columns (List.getD x0 (Int.toNat x5) Ty.val.dflt)) (Val.rows (List.getD x0 (Int.toNat x5) Ty.val.dflt))))))) (Int.toNat x5) Ty.val.dflt)), (0 : Int) ≤ x5 ∧ x5 < (List.length ((fun (z43 : List Val) => List.set z43 (Int.toNat x5) (Val.mk (Val.kind (List.getD z43 (Int.toNat x5) Ty.val.dflt)) (Val.n (List.getD z43 (Int.toNat x5) Ty.val.dflt)) (Val.step (List.getD z43 (Int.toNat x5) Ty.val.dflt)) (Val.text (List.getD z43 (Int.toNat x5) Ty.val.dflt)) r2.2 (Val.columns (List.getD z43 (Int.toNat x5) Ty.val.dflt)) (Val.rows (List.getD z43 (Int.toNat x5) Ty.val.dflt)))) ((fun (z42 : List Val) => List.set z42 (Int.toNat x5) (Val.mk (Val.kind (List.getD z42 (Int.toNat x5) Ty.val.dflt)) (Val.n (List.getD z42 (Int.toNat x5) Ty.val.dflt)) (Val.step (List.getD z42 (Int.toNat x5) Ty.val.dflt)) r1 (Val.list (List.getD z42 (Int.toNat x5) Ty.val.dflt)) (Val.columns (List.getD z42 (Int.toNat x5) Ty.val.dflt)) (Val.rows (List.getD z42 (Int.toNat x5) Ty.val.dflt)))) ((fun (z41 : List Val) => List.set z41 (Int.toNat x5) (Val.mk (Val.kind (List.getD z41 (Int.toNat x5) Ty.val.dflt)) (Val.n (List.getD z41 (Int.toNat x5) Ty.val.dflt)) (IntKind.i64.wrap ((IntKind.i64.wrap (x1 + 1)) + 1)) (Val.text (List.getD z41 (Int.toNat x5) Ty.val.dflt)) (Val.list (List.getD z41 (Int.toNat x5) Ty.val.dflt)) (Val.columns (List.getD z41 (Int.toNat x5) Ty.val.dflt)) (Val.rows (List.getD z41 (Int.toNat x5) Ty.val.dflt)))) ((fun (z40 : List Val) => List.set z40 (Int.toNat x5) (Val.mk (Val.kind (List.getD z40 (Int.toNat x5) Ty.val.dflt)) (IntKind.i64.wrap (x1 + 1)) (Val.step (List.getD z40 (Int.toNat x5) Ty.val.dflt)) (Val.text (List.getD z40 (Int.toNat x5) Ty.val.dflt)) (Val.list (List.getD z40 (Int.toNat x5) Ty.val.dflt)) (Val.columns (List.getD z40 (Int.toNat x5) Ty.val.dflt)) (Val.rows (List.getD z40 (Int.toNat x5) Ty.val.dflt)))) (List.set x0 (Int.toNat x5) (Val.mk x1 (Val.n (List.getD x0 (Int.toNat x5) Ty.val.dflt)) (Val.step (List.getD x0 (Int.toNat x5) Ty.val.dflt)) (Val.text (List.getD x0 (Int.toNat x5) Ty.val.dflt)) (Val.list (List.getD x0 (Int.toNat x5) Ty.val.dflt)) (Val.columns (List.getD x0 (Int.toNat x5) Ty.val.dflt)) (Val.rows (List.getD x0 (Int.toNat x5) Ty.val.dflt))))))))), AbC 80 (xCE (Val.columns (List.getD ((fun (z43 : List Val) => List.set z43 (Int.toNat x5) (Val.mk (Val.kind (List.getD z43 (Int.toNat x5) Ty.val.dflt)) (Val.n (List.getD z43 (Int.toNat x5) Ty.val.dflt)) (Val.step (List.getD z43 (Int.toNat x5) Ty.val.dflt)) (Val.text (List.getD z43 (Int.toNat x5) Ty.val.dflt)) r2.2 (Val.columns (List.getD z43 (Int.toNat x5) Ty.val.dflt)) (Val.rows (List.getD z43 (Int.toNat x5) Ty.val.dflt)))) ((fun (z42 : List Val) => List.set z42 (Int.toNat x5) (Val.mk (Val.kind (List.getD z42 (Int.toNat x5) Ty.val.dflt)) (Val.n (List.getD z42 (Int.toNat x5) Ty.val.dflt)) (Val.step (List.getD z42 (Int.toNat x5) Ty.val.dflt)) r1 (Val.list (List.getD z42 (Int.toNat x5) Ty.val.dflt)) (Val.columns (List.getD z42 (Int.toNat x5) Ty.val.dflt)) (Val.rows (List.getD z42 (Int.toNat x5) Ty.val.dflt)))) ((fun (z41 : List Val) => List.set z41 (Int.toNat x5) (Val.mk (Val.kind (List.getD z41 (Int.toNat x5) Ty.val.dflt)) (Val.n (List.getD z41 (Int.toNat x5) Ty.val.dflt)) (IntKind.i64.wrap ((IntKind.i64.wrap (x1 + 1)) + 1)) (Val.text (List.getD z41 (Int.toNat x5) Ty.val.dflt)) (Val.list (List.getD z41 (Int.toNat x5) Ty.val.dflt)) (Val.columns (List.getD z41 (Int.toNat x5) Ty.val.dflt)) (Val.rows (List.getD z41 (Int.toNat x5) Ty.val.dflt)))) ((fun (z40 : List Val) => List.set z40 (Int.toNat x5) (Val.mk (Val.kind (List.getD z40 (Int.toNat x5) Ty.val.dflt)) (IntKind.i64.wrap (x1 + 1)) (Val.step (List.getD z40 (Int.toNat x5) Ty.val.dflt)) (Val.text (List.getD z40 (Int.toNat x5) Ty.val.dflt)) (Val.list (List.getD z40 (Int.toNat x5) Ty.val.dflt)) (Val.columns (List.getD z40 (Int.toNat x5) Ty.val.dflt)) (Val.rows (List.getD z40 (Int.toNat x5) Ty.val.dflt)))) (List.set x0 (Int.toNat x5) (Val.mk x1 (Val.n (List.getD x0 (Int.toNat x5) Ty.val.dflt)) (Val.step (List.getD x0 (Int.toNat x5) Ty.val.dflt)) (Val.text (List.getD x0 (Int.toNat x5) Ty.val.dflt)) (Val.list (List.getD x0 (Int.toNat x5) Ty.val.dflt)) (Val.columns (List.getD x0 (Int.toNat x5) Ty.val.dflt)) (Val.rows (List.getD x0 (Int.toNat x5) Ty.val.dflt)))))))) (Int.toNat x5) Ty.val.dflt)) r2.1) (xBm r3), (Int.toNat x5) = (Int.toNat x5), List.length r3.2 = List.length (Val.columns (List.getD ((fun (z43 : List Val) => List.set z43 (Int.toNat x5) (Val.mk (Val.kind (List.getD z43 (Int.toNat x5) Ty.val.dflt)) (Val.n (List.getD z43 (Int.toNat x5) Ty.val.dflt)) (Val.step (List.getD z43 (Int.toNat x5) Ty.val.dflt)) (Val.text (List.getD z43 (Int.toNat x5) Ty.val.dflt)) r2.2 (Val.columns (List.getD z43 (Int.toNat x5) Ty.val.dflt)) (Val.rows (List.getD z43 (Int.toNat x5) Ty.val.dflt)))) ((fun (z42 : List Val) => List.set z42 (Int.toNat x5) (Val.mk (Val.kind (List.getD z42 (Int.toNat x5) Ty.val.dflt)) (Val.n (List.getD z42 (Int.toNat x5) Ty.val.dflt)) (Val.step (List.getD z42 (Int.toNat x5) Ty.val.dflt)) r1 (Val.list (List.getD z42 (Int.toNat x5) Ty.val.dflt)) (Val.columns (List.getD z42 (Int.toNat x5) Ty.val.dflt)) (Val.rows (List.getD z42 (Int.toNat x5) Ty.val.dflt)))) ((fun (z41 : List Val) => List.set z41 (Int.toNat x5) (Val.mk (Val.kind (List.getD z41 (Int.toNat x5) Ty.val.dflt)) (Val.n (List.getD z41 (Int.toNat x5) Ty.val.dflt)) (IntKind.i64.wrap ((IntKind.i64.wrap (x1 + 1)) + 1)) (Val.text (List.getD z41 (Int.toNat x5) Ty.val.dflt)) (Val.list (List.getD z41 (Int.toNat x5) Ty.val.dflt)) (Val.columns (List.getD z41 (Int.toNat x5) Ty.val.dflt)) (Val.rows (List.getD z41 (Int.toNat x5) Ty.val.dflt)))) ((fun (z40 : List Val) => List.set z40 (Int.toNat x5) (Val.mk (Val.kind (List.getD z40 (Int.toNat x5) Ty.val.dflt)) (IntKind.i64.wrap (x1 + 1)) (Val.step (List.getD z40 (Int.toNat x5) Ty.val.dflt)) (Val.text (List.getD z40 (Int.toNat x5) Ty.val.dflt)) (Val.list (List.getD z40 (Int.toNat x5) Ty.val.dflt)) (Val.columns (List.getD z40 (Int.toNat x5) Ty.val.dflt)) (Val.rows (List.getD z40 (Int.toNat x5) Ty.val.dflt)))) (List.set x0 (Int.toNat x5) (Val.mk x1 (Val.n (List.getD x0 (Int.toNat x5) Ty.val.dflt)) (Val.step (List.getD x0 (Int.toNat x5) Ty.val.dflt)) (Val.text (List.getD x0 (Int.toNat x5) Ty.val.dflt)) (Val.list (List.getD x0 (Int.toNat x5) Ty.val.dflt)) (Val.columns (List.getD x0 (Int.toNat x5) Ty.val.dflt)) (Val.rows (List.getD x0 (Int.toNat x5) Ty.val.dflt)))))))) (Int.toNat x5) Ty.val.dflt)), (0 : Int) ≤ x5 ∧ x5 < (List.length ((fun (z44 : List Val) => List.set z44 (Int.toNat x5) (Val.mk (Val.kind (List.getD z44 (Int.toNat x5) Ty.val.dflt)) (Val.n (List.getD z44 (Int.toNat x5) Ty.val.dflt)) (Val.step (List.getD z44 (Int.toNat x5) Ty.val.dflt)) (Val.text (List.getD z44 (Int.toNat x5) Ty.val.dflt)) (Val.list (List.getD z44 (Int.toNat x5) Ty.val.dflt)) r3.2 (Val.rows (List.getD z44 (Int.toNat x5) Ty.val.dflt)))) ((fun (z43 : List Val) => List.set z43 (Int.toNat x5) (Val.mk (Val.kind (List.getD z43 (Int.toNat x5) Ty.val.dflt)) (Val.n (List.getD z43 (Int.toNat x5) Ty.val.dflt)) (Val.step (List.getD z43 (Int.toNat x5) Ty.val.dflt)) (Val.text (List.getD z43 (Int.toNat x5) Ty.val.dflt)) r2.2 (Val.columns (List.getD z43 (Int.toNat x5) Ty.val.dflt)) (Val.rows (List.getD z43 (Int.toNat x5) Ty.val.dflt)))) ((fun (z42 : List Val) => List.set z42 (Int.toNat x5) (Val.mk (Val.kind (List.getD z42 (Int.toNat x5) Ty.val.dflt)) (Val.n (List.getD z42 (Int.toNat x5) Ty.val.dflt)) (Val.step (List.getD z42 (Int.toNat x5) Ty.val.dflt)) r1 (Val.list (List.getD z42 (Int.toNat x5) Ty.val.dflt)) (Val.columns (List.getD z42 (Int.toNat x5) Ty.val.dflt)) (Val.rows (List.getD z42 (Int.toNat x5) Ty.val.dflt)))) ((fun (z41 : List Val) => List.set z41 (Int.toNat x5) (Val.mk (Val.kind (List.getD z41 (Int.toNat x5) Ty.val.dflt)) (Val.n (List.getD z41 (Int.toNat x5) Ty.val.dflt)) (IntKind.i64.wrap ((IntKind.i64.wrap (x1 + 1)) + 1)) (Val.text (List.getD z41 (Int.toNat x5) Ty.val.dflt)) (Val.list (List.getD z41 (Int.toNat x5) Ty.val.dflt)) (Val.columns (List.getD z41 (Int.toNat x5) Ty.val.dflt)) (Val.rows (List.getD z41 (Int.toNat x5) Ty.val.dflt)))) ((fun (z40 : List Val) => List.set z40 (Int.toNat x5) (Val.mk (Val.kind (List.getD z40 (Int.toNat x5) Ty.val.dflt)) (IntKind.i64.wrap (x1 + 1)) (Val.step (List.getD z40 (Int.toNat x5) Ty.val.dflt)) (Val.text (List.getD z40 (Int.toNat x5) Ty.val.dflt)) (Val.list (List.getD z40 (Int.toNat x5) Ty.val.dflt)) (Val.columns (List.getD z40 (Int.toNat x5) Ty.val.dflt)) (Val.rows (List.getD z40 (Int.toNat x5) Ty.val.dflt)))) (List.set x0 (Int.toNat x5) (Val.mk x1 (Val.n (List.getD x0 (Int.toNat x5) Ty.val.dflt)) (Val.step (List.getD x0 (Int.toNat x5) Ty.val.dflt)) (Val.text (List.getD x0 (Int.toNat x5) Ty.val.dflt)) (Val.list (List.getD x0 (Int.toNat x5) Ty.val.dflt)) (Val.columns (List.getD x0 (Int.toNat x5) Ty.val.dflt)) (Val.rows (List.getD x0 (Int.toNat x5) Ty.val.dflt)))))))))), AbC 81 (xC9 (Val.rows (List.getD ((fun (z44 : List Val) => List.set z44 (Int.toNat x5) (Val.mk (Val.kind (List.getD z44 (Int.toNat x5) Ty.val.dflt)) (Val.n (List.getD z44 (Int.toNat x5) Ty.val.dflt)) (Val.step (List.getD z44 (Int.toNat x5) Ty.val.dflt)) (Val.text (List.getD z44 (Int.toNat x5) Ty.val.dflt)) (Val.list (List.getD z44 (Int.toNat x5) Ty.val.dflt)) r3.2 (Val.rows (List.getD z44 (Int.toNat x5) Ty.val.dflt)))) ((fun (z43 : List Val) => List.set z43 (Int.toNat x5) (Val.mk (Val.kind (List.getD z43 (Int.toNat x5) Ty.val.dflt)) (Val.n (List.getD z43 (Int.toNat x5) Ty.val.dflt)) (Val.step (List.getD z43 (Int.toNat x5) Ty.val.dflt)) (Val.text (List.getD z43 (Int.toNat x5) Ty.val.dflt)) r2.2 (Val.columns (List.getD z43 (Int.toNat x5) Ty.val.dflt)) (Val.rows (List.getD z43 (Int.toNat x5) Ty.val.dflt)))) ((fun (z42 : List Val) => List.set z42 (Int.toNat x5) (Val.mk (Val.kind (List.getD z42 (Int.toNat x5) Ty.val.dflt)) (Val.n (List.getD z42 (Int.toNat x5) Ty.val.dflt)) (Val.step (List.getD z42 (Int.toNat x5) Ty.val.dflt)) r1 (Val.list (List.getD z42 (Int.toNat x5) Ty.val.dflt)) (Val.columns (List.getD z42 (Int.toNat x5) Ty.val.dflt)) (Val.rows (List.getD z42 (Int.toNat x5) Ty.val.dflt)))) ((fun (z41 : List Val) => List.set z41 (Int.toNat x5) (Val.mk (Val.kind (List.getD z41 (Int.toNat x5) Ty.val.dflt)) (Val.n (List.getD z41 (Int.toNat x5) Ty.val.dflt)) (IntKind.i64.wrap ((IntKind.i64.wrap (x1 + 1)) + 1)) (Val.text (List.getD z41 (Int.toNat x5) Ty.val.dflt)) (Val.list (List.getD z41 (Int.toNat x5) Ty.val.dflt)) (Val.columns (List.getD z41 (Int.toNat x5) Ty.val.dflt)) (Val.rows (List.getD z41 (Int.toNat x5) Ty.val.dflt)))) ((fun (z40 : List Val) => List.set z40 (Int.toNat x5) (Val.mk (Val.kind (List.getD z40 (Int.toNat x5) Ty.val.dflt)) (IntKind.i64.wrap (x1 + 1)) (Val.step (List.getD z40 (Int.toNat x5) Ty.val.dflt)) (Val.text (List.getD z40 (Int.toNat x5) Ty.val.dflt)) (Val.list (List.getD z40 (Int.toNat x5) Ty.val.dflt)) (Val.columns (List.getD z40 (Int.toNat x5) Ty.val.dflt)) (Val.rows (List.getD z40 (Int.toNat x5) Ty.val.dflt)))) (List.set x0 (Int.toNat x5) (Val.mk x1 (Val.n (List.getD x0 (Int.toNat x5) Ty.val.dflt)) (Val.step (List.getD x0 (Int.toNat x5) Ty.val.dflt)) (Val.text (List.getD x0 (Int.toNat x5) Ty.val.dflt)) (Val.list (List.getD x0 (Int.toNat x5) Ty.val.dflt)) (Val.columns (List.getD x0 (Int.toNat x5) Ty.val.dflt)) (Val.rows (List.getD x0 (Int.toNat x5) Ty.val.dflt))))))))) (Int.toNat x5) Ty.val.dflt)) r3.1) (xBR r4), (Int.toNat x5) = (Int.toNat x5), List.length r4.2 = List.length (Val.rows (List.getD ((fun (z44 : List Val) => List.set z44 (Int.toNat x5) (Val.mk (Val.kind (List.getD z44 (Int.toNat x5) Ty.val.dflt)) (Val.n (List.getD z44 (Int.toNat x5) Ty.val.dflt)) (Val.step (List.getD z44 (Int.toNat x5) Ty.val.dflt)) (Val.text (List.getD z44 (Int.toNat x5) Ty.val.dflt)) (Val.list (List.getD z44 (Int.toNat x5) Ty.val.dflt)) r3.2 (Val.rows (List.getD z44 (Int.toNat x5) Ty.val.dflt)))) ((fun (z43 : List Val) => List.set z43 (Int.toNat x5) (Val.mk (Val.kind (List.getD z43 (Int.toNat x5) Ty.val.dflt)) (Val.n (List.getD z43 (Int.toNat x5) Ty.val.dflt)) (Val.step (List.getD z43 (Int.toNat x5) Ty.val.dflt)) (Val.text (List.getD z43 (Int.toNat x5) Ty.val.dflt)) r2.2 (Val.columns (List.getD z43 (Int.toNat x5) Ty.val.dflt)) (Val.rows (List.getD z43 (Int.toNat x5) Ty.val.dflt)))) ((fun (z42 : List Val) => List.set z42 (Int.toNat x5) (Val.mk (Val.kind (List.getD z42 (Int.toNat x5) Ty.val.dflt)) (Val.n (List.getD z42 (Int.toNat x5) Ty.val.dflt)) (Val.step (List.getD z42 (Int.toNat x5) Ty.val.dflt)) r1 (Val.list (List.getD z42 (Int.toNat x5) Ty.val.dflt)) (Val.columns (List.getD z42 (Int.toNat x5) Ty.val.dflt)) (Val.rows (List.getD z42 (Int.toNat x5) Ty.val.dflt)))) ((fun (z41 : List Val) => List.set z41 (Int.toNat x5) (Val.mk (Val.kind (List.getD z41 (Int.toNat x5) Ty.val.dflt)) (Val.n (List.getD z41 (Int.toNat x5) Ty.val.dflt)) (IntKind.i64.wrap ((IntKind.i64.wrap (x1 + 1)) + 1)) (Val.text (List.getD z41 (Int.toNat x5) Ty.val.dflt)) (Val.list (List.getD z41 (Int.toNat x5) Ty.val.dflt)) (Val.columns (List.getD z41 (Int.toNat x5) Ty.val.dflt)) (Val.rows (List.getD z41 (Int.toNat x5) Ty.val.dflt)))) ((fun (z40 : List Val) => List.set z40 (Int.toNat x5) (Val.mk (Val.kind (List.getD z40 (Int.toNat x5) Ty.val.dflt)) (IntKind.i64.wrap (x1 + 1)) (Val.step (List.getD z40 (Int.toNat x5) Ty.val.dflt)) (Val.text (List.getD z40 (Int.toNat x5) Ty.val.dflt)) (Val.list (List.getD z40 (Int.toNat x5) Ty.val.dflt)) (Val.columns (List.getD z40 (Int.toNat x5) Ty.val.dflt)) (Val.rows (List.getD z40 (Int.toNat x5) Ty.val.dflt)))) (List.set x0 (Int.toNat x5) (Val.mk x1 (Val.n (List.getD x0 (Int.toNat x5) Ty.val.dflt)) (Val.step (List.getD x0 (Int.toNat x5) Ty.val.dflt)) (Val.text (List.getD x0 (Int.toNat x5) Ty.val.dflt)) (Val.list (List.getD x0 (Int.toNat x5) Ty.val.dflt)) (Val.columns (List.getD x0 (Int.toNat x5) Ty.val.dflt)) (Val.rows (List.getD x0 (Int.toNat x5) Ty.val.dflt))))))))) (Int.toNat x5) Ty.val.dflt))]) := by kernel_rfl
theorem p67_2_1 (x0 : List Val) (x1 x5 : Int) : run tt (AbsCalls Try.prog) I67 3000 true (stkAt 2 I67.body) ⟨(S67_2 x0 x1 x5), [false], [], []⟩ = some (.done (xAL (x1, x0)) [(decide ((x5 : Int) < (List.length x0 : Int))) = false]) := by kernel_rfl
theorem p67_e_2 (a0 : List Val) (a1 : Int) : run tt (AbsCalls Try.prog) I67 3000 false [.code I67.body] ⟨(zBg 0 (xA7 a0 a1)), [], [], []⟩ = some (.stop (stkAt 2 I67.body) (S67_2 a0 a1 0) []) := by kernel_rfl
theorem c67_2 {N : Nat} {rc_laws_markValueS : (List Val) → Int → Option (Int × (List Val))} (hrc_laws_markValueS : ∀ a0 a1 r, rc_laws_markValueS a0 a1 = some r → AbC 67 (xA7 a0 a1) (xAL r)) : ∀ n x0 x1 x5 r, xBP N rc_laws_markValueS n x0 x1 x5 = some r → Reach Try.prog Try.f67 I67 (stkAt 2 I67.body) (S67_2 x0 x1 x5) (xAL r) := by
 intro n
 induction n with
 | zero => intro x0 x1 x5 r h; have h' : (none : Option (Int × (List Val))) = some r := h; cases h'
 | succ n ih =>
  intro x0 x1 x5 r h
  rw [xBP] at h
  rcases cond_inv h with ⟨h0, h⟩ | ⟨h0, h⟩
  ·obtain ⟨h1, h⟩ := ite_inv h
   obtain ⟨h2, h⟩ := ite_inv h
   obtain ⟨h3, h⟩ := ite_inv h
   obtain ⟨r1, h4, h⟩ := bind_inv h
   obtain ⟨h5, h⟩ := ite_inv h
   obtain ⟨h6, h⟩ := ite_inv h
   obtain ⟨r2, h7, h⟩ := bind_inv h
   obtain ⟨h9, h⟩ := ite_inv h
   obtain ⟨h10, h⟩ := ite_inv h
   obtain ⟨r3, h11, h⟩ := bind_inv h
   obtain ⟨h13, h⟩ := ite_inv h
   obtain ⟨h14, h⟩ := ite_inv h
   obtain ⟨r4, h15, h⟩ := bind_inv h
   obtain ⟨h17, h⟩ := ite_inv h
   exact Reach.stop ttok mix fk67 (p67_2_0 x0 x1 x5 r1 r2 r3 r4) (obs_cons h0 (obs_cons h1 (obs_cons h2 (obs_cons h3 (obs_cons (xBq h4) (obs_cons h5 (obs_cons h6 (obs_cons (hrc_laws_markValueS _ _ _ h7) (obs_cons rfl (obs_cons h9 (obs_cons h10 (obs_cons (xEt h11) (obs_cons rfl (obs_cons h13 (obs_cons h14 (obs_cons (xEK h15) (obs_cons rfl (obs_cons h17 obs_nil)))))))))))))))))) (ih _ _ _ _ h)
  ·obtain rfl := Option.some.inj h
   exact Reach.done ttok mix fk67 (p67_2_1 x0 x1 x5) (obs_cons h0 obs_nil)
theorem c67_e {N : Nat} {rc_laws_markValueS : (List Val) → Int → Option (Int × (List Val))} (hrc_laws_markValueS : ∀ a0 a1 r, rc_laws_markValueS a0 a1 = some r → AbC 67 (xA7 a0 a1) (xAL r)) : ∀ a0 a1 r, xCT N rc_laws_markValueS a0 a1 = some r → Reach Try.prog Try.f67 I67 [.code I67.body] (zBg 0 (xA7 a0 a1)) (xAL r) := by
 intro a0 a1 r h
 unfold xCT at h
 exact Reach.stop ttok mix fk67 (p67_e_2 a0 a1) obs_nil (c67_2 hrc_laws_markValueS  _ _ _ _ _ h)
theorem xEG {N : Nat} {rc_laws_markValueS : (List Val) → Int → Option (Int × (List Val))} (hrc_laws_markValueS : ∀ a0 a1 r, rc_laws_markValueS a0 a1 = some r → AbC 67 (xA7 a0 a1) (xAL r)) {a0 : List Val} {a1 : Int} {r : Int × (List Val)} (h : xCT N rc_laws_markValueS a0 a1 = some r) : AbC 67 (xA7 a0 a1) (xAL r) :=
 AbsCalls.of_reach fk67 rfl rfl (Nat.le_of_ble_eq_true rfl) (c67_e hrc_laws_markValueS a0 a1 r h)
theorem xEP {N : Nat} : ∀ d, (∀ a0 a1 r, xCF N d a0 a1 = some r → AbC 67 (xA7 a0 a1) (xAL r)) := by
 intro d
 induction d with
 | zero => intro _ _ r h; have h' : (none : Option (Int × (List Val))) = some r := h; cases h'
 | succ d ih => intro _ _ r h; exact xEG (N := N) ih h
theorem laws_markValueS_ok {N : Nat} {a0 : List Val} {a1 : Int} {r : Int × (List Val)} (h : xEu N a0 a1 = some r) : AbC 67 (xA7 a0 a1) (xAL r) := xEP N _ _ r h
noncomputable def I22 : Info := { body := (Try.f22.body).getD .skip, nt := 18, results := [.tmp 4], keep := [0, 2, 4, 8, 5], live := [], modes := [(1, [(1, .ref, false), (3, .ref, false)]), (2, [(1, .ref, false), (3, .ref, false)]), (3, [(1, .ref, false), (3, .ref, false)])], ext := [], lnt := [(5, 4), (5, 5), (5, 6)], casts := [], fcast := [] }
theorem fk22 : FnOk Try.prog 22 Try.f22 I22 := ⟨Try.func22, by kernel_rfl, by kernel_rfl, by kernel_rfl, by kernel_rfl⟩
theorem p22_e_0 (a0 : Val) (a1 : Int) (r1 : Int × (List Val)) (r2 : Int × (List Str)) (r3 : Int × (List Rowd)) : run tt (AbsCalls Try.prog) I22 3000 false [.code I22.body] ⟨(zBg 0 (xBj a0 a1)), [], [xAL r1, xBm r2, xBR r3], []⟩ = some (.done (xAE (r3.1, r1.2, r2.2, r3.2)) [AbC 67 (xA7 (Val.list a0) a1) (xAL r1), List.length r1.2 = List.length (Val.list a0), AbC 80 (xCE (Val.columns a0) r1.1) (xBm r2), List.length r2.2 = List.length (Val.columns a0), AbC 81 (xC9 (Val.rows a0) r2.1) (xBR r3), List.length r3.2 = List.length (Val.rows a0)]) := by kernel_rfl
theorem c22_e {N : Nat} : ∀ a0 a1 r, xCq N a0 a1 = some r → Reach Try.prog Try.f22 I22 [.code I22.body] (zBg 0 (xBj a0 a1)) (xAE r) := by
 intro a0 a1 r h
 unfold xCq at h
 obtain ⟨r1, h0, h⟩ := bind_inv h
 obtain ⟨h1, h⟩ := ite_inv h
 obtain ⟨r2, h2, h⟩ := bind_inv h
 obtain ⟨h3, h⟩ := ite_inv h
 obtain ⟨r3, h4, h⟩ := bind_inv h
 obtain ⟨h5, h⟩ := ite_inv h
 obtain rfl := Option.some.inj h
 exact Reach.done ttok mix fk22 (p22_e_0 a0 a1 r1 r2 r3) (obs_cons (laws_markValueS_ok h0) (obs_cons h1 (obs_cons (xEt h2) (obs_cons h3 (obs_cons (xEK h4) (obs_cons h5 obs_nil))))))
theorem xB0 {N : Nat} {a0 : Val} {a1 : Int} {r : Int × (List Val) × (List Str) × (List Rowd)} (h : xCq N  a0 a1 = some r) : AbC 22 (xBj a0 a1) (xAE r) :=
 AbsCalls.of_reach fk22 rfl rfl (Nat.le_of_ble_eq_true rfl) (c22_e a0 a1 r h)
noncomputable def I83 : Info := { body := (Try.f83.body).getD .skip, nt := 22, results := [.tmp 4], keep := [0, 2, 8, 10, 18, 36], live := [(2, [0, 2, 10])], modes := [], ext := [], lnt := [], casts := [], fcast := [] }
theorem fk83 : FnOk Try.prog 83 Try.f83 I83 := ⟨Try.func83, by kernel_rfl, by kernel_rfl, by kernel_rfl, by kernel_rfl⟩
def S83_2 (x0 : List Str) (x1 x5 : Int) : St := [(0, .v false [.sl .ro .str x0]), (2, .v false [.int .i64 x1]), (10, .v false [.int .i64 x5])]
theorem p83_2_0 (x0 : List Str) (x1 x5 : Int) (r1 : Str) : run tt (AbsCalls Try.prog) I83 3000 true (stkAt 2 I83.body) ⟨(S83_2 x0 x1 x5), [true, true], [xAr r1], []⟩ = some (.done (xAw (-1)) [(decide ((x5 : Int) < (List.length x0 : Int))) = true, (0 : Int) ≤ x5 ∧ x5 < (List.length x0), AbC 79 (xAU x1) (xAr r1), (!(((List.getD x0 (Int.toNat x5) Ty.str.dflt) : Str) == r1)) = true]) := by kernel_rfl
theorem p83_2_1 (x0 : List Str) (x1 x5 : Int) (r1 : Str) : run tt (AbsCalls Try.prog) I83 3000 true (stkAt 2 I83.body) ⟨(S83_2 x0 x1 x5), [true, false], [xAr r1], []⟩ = some (.stop (stkAt 2 I83.body) (S83_2 x0 (IntKind.i64.wrap (x1 + 1)) (IntKind.i64.wrap (x5 + 1))) [(decide ((x5 : Int) < (List.length x0 : Int))) = true, (0 : Int) ≤ x5 ∧ x5 < (List.length x0), AbC 79 (xAU x1) (xAr r1), (!(((List.getD x0 (Int.toNat x5) Ty.str.dflt) : Str) == r1)) = false]) := by kernel_rfl
theorem p83_2_2 (x0 : List Str) (x1 x5 : Int) : run tt (AbsCalls Try.prog) I83 3000 true (stkAt 2 I83.body) ⟨(S83_2 x0 x1 x5), [false], [], []⟩ = some (.done (xAw x1) [(decide ((x5 : Int) < (List.length x0 : Int))) = false]) := by kernel_rfl
theorem p83_e_3 (a0 : List Str) (a1 : Int) : run tt (AbsCalls Try.prog) I83 3000 false [.code I83.body] ⟨(zBg 0 (xA9 a0 a1)), [], [], []⟩ = some (.stop (stkAt 2 I83.body) (S83_2 a0 a1 0) []) := by kernel_rfl
theorem c83_2 {N : Nat} : ∀ n x0 x1 x5 r, xBG N n x0 x1 x5 = some r → Reach Try.prog Try.f83 I83 (stkAt 2 I83.body) (S83_2 x0 x1 x5) (xAw r) := by
 intro n
 induction n with
 | zero => intro x0 x1 x5 r h; have h' : (none : Option (Int)) = some r := h; cases h'
 | succ n ih =>
  intro x0 x1 x5 r h
  rw [xBG] at h
  rcases cond_inv h with ⟨h0, h⟩ | ⟨h0, h⟩
  ·obtain ⟨h1, h⟩ := ite_inv h
   obtain ⟨r1, h2, h⟩ := bind_inv h
   rcases cond_inv h with ⟨h3, h⟩ | ⟨h3, h⟩
   ·obtain rfl := Option.some.inj h
    exact Reach.done ttok mix fk83 (p83_2_0 x0 x1 x5 r1) (obs_cons h0 (obs_cons h1 (obs_cons (xBq h2) (obs_cons h3 obs_nil))))
   ·exact Reach.stop ttok mix fk83 (p83_2_1 x0 x1 x5 r1) (obs_cons h0 (obs_cons h1 (obs_cons (xBq h2) (obs_cons h3 obs_nil)))) (ih _ _ _ _ h)
  ·obtain rfl := Option.some.inj h
   exact Reach.done ttok mix fk83 (p83_2_2 x0 x1 x5) (obs_cons h0 obs_nil)
theorem c83_e {N : Nat} : ∀ a0 a1 r, xCI N a0 a1 = some r → Reach Try.prog Try.f83 I83 [.code I83.body] (zBg 0 (xA9 a0 a1)) (xAw r) := by
 intro a0 a1 r h
 unfold xCI at h
 exact Reach.stop ttok mix fk83 (p83_e_3 a0 a1) obs_nil (c83_2   _ _ _ _ _ h)
theorem xBX {N : Nat} {a0 : List Str} {a1 : Int} {r : Int} (h : xCI N  a0 a1 = some r) : AbC 83 (xA9 a0 a1) (xAw r) :=
 AbsCalls.of_reach fk83 rfl rfl (Nat.le_of_ble_eq_true rfl) (c83_e a0 a1 r h)
noncomputable def I131 : Info := { body := (Try.f131.body).getD .skip, nt := 21, results := [.tmp 4], keep := [0, 2, 8, 10, 18, 34], live := [(2, [0, 2, 10])], modes := [], ext := [], lnt := [], casts := [], fcast := [] }
theorem fk131 : FnOk Try.prog 131 Try.f131 I131 := ⟨Try.func131, by kernel_rfl, by kernel_rfl, by kernel_rfl, by kernel_rfl⟩
def S131_2 (x0 : List Int) (x1 x5 : Int) : St := [(0, .v false [.sl .ro .int x0]), (2, .v false [.int .i64 x1]), (10, .v false [.int .i64 x5])]
theorem p131_2_0 (x0 : List Int) (x1 x5 : Int) : run tt (AbsCalls Try.prog) I131 3000 true (stkAt 2 I131.body) ⟨(S131_2 x0 x1 x5), [true, true], [], []⟩ = some (.done (xBb (-1)) [(decide ((x5 : Int) < (List.length x0 : Int))) = true, (0 : Int) ≤ x5 ∧ x5 < (List.length x0), (((List.getD x0 (Int.toNat x5) Ty.int.dflt) : Int) != x1) = true]) := by kernel_rfl
theorem p131_2_1 (x0 : List Int) (x1 x5 : Int) : run tt (AbsCalls Try.prog) I131 3000 true (stkAt 2 I131.body) ⟨(S131_2 x0 x1 x5), [true, false], [], []⟩ = some (.stop (stkAt 2 I131.body) (S131_2 x0 (IntKind.i64.wrap (x1 + 1)) (IntKind.i64.wrap (x5 + 1))) [(decide ((x5 : Int) < (List.length x0 : Int))) = true, (0 : Int) ≤ x5 ∧ x5 < (List.length x0), (((List.getD x0 (Int.toNat x5) Ty.int.dflt) : Int) != x1) = false]) := by kernel_rfl
theorem p131_2_2 (x0 : List Int) (x1 x5 : Int) : run tt (AbsCalls Try.prog) I131 3000 true (stkAt 2 I131.body) ⟨(S131_2 x0 x1 x5), [false], [], []⟩ = some (.done (xBb x1) [(decide ((x5 : Int) < (List.length x0 : Int))) = false]) := by kernel_rfl
theorem p131_e_3 (a0 : List Int) (a1 : Int) : run tt (AbsCalls Try.prog) I131 3000 false [.code I131.body] ⟨(zBg 0 (xCH a0 a1)), [], [], []⟩ = some (.stop (stkAt 2 I131.body) (S131_2 a0 a1 0) []) := by kernel_rfl
theorem c131_2 {N : Nat} : ∀ n x0 x1 x5 r, xCe N n x0 x1 x5 = some r → Reach Try.prog Try.f131 I131 (stkAt 2 I131.body) (S131_2 x0 x1 x5) (xBb r) := by
 intro n
 induction n with
 | zero => intro x0 x1 x5 r h; have h' : (none : Option (Int)) = some r := h; cases h'
 | succ n ih =>
  intro x0 x1 x5 r h
  rw [xCe] at h
  rcases cond_inv h with ⟨h0, h⟩ | ⟨h0, h⟩
  ·obtain ⟨h1, h⟩ := ite_inv h
   rcases cond_inv h with ⟨h2, h⟩ | ⟨h2, h⟩
   ·obtain rfl := Option.some.inj h
    exact Reach.done ttok mix fk131 (p131_2_0 x0 x1 x5) (obs_cons h0 (obs_cons h1 (obs_cons h2 obs_nil)))
   ·exact Reach.stop ttok mix fk131 (p131_2_1 x0 x1 x5) (obs_cons h0 (obs_cons h1 (obs_cons h2 obs_nil))) (ih _ _ _ _ h)
  ·obtain rfl := Option.some.inj h
   exact Reach.done ttok mix fk131 (p131_2_2 x0 x1 x5) (obs_cons h0 obs_nil)
theorem c131_e {N : Nat} : ∀ a0 a1 r, xDW N a0 a1 = some r → Reach Try.prog Try.f131 I131 [.code I131.body] (zBg 0 (xCH a0 a1)) (xBb r) := by
 intro a0 a1 r h
 unfold xDW at h
 exact Reach.stop ttok mix fk131 (p131_e_3 a0 a1) obs_nil (c131_2   _ _ _ _ _ h)
theorem xEm {N : Nat} {a0 : List Int} {a1 : Int} {r : Int} (h : xDW N  a0 a1 = some r) : AbC 131 (xCH a0 a1) (xBb r) :=
 AbsCalls.of_reach fk131 rfl rfl (Nat.le_of_ble_eq_true rfl) (c131_e a0 a1 r h)
noncomputable def I132 : Info := { body := (Try.f132.body).getD .skip, nt := 31, results := [.tmp 4], keep := [0, 2, 8, 10, 18, 36, 54], live := [(2, [0, 2, 10])], modes := [], ext := [], lnt := [], casts := [], fcast := [] }
theorem fk132 : FnOk Try.prog 132 Try.f132 I132 := ⟨Try.func132, by kernel_rfl, by kernel_rfl, by kernel_rfl, by kernel_rfl⟩
def S132_2 (x0 : List Org) (x1 x5 : Int) : St := [(0, .v false [.sl .ro .org x0]), (2, .v false [.int .i64 x1]), (10, .v false [.int .i64 x5])]
theorem p132_2_0 (x0 : List Org) (x1 x5 : Int) : run tt (AbsCalls Try.prog) I132 3000 true (stkAt 2 I132.body) ⟨(S132_2 x0 x1 x5), [true, true], [], []⟩ = some (.done (xA1 (-1)) [(decide ((x5 : Int) < (List.length x0 : Int))) = true, (0 : Int) ≤ x5 ∧ x5 < (List.length x0), (((Org.cell (List.getD x0 (Int.toNat x5) Ty.org.dflt)) : Int) != x1) = true]) := by kernel_rfl
theorem p132_2_1 (x0 : List Org) (x1 x5 : Int) : run tt (AbsCalls Try.prog) I132 3000 true (stkAt 2 I132.body) ⟨(S132_2 x0 x1 x5), [true, false, true], [], []⟩ = some (.done (xA1 (-1)) [(decide ((x5 : Int) < (List.length x0 : Int))) = true, (0 : Int) ≤ x5 ∧ x5 < (List.length x0), (((Org.cell (List.getD x0 (Int.toNat x5) Ty.org.dflt)) : Int) != x1) = false, (0 : Int) ≤ x5 ∧ x5 < (List.length x0), (((Org.row (List.getD x0 (Int.toNat x5) Ty.org.dflt)) : Int) != (IntKind.i64.wrap (x1 + 1))) = true]) := by kernel_rfl
theorem p132_2_2 (x0 : List Org) (x1 x5 : Int) : run tt (AbsCalls Try.prog) I132 3000 true (stkAt 2 I132.body) ⟨(S132_2 x0 x1 x5), [true, false, false], [], []⟩ = some (.stop (stkAt 2 I132.body) (S132_2 x0 (IntKind.i64.wrap ((IntKind.i64.wrap (x1 + 1)) + 1)) (IntKind.i64.wrap (x5 + 1))) [(decide ((x5 : Int) < (List.length x0 : Int))) = true, (0 : Int) ≤ x5 ∧ x5 < (List.length x0), (((Org.cell (List.getD x0 (Int.toNat x5) Ty.org.dflt)) : Int) != x1) = false, (0 : Int) ≤ x5 ∧ x5 < (List.length x0), (((Org.row (List.getD x0 (Int.toNat x5) Ty.org.dflt)) : Int) != (IntKind.i64.wrap (x1 + 1))) = false]) := by kernel_rfl
theorem p132_2_3 (x0 : List Org) (x1 x5 : Int) : run tt (AbsCalls Try.prog) I132 3000 true (stkAt 2 I132.body) ⟨(S132_2 x0 x1 x5), [false], [], []⟩ = some (.done (xA1 x1) [(decide ((x5 : Int) < (List.length x0 : Int))) = false]) := by kernel_rfl
theorem p132_e_4 (a0 : List Org) (a1 : Int) : run tt (AbsCalls Try.prog) I132 3000 false [.code I132.body] ⟨(zBg 0 (xCC a0 a1)), [], [], []⟩ = some (.stop (stkAt 2 I132.body) (S132_2 a0 a1 0) []) := by kernel_rfl
theorem c132_2 {N : Nat} : ∀ n x0 x1 x5 r, xBF N n x0 x1 x5 = some r → Reach Try.prog Try.f132 I132 (stkAt 2 I132.body) (S132_2 x0 x1 x5) (xA1 r) := by
 intro n
 induction n with
 | zero => intro x0 x1 x5 r h; have h' : (none : Option (Int)) = some r := h; cases h'
 | succ n ih =>
  intro x0 x1 x5 r h
  rw [xBF] at h
  rcases cond_inv h with ⟨h0, h⟩ | ⟨h0, h⟩
  ·obtain ⟨h1, h⟩ := ite_inv h
   rcases cond_inv h with ⟨h2, h⟩ | ⟨h2, h⟩
   ·obtain rfl := Option.some.inj h
    exact Reach.done ttok mix fk132 (p132_2_0 x0 x1 x5) (obs_cons h0 (obs_cons h1 (obs_cons h2 obs_nil)))
   ·rcases cond_inv h with ⟨h4, h⟩ | ⟨h4, h⟩
    ·obtain rfl := Option.some.inj h
     exact Reach.done ttok mix fk132 (p132_2_1 x0 x1 x5) (obs_cons h0 (obs_cons h1 (obs_cons h2 (obs_cons h1 (obs_cons h4 obs_nil)))))
    ·exact Reach.stop ttok mix fk132 (p132_2_2 x0 x1 x5) (obs_cons h0 (obs_cons h1 (obs_cons h2 (obs_cons h1 (obs_cons h4 obs_nil))))) (ih _ _ _ _ h)
  ·obtain rfl := Option.some.inj h
   exact Reach.done ttok mix fk132 (p132_2_3 x0 x1 x5) (obs_cons h0 obs_nil)
theorem c132_e {N : Nat} : ∀ a0 a1 r, xC7 N a0 a1 = some r → Reach Try.prog Try.f132 I132 [.code I132.body] (zBg 0 (xCC a0 a1)) (xA1 r) := by
 intro a0 a1 r h
 unfold xC7 at h
 exact Reach.stop ttok mix fk132 (p132_e_4 a0 a1) obs_nil (c132_2   _ _ _ _ _ h)
theorem xEr {N : Nat} {a0 : List Org} {a1 : Int} {r : Int} (h : xC7 N  a0 a1 = some r) : AbC 132 (xCC a0 a1) (xA1 r) :=
 AbsCalls.of_reach fk132 rfl rfl (Nat.le_of_ble_eq_true rfl) (c132_e a0 a1 r h)
noncomputable def I84 : Info := { body := (Try.f84.body).getD .skip, nt := 31, results := [.tmp 4], keep := [0, 2, 8, 10, 18, 40, 58], live := [(2, [0, 2, 10])], modes := [], ext := [], lnt := [], casts := [], fcast := [] }
theorem fk84 : FnOk Try.prog 84 Try.f84 I84 := ⟨Try.func84, by kernel_rfl, by kernel_rfl, by kernel_rfl, by kernel_rfl⟩
def S84_2 (x0 : List Rowd) (x1 x5 : Int) : St := [(0, .v false [.sl .ro .row x0]), (2, .v false [.int .i64 x1]), (10, .v false [.int .i64 x5])]
theorem p84_2_0 (x0 : List Rowd) (x1 x5 r1 : Int) : run tt (AbsCalls Try.prog) I84 3000 true (stkAt 2 I84.body) ⟨(S84_2 x0 x1 x5), [true, true], [xBb r1], []⟩ = some (.done (xAT (-1)) [(decide ((x5 : Int) < (List.length x0 : Int))) = true, (0 : Int) ≤ x5 ∧ x5 < (List.length x0), AbC 131 (xCH (Rowd.cells (List.getD x0 (Int.toNat x5) Ty.row.dflt)) x1) (xBb r1), (decide ((r1 : Int) < 0)) = true]) := by kernel_rfl
theorem p84_2_1 (x0 : List Rowd) (x1 x5 r1 r2 : Int) : run tt (AbsCalls Try.prog) I84 3000 true (stkAt 2 I84.body) ⟨(S84_2 x0 x1 x5), [true, false, true], [xBb r1, xA1 r2], []⟩ = some (.done (xAT (-1)) [(decide ((x5 : Int) < (List.length x0 : Int))) = true, (0 : Int) ≤ x5 ∧ x5 < (List.length x0), AbC 131 (xCH (Rowd.cells (List.getD x0 (Int.toNat x5) Ty.row.dflt)) x1) (xBb r1), (decide ((r1 : Int) < 0)) = false, (0 : Int) ≤ x5 ∧ x5 < (List.length x0), AbC 132 (xCC (Rowd.frm (List.getD x0 (Int.toNat x5) Ty.row.dflt)) r1) (xA1 r2), (decide ((r2 : Int) < 0)) = true]) := by kernel_rfl
theorem p84_2_2 (x0 : List Rowd) (x1 x5 r1 r2 : Int) : run tt (AbsCalls Try.prog) I84 3000 true (stkAt 2 I84.body) ⟨(S84_2 x0 x1 x5), [true, false, false], [xBb r1, xA1 r2], []⟩ = some (.stop (stkAt 2 I84.body) (S84_2 x0 r2 (IntKind.i64.wrap (x5 + 1))) [(decide ((x5 : Int) < (List.length x0 : Int))) = true, (0 : Int) ≤ x5 ∧ x5 < (List.length x0), AbC 131 (xCH (Rowd.cells (List.getD x0 (Int.toNat x5) Ty.row.dflt)) x1) (xBb r1), (decide ((r1 : Int) < 0)) = false, (0 : Int) ≤ x5 ∧ x5 < (List.length x0), AbC 132 (xCC (Rowd.frm (List.getD x0 (Int.toNat x5) Ty.row.dflt)) r1) (xA1 r2), (decide ((r2 : Int) < 0)) = false]) := by kernel_rfl
theorem p84_2_3 (x0 : List Rowd) (x1 x5 : Int) : run tt (AbsCalls Try.prog) I84 3000 true (stkAt 2 I84.body) ⟨(S84_2 x0 x1 x5), [false], [], []⟩ = some (.done (xAT x1) [(decide ((x5 : Int) < (List.length x0 : Int))) = false]) := by kernel_rfl
theorem p84_e_4 (a0 : List Rowd) (a1 : Int) : run tt (AbsCalls Try.prog) I84 3000 false [.code I84.body] ⟨(zBg 0 (xCf a0 a1)), [], [], []⟩ = some (.stop (stkAt 2 I84.body) (S84_2 a0 a1 0) []) := by kernel_rfl
theorem c84_2 {N : Nat} : ∀ n x0 x1 x5 r, xCg N n x0 x1 x5 = some r → Reach Try.prog Try.f84 I84 (stkAt 2 I84.body) (S84_2 x0 x1 x5) (xAT r) := by
 intro n
 induction n with
 | zero => intro x0 x1 x5 r h; have h' : (none : Option (Int)) = some r := h; cases h'
 | succ n ih =>
  intro x0 x1 x5 r h
  rw [xCg] at h
  rcases cond_inv h with ⟨h0, h⟩ | ⟨h0, h⟩
  ·obtain ⟨h1, h⟩ := ite_inv h
   obtain ⟨r1, h2, h⟩ := bind_inv h
   rcases cond_inv h with ⟨h3, h⟩ | ⟨h3, h⟩
   ·obtain rfl := Option.some.inj h
    exact Reach.done ttok mix fk84 (p84_2_0 x0 x1 x5 r1) (obs_cons h0 (obs_cons h1 (obs_cons (xEm h2) (obs_cons h3 obs_nil))))
   ·obtain ⟨r2, h5, h⟩ := bind_inv h
    rcases cond_inv h with ⟨h6, h⟩ | ⟨h6, h⟩
    ·obtain rfl := Option.some.inj h
     exact Reach.done ttok mix fk84 (p84_2_1 x0 x1 x5 r1 r2) (obs_cons h0 (obs_cons h1 (obs_cons (xEm h2) (obs_cons h3 (obs_cons h1 (obs_cons (xEr h5) (obs_cons h6 obs_nil)))))))
    ·exact Reach.stop ttok mix fk84 (p84_2_2 x0 x1 x5 r1 r2) (obs_cons h0 (obs_cons h1 (obs_cons (xEm h2) (obs_cons h3 (obs_cons h1 (obs_cons (xEr h5) (obs_cons h6 obs_nil))))))) (ih _ _ _ _ h)
  ·obtain rfl := Option.some.inj h
   exact Reach.done ttok mix fk84 (p84_2_3 x0 x1 x5) (obs_cons h0 obs_nil)
theorem c84_e {N : Nat} : ∀ a0 a1 r, xDy N a0 a1 = some r → Reach Try.prog Try.f84 I84 [.code I84.body] (zBg 0 (xCf a0 a1)) (xAT r) := by
 intro a0 a1 r h
 unfold xDy at h
 exact Reach.stop ttok mix fk84 (p84_e_4 a0 a1) obs_nil (c84_2   _ _ _ _ _ h)
theorem xDK {N : Nat} {a0 : List Rowd} {a1 : Int} {r : Int} (h : xDy N  a0 a1 = some r) : AbC 84 (xCf a0 a1) (xAT r) :=
 AbsCalls.of_reach fk84 rfl rfl (Nat.le_of_ble_eq_true rfl) (c84_e a0 a1 r h)
noncomputable def I82 : Info := { body := (Try.f82.body).getD .skip, nt := 77, results := [.tmp 4], keep := [0, 2, 8, 10, 18, 36, 54, 72, 92, 114, 132, 150], live := [(2, [0, 2, 10])], modes := [], ext := [], lnt := [], casts := [], fcast := [] }
theorem fk82 : FnOk Try.prog 82 Try.f82 I82 := ⟨Try.func82, by kernel_rfl, by kernel_rfl, by kernel_rfl, by kernel_rfl⟩
def S82_2 (x0 : List Val) (x1 x5 : Int) : St := [(0, .v false [.sl .ro .val x0]), (2, .v false [.int .i64 x1]), (10, .v false [.int .i64 x5])]
theorem p82_2_0 (x0 : List Val) (x1 x5 : Int) : run tt (AbsCalls Try.prog) I82 3000 true (stkAt 2 I82.body) ⟨(S82_2 x0 x1 x5), [true, true], [], []⟩ = some (.done (xAg (-1)) [(decide ((x5 : Int) < (List.length x0 : Int))) = true, (0 : Int) ≤ x5 ∧ x5 < (List.length x0), (((Val.kind (List.getD x0 (Int.toNat x5) Ty.val.dflt)) : Int) != x1) = true]) := by kernel_rfl
theorem p82_2_1 (x0 : List Val) (x1 x5 : Int) : run tt (AbsCalls Try.prog) I82 3000 true (stkAt 2 I82.body) ⟨(S82_2 x0 x1 x5), [true, false, true], [], []⟩ = some (.done (xAg (-1)) [(decide ((x5 : Int) < (List.length x0 : Int))) = true, (0 : Int) ≤ x5 ∧ x5 < (List.length x0), (((Val.kind (List.getD x0 (Int.toNat x5) Ty.val.dflt)) : Int) != x1) = false, (0 : Int) ≤ x5 ∧ x5 < (List.length x0), (((Val.n (List.getD x0 (Int.toNat x5) Ty.val.dflt)) : Int) != (IntKind.i64.wrap (x1 + 1))) = true]) := by kernel_rfl
theorem p82_2_2 (x0 : List Val) (x1 x5 : Int) : run tt (AbsCalls Try.prog) I82 3000 true (stkAt 2 I82.body) ⟨(S82_2 x0 x1 x5), [true, false, false, true], [], []⟩ = some (.done (xAg (-1)) [(decide ((x5 : Int) < (List.length x0 : Int))) = true, (0 : Int) ≤ x5 ∧ x5 < (List.length x0), (((Val.kind (List.getD x0 (Int.toNat x5) Ty.val.dflt)) : Int) != x1) = false, (0 : Int) ≤ x5 ∧ x5 < (List.length x0), (((Val.n (List.getD x0 (Int.toNat x5) Ty.val.dflt)) : Int) != (IntKind.i64.wrap (x1 + 1))) = false, (0 : Int) ≤ x5 ∧ x5 < (List.length x0), (((Val.step (List.getD x0 (Int.toNat x5) Ty.val.dflt)) : Int) != (IntKind.i64.wrap ((IntKind.i64.wrap (x1 + 1)) + 1))) = true]) := by kernel_rfl
theorem p82_2_3 (x0 : List Val) (x1 x5 : Int) (r1 : Str) : run tt (AbsCalls Try.prog) I82 3000 true (stkAt 2 I82.body) ⟨(S82_2 x0 x1 x5), [true, false, false, false, true], [xAr r1], []⟩ = some (.done (xAg (-1)) [(decide ((x5 : Int) < (List.length x0 : Int))) = true, (0 : Int) ≤ x5 ∧ x5 < (List.length x0), (((Val.kind (List.getD x0 (Int.toNat x5) Ty.val.dflt)) : Int) != x1) = false, (0 : Int) ≤ x5 ∧ x5 < (List.length x0), (((Val.n (List.getD x0 (Int.toNat x5) Ty.val.dflt)) : Int) != (IntKind.i64.wrap (x1 + 1))) = false, (0 : Int) ≤ x5 ∧ x5 < (List.length x0), (((Val.step (List.getD x0 (Int.toNat x5) Ty.val.dflt)) : Int) != (IntKind.i64.wrap ((IntKind.i64.wrap (x1 + 1)) + 1))) = false, (0 : Int) ≤ x5 ∧ x5 < (List.length x0), AbC 79 (xAU (IntKind.i64.wrap ((IntKind.i64.wrap ((IntKind.i64.wrap (x1 + 1)) + 1)) + 1))) (xAr r1), (!(((Val.text (List.getD x0 (Int.toNat x5) Ty.val.dflt)) : Str) == r1)) = true]) := by kernel_rfl
theorem p82_2_4 (x0 : List Val) (x1 x5 : Int) (r1 : Str) (r2 : Int) : run tt (AbsCalls Try.prog) I82 3000 true (stkAt 2 I82.body) ⟨(S82_2 x0 x1 x5), [true, false, false, false, false, true], [xAr r1, xAg r2], []⟩ = some (.done (xAg (-1)) [(decide ((x5 : Int) < (List.length x0 : Int))) = true, (0 : Int) ≤ x5 ∧ x5 < (List.length x0), (((Val.kind (List.getD x0 (Int.toNat x5) Ty.val.dflt)) : Int) != x1) = false, (0 : Int) ≤ x5 ∧ x5 < (List.length x0), (((Val.n (List.getD x0 (Int.toNat x5) Ty.val.dflt)) : Int) != (IntKind.i64.wrap (x1 + 1))) = false, (0 : Int) ≤ x5 ∧ x5 < (List.length x0), (((Val.step (List.getD x0 (Int.toNat x5) Ty.val.dflt)) : Int) != (IntKind.i64.wrap ((IntKind.i64.wrap (x1 + 1)) + 1))) = false, (0 : Int) ≤ x5 ∧ x5 < (List.length x0), AbC 79 (xAU (IntKind.i64.wrap ((IntKind.i64.wrap ((IntKind.i64.wrap (x1 + 1)) + 1)) + 1))) (xAr r1), (!(((Val.text (List.getD x0 (Int.toNat x5) Ty.val.dflt)) : Str) == r1)) = false, (0 : Int) ≤ x5 ∧ x5 < (List.length x0), AbC 82 (xAD (Val.list (List.getD x0 (Int.toNat x5) Ty.val.dflt)) (IntKind.i64.wrap ((IntKind.i64.wrap ((IntKind.i64.wrap ((IntKind.i64.wrap (x1 + 1)) + 1)) + 1)) + 1))) (xAg r2), (decide ((r2 : Int) < 0)) = true]) := by kernel_rfl
theorem p82_2_5 (x0 : List Val) (x1 x5 : Int) (r1 : Str) (r2 r3 : Int) : run tt (AbsCalls Try.prog) I82 3000 true (stkAt 2 I82.body) ⟨(S82_2 x0 x1 x5), [true, false, false, false, false, false, true], [xAr r1, xAg r2, xAw r3], []⟩ = some (.done (xAg (-1)) [(decide ((x5 : Int) < (List.length x0 : Int))) = true, (0 : Int) ≤ x5 ∧ x5 < (List.length x0), (((Val.kind (List.getD x0 (Int.toNat x5) Ty.val.dflt)) : Int) != x1) = false, (0 : Int) ≤ x5 ∧ x5 < (List.length x0), (((Val.n (List.getD x0 (Int.toNat x5) Ty.val.dflt)) : Int) != (IntKind.i64.wrap (x1 + 1))) = false, (0 : Int) ≤ x5 ∧ x5 < (List.length x0), (((Val.step (List.getD x0 (Int.toNat x5) Ty.val.dflt)) : Int) != (IntKind.i64.wrap ((IntKind.i64.wrap (x1 + 1)) + 1))) = false, (0 : Int) ≤ x5 ∧ x5 < (List.length x0), AbC 79 (xAU (IntKind.i64.wrap ((IntKind.i64.wrap ((IntKind.i64.wrap (x1 + 1)) + 1)) + 1))) (xAr r1), (!(((Val.text (List.getD x0 (Int.toNat x5) Ty.val.dflt)) : Str) == r1)) = false, (0 : Int) ≤ x5 ∧ x5 < (List.length x0), AbC 82 (xAD (Val.list (List.getD x0 (Int.toNat x5) Ty.val.dflt)) (IntKind.i64.wrap ((IntKind.i64.wrap ((IntKind.i64.wrap ((IntKind.i64.wrap (x1 + 1)) + 1)) + 1)) + 1))) (xAg r2), (decide ((r2 : Int) < 0)) = false, (0 : Int) ≤ x5 ∧ x5 < (List.length x0), AbC 83 (xA9 (Val.columns (List.getD x0 (Int.toNat x5) Ty.val.dflt)) r2) (xAw r3), (decide ((r3 : Int) < 0)) = true]) := by kernel_rfl
theorem p82_2_6 (x0 : List Val) (x1 x5 : Int) (r1 : Str) (r2 r3 r4 : Int) : run tt (AbsCalls Try.prog) I82 3000 true (stkAt 2 I82.body) ⟨(S82_2 x0 x1 x5), [true, false, false, false, false, false, false, true], [xAr r1, xAg r2, xAw r3, xAT r4], []⟩ = some (.done (xAg (-1)) [(decide ((x5 : Int) < (List.length x0 : Int))) = true, (0 : Int) ≤ x5 ∧ x5 < (List.length x0), (((Val.kind (List.getD x0 (Int.toNat x5) Ty.val.dflt)) : Int) != x1) = false, (0 : Int) ≤ x5 ∧ x5 < (List.length x0), (((Val.n (List.getD x0 (Int.toNat x5) Ty.val.dflt)) : Int) != (IntKind.i64.wrap (x1 + 1))) = false, (0 : Int) ≤ x5 ∧ x5 < (List.length x0), (((Val.step (List.getD x0 (Int.toNat x5) Ty.val.dflt)) : Int) != (IntKind.i64.wrap ((IntKind.i64.wrap (x1 + 1)) + 1))) = false, (0 : Int) ≤ x5 ∧ x5 < (List.length x0), AbC 79 (xAU (IntKind.i64.wrap ((IntKind.i64.wrap ((IntKind.i64.wrap (x1 + 1)) + 1)) + 1))) (xAr r1), (!(((Val.text (List.getD x0 (Int.toNat x5) Ty.val.dflt)) : Str) == r1)) = false, (0 : Int) ≤ x5 ∧ x5 < (List.length x0), AbC 82 (xAD (Val.list (List.getD x0 (Int.toNat x5) Ty.val.dflt)) (IntKind.i64.wrap ((IntKind.i64.wrap ((IntKind.i64.wrap ((IntKind.i64.wrap (x1 + 1)) + 1)) + 1)) + 1))) (xAg r2), (decide ((r2 : Int) < 0)) = false, (0 : Int) ≤ x5 ∧ x5 < (List.length x0), AbC 83 (xA9 (Val.columns (List.getD x0 (Int.toNat x5) Ty.val.dflt)) r2) (xAw r3), (decide ((r3 : Int) < 0)) = false, (0 : Int) ≤ x5 ∧ x5 < (List.length x0), AbC 84 (xCf (Val.rows (List.getD x0 (Int.toNat x5) Ty.val.dflt)) r3) (xAT r4), (decide ((r4 : Int) < 0)) = true]) := by kernel_rfl
theorem p82_2_7 (x0 : List Val) (x1 x5 : Int) (r1 : Str) (r2 r3 r4 : Int) : run tt (AbsCalls Try.prog) I82 3000 true (stkAt 2 I82.body) ⟨(S82_2 x0 x1 x5), [true, false, false, false, false, false, false, false], [xAr r1, xAg r2, xAw r3, xAT r4], []⟩ = some (.stop (stkAt 2 I82.body) (S82_2 x0 r4 (IntKind.i64.wrap (x5 + 1))) [(decide ((x5 : Int) < (List.length x0 : Int))) = true, (0 : Int) ≤ x5 ∧ x5 < (List.length x0), (((Val.kind (List.getD x0 (Int.toNat x5) Ty.val.dflt)) : Int) != x1) = false, (0 : Int) ≤ x5 ∧ x5 < (List.length x0), (((Val.n (List.getD x0 (Int.toNat x5) Ty.val.dflt)) : Int) != (IntKind.i64.wrap (x1 + 1))) = false, (0 : Int) ≤ x5 ∧ x5 < (List.length x0), (((Val.step (List.getD x0 (Int.toNat x5) Ty.val.dflt)) : Int) != (IntKind.i64.wrap ((IntKind.i64.wrap (x1 + 1)) + 1))) = false, (0 : Int) ≤ x5 ∧ x5 < (List.length x0), AbC 79 (xAU (IntKind.i64.wrap ((IntKind.i64.wrap ((IntKind.i64.wrap (x1 + 1)) + 1)) + 1))) (xAr r1), (!(((Val.text (List.getD x0 (Int.toNat x5) Ty.val.dflt)) : Str) == r1)) = false, (0 : Int) ≤ x5 ∧ x5 < (List.length x0), AbC 82 (xAD (Val.list (List.getD x0 (Int.toNat x5) Ty.val.dflt)) (IntKind.i64.wrap ((IntKind.i64.wrap ((IntKind.i64.wrap ((IntKind.i64.wrap (x1 + 1)) + 1)) + 1)) + 1))) (xAg r2), (decide ((r2 : Int) < 0)) = false, (0 : Int) ≤ x5 ∧ x5 < (List.length x0), AbC 83 (xA9 (Val.columns (List.getD x0 (Int.toNat x5) Ty.val.dflt)) r2) (xAw r3), (decide ((r3 : Int) < 0)) = false, (0 : Int) ≤ x5 ∧ x5 < (List.length x0), AbC 84 (xCf (Val.rows (List.getD x0 (Int.toNat x5) Ty.val.dflt)) r3) (xAT r4), (decide ((r4 : Int) < 0)) = false]) := by kernel_rfl
theorem p82_2_8 (x0 : List Val) (x1 x5 : Int) : run tt (AbsCalls Try.prog) I82 3000 true (stkAt 2 I82.body) ⟨(S82_2 x0 x1 x5), [false], [], []⟩ = some (.done (xAg x1) [(decide ((x5 : Int) < (List.length x0 : Int))) = false]) := by kernel_rfl
theorem p82_e_9 (a0 : List Val) (a1 : Int) : run tt (AbsCalls Try.prog) I82 3000 false [.code I82.body] ⟨(zBg 0 (xAD a0 a1)), [], [], []⟩ = some (.stop (stkAt 2 I82.body) (S82_2 a0 a1 0) []) := by kernel_rfl
theorem c82_2 {N : Nat} {rc_laws_heldValueS : (List Val) → Int → Option (Int)} (hrc_laws_heldValueS : ∀ a0 a1 r, rc_laws_heldValueS a0 a1 = some r → AbC 82 (xAD a0 a1) (xAg r)) : ∀ n x0 x1 x5 r, xBO N rc_laws_heldValueS n x0 x1 x5 = some r → Reach Try.prog Try.f82 I82 (stkAt 2 I82.body) (S82_2 x0 x1 x5) (xAg r) := by
 intro n
 induction n with
 | zero => intro x0 x1 x5 r h; have h' : (none : Option (Int)) = some r := h; cases h'
 | succ n ih =>
  intro x0 x1 x5 r h
  rw [xBO] at h
  rcases cond_inv h with ⟨h0, h⟩ | ⟨h0, h⟩
  ·obtain ⟨h1, h⟩ := ite_inv h
   rcases cond_inv h with ⟨h2, h⟩ | ⟨h2, h⟩
   ·obtain rfl := Option.some.inj h
    exact Reach.done ttok mix fk82 (p82_2_0 x0 x1 x5) (obs_cons h0 (obs_cons h1 (obs_cons h2 obs_nil)))
   ·rcases cond_inv h with ⟨h4, h⟩ | ⟨h4, h⟩
    ·obtain rfl := Option.some.inj h
     exact Reach.done ttok mix fk82 (p82_2_1 x0 x1 x5) (obs_cons h0 (obs_cons h1 (obs_cons h2 (obs_cons h1 (obs_cons h4 obs_nil)))))
    ·rcases cond_inv h with ⟨h6, h⟩ | ⟨h6, h⟩
     ·obtain rfl := Option.some.inj h
      exact Reach.done ttok mix fk82 (p82_2_2 x0 x1 x5) (obs_cons h0 (obs_cons h1 (obs_cons h2 (obs_cons h1 (obs_cons h4 (obs_cons h1 (obs_cons h6 obs_nil)))))))
     ·obtain ⟨r1, h8, h⟩ := bind_inv h
      rcases cond_inv h with ⟨h9, h⟩ | ⟨h9, h⟩
      ·obtain rfl := Option.some.inj h
       exact Reach.done ttok mix fk82 (p82_2_3 x0 x1 x5 r1) (obs_cons h0 (obs_cons h1 (obs_cons h2 (obs_cons h1 (obs_cons h4 (obs_cons h1 (obs_cons h6 (obs_cons h1 (obs_cons (xBq h8) (obs_cons h9 obs_nil))))))))))
      ·obtain ⟨r2, h11, h⟩ := bind_inv h
       rcases cond_inv h with ⟨h12, h⟩ | ⟨h12, h⟩
       ·obtain rfl := Option.some.inj h
        exact Reach.done ttok mix fk82 (p82_2_4 x0 x1 x5 r1 r2) (obs_cons h0 (obs_cons h1 (obs_cons h2 (obs_cons h1 (obs_cons h4 (obs_cons h1 (obs_cons h6 (obs_cons h1 (obs_cons (xBq h8) (obs_cons h9 (obs_cons h1 (obs_cons (hrc_laws_heldValueS _ _ _ h11) (obs_cons h12 obs_nil)))))))))))))
       ·obtain ⟨r3, h14, h⟩ := bind_inv h
        rcases cond_inv h with ⟨h15, h⟩ | ⟨h15, h⟩
        ·obtain rfl := Option.some.inj h
         exact Reach.done ttok mix fk82 (p82_2_5 x0 x1 x5 r1 r2 r3) (obs_cons h0 (obs_cons h1 (obs_cons h2 (obs_cons h1 (obs_cons h4 (obs_cons h1 (obs_cons h6 (obs_cons h1 (obs_cons (xBq h8) (obs_cons h9 (obs_cons h1 (obs_cons (hrc_laws_heldValueS _ _ _ h11) (obs_cons h12 (obs_cons h1 (obs_cons (xBX h14) (obs_cons h15 obs_nil))))))))))))))))
        ·obtain ⟨r4, h17, h⟩ := bind_inv h
         rcases cond_inv h with ⟨h18, h⟩ | ⟨h18, h⟩
         ·obtain rfl := Option.some.inj h
          exact Reach.done ttok mix fk82 (p82_2_6 x0 x1 x5 r1 r2 r3 r4) (obs_cons h0 (obs_cons h1 (obs_cons h2 (obs_cons h1 (obs_cons h4 (obs_cons h1 (obs_cons h6 (obs_cons h1 (obs_cons (xBq h8) (obs_cons h9 (obs_cons h1 (obs_cons (hrc_laws_heldValueS _ _ _ h11) (obs_cons h12 (obs_cons h1 (obs_cons (xBX h14) (obs_cons h15 (obs_cons h1 (obs_cons (xDK h17) (obs_cons h18 obs_nil)))))))))))))))))))
         ·exact Reach.stop ttok mix fk82 (p82_2_7 x0 x1 x5 r1 r2 r3 r4) (obs_cons h0 (obs_cons h1 (obs_cons h2 (obs_cons h1 (obs_cons h4 (obs_cons h1 (obs_cons h6 (obs_cons h1 (obs_cons (xBq h8) (obs_cons h9 (obs_cons h1 (obs_cons (hrc_laws_heldValueS _ _ _ h11) (obs_cons h12 (obs_cons h1 (obs_cons (xBX h14) (obs_cons h15 (obs_cons h1 (obs_cons (xDK h17) (obs_cons h18 obs_nil))))))))))))))))))) (ih _ _ _ _ h)
  ·obtain rfl := Option.some.inj h
   exact Reach.done ttok mix fk82 (p82_2_8 x0 x1 x5) (obs_cons h0 obs_nil)
theorem c82_e {N : Nat} {rc_laws_heldValueS : (List Val) → Int → Option (Int)} (hrc_laws_heldValueS : ∀ a0 a1 r, rc_laws_heldValueS a0 a1 = some r → AbC 82 (xAD a0 a1) (xAg r)) : ∀ a0 a1 r, xCS N rc_laws_heldValueS a0 a1 = some r → Reach Try.prog Try.f82 I82 [.code I82.body] (zBg 0 (xAD a0 a1)) (xAg r) := by
 intro a0 a1 r h
 unfold xCS at h
 exact Reach.stop ttok mix fk82 (p82_e_9 a0 a1) obs_nil (c82_2 hrc_laws_heldValueS  _ _ _ _ _ h)
theorem xEF {N : Nat} {rc_laws_heldValueS : (List Val) → Int → Option (Int)} (hrc_laws_heldValueS : ∀ a0 a1 r, rc_laws_heldValueS a0 a1 = some r → AbC 82 (xAD a0 a1) (xAg r)) {a0 : List Val} {a1 : Int} {r : Int} (h : xCS N rc_laws_heldValueS a0 a1 = some r) : AbC 82 (xAD a0 a1) (xAg r) :=
 AbsCalls.of_reach fk82 rfl rfl (Nat.le_of_ble_eq_true rfl) (c82_e hrc_laws_heldValueS a0 a1 r h)
theorem xEO {N : Nat} : ∀ d, (∀ a0 a1 r, xCD N d a0 a1 = some r → AbC 82 (xAD a0 a1) (xAg r)) := by
 intro d
 induction d with
 | zero => intro _ _ r h; have h' : (none : Option (Int)) = some r := h; cases h'
 | succ d ih => intro _ _ r h; exact xEF (N := N) ih h
theorem xDp {N : Nat} {a0 : List Val} {a1 : Int} {r : Int} (h : xEs N a0 a1 = some r) : AbC 82 (xAD a0 a1) (xAg r) := xEO N _ _ r h
noncomputable def I23 : Info := { body := (Try.f23.body).getD .skip, nt := 24, results := [.tmp 4], keep := [0, 2, 4, 8, 20, 32, 44, 5], live := [], modes := [], ext := [], lnt := [], casts := [], fcast := [] }
theorem fk23 : FnOk Try.prog 23 Try.f23 I23 := ⟨Try.func23, by kernel_rfl, by kernel_rfl, by kernel_rfl, by kernel_rfl⟩
theorem p23_e_0 (a0 : Val) (a1 r1 : Int) : run tt (AbsCalls Try.prog) I23 3000 false [.code I23.body] ⟨(zBg 0 (xAI a0 a1)), [true], [xAg r1], []⟩ = some (.done (xAq (-1)) [AbC 82 (xAD (Val.list a0) a1) (xAg r1), (decide ((r1 : Int) < 0)) = true]) := by kernel_rfl
theorem p23_e_1 (a0 : Val) (a1 r1 r2 : Int) : run tt (AbsCalls Try.prog) I23 3000 false [.code I23.body] ⟨(zBg 0 (xAI a0 a1)), [false, true], [xAg r1, xAw r2], []⟩ = some (.done (xAq (-1)) [AbC 82 (xAD (Val.list a0) a1) (xAg r1), (decide ((r1 : Int) < 0)) = false, AbC 83 (xA9 (Val.columns a0) r1) (xAw r2), (decide ((r2 : Int) < 0)) = true]) := by kernel_rfl
theorem p23_e_2 (a0 : Val) (a1 r1 r2 r3 : Int) : run tt (AbsCalls Try.prog) I23 3000 false [.code I23.body] ⟨(zBg 0 (xAI a0 a1)), [false, false, true], [xAg r1, xAw r2, xAT r3], []⟩ = some (.done (xAq (-1)) [AbC 82 (xAD (Val.list a0) a1) (xAg r1), (decide ((r1 : Int) < 0)) = false, AbC 83 (xA9 (Val.columns a0) r1) (xAw r2), (decide ((r2 : Int) < 0)) = false, AbC 84 (xCf (Val.rows a0) r2) (xAT r3), (decide ((r3 : Int) < 0)) = true]) := by kernel_rfl
theorem p23_e_3 (a0 : Val) (a1 r1 r2 r3 : Int) : run tt (AbsCalls Try.prog) I23 3000 false [.code I23.body] ⟨(zBg 0 (xAI a0 a1)), [false, false, false], [xAg r1, xAw r2, xAT r3], []⟩ = some (.done (xAq r3) [AbC 82 (xAD (Val.list a0) a1) (xAg r1), (decide ((r1 : Int) < 0)) = false, AbC 83 (xA9 (Val.columns a0) r1) (xAw r2), (decide ((r2 : Int) < 0)) = false, AbC 84 (xCf (Val.rows a0) r2) (xAT r3), (decide ((r3 : Int) < 0)) = false]) := by kernel_rfl
theorem c23_e {N : Nat} : ∀ a0 a1 r, xCp N a0 a1 = some r → Reach Try.prog Try.f23 I23 [.code I23.body] (zBg 0 (xAI a0 a1)) (xAq r) := by
 intro a0 a1 r h
 unfold xCp at h
 obtain ⟨r1, h0, h⟩ := bind_inv h
 rcases cond_inv h with ⟨h1, h⟩ | ⟨h1, h⟩
 ·obtain rfl := Option.some.inj h
  exact Reach.done ttok mix fk23 (p23_e_0 a0 a1 r1) (obs_cons (xDp h0) (obs_cons h1 obs_nil))
 ·obtain ⟨r2, h2, h⟩ := bind_inv h
  rcases cond_inv h with ⟨h3, h⟩ | ⟨h3, h⟩
  ·obtain rfl := Option.some.inj h
   exact Reach.done ttok mix fk23 (p23_e_1 a0 a1 r1 r2) (obs_cons (xDp h0) (obs_cons h1 (obs_cons (xBX h2) (obs_cons h3 obs_nil))))
  ·obtain ⟨r3, h4, h⟩ := bind_inv h
   rcases cond_inv h with ⟨h5, h⟩ | ⟨h5, h⟩
   ·obtain rfl := Option.some.inj h
    exact Reach.done ttok mix fk23 (p23_e_2 a0 a1 r1 r2 r3) (obs_cons (xDp h0) (obs_cons h1 (obs_cons (xBX h2) (obs_cons h3 (obs_cons (xDK h4) (obs_cons h5 obs_nil))))))
   ·obtain rfl := Option.some.inj h
    exact Reach.done ttok mix fk23 (p23_e_3 a0 a1 r1 r2 r3) (obs_cons (xDp h0) (obs_cons h1 (obs_cons (xBX h2) (obs_cons h3 (obs_cons (xDK h4) (obs_cons h5 obs_nil))))))
theorem xBt {N : Nat} {a0 : Val} {a1 : Int} {r : Int} (h : xCp N  a0 a1 = some r) : AbC 23 (xAI a0 a1) (xAq r) :=
 AbsCalls.of_reach fk23 rfl rfl (Nat.le_of_ble_eq_true rfl) (c23_e a0 a1 r h)
end Go.Ab.T
end
section
open Go.Proofs
namespace Go.Ab.T
set_option linter.unusedVariables false
set_option maxRecDepth 100000
noncomputable def I30 : Info := { body := (Try.f30.body).getD .skip, nt := 19, results := [.tmp 4], keep := [0, 2, 4, 8, 22, 34, 5], live := [], modes := [], ext := [], lnt := [], casts := [], fcast := [] }
theorem fk30 : FnOk Try.prog 30 Try.f30 I30 := ⟨Try.func30, by kernel_rfl, by kernel_rfl, by kernel_rfl, by kernel_rfl⟩
theorem p30_e_0 (a0 : Rea) (a1 : Int) : run tt (AbsCalls Try.prog) I30 3000 false [.code I30.body] ⟨(zBg 0 (xAR a0 a1)), [true], [], []⟩ = some (.done (xAs (-1)) [(decide (((IntKind.i64.wrap (a1 - (List.length (Rea.text a0) : Int))) : Int) < 0)) = true]) := by kernel_rfl
theorem p30_e_1 (a0 : Rea) (a1 r1 : Int) : run tt (AbsCalls Try.prog) I30 3000 false [.code I30.body] ⟨(zBg 0 (xAR a0 a1)), [false, true], [xAy r1], []⟩ = some (.done (xAs (-1)) [(decide (((IntKind.i64.wrap (a1 - (List.length (Rea.text a0) : Int))) : Int) < 0)) = false, AbC 24 (xAH (Rea.result a0) (IntKind.i64.wrap (a1 - (List.length (Rea.text a0) : Int)))) (xAy r1), (decide ((r1 : Int) < 0)) = true]) := by kernel_rfl
theorem p30_e_2 (a0 : Rea) (a1 r1 : Int) : run tt (AbsCalls Try.prog) I30 3000 false [.code I30.body] ⟨(zBg 0 (xAR a0 a1)), [false, false], [xAy r1], []⟩ = some (.done (xAs r1) [(decide (((IntKind.i64.wrap (a1 - (List.length (Rea.text a0) : Int))) : Int) < 0)) = false, AbC 24 (xAH (Rea.result a0) (IntKind.i64.wrap (a1 - (List.length (Rea.text a0) : Int)))) (xAy r1), (decide ((r1 : Int) < 0)) = false]) := by kernel_rfl
theorem c30_e {N : Nat} : ∀ a0 a1 r, xEw N a0 a1 = some r → Reach Try.prog Try.f30 I30 [.code I30.body] (zBg 0 (xAR a0 a1)) (xAs r) := by
 intro a0 a1 r h
 unfold xEw at h
 rcases cond_inv h with ⟨h0, h⟩ | ⟨h0, h⟩
 ·obtain rfl := Option.some.inj h
  exact Reach.done ttok mix fk30 (p30_e_0 a0 a1) (obs_cons h0 obs_nil)
 ·obtain ⟨r1, h1, h⟩ := bind_inv h
  rcases cond_inv h with ⟨h2, h⟩ | ⟨h2, h⟩
  ·obtain rfl := Option.some.inj h
   exact Reach.done ttok mix fk30 (p30_e_1 a0 a1 r1) (obs_cons h0 (obs_cons (xEW h1) (obs_cons h2 obs_nil)))
  ·obtain rfl := Option.some.inj h
   exact Reach.done ttok mix fk30 (p30_e_2 a0 a1 r1) (obs_cons h0 (obs_cons (xEW h1) (obs_cons h2 obs_nil)))
theorem xBr {N : Nat} {a0 : Rea} {a1 : Int} {r : Int} (h : xEw N  a0 a1 = some r) : AbC 30 (xAR a0 a1) (xAs r) :=
 AbsCalls.of_reach fk30 rfl rfl (Nat.le_of_ble_eq_true rfl) (c30_e a0 a1 r h)
noncomputable def I33 : Info := { body := (Try.f33.body).getD .skip, nt := 21, results := [.cell 2 55], keep := [0, 2, 4, 6, 3, 5, 7], live := [], modes := [(7, [(0, .take, false)])], ext := [], lnt := [], casts := [], fcast := [] }
theorem fk33 : FnOk Try.prog 33 Try.f33 I33 := ⟨Try.func33, by kernel_rfl, by kernel_rfl, by kernel_rfl, by kernel_rfl⟩
theorem p33_e_0 (a0 : Rea) (r1 : Val) : run tt (AbsCalls Try.prog) I33 3000 false [.code I33.body] ⟨(zBg 0 (xAk a0)), [], [xA0 r1], []⟩ = some (.done (xAc (Rea.mk (Rea.kind a0) (Rea.n a0) (Rea.time a0) (Rea.text a0) r1)) [AbC 26 (xBe (Rea.result a0)) (xA0 r1)]) := by kernel_rfl
theorem c33_e {N : Nat} : ∀ a0 r, xC4 N a0 = some r → Reach Try.prog Try.f33 I33 [.code I33.body] (zBg 0 (xAk a0)) (xAc r) := by
 intro a0 r h
 unfold xC4 at h
 obtain ⟨r1, h0, h⟩ := bind_inv h
 obtain rfl := Option.some.inj h
 exact Reach.done ttok mix fk33 (p33_e_0 a0 r1) (obs_cons (laws_toValue_ok h0) obs_nil)
theorem xAl {N : Nat} {a0 : Rea} {r : Rea} (h : xC4 N  a0 = some r) : AbC 33 (xAk a0) (xAc r) :=
 AbsCalls.of_reach fk33 rfl rfl (Nat.le_of_ble_eq_true rfl) (c33_e a0 r h)
noncomputable def I36 : Info := { body := (Try.f36.body).getD .skip, nt := 31, results := [.tmp 4], keep := [0, 2, 4, 6, 8, 18, 28, 38, 48, 60, 5, 7], live := [], modes := [], ext := [], lnt := [], casts := [], fcast := [] }
theorem fk36 : FnOk Try.prog 36 Try.f36 I36 := ⟨Try.func36, by kernel_rfl, by kernel_rfl, by kernel_rfl, by kernel_rfl⟩
theorem p36_e_0 (a0 a1 : Rea) : run tt (AbsCalls Try.prog) I36 3000 false [.code I36.body] ⟨(zBg 0 (xAQ a0 a1)), [true], [], []⟩ = some (.done (xAv false) [(((Rea.kind a0) : Int) != (Rea.kind a1)) = true]) := by kernel_rfl
theorem p36_e_1 (a0 a1 : Rea) : run tt (AbsCalls Try.prog) I36 3000 false [.code I36.body] ⟨(zBg 0 (xAQ a0 a1)), [false, true], [], []⟩ = some (.done (xAv false) [(((Rea.kind a0) : Int) != (Rea.kind a1)) = false, (((Rea.n a0) : Int) != (Rea.n a1)) = true]) := by kernel_rfl
theorem p36_e_2 (a0 a1 : Rea) : run tt (AbsCalls Try.prog) I36 3000 false [.code I36.body] ⟨(zBg 0 (xAQ a0 a1)), [false, false, true], [], []⟩ = some (.done (xAv false) [(((Rea.kind a0) : Int) != (Rea.kind a1)) = false, (((Rea.n a0) : Int) != (Rea.n a1)) = false, (((Rea.time a0) : Int) != (Rea.time a1)) = true]) := by kernel_rfl
theorem p36_e_3 (a0 a1 : Rea) : run tt (AbsCalls Try.prog) I36 3000 false [.code I36.body] ⟨(zBg 0 (xAQ a0 a1)), [false, false, false, true], [], []⟩ = some (.done (xAv false) [(((Rea.kind a0) : Int) != (Rea.kind a1)) = false, (((Rea.n a0) : Int) != (Rea.n a1)) = false, (((Rea.time a0) : Int) != (Rea.time a1)) = false, (!(((Rea.text a0) : Str) == (Rea.text a1))) = true]) := by kernel_rfl
theorem p36_e_4 (a0 a1 : Rea) (r1 : Bool) : run tt (AbsCalls Try.prog) I36 3000 false [.code I36.body] ⟨(zBg 0 (xAQ a0 a1)), [false, false, false, false, true], [xAb r1], []⟩ = some (.done (xAv false) [(((Rea.kind a0) : Int) != (Rea.kind a1)) = false, (((Rea.n a0) : Int) != (Rea.n a1)) = false, (((Rea.time a0) : Int) != (Rea.time a1)) = false, (!(((Rea.text a0) : Str) == (Rea.text a1))) = false, AbC 19 (xAf (Rea.result a0) (Rea.result a1)) (xAb r1), (!r1) = true]) := by kernel_rfl
theorem p36_e_5 (a0 a1 : Rea) (r1 : Bool) : run tt (AbsCalls Try.prog) I36 3000 false [.code I36.body] ⟨(zBg 0 (xAQ a0 a1)), [false, false, false, false, false], [xAb r1], []⟩ = some (.done (xAv true) [(((Rea.kind a0) : Int) != (Rea.kind a1)) = false, (((Rea.n a0) : Int) != (Rea.n a1)) = false, (((Rea.time a0) : Int) != (Rea.time a1)) = false, (!(((Rea.text a0) : Str) == (Rea.text a1))) = false, AbC 19 (xAf (Rea.result a0) (Rea.result a1)) (xAb r1), (!r1) = false]) := by kernel_rfl
theorem c36_e {N : Nat} : ∀ a0 a1 r, xD5 N a0 a1 = some r → Reach Try.prog Try.f36 I36 [.code I36.body] (zBg 0 (xAQ a0 a1)) (xAv r) := by
 intro a0 a1 r h
 unfold xD5 at h
 rcases cond_inv h with ⟨h0, h⟩ | ⟨h0, h⟩
 ·obtain rfl := Option.some.inj h
  exact Reach.done ttok mix fk36 (p36_e_0 a0 a1) (obs_cons h0 obs_nil)
 ·rcases cond_inv h with ⟨h1, h⟩ | ⟨h1, h⟩
  ·obtain rfl := Option.some.inj h
   exact Reach.done ttok mix fk36 (p36_e_1 a0 a1) (obs_cons h0 (obs_cons h1 obs_nil))
  ·rcases cond_inv h with ⟨h2, h⟩ | ⟨h2, h⟩
   ·obtain rfl := Option.some.inj h
    exact Reach.done ttok mix fk36 (p36_e_2 a0 a1) (obs_cons h0 (obs_cons h1 (obs_cons h2 obs_nil)))
   ·rcases cond_inv h with ⟨h3, h⟩ | ⟨h3, h⟩
    ·obtain rfl := Option.some.inj h
     exact Reach.done ttok mix fk36 (p36_e_3 a0 a1) (obs_cons h0 (obs_cons h1 (obs_cons h2 (obs_cons h3 obs_nil))))
    ·obtain ⟨r1, h4, h⟩ := bind_inv h
     rcases cond_inv h with ⟨h5, h⟩ | ⟨h5, h⟩
     ·obtain rfl := Option.some.inj h
      exact Reach.done ttok mix fk36 (p36_e_4 a0 a1 r1) (obs_cons h0 (obs_cons h1 (obs_cons h2 (obs_cons h3 (obs_cons (xAu h4) (obs_cons h5 obs_nil))))))
     ·obtain rfl := Option.some.inj h
      exact Reach.done ttok mix fk36 (p36_e_5 a0 a1 r1) (obs_cons h0 (obs_cons h1 (obs_cons h2 (obs_cons h3 (obs_cons (xAu h4) (obs_cons h5 obs_nil))))))
theorem xB5 {N : Nat} {a0 : Rea} {a1 : Rea} {r : Bool} (h : xD5 N  a0 a1 = some r) : AbC 36 (xAQ a0 a1) (xAv r) :=
 AbsCalls.of_reach fk36 rfl rfl (Nat.le_of_ble_eq_true rfl) (c36_e a0 a1 r h)
end Go.Ab.T
end
section
open Go.Proofs
namespace Go.Ab.T
set_option linter.unusedVariables false
set_option maxRecDepth 100000
noncomputable def I135 : Info := { body := (Try.f135.body).getD .skip, nt := 13, results := [.tmp 4], keep := [0, 2, 4, 8, 22, 5], live := [], modes := [], ext := [], lnt := [], casts := [], fcast := [] }
theorem fk135 : FnOk Try.prog 135 Try.f135 I135 := ⟨Try.func135, by kernel_rfl, by kernel_rfl, by kernel_rfl, by kernel_rfl⟩
theorem p135_e_0 (a0 : Fil) (a1 : Int) : run tt (AbsCalls Try.prog) I135 3000 false [.code I135.body] ⟨(zBg 0 (xDj a0 a1)), [true], [], []⟩ = some (.done (xCr (-1)) [(decide (((IntKind.i64.wrap (a1 - (List.length (Fil.name a0) : Int))) : Int) < 0)) = true]) := by kernel_rfl
theorem p135_e_1 (a0 : Fil) (a1 : Int) : run tt (AbsCalls Try.prog) I135 3000 false [.code I135.body] ⟨(zBg 0 (xDj a0 a1)), [false], [], []⟩ = some (.done (xCr (IntKind.i64.wrap (a1 - (List.length (Fil.name a0) : Int)))) [(decide (((IntKind.i64.wrap (a1 - (List.length (Fil.name a0) : Int))) : Int) < 0)) = false]) := by kernel_rfl
theorem c135_e {N : Nat} : ∀ a0 a1 r, xD8 N a0 a1 = some r → Reach Try.prog Try.f135 I135 [.code I135.body] (zBg 0 (xDj a0 a1)) (xCr r) := by
 intro a0 a1 r h
 unfold xD8 at h
 rcases cond_inv h with ⟨h0, h⟩ | ⟨h0, h⟩
 ·obtain rfl := Option.some.inj h
  exact Reach.done ttok mix fk135 (p135_e_0 a0 a1) (obs_cons h0 obs_nil)
 ·obtain rfl := Option.some.inj h
  exact Reach.done ttok mix fk135 (p135_e_1 a0 a1) (obs_cons h0 obs_nil)
theorem xFa {N : Nat} {a0 : Fil} {a1 : Int} {r : Int} (h : xD8 N  a0 a1 = some r) : AbC 135 (xDj a0 a1) (xCr r) :=
 AbsCalls.of_reach fk135 rfl rfl (Nat.le_of_ble_eq_true rfl) (c135_e a0 a1 r h)
noncomputable def I94 : Info := { body := (Try.f94.body).getD .skip, nt := 27, results := [.tmp 4], keep := [0, 2, 8, 10, 22, 30, 50], live := [(5, [0, 2, 10])], modes := [], ext := [], lnt := [], casts := [], fcast := [] }
theorem fk94 : FnOk Try.prog 94 Try.f94 I94 := ⟨Try.func94, by kernel_rfl, by kernel_rfl, by kernel_rfl, by kernel_rfl⟩
def S94_5 (x0 : List Fil) (x1 x5 : Int) : St := [(0, .v false [.sl .ro .fil x0]), (2, .v false [.int .i64 x1]), (10, .v false [.int .i64 x5])]
theorem p94_5_0 (x0 : List Fil) (x1 x5 r1 : Int) : run tt (AbsCalls Try.prog) I94 3000 true (stkAt 5 I94.body) ⟨(S94_5 x0 x1 x5), [true, true], [xCr r1], []⟩ = some (.done (xBA (-1)) [(decide ((x5 : Int) < (List.length x0 : Int))) = true, (0 : Int) ≤ x5 ∧ x5 < (List.length x0), AbC 135 (xDj (List.getD x0 (Int.toNat x5) Ty.fil.dflt) x1) (xCr r1), (decide ((r1 : Int) < 0)) = true]) := by kernel_rfl
theorem p94_5_1 (x0 : List Fil) (x1 x5 r1 : Int) : run tt (AbsCalls Try.prog) I94 3000 true (stkAt 5 I94.body) ⟨(S94_5 x0 x1 x5), [true, false], [xCr r1], []⟩ = some (.stop (stkAt 5 I94.body) (S94_5 x0 r1 (IntKind.i64.wrap (x5 + 1))) [(decide ((x5 : Int) < (List.length x0 : Int))) = true, (0 : Int) ≤ x5 ∧ x5 < (List.length x0), AbC 135 (xDj (List.getD x0 (Int.toNat x5) Ty.fil.dflt) x1) (xCr r1), (decide ((r1 : Int) < 0)) = false]) := by kernel_rfl
theorem p94_5_2 (x0 : List Fil) (x1 x5 : Int) : run tt (AbsCalls Try.prog) I94 3000 true (stkAt 5 I94.body) ⟨(S94_5 x0 x1 x5), [false], [], []⟩ = some (.done (xBA x1) [(decide ((x5 : Int) < (List.length x0 : Int))) = false]) := by kernel_rfl
theorem p94_e_3 (a0 : List Fil) (a1 : Int) : run tt (AbsCalls Try.prog) I94 3000 false [.code I94.body] ⟨(zBg 0 (xCV a0 a1)), [true], [], []⟩ = some (.done (xBA (-1)) [(decide (((IntKind.i64.wrap (a1 - (List.length a0 : Int))) : Int) < 0)) = true]) := by kernel_rfl
theorem p94_e_4 (a0 : List Fil) (a1 : Int) : run tt (AbsCalls Try.prog) I94 3000 false [.code I94.body] ⟨(zBg 0 (xCV a0 a1)), [false], [], []⟩ = some (.stop (stkAt 5 I94.body) (S94_5 a0 (IntKind.i64.wrap (a1 - (List.length a0 : Int))) 0) [(decide (((IntKind.i64.wrap (a1 - (List.length a0 : Int))) : Int) < 0)) = false]) := by kernel_rfl
theorem c94_5 {N : Nat} : ∀ n x0 x1 x5 r, xDt N n x0 x1 x5 = some r → Reach Try.prog Try.f94 I94 (stkAt 5 I94.body) (S94_5 x0 x1 x5) (xBA r) := by
 intro n
 induction n with
 | zero => intro x0 x1 x5 r h; have h' : (none : Option (Int)) = some r := h; cases h'
 | succ n ih =>
  intro x0 x1 x5 r h
  rw [xDt] at h
  rcases cond_inv h with ⟨h0, h⟩ | ⟨h0, h⟩
  ·obtain ⟨h1, h⟩ := ite_inv h
   obtain ⟨r1, h2, h⟩ := bind_inv h
   rcases cond_inv h with ⟨h3, h⟩ | ⟨h3, h⟩
   ·obtain rfl := Option.some.inj h
    exact Reach.done ttok mix fk94 (p94_5_0 x0 x1 x5 r1) (obs_cons h0 (obs_cons h1 (obs_cons (xFa h2) (obs_cons h3 obs_nil))))
   ·exact Reach.stop ttok mix fk94 (p94_5_1 x0 x1 x5 r1) (obs_cons h0 (obs_cons h1 (obs_cons (xFa h2) (obs_cons h3 obs_nil)))) (ih _ _ _ _ h)
  ·obtain rfl := Option.some.inj h
   exact Reach.done ttok mix fk94 (p94_5_2 x0 x1 x5) (obs_cons h0 obs_nil)
theorem c94_e {N : Nat} : ∀ a0 a1 r, xEi N a0 a1 = some r → Reach Try.prog Try.f94 I94 [.code I94.body] (zBg 0 (xCV a0 a1)) (xBA r) := by
 intro a0 a1 r h
 unfold xEi at h
 rcases cond_inv h with ⟨h0, h⟩ | ⟨h0, h⟩
 ·obtain rfl := Option.some.inj h
  exact Reach.done ttok mix fk94 (p94_e_3 a0 a1) (obs_cons h0 obs_nil)
 ·exact Reach.stop ttok mix fk94 (p94_e_4 a0 a1) (obs_cons h0 obs_nil) (c94_5   _ _ _ _ _ h)
theorem xET {N : Nat} {a0 : List Fil} {a1 : Int} {r : Int} (h : xEi N  a0 a1 = some r) : AbC 94 (xCV a0 a1) (xBA r) :=
 AbsCalls.of_reach fk94 rfl rfl (Nat.le_of_ble_eq_true rfl) (c94_e a0 a1 r h)
end Go.Ab.T
end
