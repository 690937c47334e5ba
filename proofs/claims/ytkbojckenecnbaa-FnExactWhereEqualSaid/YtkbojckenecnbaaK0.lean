/- What several statements share: plain functions, certificates, laws. Conditions: none. -/
import Derived.Test.YtkbojckenecnbaaChecked
import Derived.Test.YtkbojckenecnbaaProg
import Derived.Test.YtkbojckenecnbaaRows
import Derived.Test.YtkbojckenecnbaaL2
set_option linter.all false
section
namespace Go.Ab
set_option linter.unusedVariables false
def yB0 (a0 : List Str) (a1 : Int) : List Arg := [.val (.v false [.sl .ro .str a0]), .val (.v false [.int .i64 a1])]
def yAL (r : Int) : CallO := ⟨.v false [.int .i64 r], [], []⟩
def yC6 (N : Nat) : Nat → (List Str) → Int → Int → Option (Int)
  | 0, _, _, _ => none
  | n + 1, x0, x1, x5 =>
    bif (decide ((x5 : Int) < (List.length x0 : Int))) then (
      if (0 : Int) ≤ x5 ∧ x5 < (List.length x0) then
      bif (decide (((IntKind.i64.wrap (x1 - (List.length (List.getD x0 (Int.toNat x5) Ty.str.dflt) : Int))) : Int) < 0)) then (
        some (-1)
      ) else (
        (yC6 N n x0 (IntKind.i64.wrap (x1 - (List.length (List.getD x0 (Int.toNat x5) Ty.str.dflt) : Int))) (IntKind.i64.wrap (x5 + 1)))
      )
      else none
    ) else (
      some x1
    )
def yEb (N : Nat) (a0 : List Str) (a1 : Int) : Option (Int) :=
  bif (decide (((IntKind.i64.wrap (a1 - (List.length a0 : Int))) : Int) < 0)) then (
    some (-1)
  ) else (
    (yC6 N N a0 (IntKind.i64.wrap (a1 - (List.length a0 : Int))) 0)
  )
def yC1 (a0 : List Int) (a1 : Int) : List Arg := [.val (.v false [.sl .ro .int a0]), .val (.v false [.int .i64 a1])]
def yBE (r : Int) : CallO := ⟨.v false [.int .i64 r], [], []⟩
def yE4 (N : Nat) (a0 : List Int) (a1 : Int) : Option (Int) :=
  bif (decide (((IntKind.i64.wrap (a1 - (List.length a0 : Int))) : Int) < 0)) then (
    some (-1)
  ) else (
    some (IntKind.i64.wrap (a1 - (List.length a0 : Int)))
  )
def yCv (a0 : List Org) (a1 : Int) : List Arg := [.val (.v false [.sl .ro .org a0]), .val (.v false [.int .i64 a1])]
def yBA (r : Int) : CallO := ⟨.v false [.int .i64 r], [], []⟩
def yD9 (N : Nat) (a0 : List Org) (a1 : Int) : Option (Int) :=
  bif (decide (((IntKind.i64.wrap (a1 - (List.length a0 : Int))) : Int) < 0)) then (
    some (-1)
  ) else (
    some (IntKind.i64.wrap (a1 - (List.length a0 : Int)))
  )
def yDj (a0 : Rowd) (a1 : Int) : List Arg := [.val (.v true [.sl .ro .int (Rowd.cells a0), .sl .ro .org (Rowd.frm a0)]), .val (.v false [.int .i64 a1])]
def yCp (r : Int) : CallO := ⟨.v false [.int .i64 r], [], []⟩
def yEU (N : Nat) (a0 : Rowd) (a1 : Int) : Option (Int) :=
  Option.bind (yE4 N (Rowd.cells a0) a1) fun r1 =>
  bif (decide ((r1 : Int) < 0)) then (
    some (-1)
  ) else (
    Option.bind (yD9 N (Rowd.frm a0) r1) fun r2 =>
    bif (decide ((r2 : Int) < 0)) then (
      some (-1)
    ) else (
      some r2
    )
  )
def yDD (a0 : List Rowd) (a1 : Int) : List Arg := [.val (.v false [.sl .ro .row a0]), .val (.v false [.int .i64 a1])]
def yBF (r : Int) : CallO := ⟨.v false [.int .i64 r], [], []⟩
def yEa (N : Nat) : Nat → (List Rowd) → Int → Int → Option (Int)
  | 0, _, _, _ => none
  | n + 1, x0, x1, x5 =>
    bif (decide ((x5 : Int) < (List.length x0 : Int))) then (
      if (0 : Int) ≤ x5 ∧ x5 < (List.length x0) then
      Option.bind (yEU N (List.getD x0 (Int.toNat x5) Ty.row.dflt) x1) fun r1 =>
      bif (decide ((r1 : Int) < 0)) then (
        some (-1)
      ) else (
        (yEa N n x0 r1 (IntKind.i64.wrap (x5 + 1)))
      )
      else none
    ) else (
      some x1
    )
def yE5 (N : Nat) (a0 : List Rowd) (a1 : Int) : Option (Int) :=
  bif (decide (((IntKind.i64.wrap (a1 - (List.length a0 : Int))) : Int) < 0)) then (
    some (-1)
  ) else (
    (yEa N N a0 (IntKind.i64.wrap (a1 - (List.length a0 : Int))) 0)
  )
def yAG (a0 : Val) (a1 : Int) : List Arg := [.val (.v true [.int .i64 (Val.kind a0), .int .i64 (Val.n a0), .int .i64 (Val.step a0), .str (Val.text a0), .sl .ro .val (Val.list a0), .sl .ro .str (Val.columns a0), .sl .ro .row (Val.rows a0)]), .val (.v false [.int .i64 a1])]
def yAw (r : Int) : CallO := ⟨.v false [.int .i64 r], [], []⟩
def yDX (N : Nat) (rc_laws_szValue : Val → Int → Option (Int)) (rc_laws_szValueS : (List Val) → Int → Option (Int)) (a0 : Val) (a1 : Int) : Option (Int) :=
  bif (decide (((IntKind.i64.wrap (a1 - (List.length (Val.text a0) : Int))) : Int) < 0)) then (
    some (-1)
  ) else (
    Option.bind (rc_laws_szValueS (Val.list a0) (IntKind.i64.wrap (a1 - (List.length (Val.text a0) : Int)))) fun r1 =>
    bif (decide ((r1 : Int) < 0)) then (
      some (-1)
    ) else (
      Option.bind (yEb N (Val.columns a0) r1) fun r2 =>
      bif (decide ((r2 : Int) < 0)) then (
        some (-1)
      ) else (
        Option.bind (yE5 N (Val.rows a0) r2) fun r3 =>
        bif (decide ((r3 : Int) < 0)) then (
          some (-1)
        ) else (
          some r3
        )
      )
    )
  )
def yAE (a0 : List Val) (a1 : Int) : List Arg := [.val (.v false [.sl .ro .val a0]), .val (.v false [.int .i64 a1])]
def yAl (r : Int) : CallO := ⟨.v false [.int .i64 r], [], []⟩
def yDr (N : Nat) (rc_laws_szValue : Val → Int → Option (Int)) (rc_laws_szValueS : (List Val) → Int → Option (Int)) : Nat → (List Val) → Int → Int → Option (Int)
  | 0, _, _, _ => none
  | n + 1, x0, x1, x5 =>
    bif (decide ((x5 : Int) < (List.length x0 : Int))) then (
      if (0 : Int) ≤ x5 ∧ x5 < (List.length x0) then
      Option.bind (rc_laws_szValue (List.getD x0 (Int.toNat x5) Ty.val.dflt) x1) fun r1 =>
      bif (decide ((r1 : Int) < 0)) then (
        some (-1)
      ) else (
        (yDr N rc_laws_szValue rc_laws_szValueS n x0 r1 (IntKind.i64.wrap (x5 + 1)))
      )
      else none
    ) else (
      some x1
    )
def yDK (N : Nat) (rc_laws_szValue : Val → Int → Option (Int)) (rc_laws_szValueS : (List Val) → Int → Option (Int)) (a0 : List Val) (a1 : Int) : Option (Int) :=
  bif (decide (((IntKind.i64.wrap (a1 - (List.length a0 : Int))) : Int) < 0)) then (
    some (-1)
  ) else (
    (yDr N rc_laws_szValue rc_laws_szValueS N a0 (IntKind.i64.wrap (a1 - (List.length a0 : Int))) 0)
  )
structure laws_szValue_rec where
  c_laws_szValue : Val → Int → Option (Int)
  c_laws_szValueS : (List Val) → Int → Option (Int)
def yBf (N : Nat) : Nat → laws_szValue_rec
  | 0 => ⟨fun _ _ => none, fun _ _ => none⟩
  | d + 1 => ⟨yDX N (yBf N d).c_laws_szValue (yBf N d).c_laws_szValueS, yDK N (yBf N d).c_laws_szValue (yBf N d).c_laws_szValueS⟩
def yDZ (a0 : List Str) : List Arg := [.val (.v false [.sl .ro .str a0])]
def yCx (r : (List Str)) : CallO := ⟨.v false [.sl .own .str r], [], []⟩
def yC8 (N : Nat) : Nat → (List Str) → (List Str) → Int → Option ((List Str))
  | 0, _, _, _ => none
  | n + 1, x0, x3, x4 =>
    bif (decide ((x4 : Int) < (List.length x0 : Int))) then (
      if (0 : Int) ≤ x4 ∧ x4 < (List.length x0) then
      if (0 : Int) ≤ x4 ∧ x4 < (List.length x3) then
      (yC8 N n x0 (List.set x3 (Int.toNat x4) (List.getD x0 (Int.toNat x4) Ty.str.dflt)) (IntKind.i64.wrap (x4 + 1)))
      else none
      else none
    ) else (
      some x3
    )
def yDH (N : Nat) (a0 : List Str) : Option ((List Str)) :=
  if (0 : Int) ≤ (List.length a0 : Int) ∧ (List.length a0 : Int) = (List.length a0 : Int) ∧ (List.length a0 : Int) ≤ Lim then
  (yC8 N N a0 (List.replicate (Int.toNat (List.length a0 : Int)) Ty.str.dflt) 0)
  else none
def yEH (a0 : List Int) : List Arg := [.val (.v false [.sl .ro .int a0])]
def yDE (r : (List Int)) : CallO := ⟨.v false [.sl .own .int r], [], []⟩
def yEc (N : Nat) : Nat → (List Int) → (List Int) → Int → Option ((List Int))
  | 0, _, _, _ => none
  | n + 1, x0, x3, x4 =>
    bif (decide ((x4 : Int) < (List.length x0 : Int))) then (
      if (0 : Int) ≤ x4 ∧ x4 < (List.length x0) then
      if (0 : Int) ≤ x4 ∧ x4 < (List.length x3) then
      (yEc N n x0 (List.set x3 (Int.toNat x4) (List.getD x0 (Int.toNat x4) Ty.int.dflt)) (IntKind.i64.wrap (x4 + 1)))
      else none
      else none
    ) else (
      some x3
    )
def yEA (N : Nat) (a0 : List Int) : Option ((List Int)) :=
  if (0 : Int) ≤ (List.length a0 : Int) ∧ (List.length a0 : Int) = (List.length a0 : Int) ∧ (List.length a0 : Int) ≤ Lim then
  (yEc N N a0 (List.replicate (Int.toNat (List.length a0 : Int)) Ty.int.dflt) 0)
  else none
def yEi (a0 : Org) : List Arg := [.val (.v true [.int .i64 (Org.cell a0), .int .i64 (Org.row a0)])]
def yDs (r : Org) : CallO := ⟨.v true [.int .i64 (Org.cell r), .int .i64 (Org.row r)], [], []⟩
def yEp (N : Nat) (a0 : Org) : Option (Org) :=
  some a0
def yDY (a0 : List Org) : List Arg := [.val (.v false [.sl .ro .org a0])]
def yCw (r : (List Org)) : CallO := ⟨.v false [.sl .own .org r], [], []⟩
def yC7 (N : Nat) : Nat → (List Org) → (List Org) → Int → Option ((List Org))
  | 0, _, _, _ => none
  | n + 1, x0, x3, x4 =>
    bif (decide ((x4 : Int) < (List.length x0 : Int))) then (
      if (0 : Int) ≤ x4 ∧ x4 < (List.length x0) then
      Option.bind (yEp N (List.getD x0 (Int.toNat x4) Ty.org.dflt)) fun r1 =>
      if (0 : Int) ≤ x4 ∧ x4 < (List.length x3) then
      (yC7 N n x0 (List.set x3 (Int.toNat x4) r1) (IntKind.i64.wrap (x4 + 1)))
      else none
      else none
    ) else (
      some x3
    )
def yDF (N : Nat) (a0 : List Org) : Option ((List Org)) :=
  if (0 : Int) ≤ (List.length a0 : Int) ∧ (List.length a0 : Int) = (List.length a0 : Int) ∧ (List.length a0 : Int) ≤ Lim then
  (yC7 N N a0 (List.replicate (Int.toNat (List.length a0 : Int)) Ty.org.dflt) 0)
  else none
def yES (a0 : Rowd) : List Arg := [.val (.v true [.sl .ro .int (Rowd.cells a0), .sl .ro .org (Rowd.frm a0)])]
def yEq (r : Rowd) : CallO := ⟨.v true [.sl .own .int (Rowd.cells r), .sl .own .org (Rowd.frm r)], [], []⟩
def yEB (N : Nat) (a0 : Rowd) : Option (Rowd) :=
  Option.bind (yEA N (Rowd.cells a0)) fun r1 =>
  Option.bind (yDF N (Rowd.frm a0)) fun r2 =>
  some (Rowd.mk r1 r2)
def yEI (a0 : List Rowd) : List Arg := [.val (.v false [.sl .ro .row a0])]
def yDG (r : (List Rowd)) : CallO := ⟨.v false [.sl .own .row r], [], []⟩
def yEd (N : Nat) : Nat → (List Rowd) → (List Rowd) → Int → Option ((List Rowd))
  | 0, _, _, _ => none
  | n + 1, x0, x3, x4 =>
    bif (decide ((x4 : Int) < (List.length x0 : Int))) then (
      if (0 : Int) ≤ x4 ∧ x4 < (List.length x0) then
      Option.bind (yEB N (List.getD x0 (Int.toNat x4) Ty.row.dflt)) fun r1 =>
      if (0 : Int) ≤ x4 ∧ x4 < (List.length x3) then
      (yEd N n x0 (List.set x3 (Int.toNat x4) r1) (IntKind.i64.wrap (x4 + 1)))
      else none
      else none
    ) else (
      some x3
    )
def yEC (N : Nat) (a0 : List Rowd) : Option ((List Rowd)) :=
  if (0 : Int) ≤ (List.length a0 : Int) ∧ (List.length a0 : Int) = (List.length a0 : Int) ∧ (List.length a0 : Int) ≤ Lim then
  (yEd N N a0 (List.replicate (Int.toNat (List.length a0 : Int)) Ty.row.dflt) 0)
  else none
def yBl (a0 : Val) : List Arg := [.val (.v true [.int .i64 (Val.kind a0), .int .i64 (Val.n a0), .int .i64 (Val.step a0), .str (Val.text a0), .sl .ro .val (Val.list a0), .sl .ro .str (Val.columns a0), .sl .ro .row (Val.rows a0)])]
def yBb (r : Val) : CallO := ⟨.v true [.int .i64 (Val.kind r), .int .i64 (Val.n r), .int .i64 (Val.step r), .str (Val.text r), .sl .own .val (Val.list r), .sl .own .str (Val.columns r), .sl .own .row (Val.rows r)], [], []⟩
def yCy (N : Nat) (rc_laws_toValue : Val → Option (Val)) (rc_laws_toValueS : (List Val) → Option ((List Val))) (a0 : Val) : Option (Val) :=
  Option.bind (rc_laws_toValueS (Val.list a0)) fun r1 =>
  Option.bind (yDH N (Val.columns a0)) fun r2 =>
  Option.bind (yEC N (Val.rows a0)) fun r3 =>
  some (Val.mk (Val.kind a0) (Val.n a0) (Val.step a0) (Val.text a0) r1 r2 r3)
def yBg (a0 : List Val) : List Arg := [.val (.v false [.sl .ro .val a0])]
def yAS (r : (List Val)) : CallO := ⟨.v false [.sl .own .val r], [], []⟩
def yDt (N : Nat) (rc_laws_toValue : Val → Option (Val)) (rc_laws_toValueS : (List Val) → Option ((List Val))) : Nat → (List Val) → (List Val) → Int → Option ((List Val))
  | 0, _, _, _ => none
  | n + 1, x0, x3, x4 =>
    bif (decide ((x4 : Int) < (List.length x0 : Int))) then (
      if (0 : Int) ≤ x4 ∧ x4 < (List.length x0) then
      Option.bind (rc_laws_toValue (List.getD x0 (Int.toNat x4) Ty.val.dflt)) fun r1 =>
      if (0 : Int) ≤ x4 ∧ x4 < (List.length x3) then
      (yDt N rc_laws_toValue rc_laws_toValueS n x0 (List.set x3 (Int.toNat x4) (Val.re r1)) (IntKind.i64.wrap (x4 + 1)))
      else none
      else none
    ) else (
      some x3
    )
def yCa (N : Nat) (rc_laws_toValue : Val → Option (Val)) (rc_laws_toValueS : (List Val) → Option ((List Val))) (a0 : List Val) : Option ((List Val)) :=
  if (0 : Int) ≤ (List.length a0 : Int) ∧ (List.length a0 : Int) = (List.length a0 : Int) ∧ (List.length a0 : Int) ≤ Lim then
  (yDt N rc_laws_toValue rc_laws_toValueS N a0 (List.replicate (Int.toNat (List.length a0 : Int)) Ty.val.dflt) 0)
  else none
structure laws_toValue_rec where
  c_laws_toValue : Val → Option (Val)
  c_laws_toValueS : (List Val) → Option ((List Val))
def yAv (N : Nat) : Nat → laws_toValue_rec
  | 0 => ⟨fun _ => none, fun _ => none⟩
  | d + 1 => ⟨yCy N (yAv N d).c_laws_toValue (yAv N d).c_laws_toValueS, yCa N (yAv N d).c_laws_toValue (yAv N d).c_laws_toValueS⟩
def spec_l3Row (N : Nat) (a0 : Rowd) : Option (Rowd) :=
  if 0 + List.length (Rowd.cells a0) ≤ Lim then
  if 0 + List.length (Rowd.frm a0) ≤ Lim then
  some (Rowd.mk ([] ++ (Rowd.cells a0)) ([] ++ (Rowd.frm a0)))
  else none
  else none
def yF5 (N : Nat) (rc_spec_l3Copy : Val → Option (Val)) : Nat → Int → Val → Val → Val → Option (Val)
  | 0, _, _, _, _ => none
  | n + 1, x5, b1, b2, b3 =>
    bif (decide ((x5 : Int) < (List.length (Val.rows b1) : Int))) then (
      if (0 : Int) ≤ x5 ∧ x5 < (List.length (Val.rows b1)) then
      Option.bind (spec_l3Row N (List.getD (Val.rows b1) (Int.toNat x5) Ty.row.dflt)) fun r1 =>
      if List.length (Val.rows b3) + List.length [r1] ≤ Lim then
      (yF5 N rc_spec_l3Copy n (IntKind.i64.wrap (x5 + 1)) b1 b2 (Val.mk (Val.kind b3) (Val.n b3) (Val.step b3) (Val.text b3) (Val.list b3) (Val.columns b3) ((Val.rows b3) ++ [r1])))
      else none
      else none
    ) else (
      some b3
    )
def yF4 (N : Nat) (rc_spec_l3Copy : Val → Option (Val)) : Nat → Int → Val → Val → Val → Option (Val)
  | 0, _, _, _, _ => none
  | n + 1, x4, b1, b2, b3 =>
    bif (decide ((x4 : Int) < (List.length (Val.list b1) : Int))) then (
      if (0 : Int) ≤ x4 ∧ x4 < (List.length (Val.list b1)) then
      Option.bind (rc_spec_l3Copy (List.getD (Val.list b1) (Int.toNat x4) Ty.val.dflt)) fun r1 =>
      if List.length (Val.list b3) + List.length [(Val.re r1)] ≤ Lim then
      (yF4 N rc_spec_l3Copy n (IntKind.i64.wrap (x4 + 1)) b1 b2 (Val.mk (Val.kind b3) (Val.n b3) (Val.step b3) (Val.text b3) ((Val.list b3) ++ [(Val.re r1)]) (Val.columns b3) (Val.rows b3)))
      else none
      else none
    ) else (
      (yF5 N rc_spec_l3Copy N 0 b1 b2 b3)
    )
def spec_l3Copy_body (N : Nat) (rc_spec_l3Copy : Val → Option (Val)) (a0 : Val) : Option (Val) :=
  if 0 + List.length (Val.columns a0) ≤ Lim then
  (yF4 N rc_spec_l3Copy N 0 a0 (Val.mk 0 0 0 [] [] [] []) (Val.mk (Val.kind a0) (Val.n a0) (Val.step a0) (Val.text a0) [] ([] ++ (Val.columns a0)) []))
  else none
def spec_l3Copy_fix (N : Nat) : Nat → Val → Option (Val)
  | 0, _ => none
  | d + 1, a0 => spec_l3Copy_body N (spec_l3Copy_fix N d) a0
def yCT (a0 : Int) : List Arg := [.val (.v false [.int .i64 a0])]
def yBL (r : Val) : CallO := ⟨.v true [.int .i64 (Val.kind r), .int .i64 (Val.n r), .int .i64 (Val.step r), .str (Val.text r), .sl .own .val (Val.list r), .sl .own .str (Val.columns r), .sl .own .row (Val.rows r)], [], []⟩
def yCH (N : Nat) (a0 : Int) : Option (Val) :=
  some (Val.mk 6 a0 0 [] [] [] [])
def yDI (a0 : Int) : List Arg := [.val (.v false [.int .i64 a0])]
def yCS (r : Val) : CallO := ⟨.v true [.int .i64 (Val.kind r), .int .i64 (Val.n r), .int .i64 (Val.step r), .str (Val.text r), .sl .own .val (Val.list r), .sl .own .str (Val.columns r), .sl .own .row (Val.rows r)], [], []⟩
def yDN (N : Nat) (a0 : Int) : Option (Val) :=
  some (Val.mk 6 a0 0 [] [] [] [])
def yBW (a0 : List Str) (a1 : List Str) : List Arg := [.val (.v false [.sl .ro .str a0]), .val (.v false [.sl .ro .str a1])]
def yAJ (r : Bool) : CallO := ⟨.v false [.bool r], [], []⟩
def yBX (N : Nat) : Nat → (List Str) → (List Str) → Int → Option (Bool)
  | 0, _, _, _ => none
  | n + 1, x0, x1, x5 =>
    bif (decide ((x5 : Int) < (List.length x0 : Int))) then (
      if (0 : Int) ≤ x5 ∧ x5 < (List.length x0) then
      if (0 : Int) ≤ x5 ∧ x5 < (List.length x1) then
      bif (!(((List.getD x0 (Int.toNat x5) Ty.str.dflt) : Str) == (List.getD x1 (Int.toNat x5) Ty.str.dflt))) then (
        some false
      ) else (
        (yBX N n x0 x1 (IntKind.i64.wrap (x5 + 1)))
      )
      else none
      else none
    ) else (
      some true
    )
def yDA (N : Nat) (a0 : List Str) (a1 : List Str) : Option (Bool) :=
  bif (((List.length a0 : Int) : Int) != (List.length a1 : Int)) then (
    some false
  ) else (
    (yBX N N a0 a1 0)
  )
def yCY (a0 : List Int) (a1 : List Int) : List Arg := [.val (.v false [.sl .ro .int a0]), .val (.v false [.sl .ro .int a1])]
def yBe (r : Bool) : CallO := ⟨.v false [.bool r], [], []⟩
def yCZ (N : Nat) : Nat → (List Int) → (List Int) → Int → Option (Bool)
  | 0, _, _, _ => none
  | n + 1, x0, x1, x5 =>
    bif (decide ((x5 : Int) < (List.length x0 : Int))) then (
      if (0 : Int) ≤ x5 ∧ x5 < (List.length x0) then
      if (0 : Int) ≤ x5 ∧ x5 < (List.length x1) then
      bif (((List.getD x0 (Int.toNat x5) Ty.int.dflt) : Int) != (List.getD x1 (Int.toNat x5) Ty.int.dflt)) then (
        some false
      ) else (
        (yCZ N n x0 x1 (IntKind.i64.wrap (x5 + 1)))
      )
      else none
      else none
    ) else (
      some true
    )
def yEu (N : Nat) (a0 : List Int) (a1 : List Int) : Option (Bool) :=
  bif (((List.length a0 : Int) : Int) != (List.length a1 : Int)) then (
    some false
  ) else (
    (yCZ N N a0 a1 0)
  )
def yCc (a0 : Org) (a1 : Org) : List Arg := [.val (.v true [.int .i64 (Org.cell a0), .int .i64 (Org.row a0)]), .val (.v true [.int .i64 (Org.cell a1), .int .i64 (Org.row a1)])]
def yBp (r : Bool) : CallO := ⟨.v false [.bool r], [], []⟩
def yDU (N : Nat) (a0 : Org) (a1 : Org) : Option (Bool) :=
  bif (((Org.cell a0) : Int) != (Org.cell a1)) then (
    some false
  ) else (
    bif (((Org.row a0) : Int) != (Org.row a1)) then (
      some false
    ) else (
      some true
    )
  )
def yCr (a0 : List Org) (a1 : List Org) : List Arg := [.val (.v false [.sl .ro .org a0]), .val (.v false [.sl .ro .org a1])]
def yA7 (r : Bool) : CallO := ⟨.v false [.bool r], [], []⟩
def yBV (N : Nat) : Nat → (List Org) → (List Org) → Int → Option (Bool)
  | 0, _, _, _ => none
  | n + 1, x0, x1, x5 =>
    bif (decide ((x5 : Int) < (List.length x0 : Int))) then (
      if (0 : Int) ≤ x5 ∧ x5 < (List.length x0) then
      if (0 : Int) ≤ x5 ∧ x5 < (List.length x1) then
      Option.bind (yDU N (List.getD x0 (Int.toNat x5) Ty.org.dflt) (List.getD x1 (Int.toNat x5) Ty.org.dflt)) fun r1 =>
      bif (!r1) then (
        some false
      ) else (
        (yBV N n x0 x1 (IntKind.i64.wrap (x5 + 1)))
      )
      else none
      else none
    ) else (
      some true
    )
def yDy (N : Nat) (a0 : List Org) (a1 : List Org) : Option (Bool) :=
  bif (((List.length a0 : Int) : Int) != (List.length a1 : Int)) then (
    some false
  ) else (
    (yBV N N a0 a1 0)
  )
def yDh (a0 : Rowd) (a1 : Rowd) : List Arg := [.val (.v true [.sl .ro .int (Rowd.cells a0), .sl .ro .org (Rowd.frm a0)]), .val (.v true [.sl .ro .int (Rowd.cells a1), .sl .ro .org (Rowd.frm a1)])]
def yCn (r : Bool) : CallO := ⟨.v false [.bool r], [], []⟩
def yET (N : Nat) (a0 : Rowd) (a1 : Rowd) : Option (Bool) :=
  Option.bind (yEu N (Rowd.cells a0) (Rowd.cells a1)) fun r1 =>
  bif (!r1) then (
    some false
  ) else (
    Option.bind (yDy N (Rowd.frm a0) (Rowd.frm a1)) fun r2 =>
    bif (!r2) then (
      some false
    ) else (
      some true
    )
  )
def yDz (a0 : List Rowd) (a1 : List Rowd) : List Arg := [.val (.v false [.sl .ro .row a0]), .val (.v false [.sl .ro .row a1])]
def yBD (r : Bool) : CallO := ⟨.v false [.bool r], [], []⟩
def yC0 (N : Nat) : Nat → (List Rowd) → (List Rowd) → Int → Option (Bool)
  | 0, _, _, _ => none
  | n + 1, x0, x1, x5 =>
    bif (decide ((x5 : Int) < (List.length x0 : Int))) then (
      if (0 : Int) ≤ x5 ∧ x5 < (List.length x0) then
      if (0 : Int) ≤ x5 ∧ x5 < (List.length x1) then
      Option.bind (yET N (List.getD x0 (Int.toNat x5) Ty.row.dflt) (List.getD x1 (Int.toNat x5) Ty.row.dflt)) fun r1 =>
      bif (!r1) then (
        some false
      ) else (
        (yC0 N n x0 x1 (IntKind.i64.wrap (x5 + 1)))
      )
      else none
      else none
    ) else (
      some true
    )
def yEv (N : Nat) (a0 : List Rowd) (a1 : List Rowd) : Option (Bool) :=
  bif (((List.length a0 : Int) : Int) != (List.length a1 : Int)) then (
    some false
  ) else (
    (yC0 N N a0 a1 0)
  )
def yAr (a0 : Val) (a1 : Val) : List Arg := [.val (.v true [.int .i64 (Val.kind a0), .int .i64 (Val.n a0), .int .i64 (Val.step a0), .str (Val.text a0), .sl .ro .val (Val.list a0), .sl .ro .str (Val.columns a0), .sl .ro .row (Val.rows a0)]), .val (.v true [.int .i64 (Val.kind a1), .int .i64 (Val.n a1), .int .i64 (Val.step a1), .str (Val.text a1), .sl .ro .val (Val.list a1), .sl .ro .str (Val.columns a1), .sl .ro .row (Val.rows a1)])]
def yAm (r : Bool) : CallO := ⟨.v false [.bool r], [], []⟩
def yCs (N : Nat) (rc_laws_eqValue : Val → Val → Option (Bool)) (rc_laws_eqValueS : (List Val) → (List Val) → Option (Bool)) (a0 : Val) (a1 : Val) : Option (Bool) :=
  bif (((Val.kind a0) : Int) != (Val.kind a1)) then (
    some false
  ) else (
    bif (((Val.n a0) : Int) != (Val.n a1)) then (
      some false
    ) else (
      bif (((Val.step a0) : Int) != (Val.step a1)) then (
        some false
      ) else (
        bif (!(((Val.text a0) : Str) == (Val.text a1))) then (
          some false
        ) else (
          Option.bind (rc_laws_eqValueS (Val.list a0) (Val.list a1)) fun r1 =>
          bif (!r1) then (
            some false
          ) else (
            Option.bind (yDA N (Val.columns a0) (Val.columns a1)) fun r2 =>
            bif (!r2) then (
              some false
            ) else (
              Option.bind (yEv N (Val.rows a0) (Val.rows a1)) fun r3 =>
              bif (!r3) then (
                some false
              ) else (
                some true
              )
            )
          )
        )
      )
    )
  )
def yAC (a0 : List Val) (a1 : List Val) : List Arg := [.val (.v false [.sl .ro .val a0]), .val (.v false [.sl .ro .val a1])]
def yAk (r : Bool) : CallO := ⟨.v false [.bool r], [], []⟩
def yCd (N : Nat) (rc_laws_eqValue : Val → Val → Option (Bool)) (rc_laws_eqValueS : (List Val) → (List Val) → Option (Bool)) : Nat → (List Val) → (List Val) → Int → Option (Bool)
  | 0, _, _, _ => none
  | n + 1, x0, x1, x5 =>
    bif (decide ((x5 : Int) < (List.length x0 : Int))) then (
      if (0 : Int) ≤ x5 ∧ x5 < (List.length x0) then
      if (0 : Int) ≤ x5 ∧ x5 < (List.length x1) then
      Option.bind (rc_laws_eqValue (List.getD x0 (Int.toNat x5) Ty.val.dflt) (List.getD x1 (Int.toNat x5) Ty.val.dflt)) fun r1 =>
      bif (!r1) then (
        some false
      ) else (
        (yCd N rc_laws_eqValue rc_laws_eqValueS n x0 x1 (IntKind.i64.wrap (x5 + 1)))
      )
      else none
      else none
    ) else (
      some true
    )
def yB9 (N : Nat) (rc_laws_eqValue : Val → Val → Option (Bool)) (rc_laws_eqValueS : (List Val) → (List Val) → Option (Bool)) (a0 : List Val) (a1 : List Val) : Option (Bool) :=
  bif (((List.length a0 : Int) : Int) != (List.length a1 : Int)) then (
    some false
  ) else (
    (yCd N rc_laws_eqValue rc_laws_eqValueS N a0 a1 0)
  )
structure laws_eqValue_rec where
  c_laws_eqValue : Val → Val → Option (Bool)
  c_laws_eqValueS : (List Val) → (List Val) → Option (Bool)
def yAu (N : Nat) : Nat → laws_eqValue_rec
  | 0 => ⟨fun _ _ => none, fun _ _ => none⟩
  | d + 1 => ⟨yCs N (yAu N d).c_laws_eqValue (yAu N d).c_laws_eqValueS, yB9 N (yAu N d).c_laws_eqValue (yAu N d).c_laws_eqValueS⟩
def laws_eqValue (N : Nat) (a0 : Val) (a1 : Val) : Option (Bool) := (yAu N N).c_laws_eqValue a0 a1
def yAK (a0 : Int) : List Arg := [.val (.v false [.int .i64 a0])]
def yAi (r : Str) : CallO := ⟨.v false [.str r], [], []⟩
def yCj (N : Nat) : Nat → Int → Str → Option (Str)
  | 0, _, _ => none
  | n + 1, x0, x3 =>
    bif (decide ((x0 : Int) > 0)) then (
      if List.length (List.map (fun n => UInt8.ofNat (Int.toNat n)) [(IntKind.u8.wrap ((IntKind.i64.wrap (48 + (Int.tmod x0 10)))))]) + List.length x3 ≤ Lim then
      (yCj N n (IntKind.i64.wrap (Int.tdiv x0 10)) ((List.map (fun n => UInt8.ofNat (Int.toNat n)) [(IntKind.u8.wrap ((IntKind.i64.wrap (48 + (Int.tmod x0 10)))))]) ++ x3))
      else none
    ) else (
      if List.length [109] + List.length x3 ≤ Lim then
      some ([109] ++ x3)
      else none
    )
def yCo (N : Nat) (a0 : Int) : Option (Str) :=
  bif (decide ((a0 : Int) ≤ 0)) then (
    some [109, 48]
  ) else (
    (yCj N N a0 [])
  )
def yCE (a0 : List Str) (a1 : Int) : List Arg := [.val (.v false [.sl (.lnt 0) .str a0]), .val (.v false [.int .i64 a1])]
def yBa (r : Int × (List Str)) : CallO := ⟨.v false [.int .i64 r.1], [], [.sl (.lnt 0) .str r.2]⟩
def yBx (N : Nat) : Nat → (List Str) → Int → Int → Option (Int × (List Str))
  | 0, _, _, _ => none
  | n + 1, x0, x1, x5 =>
    bif (decide ((x5 : Int) < (List.length x0 : Int))) then (
      Option.bind (yCo N x1) fun r1 =>
      if (0 : Int) ≤ x5 ∧ x5 < (List.length x0) then
      (yBx N n (List.set x0 (Int.toNat x5) r1) (IntKind.i64.wrap (x1 + 1)) (IntKind.i64.wrap (x5 + 1)))
      else none
    ) else (
      some (x1, x0)
    )
def yCO (N : Nat) (a0 : List Str) (a1 : Int) : Option (Int × (List Str)) :=
  (yBx N N a0 a1 0)
def yEh (a0 : List Int) (a1 : Int) : List Arg := [.val (.v false [.sl (.lnt 0) .int a0]), .val (.v false [.int .i64 a1])]
def yCN (r : Int × (List Int)) : CallO := ⟨.v false [.int .i64 r.1], [], [.sl (.lnt 0) .int r.2]⟩
def yCh (N : Nat) : Nat → (List Int) → Int → Int → Option (Int × (List Int))
  | 0, _, _, _ => none
  | n + 1, x0, x1, x5 =>
    bif (decide ((x5 : Int) < (List.length x0 : Int))) then (
      if (0 : Int) ≤ x5 ∧ x5 < (List.length x0) then
      (yCh N n (List.set x0 (Int.toNat x5) x1) (IntKind.i64.wrap (x1 + 1)) (IntKind.i64.wrap (x5 + 1)))
      else none
    ) else (
      some (x1, x0)
    )
def yEo (N : Nat) (a0 : List Int) (a1 : Int) : Option (Int × (List Int)) :=
  (yCh N N a0 a1 0)
def yDi (a0 : List Org) (a1 : Int) : List Arg := [.val (.v false [.sl (.lnt 0) .org a0]), .val (.v false [.int .i64 a1])]
def yBZ (r : Int × (List Org)) : CallO := ⟨.v false [.int .i64 r.1], [], [.sl (.lnt 0) .org r.2]⟩
def yBw (N : Nat) : Nat → (List Org) → Int → Int → Option (Int × (List Org))
  | 0, _, _, _ => none
  | n + 1, x0, x1, x5 =>
    bif (decide ((x5 : Int) < (List.length x0 : Int))) then (
      if (0 : Int) ≤ x5 ∧ x5 < (List.length x0) then
      if (0 : Int) ≤ x5 ∧ x5 < (List.length (List.set x0 (Int.toNat x5) (Org.mk x1 (Org.row (List.getD x0 (Int.toNat x5) Ty.org.dflt))))) then
      (yBw N n ((fun (z1 : List Org) => List.set z1 (Int.toNat x5) (Org.mk (Org.cell (List.getD z1 (Int.toNat x5) Ty.org.dflt)) (IntKind.i64.wrap (x1 + 1)))) (List.set x0 (Int.toNat x5) (Org.mk x1 (Org.row (List.getD x0 (Int.toNat x5) Ty.org.dflt))))) (IntKind.i64.wrap ((IntKind.i64.wrap (x1 + 1)) + 1)) (IntKind.i64.wrap (x5 + 1)))
      else none
      else none
    ) else (
      some (x1, x0)
    )
def yDp (N : Nat) (a0 : List Org) (a1 : Int) : Option (Int × (List Org)) :=
  (yBw N N a0 a1 0)
def yDq (a0 : List Rowd) (a1 : Int) : List Arg := [.val (.v false [.sl (.lnt 0) .row a0]), .val (.v false [.int .i64 a1])]
def yBP (r : Int × (List Rowd)) : CallO := ⟨.v false [.int .i64 r.1], [], [.sl (.lnt 0) .row r.2]⟩
def yCi (N : Nat) : Nat → (List Rowd) → Int → Int → Option (Int × (List Rowd))
  | 0, _, _, _ => none
  | n + 1, x0, x1, x5 =>
    bif (decide ((x5 : Int) < (List.length x0 : Int))) then (
      if (0 : Int) ≤ x5 ∧ x5 < (List.length x0) then
      Option.bind (yEo N (Rowd.cells (List.getD x0 (Int.toNat x5) Ty.row.dflt)) x1) fun r1 =>
      if List.length r1.2 = List.length (Rowd.cells (List.getD x0 (Int.toNat x5) Ty.row.dflt)) then
      if (0 : Int) ≤ x5 ∧ x5 < (List.length (List.set x0 (Int.toNat x5) (Rowd.mk r1.2 (Rowd.frm (List.getD x0 (Int.toNat x5) Ty.row.dflt))))) then
      Option.bind (yDp N (Rowd.frm (List.getD (List.set x0 (Int.toNat x5) (Rowd.mk r1.2 (Rowd.frm (List.getD x0 (Int.toNat x5) Ty.row.dflt)))) (Int.toNat x5) Ty.row.dflt)) r1.1) fun r2 =>
      if List.length r2.2 = List.length (Rowd.frm (List.getD (List.set x0 (Int.toNat x5) (Rowd.mk r1.2 (Rowd.frm (List.getD x0 (Int.toNat x5) Ty.row.dflt)))) (Int.toNat x5) Ty.row.dflt)) then
      (yCi N n ((fun (z1 : List Rowd) => List.set z1 (Int.toNat x5) (Rowd.mk (Rowd.cells (List.getD z1 (Int.toNat x5) Ty.row.dflt)) r2.2)) (List.set x0 (Int.toNat x5) (Rowd.mk r1.2 (Rowd.frm (List.getD x0 (Int.toNat x5) Ty.row.dflt))))) r2.1 (IntKind.i64.wrap (x5 + 1)))
      else none
      else none
      else none
      else none
    ) else (
      some (x1, x0)
    )
def yDW (N : Nat) (a0 : List Rowd) (a1 : Int) : Option (Int × (List Rowd)) :=
  (yCi N N a0 a1 0)
def yAZ (a0 : List Val) (a1 : Int) : List Arg := [.val (.v false [.sl (.lnt 0) .val a0]), .val (.v false [.int .i64 a1])]
def yAx (r : Int × (List Val)) : CallO := ⟨.v false [.int .i64 r.1], [], [.sl (.lnt 0) .val r.2]⟩
def yBK (N : Nat) (rc_laws_markValueS : (List Val) → Int → Option (Int × (List Val))) : Nat → (List Val) → Int → Int → Option (Int × (List Val))
  | 0, _, _, _ => none
  | n + 1, x0, x1, x5 =>
    bif (decide ((x5 : Int) < (List.length x0 : Int))) then (
      if (0 : Int) ≤ x5 ∧ x5 < (List.length x0) then
      if (0 : Int) ≤ x5 ∧ x5 < (List.length (List.set x0 (Int.toNat x5) (Val.mk x1 (Val.n (List.getD x0 (Int.toNat x5) Ty.val.dflt)) (Val.step (List.getD x0 (Int.toNat x5) Ty.val.dflt)) (Val.text (List.getD x0 (Int.toNat x5) Ty.val.dflt)) (Val.list (List.getD x0 (Int.toNat x5) Ty.val.dflt)) (Val.columns (List.getD x0 (Int.toNat x5) Ty.val.dflt)) (Val.rows (List.getD x0 (Int.toNat x5) Ty.val.dflt))))) then
      if (0 : Int) ≤ x5 ∧ x5 < (List.length ((fun (z40 : List Val) => List.set z40 (Int.toNat x5) (Val.mk (Val.kind (List.getD z40 (Int.toNat x5) Ty.val.dflt)) (IntKind.i64.wrap (x1 + 1)) (Val.step (List.getD z40 (Int.toNat x5) Ty.val.dflt)) (Val.text (List.getD z40 (Int.toNat x5) Ty.val.dflt)) (Val.list (List.getD z40 (Int.toNat x5) Ty.val.dflt)) (Val.columns (List.getD z40 (Int.toNat x5) Ty.val.dflt)) (Val.rows (List.getD z40 (Int.toNat x5) Ty.val.dflt)))) (List.set x0 (Int.toNat x5) (Val.mk x1 (Val.n (List.getD x0 (Int.toNat x5) Ty.val.dflt)) (Val.step (List.getD x0 (Int.toNat x5) Ty.val.dflt)) (Val.text (List.getD x0 (Int.toNat x5) Ty.val.dflt)) (Val.list (List.getD x0 (Int.toNat x5) Ty.val.dflt)) (Val.columns (List.getD x0 (Int.toNat x5) Ty.val.dflt)) (Val.rows (List.getD x0 (Int.toNat x5) Ty.val.dflt)))))) then
      Option.bind (yCo N (IntKind.i64.wrap ((IntKind.i64.wrap ((IntKind.i64.wrap (x1 + 1)) + 1)) + 1))) fun r1 =>
      if (0 : Int) ≤ x5 ∧ x5 < (List.length ((fun (z41 : List Val) => List.set z41 (Int.toNat x5) (Val.mk (Val.kind (List.getD z41 (Int.toNat x5) Ty.val.dflt)) (Val.n (List.getD z41 (Int.toNat x5) Ty.val.dflt)) (IntKind.i64.wrap ((IntKind.i64.wrap (x1 + 1)) + 1)) (Val.text (List.getD z41 (Int.toNat x5) Ty.val.dflt)) (Val.list (List.getD z41 (Int.toNat x5) Ty.val.dflt)) (Val.columns (List.getD z41 (Int.toNat x5) Ty.val.dflt)) (Val.rows (List.getD z41 (Int.toNat x5) Ty.val.dflt)))) ((fun (z40 : List Val) => List.set z40 (Int.toNat x5) (Val.mk (Val.kind (List.getD z40 (Int.toNat x5) Ty.val.dflt)) (IntKind.i64.wrap (x1 + 1)) (Val.step (List.getD z40 (Int.toNat x5) Ty.val.dflt)) (Val.text (List.getD z40 (Int.toNat x5) Ty.val.dflt)) (Val.list (List.getD z40 (Int.toNat x5) Ty.val.dflt)) (Val.columns (List.getD z40 (Int.toNat x5) Ty.val.dflt)) (Val.rows (List.getD z40 (Int.toNat x5) Ty.val.dflt)))) (List.set x0 (Int.toNat x5) (Val.mk x1 (Val.n (List.getD x0 (Int.toNat x5) Ty.val.dflt)) (Val.step (List.getD x0 (Int.toNat x5) Ty.val.dflt)) (Val.text (List.getD x0 (Int.toNat x5) Ty.val.dflt)) (Val.list (List.getD x0 (Int.toNat x5) Ty.val.dflt)) (Val.columns (List.getD x0 (Int.toNat x5) Ty.val.dflt)) (Val.rows (List.getD x0 (Int.toNat x5) Ty.val.dflt))))))) then
      if (0 : Int) ≤ x5 ∧ x5 < (List.length ((fun (z42 : List Val) => List.set z42 (Int.toNat x5) (Val.mk (Val.kind (List.getD z42 (Int.toNat x5) Ty.val.dflt)) (Val.n (List.getD z42 (Int.toNat x5) Ty.val.dflt)) (Val.step (List.getD z42 (Int.toNat x5) Ty.val.dflt)) r1 (Val.list (List.getD z42 (Int.toNat x5) Ty.val.dflt)) (Val.columns (List.getD z42 (Int.toNat x5) Ty.val.dflt)) (Val.rows (List.getD z42 (Int.toNat x5) Ty.val.dflt)))) ((fun (z41 : List Val) => List.set z41 (Int.toNat x5) (Val.mk (Val.kind (List.getD z41 (Int.toNat x5) Ty.val.dflt)) (Val.n (List.getD z41 (Int.toNat x5) Ty.val.dflt)) (IntKind.i64.wrap ((IntKind.i64.wrap (x1 + 1)) + 1)) (Val.text (List.getD z41 (Int.toNat x5) Ty.val.dflt)) (Val.list (List.getD z41 (Int.toNat x5) Ty.val.dflt)) (Val.columns (List.getD z41 (Int.toNat x5) Ty.val.dflt)) (Val.rows (List.getD z41 (Int.toNat x5) Ty.val.dflt)))) ((fun (z40 : List Val) => List.set z40 (Int.toNat x5) (Val.mk (Val.kind (List.getD z40 (Int.toNat x5) Ty.val.dflt)) (IntKind.i64.wrap (x1 + 1)) (Val.step (List.getD z40 (Int.toNat x5) Ty.val.dflt)) (Val.text (List.getD z40 (Int.toNat x5) Ty.val.dflt)) (Val.list (List.getD z40 (Int.toNat x5) Ty.val.dflt)) (Val.columns (List.getD z40 (Int.toNat x5) Ty.val.dflt)) (Val.rows (List.getD z40 (Int.toNat x5) Ty.val.dflt)))) (List.set x0 (Int.toNat x5) (Val.mk x1 (Val.n (List.getD x0 (Int.toNat x5) Ty.val.dflt)) (Val.step (List.getD x0 (Int.toNat x5) Ty.val.dflt)) (Val.text (List.getD x0 (Int.toNat x5) Ty.val.dflt)) (Val.list (List.getD x0 (Int.toNat x5) Ty.val.dflt)) (Val.columns (List.getD x0 (Int.toNat x5) Ty.val.dflt)) (Val.rows (List.getD x0 (Int.toNat x5) Ty.val.dflt)))))))) then
      Option.bind (rc_laws_markValueS (Val.list (List.getD ((fun (z42 : List Val) => List.set z42 (Int.toNat x5) (Val.mk (Val.kind (List.getD z42 (Int.toNat x5) Ty.val.dflt)) (Val.n (List.getD z42 (Int.toNat x5) Ty.val.dflt)) (Val.step (List.getD z42 (Int.toNat x5) Ty.val.dflt)) r1 (Val.list (List.getD z42 (Int.toNat x5) Ty.val.dflt)) (Val.columns (List.getD z42 (Int.toNat x5) Ty.val.dflt)) (Val.rows (List.getD z42 (Int.toNat x5) Ty.val.dflt)))) ((fun (z41 : List Val) => List.set z41 (Int.toNat x5) (Val.mk (Val.kind (List.getD z41 (Int.toNat x5) Ty.val.dflt)) (Val.n (List.getD z41 (Int.toNat x5) Ty.val.dflt)) (IntKind.i64.wrap ((IntKind.i64.wrap (x1 + 1)) + 1)) (Val.text (List.getD z41 (Int.toNat x5) Ty.val.dflt)) (Val.list (List.getD z41 (Int.toNat x5) Ty.val.dflt)) (Val.columns (List.getD z41 (Int.toNat x5) Ty.val.dflt)) (Val.rows (List.getD z41 (Int.toNat x5) Ty.val.dflt)))) ((fun (z40 : List Val) => List.set z40 (Int.toNat x5) (Val.mk (Val.kind (List.getD z40 (Int.toNat x5) Ty.val.dflt)) (IntKind.i64.wrap (x1 + 1)) (Val.step (List.getD z40 (Int.toNat x5) Ty.val.dflt)) (Val.text (List.getD z40 (Int.toNat x5) Ty.val.dflt)) (Val.list (List.getD z40 (Int.toNat x5) Ty.val.dflt)) (Val.columns (List.getD z40 (Int.toNat x5) Ty.val.dflt)) (Val.rows (List.getD z40 (Int.toNat x5) Ty.val.dflt)))) (List.set x0 (Int.toNat x5) (Val.mk x1 (Val.n (List.getD x0 (Int.toNat x5) Ty.val.dflt)) (Val.step (List.getD x0 (Int.toNat x5) Ty.val.dflt)) (Val.text (List.getD x0 (Int.toNat x5) Ty.val.dflt)) (Val.list (List.getD x0 (Int.toNat x5) Ty.val.dflt)) (Val.columns (List.getD x0 (Int.toNat x5) Ty.val.dflt)) (Val.rows (List.getD x0 (Int.toNat x5) Ty.val.dflt))))))) (Int.toNat x5) Ty.val.dflt)) (IntKind.i64.wrap ((IntKind.i64.wrap ((IntKind.i64.wrap ((IntKind.i64.wrap (x1 + 1)) + 1)) + 1)) + 1))) fun r2 =>
      if List.length r2.2 = List.length (Val.list (List.getD ((fun (z42 : List Val) => List.set z42 (Int.toNat x5) (Val.mk (Val.kind (List.getD z42 (Int.toNat x5) Ty.val.dflt)) (Val.n (List.getD z42 (Int.toNat x5) Ty.val.dflt)) (Val.step (List.getD z42 (Int.toNat x5) Ty.val.dflt)) r1 (Val.list (List.getD z42 (Int.toNat x5) Ty.val.dflt)) (Val.columns (List.getD z42 (Int.toNat x5) Ty.val.dflt)) (Val.rows (List.getD z42 (Int.toNat x5) Ty.val.dflt)))) ((fun (z41 : List Val) => List.set z41 (Int.toNat x5) (Val.mk (Val.kind (List.getD z41 (Int.toNat x5) Ty.val.dflt)) (Val.n (List.getD z41 (Int.toNat x5) Ty.val.dflt)) (IntKind.i64.wrap ((IntKind.i64.wrap (x1 + 1)) + 1)) (Val.text (List.getD z41 (Int.toNat x5) Ty.val.dflt)) (Val.list (List.getD z41 (Int.toNat x5) Ty.val.dflt)) (Val.columns (List.getD z41 (Int.toNat x5) Ty.val.dflt)) (Val.rows (List.getD z41 (Int.toNat x5) Ty.val.dflt)))) ((fun (z40 : List Val) => List.set z40 (Int.toNat x5) (Val.mk (Val.kind (List.getD z40 (Int.toNat x5) Ty.val.dflt)) (IntKind.i64.wrap (x1 + 1)) (Val.step (List.getD z40 (Int.toNat x5) Ty.val.dflt)) (Val.text (List.getD z40 (Int.toNat x5) Ty.val.dflt)) (Val.list (List.getD z40 (Int.toNat x5) Ty.val.dflt)) (Val.columns (List.getD z40 (Int.toNat x5) Ty.val.dflt)) (Val.rows (List.getD z40 (Int.toNat x5) Ty.val.dflt)))) (List.set x0 (Int.toNat x5) (Val.mk x1 (Val.n (List.getD x0 (Int.toNat x5) Ty.val.dflt)) (Val.step (List.getD x0 (Int.toNat x5) Ty.val.dflt)) (Val.text (List.getD x0 (Int.toNat x5) Ty.val.dflt)) (Val.list (List.getD x0 (Int.toNat x5) Ty.val.dflt)) (Val.columns (List.getD x0 (Int.toNat x5) Ty.val.dflt)) (Val.rows (List.getD x0 (Int.toNat x5) Ty.val.dflt))))))) (Int.toNat x5) Ty.val.dflt)) then
      if (0 : Int) ≤ x5 ∧ x5 < (List.length ((fun (z43 : List Val) => List.set z43 (Int.toNat x5) (Val.mk (Val.kind (List.getD z43 (Int.toNat x5) Ty.val.dflt)) (Val.n (List.getD z43 (Int.toNat x5) Ty.val.dflt)) (Val.step (List.getD z43 (Int.toNat x5) Ty.val.dflt)) (Val.text (List.getD z43 (Int.toNat x5) Ty.val.dflt)) r2.2 (Val.columns (List.getD z43 (Int.toNat x5) Ty.val.dflt)) (Val.rows (List.getD z43 (Int.toNat x5) Ty.val.dflt)))) ((fun (z42 : List Val) => List.set z42 (Int.toNat x5) (Val.mk (Val.kind (List.getD z42 (Int.toNat x5) Ty.val.dflt)) (Val.n (List.getD z42 (Int.toNat x5) Ty.val.dflt)) (Val.step (List.getD z42 (Int.toNat x5) Ty.val.dflt)) r1 (Val.list (List.getD z42 (Int.toNat x5) Ty.val.dflt)) (Val.columns (List.getD z42 (Int.toNat x5) Ty.val.dflt)) (Val.rows (List.getD z42 (Int.toNat x5) Ty.val.dflt)))) ((fun (z41 : List Val) => List.set z41 (Int.toNat x5) (Val.mk (Val.kind (List.getD z41 (Int.toNat x5) Ty.val.dflt)) (Val.n (List.getD z41 (Int.toNat x5) Ty.val.dflt)) (IntKind.i64.wrap ((IntKind.i64.wrap (x1 + 1)) + 1)) (Val.text (List.getD z41 (Int.toNat x5) Ty.val.dflt)) (Val.list (List.getD z41 (Int.toNat x5) Ty.val.dflt)) (Val.columns (List.getD z41 (Int.toNat x5) Ty.val.dflt)) (Val.rows (List.getD z41 (Int.toNat x5) Ty.val.dflt)))) ((fun (z40 : List Val) => List.set z40 (Int.toNat x5) (Val.mk (Val.kind (List.getD z40 (Int.toNat x5) Ty.val.dflt)) (IntKind.i64.wrap (x1 + 1)) (Val.step (List.getD z40 (Int.toNat x5) Ty.val.dflt)) (Val.text (List.getD z40 (Int.toNat x5) Ty.val.dflt)) (Val.list (List.getD z40 (Int.toNat x5) Ty.val.dflt)) (Val.columns (List.getD z40 (Int.toNat x5) Ty.val.dflt)) (Val.rows (List.getD z40 (Int.toNat x5) Ty.val.dflt)))) (List.set x0 (Int.toNat x5) (Val.mk x1 (Val.n (List.getD x0 (Int.toNat x5) Ty.val.dflt)) (Val.step (List.getD x0 (Int.toNat x5) Ty.val.dflt)) (Val.text (List.getD x0 (Int.toNat x5) Ty.val.dflt)) (Val.list (List.getD x0 (Int.toNat x5) Ty.val.dflt)) (Val.columns (List.getD x0 (Int.toNat x5) Ty.val.dflt)) (Val.rows (List.getD x0 (Int.toNat x5) Ty.val.dflt))))))))) then
      Option.bind (yCO N (Val.columns (List.getD ((fun (z43 : List Val) => List.set z43 (Int.toNat x5) (Val.mk (Val.kind (List.getD z43 (Int.toNat x5) Ty.val.dflt)) (Val.n (List.getD z43 (Int.toNat x5) Ty.val.dflt)) (Val.step (List.getD z43 (Int.toNat x5) Ty.val.dflt)) (Val.text (List.getD z43 (Int.toNat x5) Ty.val.dflt)) r2.2 (Val.columns (List.getD z43 (Int.toNat x5) Ty.val.dflt)) (Val.rows (List.getD z43 (Int.toNat x5) Ty.val.dflt)))) ((fun (z42 : List Val) => List.set z42 (Int.toNat x5) (Val.mk (Val.kind (List.getD z42 (Int.toNat x5) Ty.val.dflt)) (Val.n (List.getD z42 (Int.toNat x5) Ty.val.dflt)) (Val.step (List.getD z42 (Int.toNat x5) Ty.val.dflt)) r1 (Val.list (List.getD z42 (Int.toNat x5) Ty.val.dflt)) (Val.columns (List.getD z42 (Int.toNat x5) Ty.val.dflt)) (Val.rows (List.getD z42 (Int.toNat x5) Ty.val.dflt)))) ((fun (z41 : List Val) => List.set z41 (Int.toNat x5) (Val.mk (Val.kind (List.getD z41 (Int.toNat x5) Ty.val.dflt)) (Val.n (List.getD z41 (Int.toNat x5) Ty.val.dflt)) (IntKind.i64.wrap ((IntKind.i64.wrap (x1 + 1)) + 1)) (Val.text (List.getD z41 (Int.toNat x5) Ty.val.dflt)) (Val.list (List.getD z41 (Int.toNat x5) Ty.val.dflt)) (Val.columns (List.getD z41 (Int.toNat x5) Ty.val.dflt)) (Val.rows (List.getD z41 (Int.toNat x5) Ty.val.dflt)))) ((fun (z40 : List Val) => List.set z40 (Int.toNat x5) (Val.mk (Val.kind (List.getD z40 (Int.toNat x5) Ty.val.dflt)) (IntKind.i64.wrap (x1 + 1)) (Val.step (List.getD z40 (Int.toNat x5) Ty.val.dflt)) (Val.text (List.getD z40 (Int.toNat x5) Ty.val.dflt)) (Val.list (List.getD z40 (Int.toNat x5) Ty.val.dflt)) (Val.columns (List.getD z40 (Int.toNat x5) Ty.val.dflt)) (Val.rows (List.getD z40 (Int.toNat x5) Ty.val.dflt)))) (List.set x0 (Int.toNat x5) (Val.mk x1 (Val.n (List.getD x0 (Int.toNat x5) Ty.val.dflt)) (Val.step (List.getD x0 (Int.toNat x5) Ty.val.dflt)) (Val.text (List.getD x0 (Int.toNat x5) Ty.val.dflt)) (Val.list (List.getD x0 (Int.toNat x5) Ty.val.dflt)) (Val.columns (List.getD x0 (Int.toNat x5) Ty.val.dflt)) (Val.rows (List.getD x0 (Int.toNat x5) Ty.val.dflt)))))))) (Int.toNat x5) Ty.val.dflt)) r2.1) fun r3 =>
      if List.length r3.2 = List.length (Val.columns (List.getD ((fun (z43 : List Val) => List.set z43 (Int.toNat x5) (Val.mk (Val.kind (List.getD z43 (Int.toNat x5) Ty.val.dflt)) (Val.n (List.getD z43 (Int.toNat x5) Ty.val.dflt)) (Val.step (List.getD z43 (Int.toNat x5) Ty.val.dflt)) (Val.text (List.getD z43 (Int.toNat x5) Ty.val.dflt)) r2.2 (Val.columns (List.getD z43 (Int.toNat x5) Ty.val.dflt)) (Val.rows (List.getD z43 (Int.toNat x5) Ty.val.dflt)))) ((fun (z42 : List Val) => List.set z42 (Int.toNat x5) (Val.mk (Val.kind (List.getD z42 (Int.toNat x5) Ty.val.dflt)) (Val.n (List.getD z42 (Int.toNat x5) Ty.val.dflt)) (Val.step (List.getD z42 (Int.toNat x5) Ty.val.dflt)) r1 (Val.list (List.getD z42 (Int.toNat x5) Ty.val.dflt)) (Val.columns (List.getD z42 (Int.toNat x5) Ty.val.dflt)) (Val.rows (List.getD z42 (Int.toNat x5) Ty.val.dflt)))) ((fun (z41 : List Val) => List.set z41 (Int.toNat x5) (Val.mk (Val.kind (List.getD z41 (Int.toNat x5) Ty.val.dflt)) (Val.n (List.getD z41 (Int.toNat x5) Ty.val.dflt)) (IntKind.i64.wrap ((IntKind.i64.wrap (x1 + 1)) + 1)) (Val.text (List.getD z41 (Int.toNat x5) Ty.val.dflt)) (Val.list (List.getD z41 (Int.toNat x5) Ty.val.dflt)) (Val.columns (List.getD z41 (Int.toNat x5) Ty.val.dflt)) (Val.rows (List.getD z41 (Int.toNat x5) Ty.val.dflt)))) ((fun (z40 : List Val) => List.set z40 (Int.toNat x5) (Val.mk (Val.kind (List.getD z40 (Int.toNat x5) Ty.val.dflt)) (IntKind.i64.wrap (x1 + 1)) (Val.step (List.getD z40 (Int.toNat x5) Ty.val.dflt)) (Val.text (List.getD z40 (Int.toNat x5) Ty.val.dflt)) (Val.list (List.getD z40 (Int.toNat x5) Ty.val.dflt)) (Val.columns (List.getD z40 (Int.toNat x5) Ty.val.dflt)) (Val.rows (List.getD z40 (Int.toNat x5) Ty.val.dflt)))) (List.set x0 (Int.toNat x5) (Val.mk x1 (Val.n (List.getD x0 (Int.toNat x5) Ty.val.dflt)) (Val.step (List.getD x0 (Int.toNat x5) Ty.val.dflt)) (Val.text (List.getD x0 (Int.toNat x5) Ty.val.dflt)) (Val.list (List.getD x0 (Int.toNat x5) Ty.val.dflt)) (Val.columns (List.getD x0 (Int.toNat x5) Ty.val.dflt)) (Val.rows (List.getD x0 (Int.toNat x5) Ty.val.dflt)))))))) (Int.toNat x5) Ty.val.dflt)) then
      if (0 : Int) ≤ x5 ∧ x5 < (List.length ((fun (z44 : List Val) => List.set z44 (Int.toNat x5) (Val.mk (Val.kind (List.getD z44 (Int.toNat x5) Ty.val.dflt)) (Val.n (List.getD z44 (Int.toNat x5) Ty.val.dflt)) (Val.step (List.getD z44 (Int.toNat x5) Ty.val.dflt)) (Val.text (List.getD z44 (Int.toNat x5) Ty.val.dflt)) (Val.list (List.getD z44 (Int.toNat x5) Ty.val.dflt)) r3.2 (Val.rows (List.getD z44 (Int.toNat x5) Ty.val.dflt)))) ((fun (z43 : List Val) => List.set z43 (Int.toNat x5) (Val.mk (Val.kind (List.getD z43 (Int.toNat x5) Ty.val.dflt)) (Val.n (List.getD z43 (Int.toNat x5) Ty.val.dflt)) (Val.step (List.getD z43 (Int.toNat x5) Ty.val.dflt)) (Val.text (List.getD z43 (Int.toNat x5) Ty.val.dflt)) r2.2 (Val.columns (List.getD z43 (Int.toNat x5) Ty.val.dflt)) (Val.rows (List.getD z43 (Int.toNat x5) Ty.val.dflt)))) ((fun (z42 : List Val) => List.set z42 (Int.toNat x5) (Val.mk (Val.kind (List.getD z42 (Int.toNat x5) Ty.val.dflt)) (Val.n (List.getD z42 (Int.toNat x5) Ty.val.dflt)) (Val.step (List.getD z42 (Int.toNat x5) Ty.val.dflt)) r1 (Val.list (List.getD z42 (Int.toNat x5) Ty.val.dflt)) (Val.columns (List.getD z42 (Int.toNat x5) Ty.val.dflt)) (Val.rows (List.getD z42 (Int.toNat x5) Ty.val.dflt)))) ((fun (z41 : List Val) => List.set z41 (Int.toNat x5) (Val.mk (Val.kind (List.getD z41 (Int.toNat x5) Ty.val.dflt)) (Val.n (List.getD z41 (Int.toNat x5) Ty.val.dflt)) (IntKind.i64.wrap ((IntKind.i64.wrap (x1 + 1)) + 1)) (Val.text (List.getD z41 (Int.toNat x5) Ty.val.dflt)) (Val.list (List.getD z41 (Int.toNat x5) Ty.val.dflt)) (Val.columns (List.getD z41 (Int.toNat x5) Ty.val.dflt)) (Val.rows (List.getD z41 (Int.toNat x5) Ty.val.dflt)))) ((fun (z40 : List Val) => List.set z40 (Int.toNat x5) (Val.mk (Val.kind (List.getD z40 (Int.toNat x5) Ty.val.dflt)) (IntKind.i64.wrap (x1 + 1)) (Val.step (List.getD z40 (Int.toNat x5) Ty.val.dflt)) (Val.text (List.getD z40 (Int.toNat x5) Ty.val.dflt)) (Val.list (List.getD z40 (Int.toNat x5) Ty.val.dflt)) (Val.columns (List.getD z40 (Int.toNat x5) Ty.val.dflt)) (Val.rows (List.getD z40 (Int.toNat x5) Ty.val.dflt)))) (List.set x0 (Int.toNat x5) (Val.mk x1 (Val.n (List.getD x0 (Int.toNat x5) Ty.val.dflt)) (Val.step (List.getD x0 (Int.toNat x5) Ty.val.dflt)) (Val.text (List.getD x0 (Int.toNat x5) Ty.val.dflt)) (Val.list (List.getD x0 (Int.toNat x5) Ty.val.dflt)) (Val.columns (List.getD x0 (Int.toNat x5) Ty.val.dflt)) (Val.rows (List.getD x0 (Int.toNat x5) Ty.val.dflt)))))))))) then
      Option.bind (yDW N (Val.rows (List.getD ((fun (z44 : List Val) => List.set z44 (Int.toNat x5) (Val.mk (Val.kind (List.getD z44 (Int.toNat x5) Ty.val.dflt)) (Val.n (List.getD z44 (Int.toNat x5) Ty.val.dflt)) (Val.step (List.getD z44 (Int.toNat x5) Ty.val.dflt)) (Val.text (List.getD z44 (Int.toNat x5) Ty.val.dflt)) (Val.list (List.getD z44 (Int.toNat x5) Ty.val.dflt)) r3.2 (Val.rows (List.getD z44 (Int.toNat x5) Ty.val.dflt)))) ((fun (z43 : List Val) => List.set z43 (Int.toNat x5) (Val.mk (Val.kind (List.getD z43 (Int.toNat x5) Ty.val.dflt)) (Val.n (List.getD z43 (Int.toNat x5) Ty.val.dflt)) (Val.step (List.getD z43 (Int.toNat x5) Ty.val.dflt)) (Val.text (List.getD z43 (Int.toNat x5) Ty.val.dflt)) r2.2 (Val.columns (List.getD z43 (Int.toNat x5) Ty.val.dflt)) (Val.rows (List.getD z43 (Int.toNat x5) Ty.val.dflt)))) ((fun (z42 : List Val) => List.set z42 (Int.toNat x5) (Val.mk (Val.kind (List.getD z42 (Int.toNat x5) Ty.val.dflt)) (Val.n (List.getD z42 (Int.toNat x5) Ty.val.dflt)) (Val.step (List.getD z42 (Int.toNat x5) Ty.val.dflt)) r1 (Val.list (List.getD z42 (Int.toNat x5) Ty.val.dflt)) (Val.columns (List.getD z42 (Int.toNat x5) Ty.val.dflt)) (Val.rows (List.getD z42 (Int.toNat x5) Ty.val.dflt)))) ((fun (z41 : List Val) => List.set z41 (Int.toNat x5) (Val.mk (Val.kind (List.getD z41 (Int.toNat x5) Ty.val.dflt)) (Val.n (List.getD z41 (Int.toNat x5) Ty.val.dflt)) (IntKind.i64.wrap ((IntKind.i64.wrap (x1 + 1)) + 1)) (Val.text (List.getD z41 (Int.toNat x5) Ty.val.dflt)) (Val.list (List.getD z41 (Int.toNat x5) Ty.val.dflt)) (Val.columns (List.getD z41 (Int.toNat x5) Ty.val.dflt)) (Val.rows (List.getD z41 (Int.toNat x5) Ty.val.dflt)))) ((fun (z40 : List Val) => List.set z40 (Int.toNat x5) (Val.mk (Val.kind (List.getD z40 (Int.toNat x5) Ty.val.dflt)) (IntKind.i64.wrap (x1 + 1)) (Val.step (List.getD z40 (Int.toNat x5) Ty.val.dflt)) (Val.text (List.getD z40 (Int.toNat x5) Ty.val.dflt)) (Val.list (List.getD z40 (Int.toNat x5) Ty.val.dflt)) (Val.columns (List.getD z40 (Int.toNat x5) Ty.val.dflt)) (Val.rows (List.getD z40 (Int.toNat x5) Ty.val.dflt)))) (List.set x0 (Int.toNat x5) (Val.mk x1 (Val.n (List.getD x0 (Int.toNat x5) Ty.val.dflt)) (Val.step (List.getD x0 (Int.toNat x5) Ty.val.dflt)) (Val.text (List.getD x0 (Int.toNat x5) Ty.val.dflt)) (Val.list (List.getD x0 (Int.toNat x5) Ty.val.dflt)) (Val.columns (List.getD x0 (Int.toNat x5) Ty.val.dflt)) (Val.rows (List.getD x0 (Int.toNat x5) Ty.val.dflt))))))))) (Int.toNat x5) Ty.val.dflt)) r3.1) fun r4 =>
      if List.length r4.2 = List.length (Val.rows (List.getD ((fun (z44 : List Val) => List.set z44 (Int.toNat x5) (Val.mk (Val.kind (List.getD z44 (Int.toNat x5) Ty.val.dflt)) (Val.n (List.getD z44 (Int.toNat x5) Ty.val.dflt)) (Val.step (List.getD z44 (Int.toNat x5) Ty.val.dflt)) (Val.text (List.getD z44 (Int.toNat x5) Ty.val.dflt)) (Val.list (List.getD z44 (Int.toNat x5) Ty.val.dflt)) r3.2 (Val.rows (List.getD z44 (Int.toNat x5) Ty.val.dflt)))) ((fun (z43 : List Val) => List.set z43 (Int.toNat x5) (Val.mk (Val.kind (List.getD z43 (Int.toNat x5) Ty.val.dflt)) (Val.n (List.getD z43 (Int.toNat x5) Ty.val.dflt)) (Val.step (List.getD z43 (Int.toNat x5) Ty.val.dflt)) (Val.text (List.getD z43 (Int.toNat x5) Ty.val.dflt)) r2.2 (Val.columns (List.getD z43 (Int.toNat x5) Ty.val.dflt)) (Val.rows (List.getD z43 (Int.toNat x5) Ty.val.dflt)))) ((fun (z42 : List Val) => List.set z42 (Int.toNat x5) (Val.mk (Val.kind (List.getD z42 (Int.toNat x5) Ty.val.dflt)) (Val.n (List.getD z42 (Int.toNat x5) Ty.val.dflt)) (Val.step (List.getD z42 (Int.toNat x5) Ty.val.dflt)) r1 (Val.list (List.getD z42 (Int.toNat x5) Ty.val.dflt)) (Val.columns (List.getD z42 (Int.toNat x5) Ty.val.dflt)) (Val.rows (List.getD z42 (Int.toNat x5) Ty.val.dflt)))) ((fun (z41 : List Val) => List.set z41 (Int.toNat x5) (Val.mk (Val.kind (List.getD z41 (Int.toNat x5) Ty.val.dflt)) (Val.n (List.getD z41 (Int.toNat x5) Ty.val.dflt)) (IntKind.i64.wrap ((IntKind.i64.wrap (x1 + 1)) + 1)) (Val.text (List.getD z41 (Int.toNat x5) Ty.val.dflt)) (Val.list (List.getD z41 (Int.toNat x5) Ty.val.dflt)) (Val.columns (List.getD z41 (Int.toNat x5) Ty.val.dflt)) (Val.rows (List.getD z41 (Int.toNat x5) Ty.val.dflt)))) ((fun (z40 : List Val) => List.set z40 (Int.toNat x5) (Val.mk (Val.kind (List.getD z40 (Int.toNat x5) Ty.val.dflt)) (IntKind.i64.wrap (x1 + 1)) (Val.step (List.getD z40 (Int.toNat x5) Ty.val.dflt)) (Val.text (List.getD z40 (Int.toNat x5) Ty.val.dflt)) (Val.list (List.getD z40 (Int.toNat x5) Ty.val.dflt)) (Val.columns (List.getD z40 (Int.toNat x5) Ty.val.dflt)) (Val.rows (List.getD z40 (Int.toNat x5) Ty.val.dflt)))) (List.set x0 (Int.toNat x5) (Val.mk x1 (Val.n (List.getD x0 (Int.toNat x5) Ty.val.dflt)) (Val.step (List.getD x0 (Int.toNat x5) Ty.val.dflt)) (Val.text (List.getD x0 (Int.toNat x5) Ty.val.dflt)) (Val.list (List.getD x0 (Int.toNat x5) Ty.val.dflt)) (Val.columns (List.getD x0 (Int.toNat x5) Ty.val.dflt)) (Val.rows (List.getD x0 (Int.toNat x5) Ty.val.dflt))))))))) (Int.toNat x5) Ty.val.dflt)) then
      (yBK N rc_laws_markValueS n ((fun (z45 : List Val) => List.set z45 (Int.toNat x5) (Val.mk (Val.kind (List.getD z45 (Int.toNat x5) Ty.val.dflt)) (Val.n (List.getD z45 (Int.toNat x5) Ty.val.dflt)) (Val.step (List.getD z45 (Int.toNat x5) Ty.val.dflt)) (Val.text (List.getD z45 (Int.toNat x5) Ty.val.dflt)) (Val.list (List.getD z45 (Int.toNat x5) Ty.val.dflt)) (Val.columns (List.getD z45 (Int.toNat x5) Ty.val.dflt)) r4.2)) ((fun (z44 : List Val) => List.set z44 (Int.toNat x5) (Val.mk (Val.kind (List.getD z44 (Int.toNat x5) Ty.val.dflt)) (Val.n (List.getD z44 (Int.toNat x5) Ty.val.dflt)) (Val.step (List.getD z44 (Int.toNat x5) Ty.val.dflt)) (Val.text (List.getD z44 (Int.toNat x5) Ty.val.dflt)) (Val.list (List.getD z44 (Int.toNat x5) Ty.val.dflt)) r3.2 (Val.rows (List.getD z44 (Int.toNat x5) Ty.val.dflt)))) ((fun (z43 : List Val) => List.set z43 (Int.toNat x5) (Val.mk (Val.kind (List.getD z43 (Int.toNat x5) Ty.val.dflt)) (Val.n (List.getD z43 (Int.toNat x5) Ty.val.dflt)) (Val.step (List.getD z43 (Int.toNat x5) Ty.val.dflt)) (Val.text (List.getD z43 (Int.toNat x5) Ty.val.dflt)) r2.2 (Val.columns (List.getD z43 (Int.toNat x5) Ty.val.dflt)) (Val.rows (List.getD z43 (Int.toNat x5) Ty.val.dflt)))) ((fun (z42 : List Val) => List.set z42 (Int.toNat x5) (Val.mk (Val.kind (List.getD z42 (Int.toNat x5) Ty.val.dflt)) (Val.n (List.getD z42 (Int.toNat x5) Ty.val.dflt)) (Val.step (List.getD z42 (Int.toNat x5) Ty.val.dflt)) r1 (Val.list (List.getD z42 (Int.toNat x5) Ty.val.dflt)) (Val.columns (List.getD z42 (Int.toNat x5) Ty.val.dflt)) (Val.rows (List.getD z42 (Int.toNat x5) Ty.val.dflt)))) ((fun (z41 : List Val) => List.set z41 (Int.toNat x5) (Val.mk (Val.kind (List.getD z41 (Int.toNat x5) Ty.val.dflt)) (Val.n (List.getD z41 (Int.toNat x5) Ty.val.dflt)) (IntKind.i64.wrap ((IntKind.i64.wrap (x1 + 1)) + 1)) (Val.text (List.getD z41 (Int.toNat x5) Ty.val.dflt)) (Val.list (List.getD z41 (Int.toNat x5) Ty.val.dflt)) (Val.columns (List.getD z41 (Int.toNat x5) Ty.val.dflt)) (Val.rows (List.getD z41 (Int.toNat x5) Ty.val.dflt)))) ((fun (z40 : List Val) => List.set z40 (Int.toNat x5) (Val.mk (Val.kind (List.getD z40 (Int.toNat x5) Ty.val.dflt)) (IntKind.i64.wrap (x1 + 1)) (Val.step (List.getD z40 (Int.toNat x5) Ty.val.dflt)) (Val.text (List.getD z40 (Int.toNat x5) Ty.val.dflt)) (Val.list (List.getD z40 (Int.toNat x5) Ty.val.dflt)) (Val.columns (List.getD z40 (Int.toNat x5) Ty.val.dflt)) (Val.rows (List.getD z40 (Int.toNat x5) Ty.val.dflt)))) (List.set x0 (Int.toNat x5) (Val.mk x1 (Val.n (List.getD x0 (Int.toNat x5) Ty.val.dflt)) (Val.step (List.getD x0 (Int.toNat x5) Ty.val.dflt)) (Val.text (List.getD x0 (Int.toNat x5) Ty.val.dflt)) (Val.list (List.getD x0 (Int.toNat x5) Ty.val.dflt)) (Val.columns (List.getD x0 (Int.toNat x5) Ty.val.dflt)) (Val.rows (List.getD x0 (Int.toNat x5) Ty.val.dflt)))))))))) r4.1 (IntKind.i64.wrap (x5 + 1)))
      else none
      else none
      else none
      else none
      else none
      else none
      else none
      else none
      else none
      else none
    ) else (
      some (x1, x0)
    )
def yC3 (N : Nat) (rc_laws_markValueS : (List Val) → Int → Option (Int × (List Val))) (a0 : List Val) (a1 : Int) : Option (Int × (List Val)) :=
  (yBK N rc_laws_markValueS N a0 a1 0)
def yCF (N : Nat) : Nat → (List Val) → Int → Option (Int × (List Val))
  | 0, _, _ => none
  | d + 1, a0, a1 => yC3 N (yCF N d) a0 a1
def yE3 (N : Nat) (a0 : List Val) (a1 : Int) : Option (Int × (List Val)) := yCF N N a0 a1
def yEx (a0 : Val) (a1 : Int) : List Arg := [.val (.v true [.int .i64 (Val.kind a0), .int .i64 (Val.n a0), .int .i64 (Val.step a0), .str (Val.text a0), .sl (.lnt 0) .val (Val.list a0), .sl (.lnt 1) .str (Val.columns a0), .sl (.lnt 2) .row (Val.rows a0)]), .val (.v false [.int .i64 a1])]
def yEy (r : Int × (List Val) × (List Str) × (List Rowd)) : CallO := ⟨.v false [.int .i64 r.1], [], [.sl (.lnt 0) .val r.2.1, .sl (.lnt 1) .str r.2.2.1, .sl (.lnt 2) .row r.2.2.2]⟩
def yDC (N : Nat) (a0 : Val) (a1 : Int) : Option (Int × (List Val) × (List Str) × (List Rowd)) :=
  Option.bind (yE3 N (Val.list a0) a1) fun r1 =>
  if List.length r1.2 = List.length (Val.list a0) then
  Option.bind (yCO N (Val.columns a0) r1.1) fun r2 =>
  if List.length r2.2 = List.length (Val.columns a0) then
  Option.bind (yDW N (Val.rows a0) r2.1) fun r3 =>
  if List.length r3.2 = List.length (Val.rows a0) then
  some (r3.1, r1.2, r2.2, r3.2)
  else none
  else none
  else none
def yA1 (a0 : List Str) (a1 : Int) : List Arg := [.val (.v false [.sl .ro .str a0]), .val (.v false [.int .i64 a1])]
def yAj (r : Int) : CallO := ⟨.v false [.int .i64 r], [], []⟩
def yBv (N : Nat) : Nat → (List Str) → Int → Int → Option (Int)
  | 0, _, _, _ => none
  | n + 1, x0, x1, x5 =>
    bif (decide ((x5 : Int) < (List.length x0 : Int))) then (
      if (0 : Int) ≤ x5 ∧ x5 < (List.length x0) then
      Option.bind (yCo N x1) fun r1 =>
      bif (!(((List.getD x0 (Int.toNat x5) Ty.str.dflt) : Str) == r1)) then (
        some (-1)
      ) else (
        (yBv N n x0 (IntKind.i64.wrap (x1 + 1)) (IntKind.i64.wrap (x5 + 1)))
      )
      else none
    ) else (
      some x1
    )
def yCM (N : Nat) (a0 : List Str) (a1 : Int) : Option (Int) :=
  (yBv N N a0 a1 0)
def yCL (a0 : List Int) (a1 : Int) : List Arg := [.val (.v false [.sl .ro .int a0]), .val (.v false [.int .i64 a1])]
def yA6 (r : Int) : CallO := ⟨.v false [.int .i64 r], [], []⟩
def yCe (N : Nat) : Nat → (List Int) → Int → Int → Option (Int)
  | 0, _, _, _ => none
  | n + 1, x0, x1, x5 =>
    bif (decide ((x5 : Int) < (List.length x0 : Int))) then (
      if (0 : Int) ≤ x5 ∧ x5 < (List.length x0) then
      bif (((List.getD x0 (Int.toNat x5) Ty.int.dflt) : Int) != x1) then (
        some (-1)
      ) else (
        (yCe N n x0 (IntKind.i64.wrap (x1 + 1)) (IntKind.i64.wrap (x5 + 1)))
      )
      else none
    ) else (
      some x1
    )
def yEn (N : Nat) (a0 : List Int) (a1 : Int) : Option (Int) :=
  (yCe N N a0 a1 0)
def yCC (a0 : List Org) (a1 : Int) : List Arg := [.val (.v false [.sl .ro .org a0]), .val (.v false [.int .i64 a1])]
def yAO (r : Int) : CallO := ⟨.v false [.int .i64 r], [], []⟩
def yBu (N : Nat) : Nat → (List Org) → Int → Int → Option (Int)
  | 0, _, _, _ => none
  | n + 1, x0, x1, x5 =>
    bif (decide ((x5 : Int) < (List.length x0 : Int))) then (
      if (0 : Int) ≤ x5 ∧ x5 < (List.length x0) then
      bif (((Org.cell (List.getD x0 (Int.toNat x5) Ty.org.dflt)) : Int) != x1) then (
        some (-1)
      ) else (
        bif (((Org.row (List.getD x0 (Int.toNat x5) Ty.org.dflt)) : Int) != (IntKind.i64.wrap (x1 + 1))) then (
          some (-1)
        ) else (
          (yBu N n x0 (IntKind.i64.wrap ((IntKind.i64.wrap (x1 + 1)) + 1)) (IntKind.i64.wrap (x5 + 1)))
        )
      )
      else none
    ) else (
      some x1
    )
def yDo (N : Nat) (a0 : List Org) (a1 : Int) : Option (Int) :=
  (yBu N N a0 a1 0)
def yCf (a0 : List Rowd) (a1 : Int) : List Arg := [.val (.v false [.sl .ro .row a0]), .val (.v false [.int .i64 a1])]
def yAD (r : Int) : CallO := ⟨.v false [.int .i64 r], [], []⟩
def yCg (N : Nat) : Nat → (List Rowd) → Int → Int → Option (Int)
  | 0, _, _, _ => none
  | n + 1, x0, x1, x5 =>
    bif (decide ((x5 : Int) < (List.length x0 : Int))) then (
      if (0 : Int) ≤ x5 ∧ x5 < (List.length x0) then
      Option.bind (yEn N (Rowd.cells (List.getD x0 (Int.toNat x5) Ty.row.dflt)) x1) fun r1 =>
      bif (decide ((r1 : Int) < 0)) then (
        some (-1)
      ) else (
        Option.bind (yDo N (Rowd.frm (List.getD x0 (Int.toNat x5) Ty.row.dflt)) r1) fun r2 =>
        bif (decide ((r2 : Int) < 0)) then (
          some (-1)
        ) else (
          (yCg N n x0 r2 (IntKind.i64.wrap (x5 + 1)))
        )
      )
      else none
    ) else (
      some x1
    )
def yDV (N : Nat) (a0 : List Rowd) (a1 : Int) : Option (Int) :=
  (yCg N N a0 a1 0)
def yAn (a0 : List Val) (a1 : Int) : List Arg := [.val (.v false [.sl .ro .val a0]), .val (.v false [.int .i64 a1])]
def yAe (r : Int) : CallO := ⟨.v false [.int .i64 r], [], []⟩
def yBJ (N : Nat) (rc_laws_heldValueS : (List Val) → Int → Option (Int)) : Nat → (List Val) → Int → Int → Option (Int)
  | 0, _, _, _ => none
  | n + 1, x0, x1, x5 =>
    bif (decide ((x5 : Int) < (List.length x0 : Int))) then (
      if (0 : Int) ≤ x5 ∧ x5 < (List.length x0) then
      bif (((Val.kind (List.getD x0 (Int.toNat x5) Ty.val.dflt)) : Int) != x1) then (
        some (-1)
      ) else (
        bif (((Val.n (List.getD x0 (Int.toNat x5) Ty.val.dflt)) : Int) != (IntKind.i64.wrap (x1 + 1))) then (
          some (-1)
        ) else (
          bif (((Val.step (List.getD x0 (Int.toNat x5) Ty.val.dflt)) : Int) != (IntKind.i64.wrap ((IntKind.i64.wrap (x1 + 1)) + 1))) then (
            some (-1)
          ) else (
            Option.bind (yCo N (IntKind.i64.wrap ((IntKind.i64.wrap ((IntKind.i64.wrap (x1 + 1)) + 1)) + 1))) fun r1 =>
            bif (!(((Val.text (List.getD x0 (Int.toNat x5) Ty.val.dflt)) : Str) == r1)) then (
              some (-1)
            ) else (
              Option.bind (rc_laws_heldValueS (Val.list (List.getD x0 (Int.toNat x5) Ty.val.dflt)) (IntKind.i64.wrap ((IntKind.i64.wrap ((IntKind.i64.wrap ((IntKind.i64.wrap (x1 + 1)) + 1)) + 1)) + 1))) fun r2 =>
              bif (decide ((r2 : Int) < 0)) then (
                some (-1)
              ) else (
                Option.bind (yCM N (Val.columns (List.getD x0 (Int.toNat x5) Ty.val.dflt)) r2) fun r3 =>
                bif (decide ((r3 : Int) < 0)) then (
                  some (-1)
                ) else (
                  Option.bind (yDV N (Val.rows (List.getD x0 (Int.toNat x5) Ty.val.dflt)) r3) fun r4 =>
                  bif (decide ((r4 : Int) < 0)) then (
                    some (-1)
                  ) else (
                    (yBJ N rc_laws_heldValueS n x0 r4 (IntKind.i64.wrap (x5 + 1)))
                  )
                )
              )
            )
          )
        )
      )
      else none
    ) else (
      some x1
    )
def yC2 (N : Nat) (rc_laws_heldValueS : (List Val) → Int → Option (Int)) (a0 : List Val) (a1 : Int) : Option (Int) :=
  (yBJ N rc_laws_heldValueS N a0 a1 0)
def yCD (N : Nat) : Nat → (List Val) → Int → Option (Int)
  | 0, _, _ => none
  | d + 1, a0, a1 => yC2 N (yCD N d) a0 a1
def yE1 (N : Nat) (a0 : List Val) (a1 : Int) : Option (Int) := yCD N N a0 a1
def yCt (a0 : Val) (a1 : Int) : List Arg := [.val (.v true [.int .i64 (Val.kind a0), .int .i64 (Val.n a0), .int .i64 (Val.step a0), .str (Val.text a0), .sl .ro .val (Val.list a0), .sl .ro .str (Val.columns a0), .sl .ro .row (Val.rows a0)]), .val (.v false [.int .i64 a1])]
def yCu (r : Int) : CallO := ⟨.v false [.int .i64 r], [], []⟩
def yDB (N : Nat) (a0 : Val) (a1 : Int) : Option (Int) :=
  Option.bind (yE1 N (Val.list a0) a1) fun r1 =>
  bif (decide ((r1 : Int) < 0)) then (
    some (-1)
  ) else (
    Option.bind (yCM N (Val.columns a0) r1) fun r2 =>
    bif (decide ((r2 : Int) < 0)) then (
      some (-1)
    ) else (
      Option.bind (yDV N (Val.rows a0) r2) fun r3 =>
      bif (decide ((r3 : Int) < 0)) then (
        some (-1)
      ) else (
        some r3
      )
    )
  )
def yDd (a0 : Int) (a1 : Int) (a2 : Int) : List Arg := [.val (.v false [.int .i64 a0]), .val (.v false [.int .i64 a1]), .val (.v false [.int .i64 a2])]
def yBQ (r : Bool) : CallO := ⟨.v false [.bool r], [], []⟩
def yEN (N : Nat) (a0 : Int) (a1 : Int) (a2 : Int) : Option (Bool) :=
  bif (decide ((a0 : Int) ≥ a1)) then (
    some (decide ((a0 : Int) ≤ a2))
  ) else (
    some false
  )
def yBs (a0 : Int) : List Arg := [.val (.v false [.int .i64 a0])]
def yAz (r : Bool) : CallO := ⟨.v false [.bool r], [], []⟩
def yCq (N : Nat) (a0 : Int) : Option (Bool) :=
  Option.bind (yEN N a0 (-1000000000) 1000000000) fun r1 =>
  some r1
def yB2 (a0 : Int) (a1 : Int) (a2 : Int) : List Arg := [.val (.v false [.int .i64 a0]), .val (.v false [.int .i64 a1]), .val (.v false [.int .i64 a2])]
def yAY (r : Bool) : CallO := ⟨.v false [.bool r], [], []⟩
def yDg (N : Nat) (a0 : Int) (a1 : Int) (a2 : Int) : Option (Bool) :=
  bif (decide ((a1 : Int) ≤ a0)) then (
    some (decide ((a0 : Int) ≤ a2))
  ) else (
    some false
  )
def yBn (a0 : Int) : List Arg := [.val (.v false [.int .i64 a0])]
def yAy (r : Bool) : CallO := ⟨.v false [.bool r], [], []⟩
def yCm (N : Nat) (a0 : Int) : Option (Bool) :=
  Option.bind (yDg N a0 (-1000000000) 1000000000) fun r1 =>
  some r1
def yDl (a0 : Str) : List Arg := [.val (.v false [.str a0])]
def yA4 (r : Bool) : CallO := ⟨.v false [.bool r], [], []⟩
def yA3 (N : Nat) : Nat → Str → Int → Option (Bool)
  | 0, _, _ => none
  | n + 1, x0, x3 =>
    bif (decide ((x3 : Int) < (List.length x0 : Int))) then (
      if (0 : Int) ≤ x3 ∧ x3 < (List.length x0) then
      bif (decide ((((List.getD x0 (Int.toNat x3) 0).toNat : Int) : Int) < 32)) then (
        some false
      ) else (
        bif (decide ((((List.getD x0 (Int.toNat x3) 0).toNat : Int) : Int) > 126)) then (
          some false
        ) else (
          bif ((((List.getD x0 (Int.toNat x3) 0).toNat : Int) : Int) == 34) then (
            some false
          ) else (
            (yA3 N n x0 (IntKind.i64.wrap (x3 + 1)))
          )
        )
      )
      else none
    ) else (
      some (decide (((List.length x0 : Int) : Int) ≤ 20))
    )
def yDv (N : Nat) (a0 : Str) : Option (Bool) :=
  (yA3 N N a0 0)
def yBB (a0 : Val) : List Arg := [.val (.v true [.int .i64 (Val.kind a0), .int .i64 (Val.n a0), .int .i64 (Val.step a0), .str (Val.text a0), .sl .ro .val (Val.list a0), .sl .ro .str (Val.columns a0), .sl .ro .row (Val.rows a0)])]
def yAV (r : Bool) : CallO := ⟨.v false [.bool r], [], []⟩
def yEf (N : Nat) (a0 : Val) : Option (Bool) :=
  bif (((Val.kind a0) : Int) == 1) then (
    some true
  ) else (
    bif (((Val.kind a0) : Int) == 2) then (
      some true
    ) else (
      some (((Val.kind a0) : Int) == 3)
    )
  )
def yEr (a0 : Int) (a1 : Int) : List Arg := [.val (.v false [.int .i64 a0]), .val (.v false [.int .i64 a1])]
def yD2 (r : Int) : CallO := ⟨.v false [.int .i64 r], [], []⟩
def yEW (N : Nat) (a0 : Int) (a1 : Int) : Option (Int) :=
  bif (decide ((a0 : Int) > a1)) then (
    some a0
  ) else (
    some a1
  )
def yBm (a0 : Val) : List Arg := [.val (.v true [.int .i64 (Val.kind a0), .int .i64 (Val.n a0), .int .i64 (Val.step a0), .str (Val.text a0), .sl .ro .val (Val.list a0), .sl .ro .str (Val.columns a0), .sl .ro .row (Val.rows a0)])]
def yAU (r : Int) : CallO := ⟨.v false [.int .i64 r], [], []⟩
def yCG (N : Nat) (rc_spec_DepthOf : Val → Option (Int)) : Nat → Int → Int → Val → Option (Int)
  | 0, _, _, _ => none
  | n + 1, x3, x4, b1 =>
    bif (decide ((x4 : Int) < (List.length (Val.list b1) : Int))) then (
      if (0 : Int) ≤ x4 ∧ x4 < (List.length (Val.list b1)) then
      Option.bind (rc_spec_DepthOf (List.getD (Val.list b1) (Int.toNat x4) Ty.val.dflt)) fun r1 =>
      Option.bind (yEW N x3 r1) fun r2 =>
      (yCG N rc_spec_DepthOf n r2 (IntKind.i64.wrap (x4 + 1)) b1)
      else none
    ) else (
      some (IntKind.i64.wrap (x3 + 1))
    )
def yD0 (N : Nat) (rc_spec_DepthOf : Val → Option (Int)) (a0 : Val) : Option (Int) :=
  (yCG N rc_spec_DepthOf N 0 0 a0)
def yCk (N : Nat) : Nat → Val → Option (Int)
  | 0, _ => none
  | d + 1, a0 => yD0 N (yCk N d) a0
def yFe (N : Nat) (a0 : Val) : Option (Int) := yCk N N a0
def yDa (a0 : Str) : List Arg := [.val (.v false [.str a0])]
def yAt (r : Bool) : CallO := ⟨.v false [.bool r], [], []⟩
def yBd (N : Nat) : Nat → Str → Int → Option (Bool)
  | 0, _, _ => none
  | n + 1, x0, x3 =>
    bif (decide ((x3 : Int) < (List.length x0 : Int))) then (
      if (0 : Int) ≤ x3 ∧ x3 < (List.length x0) then
      bif (decide ((((List.getD x0 (Int.toNat x3) 0).toNat : Int) : Int) ≥ 97)) then (
        bif (decide ((((List.getD x0 (Int.toNat x3) 0).toNat : Int) : Int) ≥ 48)) then (
          bif (!(decide ((((List.getD x0 (Int.toNat x3) 0).toNat : Int) : Int) ≤ 122))) then (
            bif ((x3 : Int) == 0) then (
              some false
            ) else (
              bif (!(decide ((((List.getD x0 (Int.toNat x3) 0).toNat : Int) : Int) ≤ 57))) then (
                some false
              ) else (
                (yBd N n x0 (IntKind.i64.wrap (x3 + 1)))
              )
            )
          ) else (
            (yBd N n x0 (IntKind.i64.wrap (x3 + 1)))
          )
        ) else (
          bif (!(decide ((((List.getD x0 (Int.toNat x3) 0).toNat : Int) : Int) ≤ 122))) then (
            bif ((x3 : Int) == 0) then (
              some false
            ) else (
              some false
            )
          ) else (
            (yBd N n x0 (IntKind.i64.wrap (x3 + 1)))
          )
        )
      ) else (
        bif (decide ((((List.getD x0 (Int.toNat x3) 0).toNat : Int) : Int) ≥ 48)) then (
          bif ((x3 : Int) == 0) then (
            some false
          ) else (
            bif (!(decide ((((List.getD x0 (Int.toNat x3) 0).toNat : Int) : Int) ≤ 57))) then (
              some false
            ) else (
              (yBd N n x0 (IntKind.i64.wrap (x3 + 1)))
            )
          )
        ) else (
          bif ((x3 : Int) == 0) then (
            some false
          ) else (
            some false
          )
        )
      )
      else none
    ) else (
      some (decide (((List.length x0 : Int) : Int) > 0))
    )
def yEO (N : Nat) (a0 : Str) : Option (Bool) :=
  (yBd N N a0 0)
def yDM : List Arg := []
def yCW (r : (List Str)) : CallO := ⟨.v false [.sl .own .str r], [], []⟩
def yDR (N : Nat) : Option ((List Str)) :=
  some [[108, 101, 116], [105, 110], [105, 102], [116, 104, 101, 110], [101, 108, 115, 101], [102, 111, 114], [100, 111], [108, 101, 110], [115, 117, 109], [116, 97, 107, 101], [115, 107, 105, 112], [114, 97, 110, 103, 101], [110, 116, 104], [119, 104, 101, 114, 101], [107, 101, 101, 112], [97, 100, 100], [103, 114, 111, 117, 112], [106, 111, 105, 110], [99, 111, 108, 117, 109, 110], [114, 111, 119, 115], [99, 108, 111, 99, 107], [99, 104, 97, 110, 99, 101], [102, 105, 108, 101], [116, 97, 98, 108, 101]]
def yD1 (a0 : List Str) (a1 : Str) : List Arg := [.val (.v false [.sl .ro .str a0]), .val (.v false [.str a1])]
def yBM (r : Bool) : CallO := ⟨.v false [.bool r], [], []⟩
def yCV (N : Nat) : Nat → (List Str) → Str → Int → Option (Bool)
  | 0, _, _, _ => none
  | n + 1, x0, x1, x5 =>
    bif (decide ((x5 : Int) < (List.length x0 : Int))) then (
      if (0 : Int) ≤ x5 ∧ x5 < (List.length x0) then
      bif (((List.getD x0 (Int.toNat x5) Ty.str.dflt) : Str) == x1) then (
        some true
      ) else (
        (yCV N n x0 x1 (IntKind.i64.wrap (x5 + 1)))
      )
      else none
    ) else (
      some false
    )
def yEV (N : Nat) (a0 : List Str) (a1 : Str) : Option (Bool) :=
  (yCV N N a0 a1 0)
def yDL (a0 : Str) : List Arg := [.val (.v false [.str a0])]
def yCU (r : Bool) : CallO := ⟨.v false [.bool r], [], []⟩
def yC9 (N : Nat) (a0 : Str) : Option (Bool) :=
  Option.bind (yDR N) fun r1 =>
  Option.bind (yEV N r1 a0) fun r2 =>
  some r2
def yBz (a0 : Str) : List Arg := [.val (.v false [.str a0])]
def yA2 (r : Bool) : CallO := ⟨.v false [.bool r], [], []⟩
def yCP (N : Nat) (a0 : Str) : Option (Bool) :=
  Option.bind (yEO N a0) fun r1 =>
  bif r1 then (
    bif (decide (((List.length a0 : Int) : Int) ≤ 8)) then (
      Option.bind (yC9 N a0) fun r2 =>
      some (!r2)
    ) else (
      some false
    )
  ) else (
    some false
  )
def yDk (a0 : List Str) : List Arg := [.val (.v false [.sl .ro .str a0])]
def yBy (r : Bool) : CallO := ⟨.v false [.bool r], [], []⟩
def yBc (N : Nat) : Nat → (List Str) → Int → Option (Bool)
  | 0, _, _ => none
  | n + 1, x0, x3 =>
    bif (decide ((x3 : Int) < (List.length x0 : Int))) then (
      if (0 : Int) ≤ x3 ∧ x3 ≤ (List.length x0) then
      if (0 : Int) ≤ x3 ∧ x3 < (List.length x0) then
      Option.bind (yEV N (List.take (Int.toNat x3) x0) (List.getD x0 (Int.toNat x3) Ty.str.dflt)) fun r1 =>
      bif r1 then (
        some false
      ) else (
        (yBc N n x0 (IntKind.i64.wrap (x3 + 1)))
      )
      else none
      else none
    ) else (
      some true
    )
def yDu (N : Nat) (a0 : List Str) : Option (Bool) :=
  (yBc N N a0 0)
def yCz (a0 : List Str) : List Arg := [.val (.v false [.sl .ro .str a0])]
def yAM (r : Bool) : CallO := ⟨.v false [.bool r], [], []⟩
def yB1 (N : Nat) : Nat → (List Str) → Int → Option (Bool)
  | 0, _, _ => none
  | n + 1, x0, x3 =>
    bif (decide ((x3 : Int) < (List.length x0 : Int))) then (
      if (0 : Int) ≤ x3 ∧ x3 < (List.length x0) then
      Option.bind (yCP N (List.getD x0 (Int.toNat x3) Ty.str.dflt)) fun r1 =>
      bif (!r1) then (
        some false
      ) else (
        (yB1 N n x0 (IntKind.i64.wrap (x3 + 1)))
      )
      else none
    ) else (
      Option.bind (yEN N (List.length x0 : Int) 1 4) fun r1 =>
      bif r1 then (
        Option.bind (yDu N x0) fun r2 =>
        some r2
      ) else (
        some false
      )
    )
def yEe (N : Nat) (a0 : List Str) : Option (Bool) :=
  (yB1 N N a0 0)
def yCl (a0 : Org) (a1 : Org) : List Arg := [.val (.v true [.int .i64 (Org.cell a0), .int .i64 (Org.row a0)]), .val (.v true [.int .i64 (Org.cell a1), .int .i64 (Org.row a1)])]
def yBr (r : Bool) : CallO := ⟨.v false [.bool r], [], []⟩
def yD3 (N : Nat) (a0 : Org) (a1 : Org) : Option (Bool) :=
  bif (decide (((Org.cell a0) : Int) < (Org.cell a1))) then (
    some true
  ) else (
    bif (((Org.cell a0) : Int) == (Org.cell a1)) then (
      some (decide (((Org.row a0) : Int) < (Org.row a1)))
    ) else (
      some false
    )
  )
def yCI (a0 : List Org) : List Arg := [.val (.v false [.sl .ro .org a0])]
def yAH (r : Bool) : CallO := ⟨.v false [.bool r], [], []⟩
def yA5 (N : Nat) : Nat → (List Org) → Int → Option (Bool)
  | 0, _, _ => none
  | n + 1, x0, x3 =>
    bif (decide ((x3 : Int) < (List.length x0 : Int))) then (
      if (0 : Int) ≤ x3 ∧ x3 < (List.length x0) then
      bif (decide (((Org.cell (List.getD x0 (Int.toNat x3) Ty.org.dflt)) : Int) < 0)) then (
        some false
      ) else (
        bif (decide (((Org.row (List.getD x0 (Int.toNat x3) Ty.org.dflt)) : Int) < 0)) then (
          some false
        ) else (
          bif (decide ((x3 : Int) > 0)) then (
            if (0 : Int) ≤ (IntKind.i64.wrap (x3 - 1)) ∧ (IntKind.i64.wrap (x3 - 1)) < (List.length x0) then
            Option.bind (yD3 N (List.getD x0 (Int.toNat (IntKind.i64.wrap (x3 - 1))) Ty.org.dflt) (List.getD x0 (Int.toNat x3) Ty.org.dflt)) fun r1 =>
            bif (!r1) then (
              some false
            ) else (
              (yA5 N n x0 (IntKind.i64.wrap (x3 + 1)))
            )
            else none
          ) else (
            (yA5 N n x0 (IntKind.i64.wrap (x3 + 1)))
          )
        )
      )
      else none
    ) else (
      some true
    )
def yDw (N : Nat) (a0 : List Org) : Option (Bool) :=
  (yA5 N N a0 0)
def yDb (a0 : Val) : List Arg := [.val (.v true [.int .i64 (Val.kind a0), .int .i64 (Val.n a0), .int .i64 (Val.step a0), .str (Val.text a0), .sl .ro .val (Val.list a0), .sl .ro .str (Val.columns a0), .sl .ro .row (Val.rows a0)])]
def yAW (r : Bool) : CallO := ⟨.v false [.bool r], [], []⟩
def yBR (N : Nat) (k4 : Int → Val → Option (Bool)) : Nat → Int → Int → Val → Rowd → Option (Bool)
  | 0, _, _, _, _ => none
  | n + 1, x3, x5, b1, b4 =>
    bif (decide ((x5 : Int) < (List.length (Rowd.cells b4) : Int))) then (
      if (0 : Int) ≤ x5 ∧ x5 < (List.length (Rowd.cells b4)) then
      Option.bind (yCq N (List.getD (Rowd.cells b4) (Int.toNat x5) Ty.int.dflt)) fun r1 =>
      bif (!r1) then (
        some false
      ) else (
        (yBR N k4 n x3 (IntKind.i64.wrap (x5 + 1)) b1 b4)
      )
      else none
    ) else (
      (k4 (IntKind.i64.wrap (x3 + 1)) b1)
    )
def yB7 (N : Nat) : Nat → Int → Val → Option (Bool)
  | 0, _, _ => none
  | n + 1, x3, b1 =>
    bif (decide ((x3 : Int) < (List.length (Val.rows b1) : Int))) then (
      if (0 : Int) ≤ x3 ∧ x3 < (List.length (Val.rows b1)) then
      bif (((List.length (Rowd.cells (List.getD (Val.rows b1) (Int.toNat x3) Ty.row.dflt)) : Int) : Int) != (List.length (Val.columns b1) : Int)) then (
        some false
      ) else (
        Option.bind (yDw N (Rowd.frm (List.getD (Val.rows b1) (Int.toNat x3) Ty.row.dflt))) fun r1 =>
        bif (!r1) then (
          some false
        ) else (
          (yBR N (fun z0 z1 => (yB7 N n z0 z1)) N x3 0 b1 (List.getD (Val.rows b1) (Int.toNat x3) Ty.row.dflt))
        )
      )
      else none
    ) else (
      some true
    )
def yEk (N : Nat) (a0 : Val) : Option (Bool) :=
  Option.bind (yEe N (Val.columns a0)) fun r1 =>
  bif (!r1) then (
    some false
  ) else (
    bif (decide (((List.length (Val.rows a0) : Int) : Int) > 12)) then (
      some false
    ) else (
      (yB7 N N 0 a0)
    )
  )
def yAd (a0 : Val) : List Arg := [.val (.v true [.int .i64 (Val.kind a0), .int .i64 (Val.n a0), .int .i64 (Val.step a0), .str (Val.text a0), .sl .ro .val (Val.list a0), .sl .ro .str (Val.columns a0), .sl .ro .row (Val.rows a0)])]
def yAc (r : Bool) : CallO := ⟨.v false [.bool r], [], []⟩
def yBj (N : Nat) (rc_spec_IsValidValue : Val → Option (Bool)) (rc_spec_l3List : Val → Option (Bool)) (a0 : Val) : Option (Bool) :=
  bif (((Val.kind a0) : Int) != 3) then (
    bif (decide (((List.length (Val.list a0) : Int) : Int) > 0)) then (
      some false
    ) else (
      bif (((Val.kind a0) : Int) != 5) then (
        bif (decide (((IntKind.i64.wrap ((List.length (Val.columns a0) : Int) + (List.length (Val.rows a0) : Int))) : Int) > 0)) then (
          some false
        ) else (
          bif (((Val.kind a0) : Int) != 2) then (
            bif (!(((Val.text a0) : Str) == [])) then (
              some false
            ) else (
              bif (((Val.kind a0) : Int) != 4) then (
                bif (((Val.step a0) : Int) != 0) then (
                  some false
                ) else (
                  bif (((Val.kind a0) : Int) == 1) then (
                    Option.bind (yCq N (Val.n a0)) fun r1 =>
                    some r1
                  ) else (
                    bif (((Val.kind a0) : Int) == 6) then (
                      Option.bind (yEN N (Val.n a0) 1 8) fun r1 =>
                      some r1
                    ) else (
                      some false
                    )
                  )
                )
              ) else (
                Option.bind (yCq N (Val.n a0)) fun r1 =>
                bif r1 then (
                  Option.bind (yCq N (Val.step a0)) fun r2 =>
                  some r2
                ) else (
                  some false
                )
              )
            )
          ) else (
            bif (((Val.step a0) : Int) != 0) then (
              some false
            ) else (
              bif (((Val.n a0) : Int) == 0) then (
                Option.bind (yDv N (Val.text a0)) fun r1 =>
                some r1
              ) else (
                some false
              )
            )
          )
        )
      ) else (
        bif (!(((Val.text a0) : Str) == [])) then (
          some false
        ) else (
          bif (((Val.step a0) : Int) != 0) then (
            some false
          ) else (
            bif (((Val.n a0) : Int) == 0) then (
              Option.bind (yEk N a0) fun r1 =>
              some r1
            ) else (
              some false
            )
          )
        )
      )
    )
  ) else (
    bif (decide (((IntKind.i64.wrap ((List.length (Val.columns a0) : Int) + (List.length (Val.rows a0) : Int))) : Int) > 0)) then (
      some false
    ) else (
      bif (!(((Val.text a0) : Str) == [])) then (
        some false
      ) else (
        bif (((Val.step a0) : Int) != 0) then (
          some false
        ) else (
          bif (((Val.n a0) : Int) == 0) then (
            Option.bind (rc_spec_l3List a0) fun r1 =>
            some r1
          ) else (
            some false
          )
        )
      )
    )
  )
def yBG (a0 : Val) : List Arg := [.val (.v true [.int .i64 (Val.kind a0), .int .i64 (Val.n a0), .int .i64 (Val.step a0), .str (Val.text a0), .sl .ro .val (Val.list a0), .sl .ro .str (Val.columns a0), .sl .ro .row (Val.rows a0)])]
def yAP (r : Bool) : CallO := ⟨.v false [.bool r], [], []⟩
def yB3 (N : Nat) (rc_spec_IsValidValue : Val → Option (Bool)) (rc_spec_l3List : Val → Option (Bool)) : Nat → Int → Val → Option (Bool)
  | 0, _, _ => none
  | n + 1, x3, b1 =>
    bif (decide ((x3 : Int) < (List.length (Val.list b1) : Int))) then (
      if (0 : Int) ≤ x3 ∧ x3 < (List.length (Val.list b1)) then
      Option.bind (yEf N (List.getD (Val.list b1) (Int.toNat x3) Ty.val.dflt)) fun r1 =>
      bif (!r1) then (
        some false
      ) else (
        Option.bind (rc_spec_IsValidValue (List.getD (Val.list b1) (Int.toNat x3) Ty.val.dflt)) fun r2 =>
        bif (!r2) then (
          some false
        ) else (
          (yB3 N rc_spec_IsValidValue rc_spec_l3List n (IntKind.i64.wrap (x3 + 1)) b1)
        )
      )
      else none
    ) else (
      bif (decide (((List.length (Val.list b1) : Int) : Int) ≤ 8)) then (
        Option.bind (yFe N b1) fun r1 =>
        some (decide ((r1 : Int) ≤ 3))
      ) else (
        some false
      )
    )
def yEj (N : Nat) (rc_spec_IsValidValue : Val → Option (Bool)) (rc_spec_l3List : Val → Option (Bool)) (a0 : Val) : Option (Bool) :=
  (yB3 N rc_spec_IsValidValue rc_spec_l3List N 0 a0)
structure spec_IsValidValue_rec where
  c_spec_IsValidValue : Val → Option (Bool)
  c_spec_l3List : Val → Option (Bool)
def yAh (N : Nat) : Nat → spec_IsValidValue_rec
  | 0 => ⟨fun _ => none, fun _ => none⟩
  | d + 1 => ⟨yBj N (yAh N d).c_spec_IsValidValue (yAh N d).c_spec_l3List, yEj N (yAh N d).c_spec_IsValidValue (yAh N d).c_spec_l3List⟩
def yED (N : Nat) (a0 : Val) : Option (Bool) := (yAh N N).c_spec_IsValidValue a0
def yDf (a0 : Str) : List Arg := [.val (.v false [.str a0])]
def yA0 (r : Bool) : CallO := ⟨.v false [.bool r], [], []⟩
def yBU (N : Nat) : Nat → Str → Int → Option (Bool)
  | 0, _, _ => none
  | n + 1, x0, x3 =>
    bif (decide ((x3 : Int) < (List.length x0 : Int))) then (
      if (0 : Int) ≤ x3 ∧ x3 < (List.length x0) then
      bif (decide ((((List.getD x0 (Int.toNat x3) 0).toNat : Int) : Int) < 32)) then (
        some false
      ) else (
        bif (decide ((((List.getD x0 (Int.toNat x3) 0).toNat : Int) : Int) > 126)) then (
          some false
        ) else (
          bif ((((List.getD x0 (Int.toNat x3) 0).toNat : Int) : Int) == 34) then (
            some false
          ) else (
            (yBU N n x0 (IntKind.i64.wrap (x3 + 1)))
          )
        )
      )
      else none
    ) else (
      some (decide (((List.length x0 : Int) : Int) ≤ 20))
    )
def yDn (N : Nat) (a0 : Str) : Option (Bool) :=
  (yBU N N a0 0)
def yD7 (a0 : Str) : List Arg := [.val (.v false [.str a0])]
def yAX (r : Bool) : CallO := ⟨.v false [.bool r], [], []⟩
def yBC (N : Nat) : Nat → Str → Int → Option (Bool)
  | 0, _, _ => none
  | n + 1, x0, x3 =>
    bif (decide ((x3 : Int) < (List.length x0 : Int))) then (
      if (0 : Int) ≤ x3 ∧ x3 < (List.length x0) then
      bif (decide ((((List.getD x0 (Int.toNat x3) 0).toNat : Int) : Int) ≥ 97)) then (
        bif (!(decide ((((List.getD x0 (Int.toNat x3) 0).toNat : Int) : Int) ≤ 122))) then (
          bif ((x3 : Int) == 0) then (
            some false
          ) else (
            bif (decide ((((List.getD x0 (Int.toNat x3) 0).toNat : Int) : Int) < 48)) then (
              some false
            ) else (
              bif (decide ((((List.getD x0 (Int.toNat x3) 0).toNat : Int) : Int) > 57)) then (
                some false
              ) else (
                (yBC N n x0 (IntKind.i64.wrap (x3 + 1)))
              )
            )
          )
        ) else (
          (yBC N n x0 (IntKind.i64.wrap (x3 + 1)))
        )
      ) else (
        bif ((x3 : Int) == 0) then (
          some false
        ) else (
          bif (decide ((((List.getD x0 (Int.toNat x3) 0).toNat : Int) : Int) < 48)) then (
            some false
          ) else (
            bif (decide ((((List.getD x0 (Int.toNat x3) 0).toNat : Int) : Int) > 57)) then (
              some false
            ) else (
              (yBC N n x0 (IntKind.i64.wrap (x3 + 1)))
            )
          )
        )
      )
      else none
    ) else (
      Option.bind (yDg N (List.length x0 : Int) 1 8) fun r1 =>
      some r1
    )
def yEZ (N : Nat) (a0 : Str) : Option (Bool) :=
  (yBC N N a0 0)
def yAg (a0 : Str) : List Arg := [.val (.v false [.str a0])]
def yAf (r : Int) : CallO := ⟨.v false [.int .i64 r], [], []⟩
def yCR (N : Nat) (a0 : Str) : Option (Int) :=
  bif ((a0 : Str) == [99, 108, 111, 99, 107]) then (
    some 0
  ) else (
    bif ((a0 : Str) == [108, 101, 110]) then (
      some 1
    ) else (
      bif ((a0 : Str) == [115, 117, 109]) then (
        some 1
      ) else (
        bif ((a0 : Str) == [114, 111, 119, 115]) then (
          some 1
        ) else (
          bif ((a0 : Str) == [99, 104, 97, 110, 99, 101]) then (
            some 1
          ) else (
            bif ((a0 : Str) == [102, 105, 108, 101]) then (
              some 1
            ) else (
              bif ((a0 : Str) == [116, 97, 107, 101]) then (
                some 2
              ) else (
                bif ((a0 : Str) == [115, 107, 105, 112]) then (
                  some 2
                ) else (
                  bif ((a0 : Str) == [114, 97, 110, 103, 101]) then (
                    some 2
                  ) else (
                    bif ((a0 : Str) == [110, 116, 104]) then (
                      some 2
                    ) else (
                      bif ((a0 : Str) == [107, 101, 101, 112]) then (
                        some 2
                      ) else (
                        bif ((a0 : Str) == [99, 111, 108, 117, 109, 110]) then (
                          some 2
                        ) else (
                          bif ((a0 : Str) == [116, 97, 98, 108, 101]) then (
                            some 2
                          ) else (
                            bif ((a0 : Str) == [119, 104, 101, 114, 101]) then (
                              some 3
                            ) else (
                              bif ((a0 : Str) == [103, 114, 111, 117, 112]) then (
                                some 3
                              ) else (
                                bif ((a0 : Str) == [106, 111, 105, 110]) then (
                                  some 3
                                ) else (
                                  bif ((a0 : Str) == [97, 100, 100]) then (
                                    some 4
                                  ) else (
                                    some (-1)
                                  )
                                )
                              )
                            )
                          )
                        )
                      )
                    )
                  )
                )
              )
            )
          )
        )
      )
    )
  )
def yAN (a0 : Str) : List Arg := [.val (.v false [.str a0])]
def yAA (r : Bool) : CallO := ⟨.v false [.bool r], [], []⟩
def yC4 (N : Nat) (a0 : Str) : Option (Bool) :=
  bif ((a0 : Str) == [108, 101, 116]) then (
    some true
  ) else (
    bif ((a0 : Str) == [105, 110]) then (
      some true
    ) else (
      bif ((a0 : Str) == [105, 102]) then (
        some true
      ) else (
        bif ((a0 : Str) == [116, 104, 101, 110]) then (
          some true
        ) else (
          bif ((a0 : Str) == [101, 108, 115, 101]) then (
            some true
          ) else (
            bif ((a0 : Str) == [102, 111, 114]) then (
              some true
            ) else (
              bif ((a0 : Str) == [100, 111]) then (
                some true
              ) else (
                Option.bind (yCR N a0) fun r1 =>
                some (decide ((r1 : Int) ≥ 0))
              )
            )
          )
        )
      )
    )
  )
def yBT (a0 : Str) : List Arg := [.val (.v false [.str a0])]
def yA9 (r : Bool) : CallO := ⟨.v false [.bool r], [], []⟩
def yCJ (N : Nat) (a0 : Str) : Option (Bool) :=
  Option.bind (yEZ N a0) fun r1 =>
  bif r1 then (
    Option.bind (yC4 N a0) fun r2 =>
    some (!r2)
  ) else (
    some false
  )
def yDO (a0 : List Str) (a1 : Str) : List Arg := [.val (.v false [.sl .ro .str a0]), .val (.v false [.str a1])]
def yBH (r : Int) : CallO := ⟨.v false [.int .i64 r], [], []⟩
def yB4 (N : Nat) : Nat → Str → (List Str) → Int → Int → Option (Int)
  | 0, _, _, _, _ => none
  | n + 1, x1, x7, x8, x9 =>
    bif (decide ((x9 : Int) < x8)) then (
      if (0 : Int) ≤ x9 ∧ x9 < (List.length x7) then
      bif (((List.getD x7 (Int.toNat x9) Ty.str.dflt) : Str) == x1) then (
        some x9
      ) else (
        (yB4 N n x1 x7 x8 (IntKind.i64.wrap (x9 + 1)))
      )
      else none
    ) else (
      some (-1)
    )
def yEK (N : Nat) (a0 : List Str) (a1 : Str) : Option (Int) :=
  (yB4 N N a1 a0 (List.length a0 : Int) 0)
def yDe (a0 : List Str) : List Arg := [.val (.v false [.sl .ro .str a0])]
def yBt (r : Bool) : CallO := ⟨.v false [.bool r], [], []⟩
def yA8 (N : Nat) : Nat → (List Str) → (List Str) → Int → Int → Option (Bool)
  | 0, _, _, _, _ => none
  | n + 1, x0, x5, x6, x7 =>
    bif (decide ((x7 : Int) < x6)) then (
      if (0 : Int) ≤ x7 ∧ x7 < (List.length x5) then
      Option.bind (yEK N x0 (List.getD x5 (Int.toNat x7) Ty.str.dflt)) fun r1 =>
      bif ((r1 : Int) != x7) then (
        some false
      ) else (
        (yA8 N n x0 x5 x6 (IntKind.i64.wrap (x7 + 1)))
      )
      else none
    ) else (
      some true
    )
def yDm (N : Nat) (a0 : List Str) : Option (Bool) :=
  (yA8 N N a0 a0 (List.length a0 : Int) 0)
def yB8 (a0 : List Str) : List Arg := [.val (.v false [.sl .ro .str a0])]
def yAB (r : Bool) : CallO := ⟨.v false [.bool r], [], []⟩
def yBI (N : Nat) : Nat → (List Str) → (List Str) → Int → Int → Option (Bool)
  | 0, _, _, _, _ => none
  | n + 1, x0, x5, x6, x7 =>
    bif (decide ((x7 : Int) < x6)) then (
      if (0 : Int) ≤ x7 ∧ x7 < (List.length x5) then
      Option.bind (yCJ N (List.getD x5 (Int.toNat x7) Ty.str.dflt)) fun r1 =>
      bif (!r1) then (
        some false
      ) else (
        (yBI N n x0 x5 x6 (IntKind.i64.wrap (x7 + 1)))
      )
      else none
    ) else (
      Option.bind (yDg N (List.length x0 : Int) 1 4) fun r1 =>
      bif r1 then (
        Option.bind (yDm N x0) fun r2 =>
        some r2
      ) else (
        some false
      )
    )
def yDP (N : Nat) (a0 : List Str) : Option (Bool) :=
  (yBI N N a0 a0 (List.length a0 : Int) 0)
def yBh (a0 : Org) (a1 : Org) : List Arg := [.val (.v true [.int .i64 (Org.cell a0), .int .i64 (Org.row a0)]), .val (.v true [.int .i64 (Org.cell a1), .int .i64 (Org.row a1)])]
def yAR (r : Bool) : CallO := ⟨.v false [.bool r], [], []⟩
def yC5 (N : Nat) (a0 : Org) (a1 : Org) : Option (Bool) :=
  bif (decide (((Org.cell a0) : Int) < (Org.cell a1))) then (
    some true
  ) else (
    bif (((Org.cell a0) : Int) == (Org.cell a1)) then (
      some (decide (((Org.row a0) : Int) < (Org.row a1)))
    ) else (
      some false
    )
  )
def yCB (a0 : Val) : List Arg := [.val (.v true [.int .i64 (Val.kind a0), .int .i64 (Val.n a0), .int .i64 (Val.step a0), .str (Val.text a0), .sl .ro .val (Val.list a0), .sl .ro .str (Val.columns a0), .sl .ro .row (Val.rows a0)])]
def yAq (r : Bool) : CallO := ⟨.v false [.bool r], [], []⟩
def yBo (N : Nat) (k4 : (List Rowd) → Int → Int → Val → Option (Bool)) : Nat → (List Rowd) → Int → Int → (List Org) → Int → Int → Val → Rowd → Option (Bool)
  | 0, _, _, _, _, _, _, _, _ => none
  | n + 1, x20, x21, x22, x45, x46, x47, b1, b4 =>
    bif (decide ((x47 : Int) < x46)) then (
      if (0 : Int) ≤ x47 ∧ x47 < (List.length x45) then
      bif (decide (((Org.cell (List.getD x45 (Int.toNat x47) Ty.org.dflt)) : Int) < 0)) then (
        some false
      ) else (
        bif (decide (((Org.row (List.getD x45 (Int.toNat x47) Ty.org.dflt)) : Int) < 0)) then (
          some false
        ) else (
          bif (decide ((x47 : Int) > 0)) then (
            if (0 : Int) ≤ (IntKind.i64.wrap (x47 - 1)) ∧ (IntKind.i64.wrap (x47 - 1)) < (List.length (Rowd.frm b4)) then
            Option.bind (yC5 N (List.getD (Rowd.frm b4) (Int.toNat (IntKind.i64.wrap (x47 - 1))) Ty.org.dflt) (List.getD x45 (Int.toNat x47) Ty.org.dflt)) fun r1 =>
            bif (!r1) then (
              some false
            ) else (
              (yBo N k4 n x20 x21 x22 x45 x46 (IntKind.i64.wrap (x47 + 1)) b1 b4)
            )
            else none
          ) else (
            (yBo N k4 n x20 x21 x22 x45 x46 (IntKind.i64.wrap (x47 + 1)) b1 b4)
          )
        )
      )
      else none
    ) else (
      (k4 x20 x21 (IntKind.i64.wrap (x22 + 1)) b1)
    )
def yB6 (N : Nat) (k4 : (List Rowd) → Int → Int → Val → Option (Bool)) : Nat → (List Rowd) → Int → Int → (List Int) → Int → Int → Val → Rowd → Option (Bool)
  | 0, _, _, _, _, _, _, _, _ => none
  | n + 1, x20, x21, x22, x34, x35, x36, b1, b4 =>
    bif (decide ((x36 : Int) < x35)) then (
      if (0 : Int) ≤ x36 ∧ x36 < (List.length x34) then
      Option.bind (yCm N (List.getD x34 (Int.toNat x36) Ty.int.dflt)) fun r1 =>
      bif (!r1) then (
        some false
      ) else (
        (yB6 N k4 n x20 x21 x22 x34 x35 (IntKind.i64.wrap (x36 + 1)) b1 b4)
      )
      else none
    ) else (
      (yBo N k4 N x20 x21 x22 (Rowd.frm b4) (List.length (Rowd.frm b4) : Int) 0 b1 b4)
    )
def yB5 (N : Nat) : Nat → (List Rowd) → Int → Int → Val → Option (Bool)
  | 0, _, _, _, _ => none
  | n + 1, x20, x21, x22, b1 =>
    bif (decide ((x22 : Int) < x21)) then (
      if (0 : Int) ≤ x22 ∧ x22 < (List.length x20) then
      bif (((List.length (Rowd.cells (List.getD x20 (Int.toNat x22) Ty.row.dflt)) : Int) : Int) != (List.length (Val.columns b1) : Int)) then (
        some false
      ) else (
        (yB6 N (fun z0 z1 z2 z3 => (yB5 N n z0 z1 z2 z3)) N x20 x21 x22 (Rowd.cells (List.getD x20 (Int.toNat x22) Ty.row.dflt)) (List.length (Rowd.cells (List.getD x20 (Int.toNat x22) Ty.row.dflt)) : Int) 0 b1 (List.getD x20 (Int.toNat x22) Ty.row.dflt))
      )
      else none
    ) else (
      some true
    )
def yDQ (N : Nat) (a0 : Val) : Option (Bool) :=
  Option.bind (yDP N (Val.columns a0)) fun r1 =>
  bif (!r1) then (
    some false
  ) else (
    bif (decide (((List.length (Val.rows a0) : Int) : Int) > 12)) then (
      some false
    ) else (
      (yB5 N N (Val.rows a0) (List.length (Val.rows a0) : Int) 0 a0)
    )
  )
def yBk (a0 : Val) : List Arg := [.val (.v true [.int .i64 (Val.kind a0), .int .i64 (Val.n a0), .int .i64 (Val.step a0), .str (Val.text a0), .sl .ro .val (Val.list a0), .sl .ro .str (Val.columns a0), .sl .ro .row (Val.rows a0)])]
def yAT (r : Int) : CallO := ⟨.v false [.int .i64 r], [], []⟩
def yCA (N : Nat) (rc_impl_DepthOf : Val → Option (Int)) : Nat → Int → (List Val) → Int → Int → Option (Int)
  | 0, _, _, _, _ => none
  | n + 1, x3, x7, x8, x9 =>
    bif (decide ((x9 : Int) < x8)) then (
      if (0 : Int) ≤ x9 ∧ x9 < (List.length x7) then
      Option.bind (rc_impl_DepthOf (List.getD x7 (Int.toNat x9) Ty.val.dflt)) fun r1 =>
      (yCA N rc_impl_DepthOf n (if (r1 : Int) > x3 then r1 else x3) x7 x8 (IntKind.i64.wrap (x9 + 1)))
      else none
    ) else (
      some (IntKind.i64.wrap (x3 + 1))
    )
def yDS (N : Nat) (rc_impl_DepthOf : Val → Option (Int)) (a0 : Val) : Option (Int) :=
  (yCA N rc_impl_DepthOf N 0 (Val.list a0) (List.length (Val.list a0) : Int) 0)
def yCb (N : Nat) : Nat → Val → Option (Int)
  | 0, _ => none
  | d + 1, a0 => yDS N (yCb N d) a0
def yEJ (N : Nat) (a0 : Val) : Option (Int) := yCb N N a0
def yAb (a0 : Val) : List Arg := [.val (.v true [.int .i64 (Val.kind a0), .int .i64 (Val.n a0), .int .i64 (Val.step a0), .str (Val.text a0), .sl .ro .val (Val.list a0), .sl .ro .str (Val.columns a0), .sl .ro .row (Val.rows a0)])]
def yAa (r : Bool) : CallO := ⟨.v false [.bool r], [], []⟩
def yAo (N : Nat) (rc_impl_IsValidValue : Val → Option (Bool)) : Nat → (List Val) → Int → Int → Val → Option (Bool)
  | 0, _, _, _, _ => none
  | n + 1, x124, x125, x126, b1 =>
    bif (decide ((x126 : Int) < x125)) then (
      if (0 : Int) ≤ x126 ∧ x126 < (List.length x124) then
      bif (((Val.kind (List.getD x124 (Int.toNat x126) Ty.val.dflt)) : Int) != 1) then (
        bif (((Val.kind (List.getD x124 (Int.toNat x126) Ty.val.dflt)) : Int) != 2) then (
          bif (((Val.kind (List.getD x124 (Int.toNat x126) Ty.val.dflt)) : Int) != 3) then (
            some false
          ) else (
            Option.bind (rc_impl_IsValidValue (List.getD x124 (Int.toNat x126) Ty.val.dflt)) fun r1 =>
            bif (!r1) then (
              some false
            ) else (
              (yAo N rc_impl_IsValidValue n x124 x125 (IntKind.i64.wrap (x126 + 1)) b1)
            )
          )
        ) else (
          Option.bind (rc_impl_IsValidValue (List.getD x124 (Int.toNat x126) Ty.val.dflt)) fun r1 =>
          bif (!r1) then (
            some false
          ) else (
            (yAo N rc_impl_IsValidValue n x124 x125 (IntKind.i64.wrap (x126 + 1)) b1)
          )
        )
      ) else (
        Option.bind (rc_impl_IsValidValue (List.getD x124 (Int.toNat x126) Ty.val.dflt)) fun r1 =>
        bif (!r1) then (
          some false
        ) else (
          (yAo N rc_impl_IsValidValue n x124 x125 (IntKind.i64.wrap (x126 + 1)) b1)
        )
      )
      else none
    ) else (
      bif (((Val.n b1) : Int) == 0) then (
        bif (((Val.step b1) : Int) == 0) then (
          bif (((Val.text b1) : Str) == []) then (
            bif (((List.length (Val.columns b1) : Int) : Int) == 0) then (
              bif (((List.length (Val.rows b1) : Int) : Int) == 0) then (
                bif (decide (((List.length (Val.list b1) : Int) : Int) ≤ 8)) then (
                  Option.bind (yEJ N b1) fun r1 =>
                  some (decide ((r1 : Int) ≤ 3))
                ) else (
                  some false
                )
              ) else (
                some false
              )
            ) else (
              some false
            )
          ) else (
            some false
          )
        ) else (
          some false
        )
      ) else (
        some false
      )
    )
def yBi (N : Nat) (rc_impl_IsValidValue : Val → Option (Bool)) (a0 : Val) : Option (Bool) :=
  bif (((List.length (Val.list a0) : Int) : Int) == 0) then (
    bif (((List.length (Val.columns a0) : Int) : Int) == 0) then (
      bif (((Val.kind a0) : Int) == 1) then (
        bif (((List.length (Val.rows a0) : Int) : Int) == 0) then (
          bif (((Val.step a0) : Int) == 0) then (
            bif (((Val.text a0) : Str) == []) then (
              Option.bind (yCm N (Val.n a0)) fun r1 =>
              some r1
            ) else (
              some false
            )
          ) else (
            some false
          )
        ) else (
          some false
        )
      ) else (
        bif (((Val.kind a0) : Int) == 2) then (
          bif (((List.length (Val.rows a0) : Int) : Int) == 0) then (
            bif (((Val.n a0) : Int) == 0) then (
              bif (((Val.step a0) : Int) == 0) then (
                Option.bind (yDn N (Val.text a0)) fun r1 =>
                some r1
              ) else (
                some false
              )
            ) else (
              some false
            )
          ) else (
            some false
          )
        ) else (
          bif (((Val.kind a0) : Int) == 4) then (
            bif (((List.length (Val.rows a0) : Int) : Int) == 0) then (
              bif (((Val.text a0) : Str) == []) then (
                Option.bind (yCm N (Val.n a0)) fun r1 =>
                bif r1 then (
                  Option.bind (yCm N (Val.step a0)) fun r2 =>
                  some r2
                ) else (
                  some false
                )
              ) else (
                some false
              )
            ) else (
              some false
            )
          ) else (
            bif (((Val.kind a0) : Int) == 6) then (
              bif (((List.length (Val.rows a0) : Int) : Int) == 0) then (
                bif (((Val.step a0) : Int) == 0) then (
                  bif (((Val.text a0) : Str) == []) then (
                    Option.bind (yDg N (Val.n a0) 1 8) fun r1 =>
                    some r1
                  ) else (
                    some false
                  )
                ) else (
                  some false
                )
              ) else (
                some false
              )
            ) else (
              bif (((Val.kind a0) : Int) == 5) then (
                bif (((Val.n a0) : Int) == 0) then (
                  bif (((Val.step a0) : Int) == 0) then (
                    bif (((Val.text a0) : Str) == []) then (
                      Option.bind (yDQ N a0) fun r1 =>
                      some r1
                    ) else (
                      some false
                    )
                  ) else (
                    some false
                  )
                ) else (
                  some false
                )
              ) else (
                bif (((Val.kind a0) : Int) == 3) then (
                  (yAo N rc_impl_IsValidValue N (Val.list a0) (List.length (Val.list a0) : Int) 0 a0)
                ) else (
                  some false
                )
              )
            )
          )
        )
      )
    ) else (
      bif (((Val.kind a0) : Int) == 1) then (
        some false
      ) else (
        bif (((Val.kind a0) : Int) == 2) then (
          some false
        ) else (
          bif (((Val.kind a0) : Int) == 4) then (
            some false
          ) else (
            bif (((Val.kind a0) : Int) == 6) then (
              some false
            ) else (
              bif (((Val.kind a0) : Int) == 5) then (
                bif (((Val.n a0) : Int) == 0) then (
                  bif (((Val.step a0) : Int) == 0) then (
                    bif (((Val.text a0) : Str) == []) then (
                      Option.bind (yDQ N a0) fun r1 =>
                      some r1
                    ) else (
                      some false
                    )
                  ) else (
                    some false
                  )
                ) else (
                  some false
                )
              ) else (
                bif (((Val.kind a0) : Int) == 3) then (
                  (yAo N rc_impl_IsValidValue N (Val.list a0) (List.length (Val.list a0) : Int) 0 a0)
                ) else (
                  some false
                )
              )
            )
          )
        )
      )
    )
  ) else (
    bif (((Val.kind a0) : Int) == 1) then (
      some false
    ) else (
      bif (((Val.kind a0) : Int) == 2) then (
        some false
      ) else (
        bif (((Val.kind a0) : Int) == 4) then (
          some false
        ) else (
          bif (((Val.kind a0) : Int) == 6) then (
            some false
          ) else (
            bif (((Val.kind a0) : Int) == 5) then (
              bif (((Val.n a0) : Int) == 0) then (
                bif (((Val.step a0) : Int) == 0) then (
                  bif (((Val.text a0) : Str) == []) then (
                    some false
                  ) else (
                    some false
                  )
                ) else (
                  some false
                )
              ) else (
                some false
              )
            ) else (
              bif (((Val.kind a0) : Int) == 3) then (
                (yAo N rc_impl_IsValidValue N (Val.list a0) (List.length (Val.list a0) : Int) 0 a0)
              ) else (
                some false
              )
            )
          )
        )
      )
    )
  )
def yAs (N : Nat) : Nat → Val → Option (Bool)
  | 0, _ => none
  | d + 1, a0 => yBi N (yAs N d) a0
def yEt (N : Nat) (a0 : Val) : Option (Bool) := yAs N N a0
def yFa (a0 : List Val) : List Arg := [.val (.v false [.sl .ro .val a0])]
def yDc (r : Val × Bool) : CallO := ⟨.tup [(true, [.int .i64 (Val.kind r.1), .int .i64 (Val.n r.1), .int .i64 (Val.step r.1), .str (Val.text r.1), .sl .own .val (Val.list r.1), .sl .own .str (Val.columns r.1), .sl .own .row (Val.rows r.1)]), (false, [.bool r.2])], [], []⟩
def yBN (N : Nat) : Nat → (List Val) → Int → Val → Option (Val × Bool)
  | 0, _, _, _ => none
  | n + 1, x0, x4, b2 =>
    bif (decide ((x4 : Int) < (List.length x0 : Int))) then (
      if (0 : Int) ≤ x4 ∧ x4 < (List.length x0) then
      Option.bind (yED N (List.getD x0 (Int.toNat x4) Ty.val.dflt)) fun r1 =>
      bif (!r1) then (
        Option.bind (yCH N 4) fun r2 =>
        some (r2, true)
      ) else (
        bif (((Val.kind (List.getD x0 (Int.toNat x4) Ty.val.dflt)) : Int) == 6) then (
          Option.bind (yCH N (Val.n (List.getD x0 (Int.toNat x4) Ty.val.dflt))) fun r2 =>
          some (r2, true)
        ) else (
          (yBN N n x0 (IntKind.i64.wrap (x4 + 1)) b2)
        )
      )
      else none
    ) else (
      some ((Val.mk 0 0 0 [] [] [] []), false)
    )
def yFh (N : Nat) (a0 : List Val) : Option (Val × Bool) :=
  (yBN N N a0 0 (Val.mk 0 0 0 [] [] [] []))
def yD5 (a0 : List Val) : List Arg := [.val (.v false [.sl .ro .val a0])]
def yEM (r : Val × Bool × Bool) : CallO := ⟨.tup [(true, [.int .i64 (Val.kind r.1), .int .i64 (Val.n r.1), .int .i64 (Val.step r.1), .str (Val.text r.1), .sl .ro .val (Val.list r.1), .sl .ro .str (Val.columns r.1), .sl .ro .row (Val.rows r.1)]), (false, [.bool r.2.1])], [], []⟩
def yEL (r : Val × Bool × Bool) : CallO := ⟨.tup [(true, [.int .i64 (Val.kind r.1), .int .i64 (Val.n r.1), .int .i64 (Val.step r.1), .str (Val.text r.1), .sl .own .val (Val.list r.1), .sl .own .str (Val.columns r.1), .sl .own .row (Val.rows r.1)]), (false, [.bool r.2.1])], [], []⟩
def yAI (r : Val × Bool × Bool) : CallO := bif r.2.2 then yEM r else yEL r
def yAQ (N : Nat) : Nat → (List Val) → Int → Int → Val → Option (Val × Bool × Bool)
  | 0, _, _, _, _ => none
  | n + 1, x6, x7, x8, b2 =>
    bif (decide ((x8 : Int) < x7)) then (
      if (0 : Int) ≤ x8 ∧ x8 < (List.length x6) then
      Option.bind (yEt N (List.getD x6 (Int.toNat x8) Ty.val.dflt)) fun r1 =>
      bif (!r1) then (
        Option.bind (yDN N 4) fun r2 =>
        some (r2, true, false)
      ) else (
        bif (((Val.kind (List.getD x6 (Int.toNat x8) Ty.val.dflt)) : Int) == 6) then (
          some ((List.getD x6 (Int.toNat x8) Ty.val.dflt), true, true)
        ) else (
          (yAQ N n x6 x7 (IntKind.i64.wrap (x8 + 1)) b2)
        )
      )
      else none
    ) else (
      some ((Val.mk 0 0 0 [] [] [] []), false, false)
    )
def yDT (N : Nat) (a0 : List Val) : Option (Val × Bool × Bool) :=
  (yAQ N N a0 (List.length a0 : Int) 0 (Val.mk 0 0 0 [] [] [] []))
end Go.Ab
end
section
open Go.Proofs
namespace Go.Ab.T
abbrev AbC (f : FuncId) (a : List Arg) (r : CallO) : Prop := AbsCalls Try.prog f a r
end Go.Ab.T
end
section
open Go.Proofs
namespace Go.Ab.T
set_option linter.unusedVariables false
set_option maxRecDepth 100000
def tt : TT := [(3, { zero := some [.int .i64 0], ik := some .i64 }),
 (4, { zero := some [.bool false], isBool := true }),
 (5, { zero := some [.int .u8 0], ik := some .u8 }),
 (9, { zero := some [.str []], isStr := true }),
 (22, { zero := some [.sl .own .bnd []], elem := some (100, .bnd) }),
 (24, { zero := some [.sl .own .val []], elem := some (28, .val) }),
 (25, { zero := some [.sl .own .str []], elem := some (9, .str) }),
 (26, { zero := some [.sl .own .row []], elem := some (130, .row) }),
 (28, { sz := 7, agg := true, zero := some [.int .i64 0, .int .i64 0, .int .i64 0, .str [], .sl .own .val [], .sl .own .str [], .sl .own .row []], offs := [0, 1, 2, 3, 4, 5, 6], fsz := [1, 1, 1, 1, 1, 1, 1] }),
 (30, { zero := some [.sl .own .bnd []], elem := some (102, .bnd) }),
 (37, { zero := some [.sl .own .val []], elem := some (40, .val) }),
 (38, { zero := some [.sl .own .row []], elem := some (148, .row) }),
 (40, { sz := 7, agg := true, zero := some [.int .i64 0, .int .i64 0, .int .i64 0, .str [], .sl .own .val [], .sl .own .str [], .sl .own .row []], offs := [0, 1, 2, 3, 4, 5, 6], fsz := [1, 1, 1, 1, 1, 1, 1] }),
 (45, { zero := some [.sl .own .rea []], elem := some (47, .rea) }),
 (47, { sz := 11, agg := true, zero := some [.int .i64 0, .int .i64 0, .int .i64 0, .str [], .int .i64 0, .int .i64 0, .int .i64 0, .str [], .sl .own .val [], .sl .own .str [], .sl .own .row []], offs := [0, 1, 2, 3, 4], fsz := [1, 1, 1, 1, 7] }),
 (52, { zero := some [.sl .own .rea []], elem := some (55, .rea) }),
 (55, { sz := 11, agg := true, zero := some [.int .i64 0, .int .i64 0, .int .i64 0, .str [], .int .i64 0, .int .i64 0, .int .i64 0, .str [], .sl .own .val [], .sl .own .str [], .sl .own .row []], offs := [0, 1, 2, 3, 4], fsz := [1, 1, 1, 1, 7] }),
 (64, { zero := some [.sl .own .fil []], elem := some (152, .fil) }),
 (66, { sz := 3, agg := true, zero := some [.int .i64 0, .int .i64 0, .sl .own .fil []], offs := [0, 1, 2], fsz := [1, 1, 1] }),
 (69, { zero := some [.sl .own .fil []], elem := some (154, .fil) }),
 (71, { sz := 3, agg := true, zero := some [.int .i64 0, .int .i64 0, .sl .own .fil []], offs := [0, 1, 2], fsz := [1, 1, 1] }),
 (80, { zero := some [.sl .own .org []], elem := some (137, .org) }),
 (83, { zero := some [.sl .own .org []], elem := some (127, .org) }),
 (100, { sz := 8, agg := true, zero := some [.str [], .int .i64 0, .int .i64 0, .int .i64 0, .str [], .sl .own .val [], .sl .own .str [], .sl .own .row []], offs := [0, 1], fsz := [1, 7] }),
 (102, { sz := 8, agg := true, zero := some [.str [], .int .i64 0, .int .i64 0, .int .i64 0, .str [], .sl .own .val [], .sl .own .str [], .sl .own .row []], offs := [0, 1], fsz := [1, 7] }),
 (127, { sz := 2, agg := true, zero := some [.int .i64 0, .int .i64 0], offs := [0, 1], fsz := [1, 1], same := true }),
 (128, { zero := some [.sl .own .int []], elem := some (3, .int) }),
 (130, { sz := 2, agg := true, zero := some [.sl .own .int [], .sl .own .org []], offs := [0, 1], fsz := [1, 1] }),
 (137, { sz := 2, agg := true, zero := some [.int .i64 0, .int .i64 0], offs := [0, 1], fsz := [1, 1], same := true }),
 (144, { zero := some [.sl .own .byte []], elem := some (5, .byte) }),
 (148, { sz := 2, agg := true, zero := some [.sl .own .int [], .sl .own .org []], offs := [0, 1], fsz := [1, 1] }),
 (152, { sz := 2, agg := true, zero := some [.str [], .int .i64 0], offs := [0, 1], fsz := [1, 1] }),
 (154, { sz := 2, agg := true, zero := some [.str [], .int .i64 0], offs := [0, 1], fsz := [1, 1] })]
theorem ttok : TTok Try.prog tt := ttChk_ok (by kernel_rfl)
theorem mix : Try.prog.follows .mixedOrders = true := by kernel_rfl
noncomputable def I85 : Info := { body := (Try.f85.body).getD .skip, nt := 28, results := [.tmp 4], keep := [0, 2, 8, 10, 22, 30, 52], live := [(5, [0, 2, 10])], modes := [], ext := [], lnt := [], casts := [], fcast := [] }
theorem fk85 : FnOk Try.prog 85 Try.f85 I85 := ⟨Try.func85, by kernel_rfl, by kernel_rfl, by kernel_rfl, by kernel_rfl⟩
def S85_5 (x0 : List Str) (x1 x5 : Int) : St := [(0, .v false [.sl .ro .str x0]), (2, .v false [.int .i64 x1]), (10, .v false [.int .i64 x5])]
theorem p85_5_0 (x0 : List Str) (x1 x5 : Int) : run tt (AbsCalls Try.prog) I85 3000 true (stkAt 5 I85.body) ⟨(S85_5 x0 x1 x5), [true, true], [], []⟩ = some (.done (yAL (-1)) [(decide ((x5 : Int) < (List.length x0 : Int))) = true, (0 : Int) ≤ x5 ∧ x5 < (List.length x0), (decide (((IntKind.i64.wrap (x1 - (List.length (List.getD x0 (Int.toNat x5) Ty.str.dflt) : Int))) : Int) < 0)) = true]) := by kernel_rfl
theorem p85_5_1 (x0 : List Str) (x1 x5 : Int) : run tt (AbsCalls Try.prog) I85 3000 true (stkAt 5 I85.body) ⟨(S85_5 x0 x1 x5), [true, false], [], []⟩ = some (.stop (stkAt 5 I85.body) (S85_5 x0 (IntKind.i64.wrap (x1 - (List.length (List.getD x0 (Int.toNat x5) Ty.str.dflt) : Int))) (IntKind.i64.wrap (x5 + 1))) [(decide ((x5 : Int) < (List.length x0 : Int))) = true, (0 : Int) ≤ x5 ∧ x5 < (List.length x0), (decide (((IntKind.i64.wrap (x1 - (List.length (List.getD x0 (Int.toNat x5) Ty.str.dflt) : Int))) : Int) < 0)) = false]) := by kernel_rfl
theorem p85_5_2 (x0 : List Str) (x1 x5 : Int) : run tt (AbsCalls Try.prog) I85 3000 true (stkAt 5 I85.body) ⟨(S85_5 x0 x1 x5), [false], [], []⟩ = some (.done (yAL x1) [(decide ((x5 : Int) < (List.length x0 : Int))) = false]) := by kernel_rfl
theorem p85_e_3 (a0 : List Str) (a1 : Int) : run tt (AbsCalls Try.prog) I85 3000 false [.code I85.body] ⟨(zBg 0 (yB0 a0 a1)), [true], [], []⟩ = some (.done (yAL (-1)) [(decide (((IntKind.i64.wrap (a1 - (List.length a0 : Int))) : Int) < 0)) = true]) := by kernel_rfl
theorem p85_e_4 (a0 : List Str) (a1 : Int) : run tt (AbsCalls Try.prog) I85 3000 false [.code I85.body] ⟨(zBg 0 (yB0 a0 a1)), [false], [], []⟩ = some (.stop (stkAt 5 I85.body) (S85_5 a0 (IntKind.i64.wrap (a1 - (List.length a0 : Int))) 0) [(decide (((IntKind.i64.wrap (a1 - (List.length a0 : Int))) : Int) < 0)) = false]) := by kernel_rfl
theorem c85_5 {N : Nat} : ∀ n x0 x1 x5 r, yC6 N n x0 x1 x5 = some r → Reach Try.prog Try.f85 I85 (stkAt 5 I85.body) (S85_5 x0 x1 x5) (yAL r) := by
 intro n
 induction n with
 | zero => intro x0 x1 x5 r h; have h' : (none : Option (Int)) = some r := h; cases h'
 | succ n ih =>
  intro x0 x1 x5 r h
  rw [yC6] at h
  rcases cond_inv h with ⟨h0, h⟩ | ⟨h0, h⟩
  ·obtain ⟨h1, h⟩ := ite_inv h
   rcases cond_inv h with ⟨h2, h⟩ | ⟨h2, h⟩
   ·obtain rfl := Option.some.inj h
    exact Reach.done ttok mix fk85 (p85_5_0 x0 x1 x5) (obs_cons h0 (obs_cons h1 (obs_cons h2 obs_nil)))
   ·exact Reach.stop ttok mix fk85 (p85_5_1 x0 x1 x5) (obs_cons h0 (obs_cons h1 (obs_cons h2 obs_nil))) (ih _ _ _ _ h)
  ·obtain rfl := Option.some.inj h
   exact Reach.done ttok mix fk85 (p85_5_2 x0 x1 x5) (obs_cons h0 obs_nil)
theorem c85_e {N : Nat} : ∀ a0 a1 r, yEb N a0 a1 = some r → Reach Try.prog Try.f85 I85 [.code I85.body] (zBg 0 (yB0 a0 a1)) (yAL r) := by
 intro a0 a1 r h
 unfold yEb at h
 rcases cond_inv h with ⟨h0, h⟩ | ⟨h0, h⟩
 ·obtain rfl := Option.some.inj h
  exact Reach.done ttok mix fk85 (p85_e_3 a0 a1) (obs_cons h0 obs_nil)
 ·exact Reach.stop ttok mix fk85 (p85_e_4 a0 a1) (obs_cons h0 obs_nil) (c85_5   _ _ _ _ _ h)
theorem yEz {N : Nat} {a0 : List Str} {a1 : Int} {r : Int} (h : yEb N  a0 a1 = some r) : AbC 85 (yB0 a0 a1) (yAL r) :=
 AbsCalls.of_reach fk85 rfl rfl (Nat.le_of_ble_eq_true rfl) (c85_e a0 a1 r h)
noncomputable def I149 : Info := { body := (Try.f149.body).getD .skip, nt := 12, results := [.tmp 4], keep := [0, 2, 8, 20], live := [], modes := [], ext := [], lnt := [], casts := [], fcast := [] }
theorem fk149 : FnOk Try.prog 149 Try.f149 I149 := ⟨Try.func149, by kernel_rfl, by kernel_rfl, by kernel_rfl, by kernel_rfl⟩
theorem p149_e_0 (a0 : List Int) (a1 : Int) : run tt (AbsCalls Try.prog) I149 3000 false [.code I149.body] ⟨(zBg 0 (yC1 a0 a1)), [true], [], []⟩ = some (.done (yBE (-1)) [(decide (((IntKind.i64.wrap (a1 - (List.length a0 : Int))) : Int) < 0)) = true]) := by kernel_rfl
theorem p149_e_1 (a0 : List Int) (a1 : Int) : run tt (AbsCalls Try.prog) I149 3000 false [.code I149.body] ⟨(zBg 0 (yC1 a0 a1)), [false], [], []⟩ = some (.done (yBE (IntKind.i64.wrap (a1 - (List.length a0 : Int)))) [(decide (((IntKind.i64.wrap (a1 - (List.length a0 : Int))) : Int) < 0)) = false]) := by kernel_rfl
theorem c149_e {N : Nat} : ∀ a0 a1 r, yE4 N a0 a1 = some r → Reach Try.prog Try.f149 I149 [.code I149.body] (zBg 0 (yC1 a0 a1)) (yBE r) := by
 intro a0 a1 r h
 unfold yE4 at h
 rcases cond_inv h with ⟨h0, h⟩ | ⟨h0, h⟩
 ·obtain rfl := Option.some.inj h
  exact Reach.done ttok mix fk149 (p149_e_0 a0 a1) (obs_cons h0 obs_nil)
 ·obtain rfl := Option.some.inj h
  exact Reach.done ttok mix fk149 (p149_e_1 a0 a1) (obs_cons h0 obs_nil)
theorem yFm {N : Nat} {a0 : List Int} {a1 : Int} {r : Int} (h : yE4 N  a0 a1 = some r) : AbC 149 (yC1 a0 a1) (yBE r) :=
 AbsCalls.of_reach fk149 rfl rfl (Nat.le_of_ble_eq_true rfl) (c149_e a0 a1 r h)
noncomputable def I54 : Info := { body := (Try.f54.body).getD .skip, nt := 12, results := [.tmp 4], keep := [0, 2, 8, 20], live := [], modes := [], ext := [], lnt := [], casts := [], fcast := [] }
theorem fk54 : FnOk Try.prog 54 Try.f54 I54 := ⟨Try.func54, by kernel_rfl, by kernel_rfl, by kernel_rfl, by kernel_rfl⟩
theorem p54_e_0 (a0 : List Org) (a1 : Int) : run tt (AbsCalls Try.prog) I54 3000 false [.code I54.body] ⟨(zBg 0 (yCv a0 a1)), [true], [], []⟩ = some (.done (yBA (-1)) [(decide (((IntKind.i64.wrap (a1 - (List.length a0 : Int))) : Int) < 0)) = true]) := by kernel_rfl
theorem p54_e_1 (a0 : List Org) (a1 : Int) : run tt (AbsCalls Try.prog) I54 3000 false [.code I54.body] ⟨(zBg 0 (yCv a0 a1)), [false], [], []⟩ = some (.done (yBA (IntKind.i64.wrap (a1 - (List.length a0 : Int)))) [(decide (((IntKind.i64.wrap (a1 - (List.length a0 : Int))) : Int) < 0)) = false]) := by kernel_rfl
theorem c54_e {N : Nat} : ∀ a0 a1 r, yD9 N a0 a1 = some r → Reach Try.prog Try.f54 I54 [.code I54.body] (zBg 0 (yCv a0 a1)) (yBA r) := by
 intro a0 a1 r h
 unfold yD9 at h
 rcases cond_inv h with ⟨h0, h⟩ | ⟨h0, h⟩
 ·obtain rfl := Option.some.inj h
  exact Reach.done ttok mix fk54 (p54_e_0 a0 a1) (obs_cons h0 obs_nil)
 ·obtain rfl := Option.some.inj h
  exact Reach.done ttok mix fk54 (p54_e_1 a0 a1) (obs_cons h0 obs_nil)
theorem yFq {N : Nat} {a0 : List Org} {a1 : Int} {r : Int} (h : yD9 N  a0 a1 = some r) : AbC 54 (yCv a0 a1) (yBA r) :=
 AbsCalls.of_reach fk54 rfl rfl (Nat.le_of_ble_eq_true rfl) (c54_e a0 a1 r h)
noncomputable def I133 : Info := { body := (Try.f133.body).getD .skip, nt := 18, results := [.tmp 4], keep := [0, 2, 4, 8, 20, 32, 5], live := [], modes := [], ext := [], lnt := [], casts := [], fcast := [] }
theorem fk133 : FnOk Try.prog 133 Try.f133 I133 := ⟨Try.func133, by kernel_rfl, by kernel_rfl, by kernel_rfl, by kernel_rfl⟩
theorem p133_e_0 (a0 : Rowd) (a1 r1 : Int) : run tt (AbsCalls Try.prog) I133 3000 false [.code I133.body] ⟨(zBg 0 (yDj a0 a1)), [true], [yBE r1], []⟩ = some (.done (yCp (-1)) [AbC 149 (yC1 (Rowd.cells a0) a1) (yBE r1), (decide ((r1 : Int) < 0)) = true]) := by kernel_rfl
theorem p133_e_1 (a0 : Rowd) (a1 r1 r2 : Int) : run tt (AbsCalls Try.prog) I133 3000 false [.code I133.body] ⟨(zBg 0 (yDj a0 a1)), [false, true], [yBE r1, yBA r2], []⟩ = some (.done (yCp (-1)) [AbC 149 (yC1 (Rowd.cells a0) a1) (yBE r1), (decide ((r1 : Int) < 0)) = false, AbC 54 (yCv (Rowd.frm a0) r1) (yBA r2), (decide ((r2 : Int) < 0)) = true]) := by kernel_rfl
theorem p133_e_2 (a0 : Rowd) (a1 r1 r2 : Int) : run tt (AbsCalls Try.prog) I133 3000 false [.code I133.body] ⟨(zBg 0 (yDj a0 a1)), [false, false], [yBE r1, yBA r2], []⟩ = some (.done (yCp r2) [AbC 149 (yC1 (Rowd.cells a0) a1) (yBE r1), (decide ((r1 : Int) < 0)) = false, AbC 54 (yCv (Rowd.frm a0) r1) (yBA r2), (decide ((r2 : Int) < 0)) = false]) := by kernel_rfl
theorem c133_e {N : Nat} : ∀ a0 a1 r, yEU N a0 a1 = some r → Reach Try.prog Try.f133 I133 [.code I133.body] (zBg 0 (yDj a0 a1)) (yCp r) := by
 intro a0 a1 r h
 unfold yEU at h
 obtain ⟨r1, h0, h⟩ := bind_inv h
 rcases cond_inv h with ⟨h1, h⟩ | ⟨h1, h⟩
 ·obtain rfl := Option.some.inj h
  exact Reach.done ttok mix fk133 (p133_e_0 a0 a1 r1) (obs_cons (yFm h0) (obs_cons h1 obs_nil))
 ·obtain ⟨r2, h2, h⟩ := bind_inv h
  rcases cond_inv h with ⟨h3, h⟩ | ⟨h3, h⟩
  ·obtain rfl := Option.some.inj h
   exact Reach.done ttok mix fk133 (p133_e_1 a0 a1 r1 r2) (obs_cons (yFm h0) (obs_cons h1 (obs_cons (yFq h2) (obs_cons h3 obs_nil))))
  ·obtain rfl := Option.some.inj h
   exact Reach.done ttok mix fk133 (p133_e_2 a0 a1 r1 r2) (obs_cons (yFm h0) (obs_cons h1 (obs_cons (yFq h2) (obs_cons h3 obs_nil))))
theorem laws_szRow_ok {N : Nat} {a0 : Rowd} {a1 : Int} {r : Int} (h : yEU N  a0 a1 = some r) : AbC 133 (yDj a0 a1) (yCp r) :=
 AbsCalls.of_reach fk133 rfl rfl (Nat.le_of_ble_eq_true rfl) (c133_e a0 a1 r h)
noncomputable def I86 : Info := { body := (Try.f86.body).getD .skip, nt := 27, results := [.tmp 4], keep := [0, 2, 8, 10, 22, 30, 50], live := [(5, [0, 2, 10])], modes := [], ext := [], lnt := [], casts := [], fcast := [] }
theorem fk86 : FnOk Try.prog 86 Try.f86 I86 := ⟨Try.func86, by kernel_rfl, by kernel_rfl, by kernel_rfl, by kernel_rfl⟩
def S86_5 (x0 : List Rowd) (x1 x5 : Int) : St := [(0, .v false [.sl .ro .row x0]), (2, .v false [.int .i64 x1]), (10, .v false [.int .i64 x5])]
theorem p86_5_0 (x0 : List Rowd) (x1 x5 r1 : Int) : run tt (AbsCalls Try.prog) I86 3000 true (stkAt 5 I86.body) ⟨(S86_5 x0 x1 x5), [true, true], [yCp r1], []⟩ = some (.done (yBF (-1)) [(decide ((x5 : Int) < (List.length x0 : Int))) = true, (0 : Int) ≤ x5 ∧ x5 < (List.length x0), AbC 133 (yDj (List.getD x0 (Int.toNat x5) Ty.row.dflt) x1) (yCp r1), (decide ((r1 : Int) < 0)) = true]) := by kernel_rfl
theorem p86_5_1 (x0 : List Rowd) (x1 x5 r1 : Int) : run tt (AbsCalls Try.prog) I86 3000 true (stkAt 5 I86.body) ⟨(S86_5 x0 x1 x5), [true, false], [yCp r1], []⟩ = some (.stop (stkAt 5 I86.body) (S86_5 x0 r1 (IntKind.i64.wrap (x5 + 1))) [(decide ((x5 : Int) < (List.length x0 : Int))) = true, (0 : Int) ≤ x5 ∧ x5 < (List.length x0), AbC 133 (yDj (List.getD x0 (Int.toNat x5) Ty.row.dflt) x1) (yCp r1), (decide ((r1 : Int) < 0)) = false]) := by kernel_rfl
theorem p86_5_2 (x0 : List Rowd) (x1 x5 : Int) : run tt (AbsCalls Try.prog) I86 3000 true (stkAt 5 I86.body) ⟨(S86_5 x0 x1 x5), [false], [], []⟩ = some (.done (yBF x1) [(decide ((x5 : Int) < (List.length x0 : Int))) = false]) := by kernel_rfl
theorem p86_e_3 (a0 : List Rowd) (a1 : Int) : run tt (AbsCalls Try.prog) I86 3000 false [.code I86.body] ⟨(zBg 0 (yDD a0 a1)), [true], [], []⟩ = some (.done (yBF (-1)) [(decide (((IntKind.i64.wrap (a1 - (List.length a0 : Int))) : Int) < 0)) = true]) := by kernel_rfl
theorem p86_e_4 (a0 : List Rowd) (a1 : Int) : run tt (AbsCalls Try.prog) I86 3000 false [.code I86.body] ⟨(zBg 0 (yDD a0 a1)), [false], [], []⟩ = some (.stop (stkAt 5 I86.body) (S86_5 a0 (IntKind.i64.wrap (a1 - (List.length a0 : Int))) 0) [(decide (((IntKind.i64.wrap (a1 - (List.length a0 : Int))) : Int) < 0)) = false]) := by kernel_rfl
theorem c86_5 {N : Nat} : ∀ n x0 x1 x5 r, yEa N n x0 x1 x5 = some r → Reach Try.prog Try.f86 I86 (stkAt 5 I86.body) (S86_5 x0 x1 x5) (yBF r) := by
 intro n
 induction n with
 | zero => intro x0 x1 x5 r h; have h' : (none : Option (Int)) = some r := h; cases h'
 | succ n ih =>
  intro x0 x1 x5 r h
  rw [yEa] at h
  rcases cond_inv h with ⟨h0, h⟩ | ⟨h0, h⟩
  ·obtain ⟨h1, h⟩ := ite_inv h
   obtain ⟨r1, h2, h⟩ := bind_inv h
   rcases cond_inv h with ⟨h3, h⟩ | ⟨h3, h⟩
   ·obtain rfl := Option.some.inj h
    exact Reach.done ttok mix fk86 (p86_5_0 x0 x1 x5 r1) (obs_cons h0 (obs_cons h1 (obs_cons (laws_szRow_ok h2) (obs_cons h3 obs_nil))))
   ·exact Reach.stop ttok mix fk86 (p86_5_1 x0 x1 x5 r1) (obs_cons h0 (obs_cons h1 (obs_cons (laws_szRow_ok h2) (obs_cons h3 obs_nil)))) (ih _ _ _ _ h)
  ·obtain rfl := Option.some.inj h
   exact Reach.done ttok mix fk86 (p86_5_2 x0 x1 x5) (obs_cons h0 obs_nil)
theorem c86_e {N : Nat} : ∀ a0 a1 r, yE5 N a0 a1 = some r → Reach Try.prog Try.f86 I86 [.code I86.body] (zBg 0 (yDD a0 a1)) (yBF r) := by
 intro a0 a1 r h
 unfold yE5 at h
 rcases cond_inv h with ⟨h0, h⟩ | ⟨h0, h⟩
 ·obtain rfl := Option.some.inj h
  exact Reach.done ttok mix fk86 (p86_e_3 a0 a1) (obs_cons h0 obs_nil)
 ·exact Reach.stop ttok mix fk86 (p86_e_4 a0 a1) (obs_cons h0 obs_nil) (c86_5   _ _ _ _ _ h)
theorem yF3 {N : Nat} {a0 : List Rowd} {a1 : Int} {r : Int} (h : yE5 N  a0 a1 = some r) : AbC 86 (yDD a0 a1) (yBF r) :=
 AbsCalls.of_reach fk86 rfl rfl (Nat.le_of_ble_eq_true rfl) (c86_e a0 a1 r h)
noncomputable def I24 : Info := { body := (Try.f24.body).getD .skip, nt := 31, results := [.tmp 4], keep := [0, 2, 4, 8, 22, 34, 46, 58, 5], live := [], modes := [], ext := [], lnt := [], casts := [], fcast := [] }
theorem fk24 : FnOk Try.prog 24 Try.f24 I24 := ⟨Try.func24, by kernel_rfl, by kernel_rfl, by kernel_rfl, by kernel_rfl⟩
theorem p24_e_0 (a0 : Val) (a1 : Int) : run tt (AbsCalls Try.prog) I24 3000 false [.code I24.body] ⟨(zBg 0 (yAG a0 a1)), [true], [], []⟩ = some (.done (yAw (-1)) [(decide (((IntKind.i64.wrap (a1 - (List.length (Val.text a0) : Int))) : Int) < 0)) = true]) := by kernel_rfl
theorem p24_e_1 (a0 : Val) (a1 r1 : Int) : run tt (AbsCalls Try.prog) I24 3000 false [.code I24.body] ⟨(zBg 0 (yAG a0 a1)), [false, true], [yAl r1], []⟩ = some (.done (yAw (-1)) [(decide (((IntKind.i64.wrap (a1 - (List.length (Val.text a0) : Int))) : Int) < 0)) = false, AbC 62 (yAE (Val.list a0) (IntKind.i64.wrap (a1 - (List.length (Val.text a0) : Int)))) (yAl r1), (decide ((r1 : Int) < 0)) = true]) := by kernel_rfl
theorem p24_e_2 (a0 : Val) (a1 r1 r2 : Int) : run tt (AbsCalls Try.prog) I24 3000 false [.code I24.body] ⟨(zBg 0 (yAG a0 a1)), [false, false, true], [yAl r1, yAL r2], []⟩ = some (.done (yAw (-1)) [(decide (((IntKind.i64.wrap (a1 - (List.length (Val.text a0) : Int))) : Int) < 0)) = false, AbC 62 (yAE (Val.list a0) (IntKind.i64.wrap (a1 - (List.length (Val.text a0) : Int)))) (yAl r1), (decide ((r1 : Int) < 0)) = false, AbC 85 (yB0 (Val.columns a0) r1) (yAL r2), (decide ((r2 : Int) < 0)) = true]) := by kernel_rfl
theorem p24_e_3 (a0 : Val) (a1 r1 r2 r3 : Int) : run tt (AbsCalls Try.prog) I24 3000 false [.code I24.body] ⟨(zBg 0 (yAG a0 a1)), [false, false, false, true], [yAl r1, yAL r2, yBF r3], []⟩ = some (.done (yAw (-1)) [(decide (((IntKind.i64.wrap (a1 - (List.length (Val.text a0) : Int))) : Int) < 0)) = false, AbC 62 (yAE (Val.list a0) (IntKind.i64.wrap (a1 - (List.length (Val.text a0) : Int)))) (yAl r1), (decide ((r1 : Int) < 0)) = false, AbC 85 (yB0 (Val.columns a0) r1) (yAL r2), (decide ((r2 : Int) < 0)) = false, AbC 86 (yDD (Val.rows a0) r2) (yBF r3), (decide ((r3 : Int) < 0)) = true]) := by kernel_rfl
theorem p24_e_4 (a0 : Val) (a1 r1 r2 r3 : Int) : run tt (AbsCalls Try.prog) I24 3000 false [.code I24.body] ⟨(zBg 0 (yAG a0 a1)), [false, false, false, false], [yAl r1, yAL r2, yBF r3], []⟩ = some (.done (yAw r3) [(decide (((IntKind.i64.wrap (a1 - (List.length (Val.text a0) : Int))) : Int) < 0)) = false, AbC 62 (yAE (Val.list a0) (IntKind.i64.wrap (a1 - (List.length (Val.text a0) : Int)))) (yAl r1), (decide ((r1 : Int) < 0)) = false, AbC 85 (yB0 (Val.columns a0) r1) (yAL r2), (decide ((r2 : Int) < 0)) = false, AbC 86 (yDD (Val.rows a0) r2) (yBF r3), (decide ((r3 : Int) < 0)) = false]) := by kernel_rfl
theorem c24_e {N : Nat} {rc_laws_szValue : Val → Int → Option (Int)} (hrc_laws_szValue : ∀ a0 a1 r, rc_laws_szValue a0 a1 = some r → AbC 24 (yAG a0 a1) (yAw r)) {rc_laws_szValueS : (List Val) → Int → Option (Int)} (hrc_laws_szValueS : ∀ a0 a1 r, rc_laws_szValueS a0 a1 = some r → AbC 62 (yAE a0 a1) (yAl r)) : ∀ a0 a1 r, yDX N rc_laws_szValue rc_laws_szValueS a0 a1 = some r → Reach Try.prog Try.f24 I24 [.code I24.body] (zBg 0 (yAG a0 a1)) (yAw r) := by
 intro a0 a1 r h
 unfold yDX at h
 rcases cond_inv h with ⟨h0, h⟩ | ⟨h0, h⟩
 ·obtain rfl := Option.some.inj h
  exact Reach.done ttok mix fk24 (p24_e_0 a0 a1) (obs_cons h0 obs_nil)
 ·obtain ⟨r1, h1, h⟩ := bind_inv h
  rcases cond_inv h with ⟨h2, h⟩ | ⟨h2, h⟩
  ·obtain rfl := Option.some.inj h
   exact Reach.done ttok mix fk24 (p24_e_1 a0 a1 r1) (obs_cons h0 (obs_cons (hrc_laws_szValueS _ _ _ h1) (obs_cons h2 obs_nil)))
  ·obtain ⟨r2, h3, h⟩ := bind_inv h
   rcases cond_inv h with ⟨h4, h⟩ | ⟨h4, h⟩
   ·obtain rfl := Option.some.inj h
    exact Reach.done ttok mix fk24 (p24_e_2 a0 a1 r1 r2) (obs_cons h0 (obs_cons (hrc_laws_szValueS _ _ _ h1) (obs_cons h2 (obs_cons (yEz h3) (obs_cons h4 obs_nil)))))
   ·obtain ⟨r3, h5, h⟩ := bind_inv h
    rcases cond_inv h with ⟨h6, h⟩ | ⟨h6, h⟩
    ·obtain rfl := Option.some.inj h
     exact Reach.done ttok mix fk24 (p24_e_3 a0 a1 r1 r2 r3) (obs_cons h0 (obs_cons (hrc_laws_szValueS _ _ _ h1) (obs_cons h2 (obs_cons (yEz h3) (obs_cons h4 (obs_cons (yF3 h5) (obs_cons h6 obs_nil)))))))
    ·obtain rfl := Option.some.inj h
     exact Reach.done ttok mix fk24 (p24_e_4 a0 a1 r1 r2 r3) (obs_cons h0 (obs_cons (hrc_laws_szValueS _ _ _ h1) (obs_cons h2 (obs_cons (yEz h3) (obs_cons h4 (obs_cons (yF3 h5) (obs_cons h6 obs_nil)))))))
theorem yFW {N : Nat} {rc_laws_szValue : Val → Int → Option (Int)} (hrc_laws_szValue : ∀ a0 a1 r, rc_laws_szValue a0 a1 = some r → AbC 24 (yAG a0 a1) (yAw r)) {rc_laws_szValueS : (List Val) → Int → Option (Int)} (hrc_laws_szValueS : ∀ a0 a1 r, rc_laws_szValueS a0 a1 = some r → AbC 62 (yAE a0 a1) (yAl r)) {a0 : Val} {a1 : Int} {r : Int} (h : yDX N rc_laws_szValue rc_laws_szValueS a0 a1 = some r) : AbC 24 (yAG a0 a1) (yAw r) :=
 AbsCalls.of_reach fk24 rfl rfl (Nat.le_of_ble_eq_true rfl) (c24_e hrc_laws_szValue hrc_laws_szValueS a0 a1 r h)
noncomputable def I62 : Info := { body := (Try.f62.body).getD .skip, nt := 27, results := [.tmp 4], keep := [0, 2, 8, 10, 22, 30, 50], live := [(5, [0, 2, 10])], modes := [], ext := [], lnt := [], casts := [], fcast := [] }
theorem fk62 : FnOk Try.prog 62 Try.f62 I62 := ⟨Try.func62, by kernel_rfl, by kernel_rfl, by kernel_rfl, by kernel_rfl⟩
def S62_5 (x0 : List Val) (x1 x5 : Int) : St := [(0, .v false [.sl .ro .val x0]), (2, .v false [.int .i64 x1]), (10, .v false [.int .i64 x5])]
theorem p62_5_0 (x0 : List Val) (x1 x5 r1 : Int) : run tt (AbsCalls Try.prog) I62 3000 true (stkAt 5 I62.body) ⟨(S62_5 x0 x1 x5), [true, true], [yAw r1], []⟩ = some (.done (yAl (-1)) [(decide ((x5 : Int) < (List.length x0 : Int))) = true, (0 : Int) ≤ x5 ∧ x5 < (List.length x0), AbC 24 (yAG (List.getD x0 (Int.toNat x5) Ty.val.dflt) x1) (yAw r1), (decide ((r1 : Int) < 0)) = true]) := by kernel_rfl
theorem p62_5_1 (x0 : List Val) (x1 x5 r1 : Int) : run tt (AbsCalls Try.prog) I62 3000 true (stkAt 5 I62.body) ⟨(S62_5 x0 x1 x5), [true, false], [yAw r1], []⟩ = some (.stop (stkAt 5 I62.body) (S62_5 x0 r1 (IntKind.i64.wrap (x5 + 1))) [(decide ((x5 : Int) < (List.length x0 : Int))) = true, (0 : Int) ≤ x5 ∧ x5 < (List.length x0), AbC 24 (yAG (List.getD x0 (Int.toNat x5) Ty.val.dflt) x1) (yAw r1), (decide ((r1 : Int) < 0)) = false]) := by kernel_rfl
theorem p62_5_2 (x0 : List Val) (x1 x5 : Int) : run tt (AbsCalls Try.prog) I62 3000 true (stkAt 5 I62.body) ⟨(S62_5 x0 x1 x5), [false], [], []⟩ = some (.done (yAl x1) [(decide ((x5 : Int) < (List.length x0 : Int))) = false]) := by kernel_rfl
theorem p62_e_3 (a0 : List Val) (a1 : Int) : run tt (AbsCalls Try.prog) I62 3000 false [.code I62.body] ⟨(zBg 0 (yAE a0 a1)), [true], [], []⟩ = some (.done (yAl (-1)) [(decide (((IntKind.i64.wrap (a1 - (List.length a0 : Int))) : Int) < 0)) = true]) := by kernel_rfl
theorem p62_e_4 (a0 : List Val) (a1 : Int) : run tt (AbsCalls Try.prog) I62 3000 false [.code I62.body] ⟨(zBg 0 (yAE a0 a1)), [false], [], []⟩ = some (.stop (stkAt 5 I62.body) (S62_5 a0 (IntKind.i64.wrap (a1 - (List.length a0 : Int))) 0) [(decide (((IntKind.i64.wrap (a1 - (List.length a0 : Int))) : Int) < 0)) = false]) := by kernel_rfl
theorem c62_5 {N : Nat} {rc_laws_szValue : Val → Int → Option (Int)} (hrc_laws_szValue : ∀ a0 a1 r, rc_laws_szValue a0 a1 = some r → AbC 24 (yAG a0 a1) (yAw r)) {rc_laws_szValueS : (List Val) → Int → Option (Int)} (hrc_laws_szValueS : ∀ a0 a1 r, rc_laws_szValueS a0 a1 = some r → AbC 62 (yAE a0 a1) (yAl r)) : ∀ n x0 x1 x5 r, yDr N rc_laws_szValue rc_laws_szValueS n x0 x1 x5 = some r → Reach Try.prog Try.f62 I62 (stkAt 5 I62.body) (S62_5 x0 x1 x5) (yAl r) := by
 intro n
 induction n with
 | zero => intro x0 x1 x5 r h; have h' : (none : Option (Int)) = some r := h; cases h'
 | succ n ih =>
  intro x0 x1 x5 r h
  rw [yDr] at h
  rcases cond_inv h with ⟨h0, h⟩ | ⟨h0, h⟩
  ·obtain ⟨h1, h⟩ := ite_inv h
   obtain ⟨r1, h2, h⟩ := bind_inv h
   rcases cond_inv h with ⟨h3, h⟩ | ⟨h3, h⟩
   ·obtain rfl := Option.some.inj h
    exact Reach.done ttok mix fk62 (p62_5_0 x0 x1 x5 r1) (obs_cons h0 (obs_cons h1 (obs_cons (hrc_laws_szValue _ _ _ h2) (obs_cons h3 obs_nil))))
   ·exact Reach.stop ttok mix fk62 (p62_5_1 x0 x1 x5 r1) (obs_cons h0 (obs_cons h1 (obs_cons (hrc_laws_szValue _ _ _ h2) (obs_cons h3 obs_nil)))) (ih _ _ _ _ h)
  ·obtain rfl := Option.some.inj h
   exact Reach.done ttok mix fk62 (p62_5_2 x0 x1 x5) (obs_cons h0 obs_nil)
theorem c62_e {N : Nat} {rc_laws_szValue : Val → Int → Option (Int)} (hrc_laws_szValue : ∀ a0 a1 r, rc_laws_szValue a0 a1 = some r → AbC 24 (yAG a0 a1) (yAw r)) {rc_laws_szValueS : (List Val) → Int → Option (Int)} (hrc_laws_szValueS : ∀ a0 a1 r, rc_laws_szValueS a0 a1 = some r → AbC 62 (yAE a0 a1) (yAl r)) : ∀ a0 a1 r, yDK N rc_laws_szValue rc_laws_szValueS a0 a1 = some r → Reach Try.prog Try.f62 I62 [.code I62.body] (zBg 0 (yAE a0 a1)) (yAl r) := by
 intro a0 a1 r h
 unfold yDK at h
 rcases cond_inv h with ⟨h0, h⟩ | ⟨h0, h⟩
 ·obtain rfl := Option.some.inj h
  exact Reach.done ttok mix fk62 (p62_e_3 a0 a1) (obs_cons h0 obs_nil)
 ·exact Reach.stop ttok mix fk62 (p62_e_4 a0 a1) (obs_cons h0 obs_nil) (c62_5 hrc_laws_szValue hrc_laws_szValueS  _ _ _ _ _ h)
theorem yFO {N : Nat} {rc_laws_szValue : Val → Int → Option (Int)} (hrc_laws_szValue : ∀ a0 a1 r, rc_laws_szValue a0 a1 = some r → AbC 24 (yAG a0 a1) (yAw r)) {rc_laws_szValueS : (List Val) → Int → Option (Int)} (hrc_laws_szValueS : ∀ a0 a1 r, rc_laws_szValueS a0 a1 = some r → AbC 62 (yAE a0 a1) (yAl r)) {a0 : List Val} {a1 : Int} {r : Int} (h : yDK N rc_laws_szValue rc_laws_szValueS a0 a1 = some r) : AbC 62 (yAE a0 a1) (yAl r) :=
 AbsCalls.of_reach fk62 rfl rfl (Nat.le_of_ble_eq_true rfl) (c62_e hrc_laws_szValue hrc_laws_szValueS a0 a1 r h)
theorem laws_szValue_fix_ok {N : Nat} : ∀ d, (∀ a0 a1 r, (yBf N d).c_laws_szValue a0 a1 = some r → AbC 24 (yAG a0 a1) (yAw r)) ∧ (∀ a0 a1 r, (yBf N d).c_laws_szValueS a0 a1 = some r → AbC 62 (yAE a0 a1) (yAl r)) := by
 intro d
 induction d with
 | zero =>
  refine ⟨?_, ?_⟩ <;> (intros; rename_i h; cases h)
 | succ d ih =>
  obtain ⟨ih0, ih1⟩ := ih
  refine ⟨?_, ?_⟩
  ·intro _ _ r h; exact yFW (N := N) ih0 ih1 h
  ·intro _ _ r h; exact yFO (N := N) ih0 ih1 h
noncomputable def I87 : Info := { body := (Try.f87.body).getD .skip, nt := 22, results := [.tmp 2], keep := [0, 4, 6, 8, 22], live := [(3, [0, 6, 8])], modes := [(5, [(0, .ref, false)]), (6, [(0, .take, false)])], ext := [], lnt := [], casts := [], fcast := [] }
theorem fk87 : FnOk Try.prog 87 Try.f87 I87 := ⟨Try.func87, by kernel_rfl, by kernel_rfl, by kernel_rfl, by kernel_rfl⟩
def S87_3 (x0 x3 : List Str) (x4 : Int) : St := [(0, .v false [.sl .ro .str x0]), (6, .v false [.sl .own .str x3]), (8, .v false [.int .i64 x4])]
theorem p87_3_0 (x0 x3 : List Str) (x4 : Int) : run tt (AbsCalls Try.prog) I87 3000 true (stkAt 3 I87.body) ⟨(S87_3 x0 x3 x4), [true], [], []⟩ = some (.stop (stkAt 3 I87.body) (S87_3 x0 (List.set x3 (Int.toNat x4) (List.getD x0 (Int.toNat x4) Ty.str.dflt)) (IntKind.i64.wrap (x4 + 1))) [(decide ((x4 : Int) < (List.length x0 : Int))) = true, (0 : Int) ≤ x4 ∧ x4 < (List.length x0), (0 : Int) ≤ x4 ∧ x4 < (List.length x3)]) := by kernel_rfl
theorem p87_3_1 (x0 x3 : List Str) (x4 : Int) : run tt (AbsCalls Try.prog) I87 3000 true (stkAt 3 I87.body) ⟨(S87_3 x0 x3 x4), [false], [], []⟩ = some (.done (yCx x3) [(decide ((x4 : Int) < (List.length x0 : Int))) = false]) := by kernel_rfl
theorem p87_e_2 (a0 : List Str) : run tt (AbsCalls Try.prog) I87 3000 false [.code I87.body] ⟨(zBg 0 (yDZ a0)), [], [], []⟩ = some (.stop (stkAt 3 I87.body) (S87_3 a0 (List.replicate (Int.toNat (List.length a0 : Int)) Ty.str.dflt) 0) [(0 : Int) ≤ (List.length a0 : Int) ∧ (List.length a0 : Int) = (List.length a0 : Int) ∧ (List.length a0 : Int) ≤ Lim]) := by kernel_rfl
theorem c87_3 {N : Nat} : ∀ n x0 x3 x4 r, yC8 N n x0 x3 x4 = some r → Reach Try.prog Try.f87 I87 (stkAt 3 I87.body) (S87_3 x0 x3 x4) (yCx r) := by
 intro n
 induction n with
 | zero => intro x0 x3 x4 r h; have h' : (none : Option ((List Str))) = some r := h; cases h'
 | succ n ih =>
  intro x0 x3 x4 r h
  rw [yC8] at h
  rcases cond_inv h with ⟨h0, h⟩ | ⟨h0, h⟩
  ·obtain ⟨h1, h⟩ := ite_inv h
   obtain ⟨h2, h⟩ := ite_inv h
   exact Reach.stop ttok mix fk87 (p87_3_0 x0 x3 x4) (obs_cons h0 (obs_cons h1 (obs_cons h2 obs_nil))) (ih _ _ _ _ h)
  ·obtain rfl := Option.some.inj h
   exact Reach.done ttok mix fk87 (p87_3_1 x0 x3 x4) (obs_cons h0 obs_nil)
theorem c87_e {N : Nat} : ∀ a0 r, yDH N a0 = some r → Reach Try.prog Try.f87 I87 [.code I87.body] (zBg 0 (yDZ a0)) (yCx r) := by
 intro a0 r h
 unfold yDH at h
 obtain ⟨h0, h⟩ := ite_inv h
 exact Reach.stop ttok mix fk87 (p87_e_2 a0) (obs_cons h0 obs_nil) (c87_3   _ _ _ _ _ h)
theorem laws_toStringS_ok {N : Nat} {a0 : List Str} {r : (List Str)} (h : yDH N  a0 = some r) : AbC 87 (yDZ a0) (yCx r) :=
 AbsCalls.of_reach fk87 rfl rfl (Nat.le_of_ble_eq_true rfl) (c87_e a0 r h)
noncomputable def I150 : Info := { body := (Try.f150.body).getD .skip, nt := 22, results := [.tmp 2], keep := [0, 4, 6, 8, 22], live := [(3, [0, 6, 8])], modes := [(5, [(0, .ref, false)]), (6, [(0, .take, false)])], ext := [], lnt := [], casts := [], fcast := [] }
theorem fk150 : FnOk Try.prog 150 Try.f150 I150 := ⟨Try.func150, by kernel_rfl, by kernel_rfl, by kernel_rfl, by kernel_rfl⟩
def S150_3 (x0 x3 : List Int) (x4 : Int) : St := [(0, .v false [.sl .ro .int x0]), (6, .v false [.sl .own .int x3]), (8, .v false [.int .i64 x4])]
theorem p150_3_0 (x0 x3 : List Int) (x4 : Int) : run tt (AbsCalls Try.prog) I150 3000 true (stkAt 3 I150.body) ⟨(S150_3 x0 x3 x4), [true], [], []⟩ = some (.stop (stkAt 3 I150.body) (S150_3 x0 (List.set x3 (Int.toNat x4) (List.getD x0 (Int.toNat x4) Ty.int.dflt)) (IntKind.i64.wrap (x4 + 1))) [(decide ((x4 : Int) < (List.length x0 : Int))) = true, (0 : Int) ≤ x4 ∧ x4 < (List.length x0), (0 : Int) ≤ x4 ∧ x4 < (List.length x3)]) := by kernel_rfl
theorem p150_3_1 (x0 x3 : List Int) (x4 : Int) : run tt (AbsCalls Try.prog) I150 3000 true (stkAt 3 I150.body) ⟨(S150_3 x0 x3 x4), [false], [], []⟩ = some (.done (yDE x3) [(decide ((x4 : Int) < (List.length x0 : Int))) = false]) := by kernel_rfl
theorem p150_e_2 (a0 : List Int) : run tt (AbsCalls Try.prog) I150 3000 false [.code I150.body] ⟨(zBg 0 (yEH a0)), [], [], []⟩ = some (.stop (stkAt 3 I150.body) (S150_3 a0 (List.replicate (Int.toNat (List.length a0 : Int)) Ty.int.dflt) 0) [(0 : Int) ≤ (List.length a0 : Int) ∧ (List.length a0 : Int) = (List.length a0 : Int) ∧ (List.length a0 : Int) ≤ Lim]) := by kernel_rfl
theorem c150_3 {N : Nat} : ∀ n x0 x3 x4 r, yEc N n x0 x3 x4 = some r → Reach Try.prog Try.f150 I150 (stkAt 3 I150.body) (S150_3 x0 x3 x4) (yDE r) := by
 intro n
 induction n with
 | zero => intro x0 x3 x4 r h; have h' : (none : Option ((List Int))) = some r := h; cases h'
 | succ n ih =>
  intro x0 x3 x4 r h
  rw [yEc] at h
  rcases cond_inv h with ⟨h0, h⟩ | ⟨h0, h⟩
  ·obtain ⟨h1, h⟩ := ite_inv h
   obtain ⟨h2, h⟩ := ite_inv h
   exact Reach.stop ttok mix fk150 (p150_3_0 x0 x3 x4) (obs_cons h0 (obs_cons h1 (obs_cons h2 obs_nil))) (ih _ _ _ _ h)
  ·obtain rfl := Option.some.inj h
   exact Reach.done ttok mix fk150 (p150_3_1 x0 x3 x4) (obs_cons h0 obs_nil)
theorem c150_e {N : Nat} : ∀ a0 r, yEA N a0 = some r → Reach Try.prog Try.f150 I150 [.code I150.body] (zBg 0 (yEH a0)) (yDE r) := by
 intro a0 r h
 unfold yEA at h
 obtain ⟨h0, h⟩ := ite_inv h
 exact Reach.stop ttok mix fk150 (p150_e_2 a0) (obs_cons h0 obs_nil) (c150_3   _ _ _ _ _ h)
theorem laws_toIntS_ok {N : Nat} {a0 : List Int} {r : (List Int)} (h : yEA N  a0 = some r) : AbC 150 (yEH a0) (yDE r) :=
 AbsCalls.of_reach fk150 rfl rfl (Nat.le_of_ble_eq_true rfl) (c150_e a0 r h)
noncomputable def I117 : Info := { body := (Try.f117.body).getD .skip, nt := 11, results := [.cell 2 127], keep := [0, 2, 4, 6, 3, 5, 7], live := [], modes := [], ext := [], lnt := [], casts := [], fcast := [] }
theorem fk117 : FnOk Try.prog 117 Try.f117 I117 := ⟨Try.func117, by kernel_rfl, by kernel_rfl, by kernel_rfl, by kernel_rfl⟩
theorem p117_e_0 (a0 : Org) : run tt (AbsCalls Try.prog) I117 3000 false [.code I117.body] ⟨(zBg 0 (yEi a0)), [], [], []⟩ = some (.done (yDs a0) []) := by kernel_rfl
theorem c117_e {N : Nat} : ∀ a0 r, yEp N a0 = some r → Reach Try.prog Try.f117 I117 [.code I117.body] (zBg 0 (yEi a0)) (yDs r) := by
 intro a0 r h
 unfold yEp at h
 obtain rfl := Option.some.inj h
 exact Reach.done ttok mix fk117 (p117_e_0 a0) obs_nil
theorem laws_toOrigin_ok {N : Nat} {a0 : Org} {r : Org} (h : yEp N  a0 = some r) : AbC 117 (yEi a0) (yDs r) :=
 AbsCalls.of_reach fk117 rfl rfl (Nat.le_of_ble_eq_true rfl) (c117_e a0 r h)
noncomputable def I56 : Info := { body := (Try.f56.body).getD .skip, nt := 23, results := [.tmp 2], keep := [0, 4, 6, 8, 22], live := [(3, [0, 6, 8])], modes := [(5, [(0, .ref, false)]), (6, [(0, .take, false)])], ext := [], lnt := [], casts := [], fcast := [] }
theorem fk56 : FnOk Try.prog 56 Try.f56 I56 := ⟨Try.func56, by kernel_rfl, by kernel_rfl, by kernel_rfl, by kernel_rfl⟩
def S56_3 (x0 x3 : List Org) (x4 : Int) : St := [(0, .v false [.sl .ro .org x0]), (6, .v false [.sl .own .org x3]), (8, .v false [.int .i64 x4])]
theorem p56_3_0 (x0 x3 : List Org) (x4 : Int) (r1 : Org) : run tt (AbsCalls Try.prog) I56 3000 true (stkAt 3 I56.body) ⟨(S56_3 x0 x3 x4), [true], [yDs r1], []⟩ = some (.stop (stkAt 3 I56.body) (S56_3 x0 (List.set x3 (Int.toNat x4) r1) (IntKind.i64.wrap (x4 + 1))) [(decide ((x4 : Int) < (List.length x0 : Int))) = true, (0 : Int) ≤ x4 ∧ x4 < (List.length x0), AbC 117 (yEi (List.getD x0 (Int.toNat x4) Ty.org.dflt)) (yDs r1), (0 : Int) ≤ x4 ∧ x4 < (List.length x3)]) := by kernel_rfl
theorem p56_3_1 (x0 x3 : List Org) (x4 : Int) : run tt (AbsCalls Try.prog) I56 3000 true (stkAt 3 I56.body) ⟨(S56_3 x0 x3 x4), [false], [], []⟩ = some (.done (yCw x3) [(decide ((x4 : Int) < (List.length x0 : Int))) = false]) := by kernel_rfl
theorem p56_e_2 (a0 : List Org) : run tt (AbsCalls Try.prog) I56 3000 false [.code I56.body] ⟨(zBg 0 (yDY a0)), [], [], []⟩ = some (.stop (stkAt 3 I56.body) (S56_3 a0 (List.replicate (Int.toNat (List.length a0 : Int)) Ty.org.dflt) 0) [(0 : Int) ≤ (List.length a0 : Int) ∧ (List.length a0 : Int) = (List.length a0 : Int) ∧ (List.length a0 : Int) ≤ Lim]) := by kernel_rfl
theorem c56_3 {N : Nat} : ∀ n x0 x3 x4 r, yC7 N n x0 x3 x4 = some r → Reach Try.prog Try.f56 I56 (stkAt 3 I56.body) (S56_3 x0 x3 x4) (yCw r) := by
 intro n
 induction n with
 | zero => intro x0 x3 x4 r h; have h' : (none : Option ((List Org))) = some r := h; cases h'
 | succ n ih =>
  intro x0 x3 x4 r h
  rw [yC7] at h
  rcases cond_inv h with ⟨h0, h⟩ | ⟨h0, h⟩
  ·obtain ⟨h1, h⟩ := ite_inv h
   obtain ⟨r1, h2, h⟩ := bind_inv h
   obtain ⟨h3, h⟩ := ite_inv h
   exact Reach.stop ttok mix fk56 (p56_3_0 x0 x3 x4 r1) (obs_cons h0 (obs_cons h1 (obs_cons (laws_toOrigin_ok h2) (obs_cons h3 obs_nil)))) (ih _ _ _ _ h)
  ·obtain rfl := Option.some.inj h
   exact Reach.done ttok mix fk56 (p56_3_1 x0 x3 x4) (obs_cons h0 obs_nil)
theorem c56_e {N : Nat} : ∀ a0 r, yDF N a0 = some r → Reach Try.prog Try.f56 I56 [.code I56.body] (zBg 0 (yDY a0)) (yCw r) := by
 intro a0 r h
 unfold yDF at h
 obtain ⟨h0, h⟩ := ite_inv h
 exact Reach.stop ttok mix fk56 (p56_e_2 a0) (obs_cons h0 obs_nil) (c56_3   _ _ _ _ _ h)
theorem laws_toOriginS_ok {N : Nat} {a0 : List Org} {r : (List Org)} (h : yDF N  a0 = some r) : AbC 56 (yDY a0) (yCw r) :=
 AbsCalls.of_reach fk56 rfl rfl (Nat.le_of_ble_eq_true rfl) (c56_e a0 r h)
noncomputable def I134 : Info := { body := (Try.f134.body).getD .skip, nt := 13, results := [.cell 2 130], keep := [0, 2, 4, 6, 3, 5, 7], live := [], modes := [(4, [(0, .take, false)])], ext := [], lnt := [], casts := [], fcast := [] }
theorem fk134 : FnOk Try.prog 134 Try.f134 I134 := ⟨Try.func134, by kernel_rfl, by kernel_rfl, by kernel_rfl, by kernel_rfl⟩
theorem p134_e_0 (a0 : Rowd) (r1 : (List Int)) (r2 : (List Org)) : run tt (AbsCalls Try.prog) I134 3000 false [.code I134.body] ⟨(zBg 0 (yES a0)), [], [yDE r1, yCw r2], []⟩ = some (.done (yEq (Rowd.mk r1 r2)) [AbC 150 (yEH (Rowd.cells a0)) (yDE r1), AbC 56 (yDY (Rowd.frm a0)) (yCw r2)]) := by kernel_rfl
theorem c134_e {N : Nat} : ∀ a0 r, yEB N a0 = some r → Reach Try.prog Try.f134 I134 [.code I134.body] (zBg 0 (yES a0)) (yEq r) := by
 intro a0 r h
 unfold yEB at h
 obtain ⟨r1, h0, h⟩ := bind_inv h
 obtain ⟨r2, h1, h⟩ := bind_inv h
 obtain rfl := Option.some.inj h
 exact Reach.done ttok mix fk134 (p134_e_0 a0 r1 r2) (obs_cons (laws_toIntS_ok h0) (obs_cons (laws_toOriginS_ok h1) obs_nil))
theorem laws_toRow_ok {N : Nat} {a0 : Rowd} {r : Rowd} (h : yEB N  a0 = some r) : AbC 134 (yES a0) (yEq r) :=
 AbsCalls.of_reach fk134 rfl rfl (Nat.le_of_ble_eq_true rfl) (c134_e a0 r h)
noncomputable def I88 : Info := { body := (Try.f88.body).getD .skip, nt := 23, results := [.tmp 2], keep := [0, 4, 6, 8, 22], live := [(3, [0, 6, 8])], modes := [(5, [(0, .ref, false)]), (6, [(0, .take, false)])], ext := [], lnt := [], casts := [], fcast := [] }
theorem fk88 : FnOk Try.prog 88 Try.f88 I88 := ⟨Try.func88, by kernel_rfl, by kernel_rfl, by kernel_rfl, by kernel_rfl⟩
def S88_3 (x0 x3 : List Rowd) (x4 : Int) : St := [(0, .v false [.sl .ro .row x0]), (6, .v false [.sl .own .row x3]), (8, .v false [.int .i64 x4])]
theorem p88_3_0 (x0 x3 : List Rowd) (x4 : Int) (r1 : Rowd) : run tt (AbsCalls Try.prog) I88 3000 true (stkAt 3 I88.body) ⟨(S88_3 x0 x3 x4), [true], [yEq r1], []⟩ = some (.stop (stkAt 3 I88.body) (S88_3 x0 (List.set x3 (Int.toNat x4) r1) (IntKind.i64.wrap (x4 + 1))) [(decide ((x4 : Int) < (List.length x0 : Int))) = true, (0 : Int) ≤ x4 ∧ x4 < (List.length x0), AbC 134 (yES (List.getD x0 (Int.toNat x4) Ty.row.dflt)) (yEq r1), (0 : Int) ≤ x4 ∧ x4 < (List.length x3)]) := by kernel_rfl
theorem p88_3_1 (x0 x3 : List Rowd) (x4 : Int) : run tt (AbsCalls Try.prog) I88 3000 true (stkAt 3 I88.body) ⟨(S88_3 x0 x3 x4), [false], [], []⟩ = some (.done (yDG x3) [(decide ((x4 : Int) < (List.length x0 : Int))) = false]) := by kernel_rfl
theorem p88_e_2 (a0 : List Rowd) : run tt (AbsCalls Try.prog) I88 3000 false [.code I88.body] ⟨(zBg 0 (yEI a0)), [], [], []⟩ = some (.stop (stkAt 3 I88.body) (S88_3 a0 (List.replicate (Int.toNat (List.length a0 : Int)) Ty.row.dflt) 0) [(0 : Int) ≤ (List.length a0 : Int) ∧ (List.length a0 : Int) = (List.length a0 : Int) ∧ (List.length a0 : Int) ≤ Lim]) := by kernel_rfl
theorem c88_3 {N : Nat} : ∀ n x0 x3 x4 r, yEd N n x0 x3 x4 = some r → Reach Try.prog Try.f88 I88 (stkAt 3 I88.body) (S88_3 x0 x3 x4) (yDG r) := by
 intro n
 induction n with
 | zero => intro x0 x3 x4 r h; have h' : (none : Option ((List Rowd))) = some r := h; cases h'
 | succ n ih =>
  intro x0 x3 x4 r h
  rw [yEd] at h
  rcases cond_inv h with ⟨h0, h⟩ | ⟨h0, h⟩
  ·obtain ⟨h1, h⟩ := ite_inv h
   obtain ⟨r1, h2, h⟩ := bind_inv h
   obtain ⟨h3, h⟩ := ite_inv h
   exact Reach.stop ttok mix fk88 (p88_3_0 x0 x3 x4 r1) (obs_cons h0 (obs_cons h1 (obs_cons (laws_toRow_ok h2) (obs_cons h3 obs_nil)))) (ih _ _ _ _ h)
  ·obtain rfl := Option.some.inj h
   exact Reach.done ttok mix fk88 (p88_3_1 x0 x3 x4) (obs_cons h0 obs_nil)
theorem c88_e {N : Nat} : ∀ a0 r, yEC N a0 = some r → Reach Try.prog Try.f88 I88 [.code I88.body] (zBg 0 (yEI a0)) (yDG r) := by
 intro a0 r h
 unfold yEC at h
 obtain ⟨h0, h⟩ := ite_inv h
 exact Reach.stop ttok mix fk88 (p88_e_2 a0) (obs_cons h0 obs_nil) (c88_3   _ _ _ _ _ h)
theorem laws_toRowS_ok {N : Nat} {a0 : List Rowd} {r : (List Rowd)} (h : yEC N  a0 = some r) : AbC 88 (yEI a0) (yDG r) :=
 AbsCalls.of_reach fk88 rfl rfl (Nat.le_of_ble_eq_true rfl) (c88_e a0 r h)
noncomputable def I26 : Info := { body := (Try.f26.body).getD .skip, nt := 29, results := [.cell 2 28], keep := [0, 2, 4, 6, 3, 5, 7], live := [], modes := [(9, [(0, .take, false)])], ext := [], lnt := [], casts := [], fcast := [] }
theorem fk26 : FnOk Try.prog 26 Try.f26 I26 := ⟨Try.func26, by kernel_rfl, by kernel_rfl, by kernel_rfl, by kernel_rfl⟩
theorem p26_e_0 (a0 : Val) (r1 : (List Val)) (r2 : (List Str)) (r3 : (List Rowd)) : run tt (AbsCalls Try.prog) I26 3000 false [.code I26.body] ⟨(zBg 0 (yBl a0)), [], [yAS r1, yCx r2, yDG r3], []⟩ = some (.done (yBb (Val.mk (Val.kind a0) (Val.n a0) (Val.step a0) (Val.text a0) r1 r2 r3)) [AbC 64 (yBg (Val.list a0)) (yAS r1), AbC 87 (yDZ (Val.columns a0)) (yCx r2), AbC 88 (yEI (Val.rows a0)) (yDG r3)]) := by kernel_rfl
theorem c26_e {N : Nat} {rc_laws_toValue : Val → Option (Val)} (hrc_laws_toValue : ∀ a0 r, rc_laws_toValue a0 = some r → AbC 26 (yBl a0) (yBb r)) {rc_laws_toValueS : (List Val) → Option ((List Val))} (hrc_laws_toValueS : ∀ a0 r, rc_laws_toValueS a0 = some r → AbC 64 (yBg a0) (yAS r)) : ∀ a0 r, yCy N rc_laws_toValue rc_laws_toValueS a0 = some r → Reach Try.prog Try.f26 I26 [.code I26.body] (zBg 0 (yBl a0)) (yBb r) := by
 intro a0 r h
 unfold yCy at h
 obtain ⟨r1, h0, h⟩ := bind_inv h
 obtain ⟨r2, h1, h⟩ := bind_inv h
 obtain ⟨r3, h2, h⟩ := bind_inv h
 obtain rfl := Option.some.inj h
 exact Reach.done ttok mix fk26 (p26_e_0 a0 r1 r2 r3) (obs_cons (hrc_laws_toValueS _ _ h0) (obs_cons (laws_toStringS_ok h1) (obs_cons (laws_toRowS_ok h2) obs_nil)))
theorem yFX {N : Nat} {rc_laws_toValue : Val → Option (Val)} (hrc_laws_toValue : ∀ a0 r, rc_laws_toValue a0 = some r → AbC 26 (yBl a0) (yBb r)) {rc_laws_toValueS : (List Val) → Option ((List Val))} (hrc_laws_toValueS : ∀ a0 r, rc_laws_toValueS a0 = some r → AbC 64 (yBg a0) (yAS r)) {a0 : Val} {r : Val} (h : yCy N rc_laws_toValue rc_laws_toValueS a0 = some r) : AbC 26 (yBl a0) (yBb r) :=
 AbsCalls.of_reach fk26 rfl rfl (Nat.le_of_ble_eq_true rfl) (c26_e hrc_laws_toValue hrc_laws_toValueS a0 r h)
noncomputable def I64 : Info := { body := (Try.f64.body).getD .skip, nt := 23, results := [.tmp 2], keep := [0, 4, 6, 8, 22], live := [(3, [0, 6, 8])], modes := [(5, [(0, .ref, false)]), (6, [(0, .take, false)])], ext := [], lnt := [], casts := [], fcast := [] }
theorem fk64 : FnOk Try.prog 64 Try.f64 I64 := ⟨Try.func64, by kernel_rfl, by kernel_rfl, by kernel_rfl, by kernel_rfl⟩
def S64_3 (x0 x3 : List Val) (x4 : Int) : St := [(0, .v false [.sl .ro .val x0]), (6, .v false [.sl .own .val x3]), (8, .v false [.int .i64 x4])]
theorem p64_3_0 (x0 x3 : List Val) (x4 : Int) (r1 : Val) : run tt (AbsCalls Try.prog) I64 3000 true (stkAt 3 I64.body) ⟨(S64_3 x0 x3 x4), [true], [yBb r1], []⟩ = some (.stop (stkAt 3 I64.body) (S64_3 x0 (List.set x3 (Int.toNat x4) (Val.re r1)) (IntKind.i64.wrap (x4 + 1))) [(decide ((x4 : Int) < (List.length x0 : Int))) = true, (0 : Int) ≤ x4 ∧ x4 < (List.length x0), AbC 26 (yBl (List.getD x0 (Int.toNat x4) Ty.val.dflt)) (yBb r1), (0 : Int) ≤ x4 ∧ x4 < (List.length x3)]) := by kernel_rfl
theorem p64_3_1 (x0 x3 : List Val) (x4 : Int) : run tt (AbsCalls Try.prog) I64 3000 true (stkAt 3 I64.body) ⟨(S64_3 x0 x3 x4), [false], [], []⟩ = some (.done (yAS x3) [(decide ((x4 : Int) < (List.length x0 : Int))) = false]) := by kernel_rfl
theorem p64_e_2 (a0 : List Val) : run tt (AbsCalls Try.prog) I64 3000 false [.code I64.body] ⟨(zBg 0 (yBg a0)), [], [], []⟩ = some (.stop (stkAt 3 I64.body) (S64_3 a0 (List.replicate (Int.toNat (List.length a0 : Int)) Ty.val.dflt) 0) [(0 : Int) ≤ (List.length a0 : Int) ∧ (List.length a0 : Int) = (List.length a0 : Int) ∧ (List.length a0 : Int) ≤ Lim]) := by kernel_rfl
theorem c64_3 {N : Nat} {rc_laws_toValue : Val → Option (Val)} (hrc_laws_toValue : ∀ a0 r, rc_laws_toValue a0 = some r → AbC 26 (yBl a0) (yBb r)) {rc_laws_toValueS : (List Val) → Option ((List Val))} (hrc_laws_toValueS : ∀ a0 r, rc_laws_toValueS a0 = some r → AbC 64 (yBg a0) (yAS r)) : ∀ n x0 x3 x4 r, yDt N rc_laws_toValue rc_laws_toValueS n x0 x3 x4 = some r → Reach Try.prog Try.f64 I64 (stkAt 3 I64.body) (S64_3 x0 x3 x4) (yAS r) := by
 intro n
 induction n with
 | zero => intro x0 x3 x4 r h; have h' : (none : Option ((List Val))) = some r := h; cases h'
 | succ n ih =>
  intro x0 x3 x4 r h
  rw [yDt] at h
  rcases cond_inv h with ⟨h0, h⟩ | ⟨h0, h⟩
  ·obtain ⟨h1, h⟩ := ite_inv h
   obtain ⟨r1, h2, h⟩ := bind_inv h
   obtain ⟨h3, h⟩ := ite_inv h
   exact Reach.stop ttok mix fk64 (p64_3_0 x0 x3 x4 r1) (obs_cons h0 (obs_cons h1 (obs_cons (hrc_laws_toValue _ _ h2) (obs_cons h3 obs_nil)))) (ih _ _ _ _ h)
  ·obtain rfl := Option.some.inj h
   exact Reach.done ttok mix fk64 (p64_3_1 x0 x3 x4) (obs_cons h0 obs_nil)
theorem c64_e {N : Nat} {rc_laws_toValue : Val → Option (Val)} (hrc_laws_toValue : ∀ a0 r, rc_laws_toValue a0 = some r → AbC 26 (yBl a0) (yBb r)) {rc_laws_toValueS : (List Val) → Option ((List Val))} (hrc_laws_toValueS : ∀ a0 r, rc_laws_toValueS a0 = some r → AbC 64 (yBg a0) (yAS r)) : ∀ a0 r, yCa N rc_laws_toValue rc_laws_toValueS a0 = some r → Reach Try.prog Try.f64 I64 [.code I64.body] (zBg 0 (yBg a0)) (yAS r) := by
 intro a0 r h
 unfold yCa at h
 obtain ⟨h0, h⟩ := ite_inv h
 exact Reach.stop ttok mix fk64 (p64_e_2 a0) (obs_cons h0 obs_nil) (c64_3 hrc_laws_toValue hrc_laws_toValueS  _ _ _ _ _ h)
theorem yFP {N : Nat} {rc_laws_toValue : Val → Option (Val)} (hrc_laws_toValue : ∀ a0 r, rc_laws_toValue a0 = some r → AbC 26 (yBl a0) (yBb r)) {rc_laws_toValueS : (List Val) → Option ((List Val))} (hrc_laws_toValueS : ∀ a0 r, rc_laws_toValueS a0 = some r → AbC 64 (yBg a0) (yAS r)) {a0 : List Val} {r : (List Val)} (h : yCa N rc_laws_toValue rc_laws_toValueS a0 = some r) : AbC 64 (yBg a0) (yAS r) :=
 AbsCalls.of_reach fk64 rfl rfl (Nat.le_of_ble_eq_true rfl) (c64_e hrc_laws_toValue hrc_laws_toValueS a0 r h)
theorem laws_toValue_fix_ok {N : Nat} : ∀ d, (∀ a0 r, (yAv N d).c_laws_toValue a0 = some r → AbC 26 (yBl a0) (yBb r)) ∧ (∀ a0 r, (yAv N d).c_laws_toValueS a0 = some r → AbC 64 (yBg a0) (yAS r)) := by
 intro d
 induction d with
 | zero =>
  refine ⟨?_, ?_⟩ <;> (intros; rename_i h; cases h)
 | succ d ih =>
  obtain ⟨ih0, ih1⟩ := ih
  refine ⟨?_, ?_⟩
  ·intro _ r h; exact yFX (N := N) ih0 ih1 h
  ·intro _ r h; exact yFP (N := N) ih0 ih1 h
noncomputable def I72 : Info := { body := (Try.f72.body).getD .skip, nt := 5, results := [.cell 2 28], keep := [0, 4, 5], live := [], modes := [], ext := [], lnt := [], casts := [], fcast := [] }
theorem fk72 : FnOk Try.prog 72 Try.f72 I72 := ⟨Try.func72, by kernel_rfl, by kernel_rfl, by kernel_rfl, by kernel_rfl⟩
theorem p72_e_0 (a0 : Int) : run tt (AbsCalls Try.prog) I72 3000 false [.code I72.body] ⟨(zBg 0 (yCT a0)), [], [], []⟩ = some (.done (yBL (Val.mk 6 a0 0 [] [] [] [])) []) := by kernel_rfl
theorem c72_e {N : Nat} : ∀ a0 r, yCH N a0 = some r → Reach Try.prog Try.f72 I72 [.code I72.body] (zBg 0 (yCT a0)) (yBL r) := by
 intro a0 r h
 unfold yCH at h
 obtain rfl := Option.some.inj h
 exact Reach.done ttok mix fk72 (p72_e_0 a0) obs_nil
theorem yFf {N : Nat} {a0 : Int} {r : Val} (h : yCH N  a0 = some r) : AbC 72 (yCT a0) (yBL r) :=
 AbsCalls.of_reach fk72 rfl rfl (Nat.le_of_ble_eq_true rfl) (c72_e a0 r h)
noncomputable def I75 : Info := { body := (Try.f75.body).getD .skip, nt := 5, results := [.cell 2 28], keep := [0, 4, 5], live := [], modes := [], ext := [], lnt := [], casts := [], fcast := [] }
theorem fk75 : FnOk Try.prog 75 Try.f75 I75 := ⟨Try.func75, by kernel_rfl, by kernel_rfl, by kernel_rfl, by kernel_rfl⟩
theorem p75_e_0 (a0 : Int) : run tt (AbsCalls Try.prog) I75 3000 false [.code I75.body] ⟨(zBg 0 (yDI a0)), [], [], []⟩ = some (.done (yCS (Val.mk 6 a0 0 [] [] [] [])) []) := by kernel_rfl
theorem c75_e {N : Nat} : ∀ a0 r, yDN N a0 = some r → Reach Try.prog Try.f75 I75 [.code I75.body] (zBg 0 (yDI a0)) (yCS r) := by
 intro a0 r h
 unfold yDN at h
 obtain rfl := Option.some.inj h
 exact Reach.done ttok mix fk75 (p75_e_0 a0) obs_nil
theorem impl_ErrorValue_ok {N : Nat} {a0 : Int} {r : Val} (h : yDN N  a0 = some r) : AbC 75 (yDI a0) (yCS r) :=
 AbsCalls.of_reach fk75 rfl rfl (Nat.le_of_ble_eq_true rfl) (c75_e a0 r h)
noncomputable def I76 : Info := { body := (Try.f76.body).getD .skip, nt := 26, results := [.tmp 4], keep := [0, 2, 8, 10, 20, 28, 50], live := [(4, [0, 2, 10])], modes := [], ext := [], lnt := [], casts := [], fcast := [] }
theorem fk76 : FnOk Try.prog 76 Try.f76 I76 := ⟨Try.func76, by kernel_rfl, by kernel_rfl, by kernel_rfl, by kernel_rfl⟩
def S76_4 (x0 x1 : List Str) (x5 : Int) : St := [(0, .v false [.sl .ro .str x0]), (2, .v false [.sl .ro .str x1]), (10, .v false [.int .i64 x5])]
theorem p76_4_0 (x0 x1 : List Str) (x5 : Int) : run tt (AbsCalls Try.prog) I76 3000 true (stkAt 4 I76.body) ⟨(S76_4 x0 x1 x5), [true, true], [], []⟩ = some (.done (yAJ false) [(decide ((x5 : Int) < (List.length x0 : Int))) = true, (0 : Int) ≤ x5 ∧ x5 < (List.length x0), (0 : Int) ≤ x5 ∧ x5 < (List.length x1), (!(((List.getD x0 (Int.toNat x5) Ty.str.dflt) : Str) == (List.getD x1 (Int.toNat x5) Ty.str.dflt))) = true]) := by kernel_rfl
theorem p76_4_1 (x0 x1 : List Str) (x5 : Int) : run tt (AbsCalls Try.prog) I76 3000 true (stkAt 4 I76.body) ⟨(S76_4 x0 x1 x5), [true, false], [], []⟩ = some (.stop (stkAt 4 I76.body) (S76_4 x0 x1 (IntKind.i64.wrap (x5 + 1))) [(decide ((x5 : Int) < (List.length x0 : Int))) = true, (0 : Int) ≤ x5 ∧ x5 < (List.length x0), (0 : Int) ≤ x5 ∧ x5 < (List.length x1), (!(((List.getD x0 (Int.toNat x5) Ty.str.dflt) : Str) == (List.getD x1 (Int.toNat x5) Ty.str.dflt))) = false]) := by kernel_rfl
theorem p76_4_2 (x0 x1 : List Str) (x5 : Int) : run tt (AbsCalls Try.prog) I76 3000 true (stkAt 4 I76.body) ⟨(S76_4 x0 x1 x5), [false], [], []⟩ = some (.done (yAJ true) [(decide ((x5 : Int) < (List.length x0 : Int))) = false]) := by kernel_rfl
theorem p76_e_3 (a0 a1 : List Str) : run tt (AbsCalls Try.prog) I76 3000 false [.code I76.body] ⟨(zBg 0 (yBW a0 a1)), [true], [], []⟩ = some (.done (yAJ false) [(((List.length a0 : Int) : Int) != (List.length a1 : Int)) = true]) := by kernel_rfl
theorem p76_e_4 (a0 a1 : List Str) : run tt (AbsCalls Try.prog) I76 3000 false [.code I76.body] ⟨(zBg 0 (yBW a0 a1)), [false], [], []⟩ = some (.stop (stkAt 4 I76.body) (S76_4 a0 a1 0) [(((List.length a0 : Int) : Int) != (List.length a1 : Int)) = false]) := by kernel_rfl
theorem c76_4 {N : Nat} : ∀ n x0 x1 x5 r, yBX N n x0 x1 x5 = some r → Reach Try.prog Try.f76 I76 (stkAt 4 I76.body) (S76_4 x0 x1 x5) (yAJ r) := by
 intro n
 induction n with
 | zero => intro x0 x1 x5 r h; have h' : (none : Option (Bool)) = some r := h; cases h'
 | succ n ih =>
  intro x0 x1 x5 r h
  rw [yBX] at h
  rcases cond_inv h with ⟨h0, h⟩ | ⟨h0, h⟩
  ·obtain ⟨h1, h⟩ := ite_inv h
   obtain ⟨h2, h⟩ := ite_inv h
   rcases cond_inv h with ⟨h3, h⟩ | ⟨h3, h⟩
   ·obtain rfl := Option.some.inj h
    exact Reach.done ttok mix fk76 (p76_4_0 x0 x1 x5) (obs_cons h0 (obs_cons h1 (obs_cons h2 (obs_cons h3 obs_nil))))
   ·exact Reach.stop ttok mix fk76 (p76_4_1 x0 x1 x5) (obs_cons h0 (obs_cons h1 (obs_cons h2 (obs_cons h3 obs_nil)))) (ih _ _ _ _ h)
  ·obtain rfl := Option.some.inj h
   exact Reach.done ttok mix fk76 (p76_4_2 x0 x1 x5) (obs_cons h0 obs_nil)
theorem c76_e {N : Nat} : ∀ a0 a1 r, yDA N a0 a1 = some r → Reach Try.prog Try.f76 I76 [.code I76.body] (zBg 0 (yBW a0 a1)) (yAJ r) := by
 intro a0 a1 r h
 unfold yDA at h
 rcases cond_inv h with ⟨h0, h⟩ | ⟨h0, h⟩
 ·obtain rfl := Option.some.inj h
  exact Reach.done ttok mix fk76 (p76_e_3 a0 a1) (obs_cons h0 obs_nil)
 ·exact Reach.stop ttok mix fk76 (p76_e_4 a0 a1) (obs_cons h0 obs_nil) (c76_4   _ _ _ _ _ h)
theorem yEw {N : Nat} {a0 : List Str} {a1 : List Str} {r : Bool} (h : yDA N  a0 a1 = some r) : AbC 76 (yBW a0 a1) (yAJ r) :=
 AbsCalls.of_reach fk76 rfl rfl (Nat.le_of_ble_eq_true rfl) (c76_e a0 a1 r h)
noncomputable def I148 : Info := { body := (Try.f148.body).getD .skip, nt := 26, results := [.tmp 4], keep := [0, 2, 8, 10, 20, 28, 50], live := [(4, [0, 2, 10])], modes := [], ext := [], lnt := [], casts := [], fcast := [] }
theorem fk148 : FnOk Try.prog 148 Try.f148 I148 := ⟨Try.func148, by kernel_rfl, by kernel_rfl, by kernel_rfl, by kernel_rfl⟩
def S148_4 (x0 x1 : List Int) (x5 : Int) : St := [(0, .v false [.sl .ro .int x0]), (2, .v false [.sl .ro .int x1]), (10, .v false [.int .i64 x5])]
theorem p148_4_0 (x0 x1 : List Int) (x5 : Int) : run tt (AbsCalls Try.prog) I148 3000 true (stkAt 4 I148.body) ⟨(S148_4 x0 x1 x5), [true, true], [], []⟩ = some (.done (yBe false) [(decide ((x5 : Int) < (List.length x0 : Int))) = true, (0 : Int) ≤ x5 ∧ x5 < (List.length x0), (0 : Int) ≤ x5 ∧ x5 < (List.length x1), (((List.getD x0 (Int.toNat x5) Ty.int.dflt) : Int) != (List.getD x1 (Int.toNat x5) Ty.int.dflt)) = true]) := by kernel_rfl
theorem p148_4_1 (x0 x1 : List Int) (x5 : Int) : run tt (AbsCalls Try.prog) I148 3000 true (stkAt 4 I148.body) ⟨(S148_4 x0 x1 x5), [true, false], [], []⟩ = some (.stop (stkAt 4 I148.body) (S148_4 x0 x1 (IntKind.i64.wrap (x5 + 1))) [(decide ((x5 : Int) < (List.length x0 : Int))) = true, (0 : Int) ≤ x5 ∧ x5 < (List.length x0), (0 : Int) ≤ x5 ∧ x5 < (List.length x1), (((List.getD x0 (Int.toNat x5) Ty.int.dflt) : Int) != (List.getD x1 (Int.toNat x5) Ty.int.dflt)) = false]) := by kernel_rfl
theorem p148_4_2 (x0 x1 : List Int) (x5 : Int) : run tt (AbsCalls Try.prog) I148 3000 true (stkAt 4 I148.body) ⟨(S148_4 x0 x1 x5), [false], [], []⟩ = some (.done (yBe true) [(decide ((x5 : Int) < (List.length x0 : Int))) = false]) := by kernel_rfl
theorem p148_e_3 (a0 a1 : List Int) : run tt (AbsCalls Try.prog) I148 3000 false [.code I148.body] ⟨(zBg 0 (yCY a0 a1)), [true], [], []⟩ = some (.done (yBe false) [(((List.length a0 : Int) : Int) != (List.length a1 : Int)) = true]) := by kernel_rfl
theorem p148_e_4 (a0 a1 : List Int) : run tt (AbsCalls Try.prog) I148 3000 false [.code I148.body] ⟨(zBg 0 (yCY a0 a1)), [false], [], []⟩ = some (.stop (stkAt 4 I148.body) (S148_4 a0 a1 0) [(((List.length a0 : Int) : Int) != (List.length a1 : Int)) = false]) := by kernel_rfl
theorem c148_4 {N : Nat} : ∀ n x0 x1 x5 r, yCZ N n x0 x1 x5 = some r → Reach Try.prog Try.f148 I148 (stkAt 4 I148.body) (S148_4 x0 x1 x5) (yBe r) := by
 intro n
 induction n with
 | zero => intro x0 x1 x5 r h; have h' : (none : Option (Bool)) = some r := h; cases h'
 | succ n ih =>
  intro x0 x1 x5 r h
  rw [yCZ] at h
  rcases cond_inv h with ⟨h0, h⟩ | ⟨h0, h⟩
  ·obtain ⟨h1, h⟩ := ite_inv h
   obtain ⟨h2, h⟩ := ite_inv h
   rcases cond_inv h with ⟨h3, h⟩ | ⟨h3, h⟩
   ·obtain rfl := Option.some.inj h
    exact Reach.done ttok mix fk148 (p148_4_0 x0 x1 x5) (obs_cons h0 (obs_cons h1 (obs_cons h2 (obs_cons h3 obs_nil))))
   ·exact Reach.stop ttok mix fk148 (p148_4_1 x0 x1 x5) (obs_cons h0 (obs_cons h1 (obs_cons h2 (obs_cons h3 obs_nil)))) (ih _ _ _ _ h)
  ·obtain rfl := Option.some.inj h
   exact Reach.done ttok mix fk148 (p148_4_2 x0 x1 x5) (obs_cons h0 obs_nil)
theorem c148_e {N : Nat} : ∀ a0 a1 r, yEu N a0 a1 = some r → Reach Try.prog Try.f148 I148 [.code I148.body] (zBg 0 (yCY a0 a1)) (yBe r) := by
 intro a0 a1 r h
 unfold yEu at h
 rcases cond_inv h with ⟨h0, h⟩ | ⟨h0, h⟩
 ·obtain rfl := Option.some.inj h
  exact Reach.done ttok mix fk148 (p148_e_3 a0 a1) (obs_cons h0 obs_nil)
 ·exact Reach.stop ttok mix fk148 (p148_e_4 a0 a1) (obs_cons h0 obs_nil) (c148_4   _ _ _ _ _ h)
theorem yFl {N : Nat} {a0 : List Int} {a1 : List Int} {r : Bool} (h : yEu N  a0 a1 = some r) : AbC 148 (yCY a0 a1) (yBe r) :=
 AbsCalls.of_reach fk148 rfl rfl (Nat.le_of_ble_eq_true rfl) (c148_e a0 a1 r h)
noncomputable def I120 : Info := { body := (Try.f120.body).getD .skip, nt := 15, results := [.tmp 4], keep := [0, 2, 4, 6, 8, 18, 28, 5, 7], live := [], modes := [], ext := [], lnt := [], casts := [], fcast := [] }
theorem fk120 : FnOk Try.prog 120 Try.f120 I120 := ⟨Try.func120, by kernel_rfl, by kernel_rfl, by kernel_rfl, by kernel_rfl⟩
theorem p120_e_0 (a0 a1 : Org) : run tt (AbsCalls Try.prog) I120 3000 false [.code I120.body] ⟨(zBg 0 (yCc a0 a1)), [true], [], []⟩ = some (.done (yBp false) [(((Org.cell a0) : Int) != (Org.cell a1)) = true]) := by kernel_rfl
theorem p120_e_1 (a0 a1 : Org) : run tt (AbsCalls Try.prog) I120 3000 false [.code I120.body] ⟨(zBg 0 (yCc a0 a1)), [false, true], [], []⟩ = some (.done (yBp false) [(((Org.cell a0) : Int) != (Org.cell a1)) = false, (((Org.row a0) : Int) != (Org.row a1)) = true]) := by kernel_rfl
theorem p120_e_2 (a0 a1 : Org) : run tt (AbsCalls Try.prog) I120 3000 false [.code I120.body] ⟨(zBg 0 (yCc a0 a1)), [false, false], [], []⟩ = some (.done (yBp true) [(((Org.cell a0) : Int) != (Org.cell a1)) = false, (((Org.row a0) : Int) != (Org.row a1)) = false]) := by kernel_rfl
theorem c120_e {N : Nat} : ∀ a0 a1 r, yDU N a0 a1 = some r → Reach Try.prog Try.f120 I120 [.code I120.body] (zBg 0 (yCc a0 a1)) (yBp r) := by
 intro a0 a1 r h
 unfold yDU at h
 rcases cond_inv h with ⟨h0, h⟩ | ⟨h0, h⟩
 ·obtain rfl := Option.some.inj h
  exact Reach.done ttok mix fk120 (p120_e_0 a0 a1) (obs_cons h0 obs_nil)
 ·rcases cond_inv h with ⟨h1, h⟩ | ⟨h1, h⟩
  ·obtain rfl := Option.some.inj h
   exact Reach.done ttok mix fk120 (p120_e_1 a0 a1) (obs_cons h0 (obs_cons h1 obs_nil))
  ·obtain rfl := Option.some.inj h
   exact Reach.done ttok mix fk120 (p120_e_2 a0 a1) (obs_cons h0 (obs_cons h1 obs_nil))
theorem yFA {N : Nat} {a0 : Org} {a1 : Org} {r : Bool} (h : yDU N  a0 a1 = some r) : AbC 120 (yCc a0 a1) (yBp r) :=
 AbsCalls.of_reach fk120 rfl rfl (Nat.le_of_ble_eq_true rfl) (c120_e a0 a1 r h)
noncomputable def I58 : Info := { body := (Try.f58.body).getD .skip, nt := 27, results := [.tmp 4], keep := [0, 2, 8, 10, 20, 28, 52], live := [(4, [0, 2, 10])], modes := [], ext := [], lnt := [], casts := [], fcast := [] }
theorem fk58 : FnOk Try.prog 58 Try.f58 I58 := ⟨Try.func58, by kernel_rfl, by kernel_rfl, by kernel_rfl, by kernel_rfl⟩
def S58_4 (x0 x1 : List Org) (x5 : Int) : St := [(0, .v false [.sl .ro .org x0]), (2, .v false [.sl .ro .org x1]), (10, .v false [.int .i64 x5])]
theorem p58_4_0 (x0 x1 : List Org) (x5 : Int) (r1 : Bool) : run tt (AbsCalls Try.prog) I58 3000 true (stkAt 4 I58.body) ⟨(S58_4 x0 x1 x5), [true, true], [yBp r1], []⟩ = some (.done (yA7 false) [(decide ((x5 : Int) < (List.length x0 : Int))) = true, (0 : Int) ≤ x5 ∧ x5 < (List.length x0), (0 : Int) ≤ x5 ∧ x5 < (List.length x1), AbC 120 (yCc (List.getD x0 (Int.toNat x5) Ty.org.dflt) (List.getD x1 (Int.toNat x5) Ty.org.dflt)) (yBp r1), (!r1) = true]) := by kernel_rfl
theorem p58_4_1 (x0 x1 : List Org) (x5 : Int) (r1 : Bool) : run tt (AbsCalls Try.prog) I58 3000 true (stkAt 4 I58.body) ⟨(S58_4 x0 x1 x5), [true, false], [yBp r1], []⟩ = some (.stop (stkAt 4 I58.body) (S58_4 x0 x1 (IntKind.i64.wrap (x5 + 1))) [(decide ((x5 : Int) < (List.length x0 : Int))) = true, (0 : Int) ≤ x5 ∧ x5 < (List.length x0), (0 : Int) ≤ x5 ∧ x5 < (List.length x1), AbC 120 (yCc (List.getD x0 (Int.toNat x5) Ty.org.dflt) (List.getD x1 (Int.toNat x5) Ty.org.dflt)) (yBp r1), (!r1) = false]) := by kernel_rfl
theorem p58_4_2 (x0 x1 : List Org) (x5 : Int) : run tt (AbsCalls Try.prog) I58 3000 true (stkAt 4 I58.body) ⟨(S58_4 x0 x1 x5), [false], [], []⟩ = some (.done (yA7 true) [(decide ((x5 : Int) < (List.length x0 : Int))) = false]) := by kernel_rfl
theorem p58_e_3 (a0 a1 : List Org) : run tt (AbsCalls Try.prog) I58 3000 false [.code I58.body] ⟨(zBg 0 (yCr a0 a1)), [true], [], []⟩ = some (.done (yA7 false) [(((List.length a0 : Int) : Int) != (List.length a1 : Int)) = true]) := by kernel_rfl
theorem p58_e_4 (a0 a1 : List Org) : run tt (AbsCalls Try.prog) I58 3000 false [.code I58.body] ⟨(zBg 0 (yCr a0 a1)), [false], [], []⟩ = some (.stop (stkAt 4 I58.body) (S58_4 a0 a1 0) [(((List.length a0 : Int) : Int) != (List.length a1 : Int)) = false]) := by kernel_rfl
theorem c58_4 {N : Nat} : ∀ n x0 x1 x5 r, yBV N n x0 x1 x5 = some r → Reach Try.prog Try.f58 I58 (stkAt 4 I58.body) (S58_4 x0 x1 x5) (yA7 r) := by
 intro n
 induction n with
 | zero => intro x0 x1 x5 r h; have h' : (none : Option (Bool)) = some r := h; cases h'
 | succ n ih =>
  intro x0 x1 x5 r h
  rw [yBV] at h
  rcases cond_inv h with ⟨h0, h⟩ | ⟨h0, h⟩
  ·obtain ⟨h1, h⟩ := ite_inv h
   obtain ⟨h2, h⟩ := ite_inv h
   obtain ⟨r1, h3, h⟩ := bind_inv h
   rcases cond_inv h with ⟨h4, h⟩ | ⟨h4, h⟩
   ·obtain rfl := Option.some.inj h
    exact Reach.done ttok mix fk58 (p58_4_0 x0 x1 x5 r1) (obs_cons h0 (obs_cons h1 (obs_cons h2 (obs_cons (yFA h3) (obs_cons h4 obs_nil)))))
   ·exact Reach.stop ttok mix fk58 (p58_4_1 x0 x1 x5 r1) (obs_cons h0 (obs_cons h1 (obs_cons h2 (obs_cons (yFA h3) (obs_cons h4 obs_nil))))) (ih _ _ _ _ h)
  ·obtain rfl := Option.some.inj h
   exact Reach.done ttok mix fk58 (p58_4_2 x0 x1 x5) (obs_cons h0 obs_nil)
theorem c58_e {N : Nat} : ∀ a0 a1 r, yDy N a0 a1 = some r → Reach Try.prog Try.f58 I58 [.code I58.body] (zBg 0 (yCr a0 a1)) (yA7 r) := by
 intro a0 a1 r h
 unfold yDy at h
 rcases cond_inv h with ⟨h0, h⟩ | ⟨h0, h⟩
 ·obtain rfl := Option.some.inj h
  exact Reach.done ttok mix fk58 (p58_e_3 a0 a1) (obs_cons h0 obs_nil)
 ·exact Reach.stop ttok mix fk58 (p58_e_4 a0 a1) (obs_cons h0 obs_nil) (c58_4   _ _ _ _ _ h)
theorem yFp {N : Nat} {a0 : List Org} {a1 : List Org} {r : Bool} (h : yDy N  a0 a1 = some r) : AbC 58 (yCr a0 a1) (yA7 r) :=
 AbsCalls.of_reach fk58 rfl rfl (Nat.le_of_ble_eq_true rfl) (c58_e a0 a1 r h)
noncomputable def I129 : Info := { body := (Try.f129.body).getD .skip, nt := 17, results := [.tmp 4], keep := [0, 2, 4, 6, 8, 20, 32, 5, 7], live := [], modes := [], ext := [], lnt := [], casts := [], fcast := [] }
theorem fk129 : FnOk Try.prog 129 Try.f129 I129 := ⟨Try.func129, by kernel_rfl, by kernel_rfl, by kernel_rfl, by kernel_rfl⟩
theorem p129_e_0 (a0 a1 : Rowd) (r1 : Bool) : run tt (AbsCalls Try.prog) I129 3000 false [.code I129.body] ⟨(zBg 0 (yDh a0 a1)), [true], [yBe r1], []⟩ = some (.done (yCn false) [AbC 148 (yCY (Rowd.cells a0) (Rowd.cells a1)) (yBe r1), (!r1) = true]) := by kernel_rfl
theorem p129_e_1 (a0 a1 : Rowd) (r1 r2 : Bool) : run tt (AbsCalls Try.prog) I129 3000 false [.code I129.body] ⟨(zBg 0 (yDh a0 a1)), [false, true], [yBe r1, yA7 r2], []⟩ = some (.done (yCn false) [AbC 148 (yCY (Rowd.cells a0) (Rowd.cells a1)) (yBe r1), (!r1) = false, AbC 58 (yCr (Rowd.frm a0) (Rowd.frm a1)) (yA7 r2), (!r2) = true]) := by kernel_rfl
theorem p129_e_2 (a0 a1 : Rowd) (r1 r2 : Bool) : run tt (AbsCalls Try.prog) I129 3000 false [.code I129.body] ⟨(zBg 0 (yDh a0 a1)), [false, false], [yBe r1, yA7 r2], []⟩ = some (.done (yCn true) [AbC 148 (yCY (Rowd.cells a0) (Rowd.cells a1)) (yBe r1), (!r1) = false, AbC 58 (yCr (Rowd.frm a0) (Rowd.frm a1)) (yA7 r2), (!r2) = false]) := by kernel_rfl
theorem c129_e {N : Nat} : ∀ a0 a1 r, yET N a0 a1 = some r → Reach Try.prog Try.f129 I129 [.code I129.body] (zBg 0 (yDh a0 a1)) (yCn r) := by
 intro a0 a1 r h
 unfold yET at h
 obtain ⟨r1, h0, h⟩ := bind_inv h
 rcases cond_inv h with ⟨h1, h⟩ | ⟨h1, h⟩
 ·obtain rfl := Option.some.inj h
  exact Reach.done ttok mix fk129 (p129_e_0 a0 a1 r1) (obs_cons (yFl h0) (obs_cons h1 obs_nil))
 ·obtain ⟨r2, h2, h⟩ := bind_inv h
  rcases cond_inv h with ⟨h3, h⟩ | ⟨h3, h⟩
  ·obtain rfl := Option.some.inj h
   exact Reach.done ttok mix fk129 (p129_e_1 a0 a1 r1 r2) (obs_cons (yFl h0) (obs_cons h1 (obs_cons (yFp h2) (obs_cons h3 obs_nil))))
  ·obtain rfl := Option.some.inj h
   exact Reach.done ttok mix fk129 (p129_e_2 a0 a1 r1 r2) (obs_cons (yFl h0) (obs_cons h1 (obs_cons (yFp h2) (obs_cons h3 obs_nil))))
theorem laws_eqRow_ok {N : Nat} {a0 : Rowd} {a1 : Rowd} {r : Bool} (h : yET N  a0 a1 = some r) : AbC 129 (yDh a0 a1) (yCn r) :=
 AbsCalls.of_reach fk129 rfl rfl (Nat.le_of_ble_eq_true rfl) (c129_e a0 a1 r h)
noncomputable def I77 : Info := { body := (Try.f77.body).getD .skip, nt := 27, results := [.tmp 4], keep := [0, 2, 8, 10, 20, 28, 52], live := [(4, [0, 2, 10])], modes := [], ext := [], lnt := [], casts := [], fcast := [] }
theorem fk77 : FnOk Try.prog 77 Try.f77 I77 := ⟨Try.func77, by kernel_rfl, by kernel_rfl, by kernel_rfl, by kernel_rfl⟩
def S77_4 (x0 x1 : List Rowd) (x5 : Int) : St := [(0, .v false [.sl .ro .row x0]), (2, .v false [.sl .ro .row x1]), (10, .v false [.int .i64 x5])]
theorem p77_4_0 (x0 x1 : List Rowd) (x5 : Int) (r1 : Bool) : run tt (AbsCalls Try.prog) I77 3000 true (stkAt 4 I77.body) ⟨(S77_4 x0 x1 x5), [true, true], [yCn r1], []⟩ = some (.done (yBD false) [(decide ((x5 : Int) < (List.length x0 : Int))) = true, (0 : Int) ≤ x5 ∧ x5 < (List.length x0), (0 : Int) ≤ x5 ∧ x5 < (List.length x1), AbC 129 (yDh (List.getD x0 (Int.toNat x5) Ty.row.dflt) (List.getD x1 (Int.toNat x5) Ty.row.dflt)) (yCn r1), (!r1) = true]) := by kernel_rfl
theorem p77_4_1 (x0 x1 : List Rowd) (x5 : Int) (r1 : Bool) : run tt (AbsCalls Try.prog) I77 3000 true (stkAt 4 I77.body) ⟨(S77_4 x0 x1 x5), [true, false], [yCn r1], []⟩ = some (.stop (stkAt 4 I77.body) (S77_4 x0 x1 (IntKind.i64.wrap (x5 + 1))) [(decide ((x5 : Int) < (List.length x0 : Int))) = true, (0 : Int) ≤ x5 ∧ x5 < (List.length x0), (0 : Int) ≤ x5 ∧ x5 < (List.length x1), AbC 129 (yDh (List.getD x0 (Int.toNat x5) Ty.row.dflt) (List.getD x1 (Int.toNat x5) Ty.row.dflt)) (yCn r1), (!r1) = false]) := by kernel_rfl
theorem p77_4_2 (x0 x1 : List Rowd) (x5 : Int) : run tt (AbsCalls Try.prog) I77 3000 true (stkAt 4 I77.body) ⟨(S77_4 x0 x1 x5), [false], [], []⟩ = some (.done (yBD true) [(decide ((x5 : Int) < (List.length x0 : Int))) = false]) := by kernel_rfl
theorem p77_e_3 (a0 a1 : List Rowd) : run tt (AbsCalls Try.prog) I77 3000 false [.code I77.body] ⟨(zBg 0 (yDz a0 a1)), [true], [], []⟩ = some (.done (yBD false) [(((List.length a0 : Int) : Int) != (List.length a1 : Int)) = true]) := by kernel_rfl
theorem p77_e_4 (a0 a1 : List Rowd) : run tt (AbsCalls Try.prog) I77 3000 false [.code I77.body] ⟨(zBg 0 (yDz a0 a1)), [false], [], []⟩ = some (.stop (stkAt 4 I77.body) (S77_4 a0 a1 0) [(((List.length a0 : Int) : Int) != (List.length a1 : Int)) = false]) := by kernel_rfl
theorem c77_4 {N : Nat} : ∀ n x0 x1 x5 r, yC0 N n x0 x1 x5 = some r → Reach Try.prog Try.f77 I77 (stkAt 4 I77.body) (S77_4 x0 x1 x5) (yBD r) := by
 intro n
 induction n with
 | zero => intro x0 x1 x5 r h; have h' : (none : Option (Bool)) = some r := h; cases h'
 | succ n ih =>
  intro x0 x1 x5 r h
  rw [yC0] at h
  rcases cond_inv h with ⟨h0, h⟩ | ⟨h0, h⟩
  ·obtain ⟨h1, h⟩ := ite_inv h
   obtain ⟨h2, h⟩ := ite_inv h
   obtain ⟨r1, h3, h⟩ := bind_inv h
   rcases cond_inv h with ⟨h4, h⟩ | ⟨h4, h⟩
   ·obtain rfl := Option.some.inj h
    exact Reach.done ttok mix fk77 (p77_4_0 x0 x1 x5 r1) (obs_cons h0 (obs_cons h1 (obs_cons h2 (obs_cons (laws_eqRow_ok h3) (obs_cons h4 obs_nil)))))
   ·exact Reach.stop ttok mix fk77 (p77_4_1 x0 x1 x5 r1) (obs_cons h0 (obs_cons h1 (obs_cons h2 (obs_cons (laws_eqRow_ok h3) (obs_cons h4 obs_nil))))) (ih _ _ _ _ h)
  ·obtain rfl := Option.some.inj h
   exact Reach.done ttok mix fk77 (p77_4_2 x0 x1 x5) (obs_cons h0 obs_nil)
theorem c77_e {N : Nat} : ∀ a0 a1 r, yEv N a0 a1 = some r → Reach Try.prog Try.f77 I77 [.code I77.body] (zBg 0 (yDz a0 a1)) (yBD r) := by
 intro a0 a1 r h
 unfold yEv at h
 rcases cond_inv h with ⟨h0, h⟩ | ⟨h0, h⟩
 ·obtain rfl := Option.some.inj h
  exact Reach.done ttok mix fk77 (p77_e_3 a0 a1) (obs_cons h0 obs_nil)
 ·exact Reach.stop ttok mix fk77 (p77_e_4 a0 a1) (obs_cons h0 obs_nil) (c77_4   _ _ _ _ _ h)
theorem yF2 {N : Nat} {a0 : List Rowd} {a1 : List Rowd} {r : Bool} (h : yEv N  a0 a1 = some r) : AbC 77 (yDz a0 a1) (yBD r) :=
 AbsCalls.of_reach fk77 rfl rfl (Nat.le_of_ble_eq_true rfl) (c77_e a0 a1 r h)
noncomputable def I19 : Info := { body := (Try.f19.body).getD .skip, nt := 43, results := [.tmp 4], keep := [0, 2, 4, 6, 8, 18, 28, 38, 48, 60, 72, 84, 5, 7], live := [], modes := [], ext := [], lnt := [], casts := [], fcast := [] }
theorem fk19 : FnOk Try.prog 19 Try.f19 I19 := ⟨Try.func19, by kernel_rfl, by kernel_rfl, by kernel_rfl, by kernel_rfl⟩
theorem p19_e_0 (a0 a1 : Val) : run tt (AbsCalls Try.prog) I19 3000 false [.code I19.body] ⟨(zBg 0 (yAr a0 a1)), [true], [], []⟩ = some (.done (yAm false) [(((Val.kind a0) : Int) != (Val.kind a1)) = true]) := by kernel_rfl
theorem p19_e_1 (a0 a1 : Val) : run tt (AbsCalls Try.prog) I19 3000 false [.code I19.body] ⟨(zBg 0 (yAr a0 a1)), [false, true], [], []⟩ = some (.done (yAm false) [(((Val.kind a0) : Int) != (Val.kind a1)) = false, (((Val.n a0) : Int) != (Val.n a1)) = true]) := by kernel_rfl
theorem p19_e_2 (a0 a1 : Val) : run tt (AbsCalls Try.prog) I19 3000 false [.code I19.body] ⟨(zBg 0 (yAr a0 a1)), [false, false, true], [], []⟩ = some (.done (yAm false) [(((Val.kind a0) : Int) != (Val.kind a1)) = false, (((Val.n a0) : Int) != (Val.n a1)) = false, (((Val.step a0) : Int) != (Val.step a1)) = true]) := by kernel_rfl
theorem p19_e_3 (a0 a1 : Val) : run tt (AbsCalls Try.prog) I19 3000 false [.code I19.body] ⟨(zBg 0 (yAr a0 a1)), [false, false, false, true], [], []⟩ = some (.done (yAm false) [(((Val.kind a0) : Int) != (Val.kind a1)) = false, (((Val.n a0) : Int) != (Val.n a1)) = false, (((Val.step a0) : Int) != (Val.step a1)) = false, (!(((Val.text a0) : Str) == (Val.text a1))) = true]) := by kernel_rfl
theorem p19_e_4 (a0 a1 : Val) (r1 : Bool) : run tt (AbsCalls Try.prog) I19 3000 false [.code I19.body] ⟨(zBg 0 (yAr a0 a1)), [false, false, false, false, true], [yAk r1], []⟩ = some (.done (yAm false) [(((Val.kind a0) : Int) != (Val.kind a1)) = false, (((Val.n a0) : Int) != (Val.n a1)) = false, (((Val.step a0) : Int) != (Val.step a1)) = false, (!(((Val.text a0) : Str) == (Val.text a1))) = false, AbC 66 (yAC (Val.list a0) (Val.list a1)) (yAk r1), (!r1) = true]) := by kernel_rfl
theorem p19_e_5 (a0 a1 : Val) (r1 r2 : Bool) : run tt (AbsCalls Try.prog) I19 3000 false [.code I19.body] ⟨(zBg 0 (yAr a0 a1)), [false, false, false, false, false, true], [yAk r1, yAJ r2], []⟩ = some (.done (yAm false) [(((Val.kind a0) : Int) != (Val.kind a1)) = false, (((Val.n a0) : Int) != (Val.n a1)) = false, (((Val.step a0) : Int) != (Val.step a1)) = false, (!(((Val.text a0) : Str) == (Val.text a1))) = false, AbC 66 (yAC (Val.list a0) (Val.list a1)) (yAk r1), (!r1) = false, AbC 76 (yBW (Val.columns a0) (Val.columns a1)) (yAJ r2), (!r2) = true]) := by kernel_rfl
theorem p19_e_6 (a0 a1 : Val) (r1 r2 r3 : Bool) : run tt (AbsCalls Try.prog) I19 3000 false [.code I19.body] ⟨(zBg 0 (yAr a0 a1)), [false, false, false, false, false, false, true], [yAk r1, yAJ r2, yBD r3], []⟩ = some (.done (yAm false) [(((Val.kind a0) : Int) != (Val.kind a1)) = false, (((Val.n a0) : Int) != (Val.n a1)) = false, (((Val.step a0) : Int) != (Val.step a1)) = false, (!(((Val.text a0) : Str) == (Val.text a1))) = false, AbC 66 (yAC (Val.list a0) (Val.list a1)) (yAk r1), (!r1) = false, AbC 76 (yBW (Val.columns a0) (Val.columns a1)) (yAJ r2), (!r2) = false, AbC 77 (yDz (Val.rows a0) (Val.rows a1)) (yBD r3), (!r3) = true]) := by kernel_rfl
theorem p19_e_7 (a0 a1 : Val) (r1 r2 r3 : Bool) : run tt (AbsCalls Try.prog) I19 3000 false [.code I19.body] ⟨(zBg 0 (yAr a0 a1)), [false, false, false, false, false, false, false], [yAk r1, yAJ r2, yBD r3], []⟩ = some (.done (yAm true) [(((Val.kind a0) : Int) != (Val.kind a1)) = false, (((Val.n a0) : Int) != (Val.n a1)) = false, (((Val.step a0) : Int) != (Val.step a1)) = false, (!(((Val.text a0) : Str) == (Val.text a1))) = false, AbC 66 (yAC (Val.list a0) (Val.list a1)) (yAk r1), (!r1) = false, AbC 76 (yBW (Val.columns a0) (Val.columns a1)) (yAJ r2), (!r2) = false, AbC 77 (yDz (Val.rows a0) (Val.rows a1)) (yBD r3), (!r3) = false]) := by kernel_rfl
theorem c19_e {N : Nat} {rc_laws_eqValue : Val → Val → Option (Bool)} (hrc_laws_eqValue : ∀ a0 a1 r, rc_laws_eqValue a0 a1 = some r → AbC 19 (yAr a0 a1) (yAm r)) {rc_laws_eqValueS : (List Val) → (List Val) → Option (Bool)} (hrc_laws_eqValueS : ∀ a0 a1 r, rc_laws_eqValueS a0 a1 = some r → AbC 66 (yAC a0 a1) (yAk r)) : ∀ a0 a1 r, yCs N rc_laws_eqValue rc_laws_eqValueS a0 a1 = some r → Reach Try.prog Try.f19 I19 [.code I19.body] (zBg 0 (yAr a0 a1)) (yAm r) := by
 intro a0 a1 r h
 unfold yCs at h
 rcases cond_inv h with ⟨h0, h⟩ | ⟨h0, h⟩
 ·obtain rfl := Option.some.inj h
  exact Reach.done ttok mix fk19 (p19_e_0 a0 a1) (obs_cons h0 obs_nil)
 ·rcases cond_inv h with ⟨h1, h⟩ | ⟨h1, h⟩
  ·obtain rfl := Option.some.inj h
   exact Reach.done ttok mix fk19 (p19_e_1 a0 a1) (obs_cons h0 (obs_cons h1 obs_nil))
  ·rcases cond_inv h with ⟨h2, h⟩ | ⟨h2, h⟩
   ·obtain rfl := Option.some.inj h
    exact Reach.done ttok mix fk19 (p19_e_2 a0 a1) (obs_cons h0 (obs_cons h1 (obs_cons h2 obs_nil)))
   ·rcases cond_inv h with ⟨h3, h⟩ | ⟨h3, h⟩
    ·obtain rfl := Option.some.inj h
     exact Reach.done ttok mix fk19 (p19_e_3 a0 a1) (obs_cons h0 (obs_cons h1 (obs_cons h2 (obs_cons h3 obs_nil))))
    ·obtain ⟨r1, h4, h⟩ := bind_inv h
     rcases cond_inv h with ⟨h5, h⟩ | ⟨h5, h⟩
     ·obtain rfl := Option.some.inj h
      exact Reach.done ttok mix fk19 (p19_e_4 a0 a1 r1) (obs_cons h0 (obs_cons h1 (obs_cons h2 (obs_cons h3 (obs_cons (hrc_laws_eqValueS _ _ _ h4) (obs_cons h5 obs_nil))))))
     ·obtain ⟨r2, h6, h⟩ := bind_inv h
      rcases cond_inv h with ⟨h7, h⟩ | ⟨h7, h⟩
      ·obtain rfl := Option.some.inj h
       exact Reach.done ttok mix fk19 (p19_e_5 a0 a1 r1 r2) (obs_cons h0 (obs_cons h1 (obs_cons h2 (obs_cons h3 (obs_cons (hrc_laws_eqValueS _ _ _ h4) (obs_cons h5 (obs_cons (yEw h6) (obs_cons h7 obs_nil))))))))
      ·obtain ⟨r3, h8, h⟩ := bind_inv h
       rcases cond_inv h with ⟨h9, h⟩ | ⟨h9, h⟩
       ·obtain rfl := Option.some.inj h
        exact Reach.done ttok mix fk19 (p19_e_6 a0 a1 r1 r2 r3) (obs_cons h0 (obs_cons h1 (obs_cons h2 (obs_cons h3 (obs_cons (hrc_laws_eqValueS _ _ _ h4) (obs_cons h5 (obs_cons (yEw h6) (obs_cons h7 (obs_cons (yF2 h8) (obs_cons h9 obs_nil))))))))))
       ·obtain rfl := Option.some.inj h
        exact Reach.done ttok mix fk19 (p19_e_7 a0 a1 r1 r2 r3) (obs_cons h0 (obs_cons h1 (obs_cons h2 (obs_cons h3 (obs_cons (hrc_laws_eqValueS _ _ _ h4) (obs_cons h5 (obs_cons (yEw h6) (obs_cons h7 (obs_cons (yF2 h8) (obs_cons h9 obs_nil))))))))))
theorem yFV {N : Nat} {rc_laws_eqValue : Val → Val → Option (Bool)} (hrc_laws_eqValue : ∀ a0 a1 r, rc_laws_eqValue a0 a1 = some r → AbC 19 (yAr a0 a1) (yAm r)) {rc_laws_eqValueS : (List Val) → (List Val) → Option (Bool)} (hrc_laws_eqValueS : ∀ a0 a1 r, rc_laws_eqValueS a0 a1 = some r → AbC 66 (yAC a0 a1) (yAk r)) {a0 : Val} {a1 : Val} {r : Bool} (h : yCs N rc_laws_eqValue rc_laws_eqValueS a0 a1 = some r) : AbC 19 (yAr a0 a1) (yAm r) :=
 AbsCalls.of_reach fk19 rfl rfl (Nat.le_of_ble_eq_true rfl) (c19_e hrc_laws_eqValue hrc_laws_eqValueS a0 a1 r h)
noncomputable def I66 : Info := { body := (Try.f66.body).getD .skip, nt := 27, results := [.tmp 4], keep := [0, 2, 8, 10, 20, 28, 52], live := [(4, [0, 2, 10])], modes := [], ext := [], lnt := [], casts := [], fcast := [] }
theorem fk66 : FnOk Try.prog 66 Try.f66 I66 := ⟨Try.func66, by kernel_rfl, by kernel_rfl, by kernel_rfl, by kernel_rfl⟩
def S66_4 (x0 x1 : List Val) (x5 : Int) : St := [(0, .v false [.sl .ro .val x0]), (2, .v false [.sl .ro .val x1]), (10, .v false [.int .i64 x5])]
theorem p66_4_0 (x0 x1 : List Val) (x5 : Int) (r1 : Bool) : run tt (AbsCalls Try.prog) I66 3000 true (stkAt 4 I66.body) ⟨(S66_4 x0 x1 x5), [true, true], [yAm r1], []⟩ = some (.done (yAk false) [(decide ((x5 : Int) < (List.length x0 : Int))) = true, (0 : Int) ≤ x5 ∧ x5 < (List.length x0), (0 : Int) ≤ x5 ∧ x5 < (List.length x1), AbC 19 (yAr (List.getD x0 (Int.toNat x5) Ty.val.dflt) (List.getD x1 (Int.toNat x5) Ty.val.dflt)) (yAm r1), (!r1) = true]) := by kernel_rfl
theorem p66_4_1 (x0 x1 : List Val) (x5 : Int) (r1 : Bool) : run tt (AbsCalls Try.prog) I66 3000 true (stkAt 4 I66.body) ⟨(S66_4 x0 x1 x5), [true, false], [yAm r1], []⟩ = some (.stop (stkAt 4 I66.body) (S66_4 x0 x1 (IntKind.i64.wrap (x5 + 1))) [(decide ((x5 : Int) < (List.length x0 : Int))) = true, (0 : Int) ≤ x5 ∧ x5 < (List.length x0), (0 : Int) ≤ x5 ∧ x5 < (List.length x1), AbC 19 (yAr (List.getD x0 (Int.toNat x5) Ty.val.dflt) (List.getD x1 (Int.toNat x5) Ty.val.dflt)) (yAm r1), (!r1) = false]) := by kernel_rfl
theorem p66_4_2 (x0 x1 : List Val) (x5 : Int) : run tt (AbsCalls Try.prog) I66 3000 true (stkAt 4 I66.body) ⟨(S66_4 x0 x1 x5), [false], [], []⟩ = some (.done (yAk true) [(decide ((x5 : Int) < (List.length x0 : Int))) = false]) := by kernel_rfl
theorem p66_e_3 (a0 a1 : List Val) : run tt (AbsCalls Try.prog) I66 3000 false [.code I66.body] ⟨(zBg 0 (yAC a0 a1)), [true], [], []⟩ = some (.done (yAk false) [(((List.length a0 : Int) : Int) != (List.length a1 : Int)) = true]) := by kernel_rfl
theorem p66_e_4 (a0 a1 : List Val) : run tt (AbsCalls Try.prog) I66 3000 false [.code I66.body] ⟨(zBg 0 (yAC a0 a1)), [false], [], []⟩ = some (.stop (stkAt 4 I66.body) (S66_4 a0 a1 0) [(((List.length a0 : Int) : Int) != (List.length a1 : Int)) = false]) := by kernel_rfl
theorem c66_4 {N : Nat} {rc_laws_eqValue : Val → Val → Option (Bool)} (hrc_laws_eqValue : ∀ a0 a1 r, rc_laws_eqValue a0 a1 = some r → AbC 19 (yAr a0 a1) (yAm r)) {rc_laws_eqValueS : (List Val) → (List Val) → Option (Bool)} (hrc_laws_eqValueS : ∀ a0 a1 r, rc_laws_eqValueS a0 a1 = some r → AbC 66 (yAC a0 a1) (yAk r)) : ∀ n x0 x1 x5 r, yCd N rc_laws_eqValue rc_laws_eqValueS n x0 x1 x5 = some r → Reach Try.prog Try.f66 I66 (stkAt 4 I66.body) (S66_4 x0 x1 x5) (yAk r) := by
 intro n
 induction n with
 | zero => intro x0 x1 x5 r h; have h' : (none : Option (Bool)) = some r := h; cases h'
 | succ n ih =>
  intro x0 x1 x5 r h
  rw [yCd] at h
  rcases cond_inv h with ⟨h0, h⟩ | ⟨h0, h⟩
  ·obtain ⟨h1, h⟩ := ite_inv h
   obtain ⟨h2, h⟩ := ite_inv h
   obtain ⟨r1, h3, h⟩ := bind_inv h
   rcases cond_inv h with ⟨h4, h⟩ | ⟨h4, h⟩
   ·obtain rfl := Option.some.inj h
    exact Reach.done ttok mix fk66 (p66_4_0 x0 x1 x5 r1) (obs_cons h0 (obs_cons h1 (obs_cons h2 (obs_cons (hrc_laws_eqValue _ _ _ h3) (obs_cons h4 obs_nil)))))
   ·exact Reach.stop ttok mix fk66 (p66_4_1 x0 x1 x5 r1) (obs_cons h0 (obs_cons h1 (obs_cons h2 (obs_cons (hrc_laws_eqValue _ _ _ h3) (obs_cons h4 obs_nil))))) (ih _ _ _ _ h)
  ·obtain rfl := Option.some.inj h
   exact Reach.done ttok mix fk66 (p66_4_2 x0 x1 x5) (obs_cons h0 obs_nil)
theorem c66_e {N : Nat} {rc_laws_eqValue : Val → Val → Option (Bool)} (hrc_laws_eqValue : ∀ a0 a1 r, rc_laws_eqValue a0 a1 = some r → AbC 19 (yAr a0 a1) (yAm r)) {rc_laws_eqValueS : (List Val) → (List Val) → Option (Bool)} (hrc_laws_eqValueS : ∀ a0 a1 r, rc_laws_eqValueS a0 a1 = some r → AbC 66 (yAC a0 a1) (yAk r)) : ∀ a0 a1 r, yB9 N rc_laws_eqValue rc_laws_eqValueS a0 a1 = some r → Reach Try.prog Try.f66 I66 [.code I66.body] (zBg 0 (yAC a0 a1)) (yAk r) := by
 intro a0 a1 r h
 unfold yB9 at h
 rcases cond_inv h with ⟨h0, h⟩ | ⟨h0, h⟩
 ·obtain rfl := Option.some.inj h
  exact Reach.done ttok mix fk66 (p66_e_3 a0 a1) (obs_cons h0 obs_nil)
 ·exact Reach.stop ttok mix fk66 (p66_e_4 a0 a1) (obs_cons h0 obs_nil) (c66_4 hrc_laws_eqValue hrc_laws_eqValueS  _ _ _ _ _ h)
theorem yFN {N : Nat} {rc_laws_eqValue : Val → Val → Option (Bool)} (hrc_laws_eqValue : ∀ a0 a1 r, rc_laws_eqValue a0 a1 = some r → AbC 19 (yAr a0 a1) (yAm r)) {rc_laws_eqValueS : (List Val) → (List Val) → Option (Bool)} (hrc_laws_eqValueS : ∀ a0 a1 r, rc_laws_eqValueS a0 a1 = some r → AbC 66 (yAC a0 a1) (yAk r)) {a0 : List Val} {a1 : List Val} {r : Bool} (h : yB9 N rc_laws_eqValue rc_laws_eqValueS a0 a1 = some r) : AbC 66 (yAC a0 a1) (yAk r) :=
 AbsCalls.of_reach fk66 rfl rfl (Nat.le_of_ble_eq_true rfl) (c66_e hrc_laws_eqValue hrc_laws_eqValueS a0 a1 r h)
theorem yGe {N : Nat} : ∀ d, (∀ a0 a1 r, (yAu N d).c_laws_eqValue a0 a1 = some r → AbC 19 (yAr a0 a1) (yAm r)) ∧ (∀ a0 a1 r, (yAu N d).c_laws_eqValueS a0 a1 = some r → AbC 66 (yAC a0 a1) (yAk r)) := by
 intro d
 induction d with
 | zero =>
  refine ⟨?_, ?_⟩ <;> (intros; rename_i h; cases h)
 | succ d ih =>
  obtain ⟨ih0, ih1⟩ := ih
  refine ⟨?_, ?_⟩
  ·intro _ _ r h; exact yFV (N := N) ih0 ih1 h
  ·intro _ _ r h; exact yFN (N := N) ih0 ih1 h
theorem laws_eqValue_ok {N : Nat} {a0 : Val} {a1 : Val} {r : Bool} (h : laws_eqValue N a0 a1 = some r) : AbC 19 (yAr a0 a1) (yAm r) := (yGe N).1 _ _ r h
noncomputable def I79 : Info := { body := (Try.f79.body).getD .skip, nt := 20, results := [.tmp 2], keep := [0, 4, 6, 10, 14], live := [(4, [0, 6])], modes := [], ext := [], lnt := [], casts := [], fcast := [] }
theorem fk79 : FnOk Try.prog 79 Try.f79 I79 := ⟨Try.func79, by kernel_rfl, by kernel_rfl, by kernel_rfl, by kernel_rfl⟩
def S79_4 (x0 : Int) (x3 : Str) : St := [(0, .v false [.int .i64 x0]), (6, .v false [.str x3])]
theorem p79_4_0 (x0 : Int) (x3 : Str) : run tt (AbsCalls Try.prog) I79 3000 true (stkAt 4 I79.body) ⟨(S79_4 x0 x3), [true], [], []⟩ = some (.stop (stkAt 4 I79.body) (S79_4 (IntKind.i64.wrap (Int.tdiv x0 10)) ((List.map (fun n => UInt8.ofNat (Int.toNat n)) [(IntKind.u8.wrap ((IntKind.i64.wrap (48 + (Int.tmod x0 10)))))]) ++ x3)) [(decide ((x0 : Int) > 0)) = true, 10 ≠ (0 : Int), List.length (List.map (fun n => UInt8.ofNat (Int.toNat n)) [(IntKind.u8.wrap ((IntKind.i64.wrap (48 + (Int.tmod x0 10)))))]) + List.length x3 ≤ Lim, 10 ≠ (0 : Int)]) := by kernel_rfl
theorem p79_4_1 (x0 : Int) (x3 : Str) : run tt (AbsCalls Try.prog) I79 3000 true (stkAt 4 I79.body) ⟨(S79_4 x0 x3), [false], [], []⟩ = some (.done (yAi ([109] ++ x3)) [(decide ((x0 : Int) > 0)) = false, List.length [109] + List.length x3 ≤ Lim]) := by kernel_rfl
theorem p79_e_2 (a0 : Int) : run tt (AbsCalls Try.prog) I79 3000 false [.code I79.body] ⟨(zBg 0 (yAK a0)), [true], [], []⟩ = some (.done (yAi [109, 48]) [(decide ((a0 : Int) ≤ 0)) = true]) := by kernel_rfl
theorem p79_e_3 (a0 : Int) : run tt (AbsCalls Try.prog) I79 3000 false [.code I79.body] ⟨(zBg 0 (yAK a0)), [false], [], []⟩ = some (.stop (stkAt 4 I79.body) (S79_4 a0 []) [(decide ((a0 : Int) ≤ 0)) = false]) := by kernel_rfl
theorem c79_4 {N : Nat} : ∀ n x0 x3 r, yCj N n x0 x3 = some r → Reach Try.prog Try.f79 I79 (stkAt 4 I79.body) (S79_4 x0 x3) (yAi r) := by
 intro n
 induction n with
 | zero => intro x0 x3 r h; have h' : (none : Option (Str)) = some r := h; cases h'
 | succ n ih =>
  intro x0 x3 r h
  rw [yCj] at h
  rcases cond_inv h with ⟨h0, h⟩ | ⟨h0, h⟩
  ·obtain ⟨h2, h⟩ := ite_inv h
   exact Reach.stop ttok mix fk79 (p79_4_0 x0 x3) (obs_cons h0 (obs_cons (by decide) (obs_cons h2 (obs_cons (by decide) obs_nil)))) (ih _ _ _ h)
  ·obtain ⟨h1, h⟩ := ite_inv h
   obtain rfl := Option.some.inj h
   exact Reach.done ttok mix fk79 (p79_4_1 x0 x3) (obs_cons h0 (obs_cons h1 obs_nil))
theorem c79_e {N : Nat} : ∀ a0 r, yCo N a0 = some r → Reach Try.prog Try.f79 I79 [.code I79.body] (zBg 0 (yAK a0)) (yAi r) := by
 intro a0 r h
 unfold yCo at h
 rcases cond_inv h with ⟨h0, h⟩ | ⟨h0, h⟩
 ·obtain rfl := Option.some.inj h
  exact Reach.done ttok mix fk79 (p79_e_2 a0) (obs_cons h0 obs_nil)
 ·exact Reach.stop ttok mix fk79 (p79_e_3 a0) (obs_cons h0 obs_nil) (c79_4   _ _ _ _ h)
theorem yBq {N : Nat} {a0 : Int} {r : Str} (h : yCo N  a0 = some r) : AbC 79 (yAK a0) (yAi r) :=
 AbsCalls.of_reach fk79 rfl rfl (Nat.le_of_ble_eq_true rfl) (c79_e a0 r h)
noncomputable def I80 : Info := { body := (Try.f80.body).getD .skip, nt := 20, results := [.tmp 4], keep := [0, 2, 8, 10, 18], live := [(2, [0, 2, 10])], modes := [(4, [(0, .ref, false)])], ext := [], lnt := [(0, 0)], casts := [], fcast := [] }
theorem fk80 : FnOk Try.prog 80 Try.f80 I80 := ⟨Try.func80, by kernel_rfl, by kernel_rfl, by kernel_rfl, by kernel_rfl⟩
def S80_2 (x0 : List Str) (x1 x5 : Int) : St := [(0, .v false [.sl (.lnt 0) .str x0]), (2, .v false [.int .i64 x1]), (10, .v false [.int .i64 x5])]
theorem p80_2_0 (x0 : List Str) (x1 x5 : Int) (r1 : Str) : run tt (AbsCalls Try.prog) I80 3000 true (stkAt 2 I80.body) ⟨(S80_2 x0 x1 x5), [true], [yAi r1], []⟩ = some (.stop (stkAt 2 I80.body) (S80_2 (List.set x0 (Int.toNat x5) r1) (IntKind.i64.wrap (x1 + 1)) (IntKind.i64.wrap (x5 + 1))) [(decide ((x5 : Int) < (List.length x0 : Int))) = true, AbC 79 (yAK x1) (yAi r1), (0 : Int) ≤ x5 ∧ x5 < (List.length x0)]) := by kernel_rfl
theorem p80_2_1 (x0 : List Str) (x1 x5 : Int) : run tt (AbsCalls Try.prog) I80 3000 true (stkAt 2 I80.body) ⟨(S80_2 x0 x1 x5), [false], [], []⟩ = some (.done (yBa (x1, x0)) [(decide ((x5 : Int) < (List.length x0 : Int))) = false]) := by kernel_rfl
theorem p80_e_2 (a0 : List Str) (a1 : Int) : run tt (AbsCalls Try.prog) I80 3000 false [.code I80.body] ⟨(zBg 0 (yCE a0 a1)), [], [], []⟩ = some (.stop (stkAt 2 I80.body) (S80_2 a0 a1 0) []) := by kernel_rfl
theorem c80_2 {N : Nat} : ∀ n x0 x1 x5 r, yBx N n x0 x1 x5 = some r → Reach Try.prog Try.f80 I80 (stkAt 2 I80.body) (S80_2 x0 x1 x5) (yBa r) := by
 intro n
 induction n with
 | zero => intro x0 x1 x5 r h; have h' : (none : Option (Int × (List Str))) = some r := h; cases h'
 | succ n ih =>
  intro x0 x1 x5 r h
  rw [yBx] at h
  rcases cond_inv h with ⟨h0, h⟩ | ⟨h0, h⟩
  ·obtain ⟨r1, h1, h⟩ := bind_inv h
   obtain ⟨h2, h⟩ := ite_inv h
   exact Reach.stop ttok mix fk80 (p80_2_0 x0 x1 x5 r1) (obs_cons h0 (obs_cons (yBq h1) (obs_cons h2 obs_nil))) (ih _ _ _ _ h)
  ·obtain rfl := Option.some.inj h
   exact Reach.done ttok mix fk80 (p80_2_1 x0 x1 x5) (obs_cons h0 obs_nil)
theorem c80_e {N : Nat} : ∀ a0 a1 r, yCO N a0 a1 = some r → Reach Try.prog Try.f80 I80 [.code I80.body] (zBg 0 (yCE a0 a1)) (yBa r) := by
 intro a0 a1 r h
 unfold yCO at h
 exact Reach.stop ttok mix fk80 (p80_e_2 a0 a1) obs_nil (c80_2   _ _ _ _ _ h)
theorem yE2 {N : Nat} {a0 : List Str} {a1 : Int} {r : Int × (List Str)} (h : yCO N  a0 a1 = some r) : AbC 80 (yCE a0 a1) (yBa r) :=
 AbsCalls.of_reach fk80 rfl rfl (Nat.le_of_ble_eq_true rfl) (c80_e a0 a1 r h)
end Go.Ab.T
end
section
open Go.Proofs
namespace Go.Ab.T
set_option linter.unusedVariables false
set_option maxRecDepth 100000
noncomputable def I130 : Info := { body := (Try.f130.body).getD .skip, nt := 19, results := [.tmp 4], keep := [0, 2, 8, 10, 18], live := [(2, [0, 2, 10])], modes := [(4, [(0, .ref, false)])], ext := [], lnt := [(0, 0)], casts := [], fcast := [] }
theorem fk130 : FnOk Try.prog 130 Try.f130 I130 := ⟨Try.func130, by kernel_rfl, by kernel_rfl, by kernel_rfl, by kernel_rfl⟩
def S130_2 (x0 : List Int) (x1 x5 : Int) : St := [(0, .v false [.sl (.lnt 0) .int x0]), (2, .v false [.int .i64 x1]), (10, .v false [.int .i64 x5])]
theorem p130_2_0 (x0 : List Int) (x1 x5 : Int) : run tt (AbsCalls Try.prog) I130 3000 true (stkAt 2 I130.body) ⟨(S130_2 x0 x1 x5), [true], [], []⟩ = some (.stop (stkAt 2 I130.body) (S130_2 (List.set x0 (Int.toNat x5) x1) (IntKind.i64.wrap (x1 + 1)) (IntKind.i64.wrap (x5 + 1))) [(decide ((x5 : Int) < (List.length x0 : Int))) = true, (0 : Int) ≤ x5 ∧ x5 < (List.length x0)]) := by kernel_rfl
theorem p130_2_1 (x0 : List Int) (x1 x5 : Int) : run tt (AbsCalls Try.prog) I130 3000 true (stkAt 2 I130.body) ⟨(S130_2 x0 x1 x5), [false], [], []⟩ = some (.done (yCN (x1, x0)) [(decide ((x5 : Int) < (List.length x0 : Int))) = false]) := by kernel_rfl
theorem p130_e_2 (a0 : List Int) (a1 : Int) : run tt (AbsCalls Try.prog) I130 3000 false [.code I130.body] ⟨(zBg 0 (yEh a0 a1)), [], [], []⟩ = some (.stop (stkAt 2 I130.body) (S130_2 a0 a1 0) []) := by kernel_rfl
theorem c130_2 {N : Nat} : ∀ n x0 x1 x5 r, yCh N n x0 x1 x5 = some r → Reach Try.prog Try.f130 I130 (stkAt 2 I130.body) (S130_2 x0 x1 x5) (yCN r) := by
 intro n
 induction n with
 | zero => intro x0 x1 x5 r h; have h' : (none : Option (Int × (List Int))) = some r := h; cases h'
 | succ n ih =>
  intro x0 x1 x5 r h
  rw [yCh] at h
  rcases cond_inv h with ⟨h0, h⟩ | ⟨h0, h⟩
  ·obtain ⟨h1, h⟩ := ite_inv h
   exact Reach.stop ttok mix fk130 (p130_2_0 x0 x1 x5) (obs_cons h0 (obs_cons h1 obs_nil)) (ih _ _ _ _ h)
  ·obtain rfl := Option.some.inj h
   exact Reach.done ttok mix fk130 (p130_2_1 x0 x1 x5) (obs_cons h0 obs_nil)
theorem c130_e {N : Nat} : ∀ a0 a1 r, yEo N a0 a1 = some r → Reach Try.prog Try.f130 I130 [.code I130.body] (zBg 0 (yEh a0 a1)) (yCN r) := by
 intro a0 a1 r h
 unfold yEo at h
 exact Reach.stop ttok mix fk130 (p130_e_2 a0 a1) obs_nil (c130_2   _ _ _ _ _ h)
theorem laws_markIntS_ok {N : Nat} {a0 : List Int} {a1 : Int} {r : Int × (List Int)} (h : yEo N  a0 a1 = some r) : AbC 130 (yEh a0 a1) (yCN r) :=
 AbsCalls.of_reach fk130 rfl rfl (Nat.le_of_ble_eq_true rfl) (c130_e a0 a1 r h)
noncomputable def I59 : Info := { body := (Try.f59.body).getD .skip, nt := 27, results := [.tmp 4], keep := [0, 2, 8, 10, 18], live := [(2, [0, 2, 10])], modes := [(4, [(0, .ref, false)]), (6, [(0, .ref, false)])], ext := [], lnt := [(0, 0)], casts := [], fcast := [] }
theorem fk59 : FnOk Try.prog 59 Try.f59 I59 := ⟨Try.func59, by kernel_rfl, by kernel_rfl, by kernel_rfl, by kernel_rfl⟩
def S59_2 (x0 : List Org) (x1 x5 : Int) : St := [(0, .v false [.sl (.lnt 0) .org x0]), (2, .v false [.int .i64 x1]), (10, .v false [.int .i64 x5])]
theorem p59_2_0 (x0 : List Org) (x1 x5 : Int) : run tt (AbsCalls Try.prog) I59 3000 true (stkAt 2 I59.body) ⟨(S59_2 x0 x1 x5), [true], [], []⟩ = some (.stop (stkAt 2 I59.body) (S59_2 ((fun (z1 : List Org) => List.set z1 (Int.toNat x5) (Org.mk (Org.cell (List.getD z1 (Int.toNat x5) Ty.org.dflt)) (IntKind.i64.wrap (x1 + 1)))) (List.set x0 (Int.toNat x5) (Org.mk x1 (Org.row (List.getD x0 (Int.toNat x5) Ty.org.dflt))))) (IntKind.i64.wrap ((IntKind.i64.wrap (x1 + 1)) + 1)) (IntKind.i64.wrap (x5 + 1))) [(decide ((x5 : Int) < (List.length x0 : Int))) = true, (0 : Int) ≤ x5 ∧ x5 < (List.length x0), (0 : Int) ≤ x5 ∧ x5 < (List.length (List.set x0 (Int.toNat x5) (Org.mk x1 (Org.row (List.getD x0 (Int.toNat x5) Ty.org.dflt)))))]) := by kernel_rfl
theorem p59_2_1 (x0 : List Org) (x1 x5 : Int) : run tt (AbsCalls Try.prog) I59 3000 true (stkAt 2 I59.body) ⟨(S59_2 x0 x1 x5), [false], [], []⟩ = some (.done (yBZ (x1, x0)) [(decide ((x5 : Int) < (List.length x0 : Int))) = false]) := by kernel_rfl
theorem p59_e_2 (a0 : List Org) (a1 : Int) : run tt (AbsCalls Try.prog) I59 3000 false [.code I59.body] ⟨(zBg 0 (yDi a0 a1)), [], [], []⟩ = some (.stop (stkAt 2 I59.body) (S59_2 a0 a1 0) []) := by kernel_rfl
theorem c59_2 {N : Nat} : ∀ n x0 x1 x5 r, yBw N n x0 x1 x5 = some r → Reach Try.prog Try.f59 I59 (stkAt 2 I59.body) (S59_2 x0 x1 x5) (yBZ r) := by
 intro n
 induction n with
 | zero => intro x0 x1 x5 r h; have h' : (none : Option (Int × (List Org))) = some r := h; cases h'
 | succ n ih =>
  intro x0 x1 x5 r h
  rw [yBw] at h
  rcases cond_inv h with ⟨h0, h⟩ | ⟨h0, h⟩
  ·obtain ⟨h1, h⟩ := ite_inv h
   obtain ⟨h2, h⟩ := ite_inv h
   exact Reach.stop ttok mix fk59 (p59_2_0 x0 x1 x5) (obs_cons h0 (obs_cons h1 (obs_cons h2 obs_nil))) (ih _ _ _ _ h)
  ·obtain rfl := Option.some.inj h
   exact Reach.done ttok mix fk59 (p59_2_1 x0 x1 x5) (obs_cons h0 obs_nil)
theorem c59_e {N : Nat} : ∀ a0 a1 r, yDp N a0 a1 = some r → Reach Try.prog Try.f59 I59 [.code I59.body] (zBg 0 (yDi a0 a1)) (yBZ r) := by
 intro a0 a1 r h
 unfold yDp at h
 exact Reach.stop ttok mix fk59 (p59_e_2 a0 a1) obs_nil (c59_2   _ _ _ _ _ h)
theorem yGf {N : Nat} {a0 : List Org} {a1 : Int} {r : Int × (List Org)} (h : yDp N  a0 a1 = some r) : AbC 59 (yDi a0 a1) (yBZ r) :=
 AbsCalls.of_reach fk59 rfl rfl (Nat.le_of_ble_eq_true rfl) (c59_e a0 a1 r h)
noncomputable def I81 : Info := { body := (Try.f81.body).getD .skip, nt := 27, results := [.tmp 4], keep := [0, 2, 8, 10, 18], live := [(2, [0, 2, 10])], modes := [(4, [(0, .ref, false), (4, .ref, false), (6, .ref, false)]), (5, [(0, .ref, false), (4, .ref, false), (6, .ref, false)])], ext := [], lnt := [(0, 0)], casts := [], fcast := [] }
theorem fk81 : FnOk Try.prog 81 Try.f81 I81 := ⟨Try.func81, by kernel_rfl, by kernel_rfl, by kernel_rfl, by kernel_rfl⟩
def S81_2 (x0 : List Rowd) (x1 x5 : Int) : St := [(0, .v false [.sl (.lnt 0) .row x0]), (2, .v false [.int .i64 x1]), (10, .v false [.int .i64 x5])]
theorem p81_2_0 (x0 : List Rowd) (x1 x5 : Int) (r1 : Int × (List Int)) (r2 : Int × (List Org)) : run tt (AbsCalls Try.prog) I81 3000 true (stkAt 2 I81.body) ⟨(S81_2 x0 x1 x5), [true], [yCN r1, yBZ r2], []⟩ = some (.stop (stkAt 2 I81.body) (S81_2 ((fun (z1 : List Rowd) => List.set z1 (Int.toNat x5) (Rowd.mk (Rowd.cells (List.getD z1 (Int.toNat x5) Ty.row.dflt)) r2.2)) (List.set x0 (Int.toNat x5) (Rowd.mk r1.2 (Rowd.frm (List.getD x0 (Int.toNat x5) Ty.row.dflt))))) r2.1 (IntKind.i64.wrap (x5 + 1))) [(decide ((x5 : Int) < (List.length x0 : Int))) = true, (0 : Int) ≤ x5 ∧ x5 < (List.length x0), AbC 130 (yEh (Rowd.cells (List.getD x0 (Int.toNat x5) Ty.row.dflt)) x1) (yCN r1), (Int.toNat x5) = (Int.toNat x5), List.length r1.2 = List.length (Rowd.cells (List.getD x0 (Int.toNat x5) Ty.row.dflt)), (0 : Int) ≤ x5 ∧ x5 < (List.length (List.set x0 (Int.toNat x5) (Rowd.mk r1.2 (Rowd.frm (List.getD x0 (Int.toNat x5) Ty.row.dflt))))), AbC 59 (yDi (Rowd.frm (List.getD (List.set x0 (Int.toNat x5) (Rowd.mk r1.2 (Rowd.frm (List.getD x0 (Int.toNat x5) Ty.row.dflt)))) (Int.toNat x5) Ty.row.dflt)) r1.1) (yBZ r2), (Int.toNat x5) = (Int.toNat x5), List.length r2.2 = List.length (Rowd.frm (List.getD (List.set x0 (Int.toNat x5) (Rowd.mk r1.2 (Rowd.frm (List.getD x0 (Int.toNat x5) Ty.row.dflt)))) (Int.toNat x5) Ty.row.dflt))]) := by kernel_rfl
theorem p81_2_1 (x0 : List Rowd) (x1 x5 : Int) : run tt (AbsCalls Try.prog) I81 3000 true (stkAt 2 I81.body) ⟨(S81_2 x0 x1 x5), [false], [], []⟩ = some (.done (yBP (x1, x0)) [(decide ((x5 : Int) < (List.length x0 : Int))) = false]) := by kernel_rfl
theorem p81_e_2 (a0 : List Rowd) (a1 : Int) : run tt (AbsCalls Try.prog) I81 3000 false [.code I81.body] ⟨(zBg 0 (yDq a0 a1)), [], [], []⟩ = some (.stop (stkAt 2 I81.body) (S81_2 a0 a1 0) []) := by kernel_rfl
theorem c81_2 {N : Nat} : ∀ n x0 x1 x5 r, yCi N n x0 x1 x5 = some r → Reach Try.prog Try.f81 I81 (stkAt 2 I81.body) (S81_2 x0 x1 x5) (yBP r) := by
 intro n
 induction n with
 | zero => intro x0 x1 x5 r h; have h' : (none : Option (Int × (List Rowd))) = some r := h; cases h'
 | succ n ih =>
  intro x0 x1 x5 r h
  rw [yCi] at h
  rcases cond_inv h with ⟨h0, h⟩ | ⟨h0, h⟩
  ·obtain ⟨h1, h⟩ := ite_inv h
   obtain ⟨r1, h2, h⟩ := bind_inv h
   obtain ⟨h4, h⟩ := ite_inv h
   obtain ⟨h5, h⟩ := ite_inv h
   obtain ⟨r2, h6, h⟩ := bind_inv h
   obtain ⟨h8, h⟩ := ite_inv h
   exact Reach.stop ttok mix fk81 (p81_2_0 x0 x1 x5 r1 r2) (obs_cons h0 (obs_cons h1 (obs_cons (laws_markIntS_ok h2) (obs_cons rfl (obs_cons h4 (obs_cons h5 (obs_cons (yGf h6) (obs_cons rfl (obs_cons h8 obs_nil))))))))) (ih _ _ _ _ h)
  ·obtain rfl := Option.some.inj h
   exact Reach.done ttok mix fk81 (p81_2_1 x0 x1 x5) (obs_cons h0 obs_nil)
theorem c81_e {N : Nat} : ∀ a0 a1 r, yDW N a0 a1 = some r → Reach Try.prog Try.f81 I81 [.code I81.body] (zBg 0 (yDq a0 a1)) (yBP r) := by
 intro a0 a1 r h
 unfold yDW at h
 exact Reach.stop ttok mix fk81 (p81_e_2 a0 a1) obs_nil (c81_2   _ _ _ _ _ h)
theorem yFB {N : Nat} {a0 : List Rowd} {a1 : Int} {r : Int × (List Rowd)} (h : yDW N  a0 a1 = some r) : AbC 81 (yDq a0 a1) (yBP r) :=
 AbsCalls.of_reach fk81 rfl rfl (Nat.le_of_ble_eq_true rfl) (c81_e a0 a1 r h)
noncomputable def I67 : Info := { body := (Try.f67.body).getD .skip, nt := 63, results := [.tmp 4], keep := [0, 2, 8, 10, 18], live := [(2, [0, 2, 10])], modes := [(4, [(0, .ref, false)]), (6, [(0, .ref, false)]), (8, [(0, .ref, false)]), (10, [(0, .ref, false)]), (12, [(0, .ref, false), (4, .ref, false), (6, .ref, false)]), (13, [(0, .ref, false), (4, .ref, false), (6, .ref, false)]), (14, [(0, .ref, false), (4, .ref, false), (6, .ref, false)])], ext := [], lnt := [(0, 0)], casts := [], fcast := [] }
theorem fk67 : FnOk Try.prog 67 Try.f67 I67 := ⟨Try.func67, by kernel_rfl, by kernel_rfl, by kernel_rfl, by kernel_rfl⟩
def S67_2 (x0 : List Val) (x1 x5 : Int) : St := [(0, .v false [.sl (.lnt 0) .val x0]), (2, .v false [.int .i64 x1]), (10, .v false [.int .i64 x5])]
theorem p67_2_0 (x0 : List Val) (x1 x5 : Int) (r1 : Str) (r2 : Int × (List Val)) (r3 : Int × (List Str)) (r4 : Int × (List Rowd)) : run tt (AbsCalls Try.prog) I67 3000 true (stkAt 2 I67.body) ⟨(S67_2 x0 x1 x5), [true], [yAi r1, yAx r2, yBa r3, yBP r4], []⟩ = some (.stop (stkAt 2 I67.body) (S67_2 ((fun (z45 : List Val) => List.set z45 (Int.toNat x5) (Val.mk (Val.kind (List.getD z45 (Int.toNat x5) Ty.val.dflt)) (Val.n (List.getD z45 (Int.toNat x5) Ty.val.dflt)) (Val.step (List.getD z45 (Int.toNat x5) Ty.val.dflt)) (Val.text (List.getD z45 (Int.toNat x5) Ty.val.dflt)) (Val.list (List.getD z45 (Int.toNat x5) Ty.val.dflt)) (Val.columns (List.getD z45 (Int.toNat x5) Ty.val.dflt)) r4.2)) ((fun (z44 : List Val) => List.set z44 (Int.toNat x5) (Val.mk (Val.kind (List.getD z44 (Int.toNat x5) Ty.val.dflt)) (Val.n (List.getD z44 (Int.toNat x5) Ty.val.dflt)) (Val.step (List.getD z44 (Int.toNat x5) Ty.val.dflt)) (Val.text (List.getD z44 (Int.toNat x5) Ty.val.dflt)) (Val.list (List.getD z44 (Int.toNat x5) Ty.val.dflt)) r3.2 (Val.rows (List.getD z44 (Int.toNat x5) Ty.val.dflt)))) ((fun (z43 : List Val) => List.set z43 (Int.toNat x5) (Val.mk (Val.kind (List.getD z43 (Int.toNat x5) Ty.val.dflt)) (Val.n (List.getD z43 (Int.toNat x5) Ty.val.dflt)) (Val.step (List.getD z43 (Int.toNat x5) Ty.val.dflt)) (Val.text (List.getD z43 (Int.toNat x5) Ty.val.dflt)) r2.2 (Val.columns (List.getD z43 (Int.toNat x5) Ty.val.dflt)) (Val.rows (List.getD z43 (Int.toNat x5) Ty.val.dflt)))) ((fun (z42 : List Val) => List.set z42 (Int.toNat x5) (Val.mk (Val.kind (List.getD z42 (Int.toNat x5) Ty.val.dflt)) (Val.n (List.getD z42 (Int.toNat x5) Ty.val.dflt)) (Val.step (List.getD z42 (Int.toNat x5) Ty.val.dflt)) r1 (Val.list (List.getD z42 (Int.toNat x5) Ty.val.dflt)) (Val.columns (List.getD z42 (Int.toNat x5) Ty.val.dflt)) (Val.rows (List.getD z42 (Int.toNat x5) Ty.val.dflt)))) ((fun (z41 : List Val) => List.set z41 (Int.toNat x5) (Val.mk (Val.kind (List.getD z41 (Int.toNat x5) Ty.val.dflt)) (Val.n (List.getD z41 (Int.toNat x5) Ty.val.dflt)) (IntKind.i64.wrap ((IntKind.i64.wrap (x1 + 1)) + 1)) (Val.text (List.getD z41 (Int.toNat x5) Ty.val.dflt)) (Val.list (List.getD z41 (Int.toNat x5) Ty.val.dflt)) (Val.columns (List.getD z41 (Int.toNat x5) Ty.val.dflt)) (Val.rows (List.getD z41 (Int.toNat x5) Ty.val.dflt)))) ((fun (z40 : List Val) => List.set z40 (Int.toNat x5) (Val.mk (Val.kind (List.getD z40 (Int.toNat x5) Ty.val.dflt)) (IntKind.i64.wrap (x1 + 1)) (Val.step (List.getD z40 (Int.toNat x5) Ty.val.dflt)) (Val.text (List.getD z40 (Int.toNat x5) Ty.val.dflt)) (Val.list (List.getD z40 (Int.toNat x5) Ty.val.dflt)) (Val.columns (List.getD z40 (Int.toNat x5) Ty.val.dflt)) (Val.rows (List.getD z40 (Int.toNat x5) Ty.val.dflt)))) (List.set x0 (Int.toNat x5) (Val.mk x1 (Val.n (List.getD x0 (Int.toNat x5) Ty.val.dflt)) (Val.step (List.getD x0 (Int.toNat x5) Ty.val.dflt)) (Val.text (List.getD x0 (Int.toNat x5) Ty.val.dflt)) (Val.list (List.getD x0 (Int.toNat x5) Ty.val.dflt)) (Val.columns (List.getD x0 (Int.toNat x5) Ty.val.dflt)) (Val.rows (List.getD x0 (Int.toNat x5) Ty.val.dflt)))))))))) r4.1 (IntKind.i64.wrap (x5 + 1))) [(decide ((x5 : Int) < (List.length x0 : Int))) = true, (0 : Int) ≤ x5 ∧ x5 < (List.length x0), (0 : Int) ≤ x5 ∧ x5 < (List.length (List.set x0 (Int.toNat x5) (Val.mk x1 (Val.n (List.getD x0 (Int.toNat x5) Ty.val.dflt)) (Val.step (List.getD x0 (Int.toNat x5) Ty.val.dflt)) (Val.text (List.getD x0 (Int.toNat x5) Ty.val.dflt)) (Val.list (List.getD x0 (Int.toNat x5) Ty.val.dflt)) (Val.columns (List.getD x0 (Int.toNat x5) Ty.val.dflt)) (Val.rows (List.getD x0 (Int.toNat x5) Ty.val.dflt))))), (0 : Int) ≤ x5 ∧ x5 < (List.length ((fun (z40 : List Val) => List.set z40 (Int.toNat x5) (Val.mk (Val.kind (List.getD z40 (Int.toNat x5) Ty.val.dflt)) (IntKind.i64.wrap (x1 + 1)) (Val.step (List.getD z40 (Int.toNat x5) Ty.val.dflt)) (Val.text (List.getD z40 (Int.toNat x5) Ty.val.dflt)) (Val.list (List.getD z40 (Int.toNat x5) Ty.val.dflt)) (Val.columns (List.getD z40 (Int.toNat x5) Ty.val.dflt)) (Val.rows (List.getD z40 (Int.toNat x5) Ty.val.dflt)))) (List.set x0 (Int.toNat x5) (Val.mk x1 (Val.n (List.getD x0 (Int.toNat x5) Ty.val.dflt)) (Val.step (List.getD x0 (Int.toNat x5) Ty.val.dflt)) (Val.text (List.getD x0 (Int.toNat x5) Ty.val.dflt)) (Val.list (List.getD x0 (Int.toNat x5) Ty.val.dflt)) (Val.columns (List.getD x0 (Int.toNat x5) Ty.val.dflt)) (Val.rows (List.getD x0 (Int.toNat x5) Ty.val.dflt)))))), AbC 79 (yAK (IntKind.i64.wrap ((IntKind.i64.wrap ((IntKind.i64.wrap (x1 + 1)) + 1)) + 1))) (yAi r1), (0 : Int) ≤ x5 ∧ x5 < (List.length ((fun (z41 : List Val) => List.set z41 (Int.toNat x5) (Val.mk (Val.kind (List.getD z41 (Int.toNat x5) Ty.val.dflt)) (Val.n (List.getD z41 (Int.toNat x5) Ty.val.dflt)) (IntKind.i64.wrap ((IntKind.i64.wrap (x1 + 1)) + 1)) (Val.text (List.getD z41 (Int.toNat x5) Ty.val.dflt)) (Val.list (List.getD z41 (Int.toNat x5) Ty.val.dflt)) (Val.columns (List.getD z41 (Int.toNat x5) Ty.val.dflt)) (Val.rows (List.getD z41 (Int.toNat x5) Ty.val.dflt)))) ((fun (z40 : List Val) => List.set z40 (Int.toNat x5) (Val.mk (Val.kind (List.getD z40 (Int.toNat x5) Ty.val.dflt)) (IntKind.i64.wrap (x1 + 1)) (Val.step (List.getD z40 (Int.toNat x5) Ty.val.dflt)) (Val.text (List.getD z40 (Int.toNat x5) Ty.val.dflt)) (Val.list (List.getD z40 (Int.toNat x5) Ty.val.dflt)) (Val.columns (List.getD z40 (Int.toNat x5) Ty.val.dflt)) (Val.rows (List.getD z40 (Int.toNat x5) Ty.val.dflt)))) (List.set x0 (Int.toNat x5) (Val.mk x1 (Val.n (List.getD x0 (Int.toNat x5) Ty.val.dflt)) (Val.step (List.getD x0 (Int.toNat x5) Ty.val.dflt)) (Val.text (List.getD x0 (Int.toNat x5) Ty.val.dflt)) (Val.list (List.getD x0 (Int.toNat x5) Ty.val.dflt)) (Val.columns (List.getD x0 (Int.toNat x5) Ty.val.dflt)) (Val.rows (List.getD x0 (Int.toNat x5) Ty.val.dflt))))))), (0 : Int) ≤ x5 ∧ x5 < (List.length ((fun (z42 : List Val) => List.set z42 (Int.toNat x5) (Val.mk (Val.kind (List.getD z42 (Int.toNat x5) Ty.val.dflt)) (Val.n (List.getD z42 (Int.toNat x5) Ty.val.dflt)) (Val.step (List.getD z42 (Int.toNat x5) Ty.val.dflt)) r1 (Val.list (List.getD z42 (Int.toNat x5) Ty.val.dflt)) (Val.columns (List.getD z42 (Int.toNat x5) Ty.val.dflt)) (Val.rows (List.getD z42 (Int.toNat x5) Ty.val.dflt)))) ((fun (z41 : List Val) => List.set z41 (Int.toNat x5) (Val.mk (Val.kind (List.getD z41 (Int.toNat x5) Ty.val.dflt)) (Val.n (List.getD z41 (Int.toNat x5) Ty.val.dflt)) (IntKind.i64.wrap ((IntKind.i64.wrap (x1 + 1)) + 1)) (Val.text (List.getD z41 (Int.toNat x5) Ty.val.dflt)) (Val.list (List.getD z41 (Int.toNat x5) Ty.val.dflt)) (Val.columns (List.getD z41 (Int.toNat x5) Ty.val.dflt)) (Val.rows (List.getD z41 (Int.toNat x5) Ty.val.dflt)))) ((fun (z40 : List Val) => List.set z40 (Int.toNat x5) (Val.mk (Val.kind (List.getD z40 (Int.toNat x5) Ty.val.dflt)) (IntKind.i64.wrap (x1 + 1)) (Val.step (List.getD z40 (Int.toNat x5) Ty.val.dflt)) (Val.text (List.getD z40 (Int.toNat x5) Ty.val.dflt)) (Val.list (List.getD z40 (Int.toNat x5) Ty.val.dflt)) (Val.columns (List.getD z40 (Int.toNat x5) Ty.val.dflt)) (Val.rows (List.getD z40 (Int.toNat x5) Ty.val.dflt)))) (List.set x0 (Int.toNat x5) (Val.mk x1 (Val.n (List.getD x0 (Int.toNat x5) Ty.val.dflt)) (Val.step (List.getD x0 (Int.toNat x5) Ty.val.dflt)) (Val.text (List.getD x0 (Int.toNat x5) Ty.val.dflt)) (Val.list (List.getD x0 (Int.toNat x5) Ty.val.dflt)) (Val.columns (List.getD x0 (Int.toNat x5) Ty.val.dflt)) (Val.rows (List.getD x0 (Int.toNat x5) Ty.val.dflt)))))))), AbC 67 (yAZ (Val.list (List.getD ((fun (z42 : List Val) => List.set z42 (Int.toNat x5) (Val.mk (Val.kind (List.getD z42 (Int.toNat x5) Ty.val.dflt)) (Val.n (List.getD z42 (Int.toNat x5) Ty.val.dflt)) (Val.step (List.getD z42 (Int.toNat x5) Ty.val.dflt)) r1 (Val.list (List.getD z42 (Int.toNat x5) Ty.val.dflt)) (Val.columns (List.getD z42 (Int.toNat x5) Ty.val.dflt)) (Val.rows (List.getD z42 (Int.toNat x5) Ty.val.dflt)))) ((fun (z41 : List Val) => List.set z41 (Int.toNat x5) (Val.mk (Val.kind (List.getD z41 (Int.toNat x5) Ty.val.dflt)) (Val.n (List.getD z41 (Int.toNat x5) Ty.val.dflt)) (IntKind.i64.wrap ((IntKind.i64.wrap (x1 + 1)) + 1)) (Val.text (List.getD z41 (Int.toNat x5) Ty.val.dflt)) (Val.list (List.getD z41 (Int.toNat x5) Ty.val.dflt)) (Val.columns (List.getD z41 (Int.toNat x5) Ty.val.dflt)) (Val.rows (List.getD z41 (Int.toNat x5) Ty.val.dflt)))) ((fun (z40 : List Val) => List.set z40 (Int.toNat x5) (Val.mk (Val.kind (List.getD z40 (Int.toNat x5) Ty.val.dflt)) (IntKind.i64.wrap (x1 + 1)) (Val.step (List.getD z40 (Int.toNat x5) Ty.val.dflt)) (Val.text (List.getD z40 (Int.toNat x5) Ty.val.dflt)) (Val.list (List.getD z40 (Int.toNat x5) Ty.val.dflt)) (Val.columns (List.getD z40 (Int.toNat x5) Ty.val.dflt)) (Val.rows (List.getD z40 (Int.toNat x5) Ty.val.dflt)))) (List.set x0 (Int.toNat x5) (Val.mk x1 (Val.n (List.getD x0 (Int.toNat x5) Ty.val.dflt)) (Val.step (List.getD x0 (Int.toNat x5) Ty.val.dflt)) (Val.text (List.getD x0 (Int.toNat x5) Ty.val.dflt)) (Val.list (List.getD x0 (Int.toNat x5) Ty.val.dflt)) (Val.columns (List.getD x0 (Int.toNat x5) Ty.val.dflt)) (Val.rows (List.getD x0 (Int.toNat x5) Ty.val.dflt))))))) (Int.toNat x5) Ty.val.dflt)) (IntKind.i64.wrap ((IntKind.i64.wrap ((IntKind.i64.wrap ((IntKind.i64.wrap (x1 + 1)) + 1)) + 1)) + 1))) (yAx r2), (Int.toNat x5) = (Int.toNat x5), List.length r2.2 = List.length (Val.list (List.getD ((fun (z42 : List Val) => List.set z42 (Int.toNat x5) (Val.mk (Val.kind (List.getD z42 (Int.toNat x5) Ty.val.dflt)) (Val.n (List.getD z42 (Int.toNat x5) Ty.val.dflt)) (Val.step (List.getD z42 (Int.toNat x5) Ty.val.dflt)) r1 (Val.list (List.getD z42 (Int.toNat x5) Ty.val.dflt)) (Val.columns (List.getD z42 (Int.toNat x5) Ty.val.dflt)) (Val.rows (List.getD z42 (Int.toNat x5) Ty.val.dflt)))) ((fun (z41 : List Val) => List.set z41 (Int.toNat x5) (Val.mk (Val.kind (List.getD z41 (Int.toNat x5) Ty.val.dflt)) (Val.n (List.getD z41 (Int.toNat x5) Ty.val.dflt)) (IntKind.i64.wrap ((IntKind.i64.wrap (x1 + 1)) + 1)) (Val.text (List.getD z41 (Int.toNat x5) Ty.val.dflt)) (Val.list (List.getD z41 (Int.toNat x5) Ty.val.dflt)) (Val.columns (List.getD z41 (Int.toNat x5) Ty.val.dflt)) (Val.rows (List.getD z41 (Int.toNat x5) Ty.val.dflt)))) ((fun (z40 : List Val) => List.set z40 (Int.toNat x5) (Val.mk (Val.kind (List.getD z40 (Int.toNat x5) Ty.val.dflt)) (IntKind.i64.wrap (x1 + 1)) (Val.step (List.getD z40 (Int.toNat x5) Ty.val.dflt)) (Val.text (List.getD z40 (Int.toNat x5) Ty.val.dflt)) (Val.list (List.getD z40 (Int.toNat x5) Ty.val.dflt)) (Val.columns (List.getD z40 (Int.toNat x5) Ty.val.dflt)) (Val.rows (List.getD z40 (Int.toNat x5) Ty.val.dflt)))) (List.set x0 (Int.toNat x5) (Val.mk x1 (Val.n (List.getD x0 (Int.toNat x5) Ty.val.dflt)) (Val.step (List.getD x0 (Int.toNat x5) Ty.val.dflt)) (Val.text (List.getD x0 (Int.toNat x5) Ty.val.dflt)) (Val.list (List.getD x0 (Int.toNat x5) Ty.val.dflt)) (Val.columns (List.getD x0 (Int.toNat x5) Ty.val.dflt)) (Val.rows (List.getD x0 (Int.toNat x5) Ty.val.dflt))))))) (Int.toNat x5) Ty.val.dflt)), (0 : Int) ≤ x5 ∧ x5 < (List.length ((fun (z43 : List Val) => List.set z43 (Int.toNat x5) (Val.mk (Val.kind (List.getD z43 (Int.toNat x5) Ty.val.dflt)) (Val.n (List.getD z43 (Int.toNat x5) Ty.val.dflt)) (Val.step (List.getD z43 (Int.toNat x5) Ty.val.dflt)) (Val.text (List.getD z43 (Int.toNat x5) Ty.val.dflt)) r2.2 (Val.columns (List.getD z43 (Int.toNat x5) Ty.val.dflt)) (Val.rows (List.getD z43 (Int.toNat x5) Ty.val.dflt)))) ((fun (z42 : List Val) => List.set z42 (Int.toNat x5) (Val.mk (Val.kind (List.getD z42 (Int.toNat x5) Ty.val.dflt)) (Val.n (List.getD z42 (Int.toNat x5) Ty.val.dflt)) (Val.step (List.getD z42 (Int.toNat x5) Ty.val.dflt)) r1 (Val.list (List.getD z42 (Int.toNat x5) Ty.val.dflt)) (Val.columns (List.getD z42 (Int.toNat x5) Ty.val.dflt)) (Val.rows (List.getD z42 (Int.toNat x5) Ty.val.dflt)))) ((fun (z41 : List Val) => List.set z41 (Int.toNat x5) (Val.mk (Val.kind (List.getD z41 (Int.toNat x5) Ty.val.dflt)) (Val.n (List.getD z41 (Int.toNat x5) Ty.val.dflt)) (IntKind.i64.wrap ((IntKind.i64.wrap (x1 + 1)) + 1)) (Val.text (List.getD z41 (Int.toNat x5) Ty.val.dflt)) (Val.list (List.getD z41 (Int.toNat x5) Ty.val.dflt)) (Val.columns (List.getD z41 (Int.toNat x5) Ty.val.dflt)) (Val.rows (List.getD z41 (Int.toNat x5) Ty.val.dflt)))) ((fun (z40 : List Val) => List.set z40 (Int.toNat x5) (Val.mk (Val.kind (List.getD z40 (Int.toNat x5) Ty.val.dflt)) (IntKind.i64.wrap (x1 + 1)) (Val.step (List.getD z40 (Int.toNat x5) Ty.val.dflt)) (Val.text (List.getD z40 (Int.toNat x5) Ty.val.dflt)) (Val.list (List.getD z40 (Int.toNat x5) Ty.val.dflt)) (Val.columns (List.getD z40 (Int.toNat x5) Ty.val.dflt)) (Val.rows (List.getD z40 (Int.toNat x5) Ty.val.dflt)))) (List.set x0 (Int.toNat x5) (Val.mk x1 (Val.n (List.getD x0 (Int.toNat x5) Ty.val.dflt)) (Val.step (List.getD x0 (Int.toNat x5) Ty.val.dflt)) (Val.text (List.getD x0 (Int.toNat x5) Ty.val.dflt)) (Val.list (List.getD x0 (Int.toNat x5) Ty.val.dflt)) (Val.columns (List.getD x0 (Int.toNat x5) Ty.val.dflt)) (Val.rows (List.getD x0 (Int.toNat x5) Ty.val.dflt))))))))), AbC 80 (yCE (Val.columns (List.getD ((fun (z43 : List Val) => List.set z43 (Int.toNat x5) (Val.mk (Val.kind (List.getD z43 (Int.toNat x5) Ty.val.dflt)) (Val.n (List.getD z43 (Int.toNat x5) Ty.val.dflt)) (Val.step (List.getD z43 (Int.toNat x5) Ty.val.dflt)) (Val.text (List.getD z43 (Int.toNat x5) Ty.val.dflt)) r2.2 (Val.columns (List.getD z43 (Int.toNat x5) Ty.val.dflt)) (Val.rows (List.getD z43 (Int.toNat x5) Ty.val.dflt)))) ((fun (z42 : List Val) => List.set z42 (Int.toNat x5) (Val.mk (Val.kind (List.getD z42 (Int.toNat x5) Ty.val.dflt)) (Val.n (List.getD z42 (Int.toNat x5) Ty.val.dflt)) (Val.step (List.getD z42 (Int.toNat x5) Ty.val.dflt)) r1 (Val.list (List.getD z42 (Int.toNat x5) Ty.val.dflt)) (Val.columns (List.getD z42 (Int.toNat x5) Ty.val.dflt)) (Val.rows (List.getD z42 (Int.toNat x5) Ty.val.dflt)))) ((fun (z41 : List Val) => List.set z41 (Int.toNat x5) (Val.mk (Val.kind (List.getD z41 (Int.toNat x5) Ty.val.dflt)) (Val.n (List.getD z41 (Int.toNat x5) Ty.val.dflt)) (IntKind.i64.wrap ((IntKind.i64.wrap (x1 + 1)) + 1)) (Val.text (List.getD z41 (Int.toNat x5) Ty.val.dflt)) (Val.list (List.getD z41 (Int.toNat x5) Ty.val.dflt)) (Val.columns (List.getD z41 (Int.toNat x5) Ty.val.dflt)) (Val.rows (List.getD z41 (Int.toNat x5) Ty.val.dflt)))) ((fun (z40 : List Val) => List.set z40 (Int.toNat x5) (Val.mk (Val.kind (List.getD z40 (Int.toNat x5) Ty.val.dflt)) (IntKind.i64.wrap (x1 + 1)) (Val.step (List.getD z40 (Int.toNat x5) Ty.val.dflt)) (Val.text (List.getD z40 (Int.toNat x5) Ty.val.dflt)) (Val.list (List.getD z40 (Int.toNat x5) Ty.val.dflt)) (Val.columns (List.getD z40 (Int.toNat x5) Ty.val.dflt)) (Val.rows (List.getD z40 (Int.toNat x5) Ty.val.dflt)))) (List.set x0 (Int.toNat x5) (Val.mk x1 (Val.n (List.getD x0 (Int.toNat x5) Ty.val.dflt)) (Val.step (List.getD x0 (Int.toNat x5) Ty.val.dflt)) (Val.text (List.getD x0 (Int.toNat x5) Ty.val.dflt)) (Val.list (List.getD x0 (Int.toNat x5) Ty.val.dflt)) (Val.columns (List.getD x0 (Int.toNat x5) Ty.val.dflt)) (Val.rows (List.getD x0 (Int.toNat x5) Ty.val.dflt)))))))) (Int.toNat x5) Ty.val.dflt)) r2.1) (yBa r3), (Int.toNat x5) = (Int.toNat x5), List.length r3.2 = List.length (Val.columns (List.getD ((fun (z43 : List Val) => List.set z43 (Int.toNat x5) (Val.mk (Val.kind (List.getD z43 (Int.toNat x5) Ty.val.dflt)) (Val.n (List.getD z43 (Int.toNat x5) Ty.val.dflt)) (Val.step (List.getD z43 (Int.toNat x5) Ty.val.dflt)) (Val.text (List.getD z43 (Int.toNat x5) Ty.val.dflt)) r2.2 (Val.columns (List.getD z43 (Int.toNat x5) Ty.val.dflt)) (Val.rows (List.getD z43 (Int.toNat x5) Ty.val.dflt)))) ((fun (z42 : List Val) => List.set z42 (Int.toNat x5) (Val.mk (Val.kind (List.getD z42 (Int.toNat x5) Ty.val.dflt)) (Val.n (List.getD z42 (Int.toNat x5) Ty.val.dflt)) (Val.step (List.getD z42 (Int.toNat x5) Ty.val.dflt)) r1 (Val.list (List.getD z42 (Int.toNat x5) Ty.val.dflt)) (Val.columns (List.getD z42 (Int.toNat x5) Ty.val.dflt)) (Val.rows (List.getD z42 (Int.toNat x5) Ty.val.dflt)))) ((fun (z41 : List Val) => List.set z41 (Int.toNat x5) (Val.mk (Val.kind (List.getD z41 (Int.toNat x5) Ty.val.dflt)) (Val.n (List.getD z41 (Int.toNat x5) Ty.val.dflt)) (IntKind.i64.wrap ((IntKind.i64.wrap (x1 + 1)) + 1)) (Val.text (List.getD z41 (Int.toNat x5) Ty.val.dflt)) (Val.list (List.getD z41 (Int.toNat x5) Ty.val.dflt)) (Val.columns (List.getD z41 (Int.toNat x5) Ty.val.dflt)) (Val.rows (List.getD z41 (Int.toNat x5) Ty.val.dflt)))) ((fun (z40 : List Val) => List.set z40 (Int.toNat x5) (Val.mk (Val.kind (List.getD z40 (Int.toNat x5) Ty.val.dflt)) (IntKind.i64.wrap (x1 + 1)) (Val.step (List.getD z40 (Int.toNat x5) Ty.val.dflt)) (Val.text (List.getD z40 (Int.toNat x5) Ty.val.dflt)) (Val.list (List.getD z40 (Int.toNat x5) Ty.val.dflt)) (Val.columns (List.getD z40 (Int.toNat x5) Ty.val.dflt)) (Val.rows (List.getD z40 (Int.toNat x5) Ty.val.dflt)))) (List.set x0 (Int.toNat x5) (Val.mk x1 (Val.n (List.getD x0 (Int.toNat x5) Ty.val.dflt)) (Val.step (List.getD x0 (Int.toNat x5) Ty.val.dflt)) (Val.text (List.getD x0 (Int.toNat x5) Ty.val.dflt)) (Val.list (List.getD x0 (Int.toNat x5) Ty.val.dflt)) (Val.columns (List.getD x0 (Int.toNat x5) Ty.val.dflt)) (Val.rows (List.getD x0 (Int.toNat x5) Ty.val.dflt)))))))) (Int.toNat x5) Ty.val.dflt)), (0 : Int) ≤ x5 ∧ x5 < (List.length ((fun (z44 : List Val) => List.set z44 (Int.toNat x5) (Val.mk (Val.kind (List.getD z44 (Int.toNat x5) Ty.val.dflt)) (Val.n (List.getD z44 (Int.toNat x5) Ty.val.dflt)) (Val.step (List.getD z44 (Int.toNat x5) Ty.val.dflt)) (Val.text (List.getD z44 (Int.toNat x5) Ty.val.dflt)) (Val.list (List.getD z44 (Int.toNat x5) Ty.val.dflt)) r3.2 (Val.rows (List.getD z44 (Int.toNat x5) Ty.val.dflt)))) ((fun (z43 : List Val) => List.set z43 (Int.toNat x5) (Val.mk (Val.kind (List.getD z43 (Int.toNat x5) Ty.val.dflt)) (Val.n (List.getD z43 (Int.toNat x5) Ty.val.dflt)) (Val.step (List.getD z43 (Int.toNat x5) Ty.val.dflt)) (Val.text (List.getD z43 (Int.toNat x5) Ty.val.dflt)) r2.2 (Val.columns (List.getD z43 (Int.toNat x5) Ty.val.dflt)) (Val.rows (List.getD z43 (Int.toNat x5) Ty.val.dflt)))) ((fun (z42 : List Val) => List.set z42 (Int.toNat x5) (Val.mk (Val.kind (List.getD z42 (Int.toNat x5) Ty.val.dflt)) (Val.n (List.getD z42 (Int.toNat x5) Ty.val.dflt)) (Val.step (List.getD z42 (Int.toNat x5) Ty.val.dflt)) r1 (Val.list (List.getD z42 (Int.toNat x5) Ty.val.dflt)) (Val.columns (List.getD z42 (Int.toNat x5) Ty.val.dflt)) (Val.rows (List.getD z42 (Int.toNat x5) Ty.val.dflt)))) ((fun (z41 : List Val) => List.set z41 (Int.toNat x5) (Val.mk (Val.kind (List.getD z41 (Int.toNat x5) Ty.val.dflt)) (Val.n (List.getD z41 (Int.toNat x5) Ty.val.dflt)) (IntKind.i64.wrap ((IntKind.i64.wrap (x1 + 1)) + 1)) (Val.text (List.getD z41 (Int.toNat x5) Ty.val.dflt)) (Val.list (List.getD z41 (Int.toNat x5) Ty.val.dflt)) (Val.columns (List.getD z41 (Int.toNat x5) Ty.val.dflt)) (Val.rows (List.getD z41 (Int.toNat x5) Ty.val.dflt)))) ((fun (z40 : List Val) => List.set z40 (Int.toNat x5) (Val.mk (Val.kind (List.getD z40 (Int.toNat x5) Ty.val.dflt)) (IntKind.i64.wrap (x1 + 1)) (Val.step (List.getD z40 (Int.toNat x5) Ty.val.dflt)) (Val.text (List.getD z40 (Int.toNat x5) Ty.val.dflt)) (Val.list (List.getD z40 (Int.toNat x5) Ty.val.dflt)) (Val.columns (List.getD z40 (Int.toNat x5) Ty.val.dflt)) (Val.rows (List.getD z40 (Int.toNat x5) Ty.val.dflt)))) (List.set x0 (Int.toNat x5) (Val.mk x1 (Val.n (List.getD x0 (Int.toNat x5) Ty.val.dflt)) (Val.step (List.getD x0 (Int.toNat x5) Ty.val.dflt)) (Val.text (List.getD x0 (Int.toNat x5) Ty.val.dflt)) (Val.list (List.getD x0 (Int.toNat x5) Ty.val.dflt)) (Val.columns (List.getD x0 (Int.toNat x5) Ty.val.dflt)) (Val.rows (List.getD x0 (Int.toNat x5) Ty.val.dflt)))))))))), AbC 81 (yDq (Val.rows (List.getD ((fun (z44 : List Val) => List.set z44 (Int.toNat x5) (Val.mk (Val.kind (List.getD z44 (Int.toNat x5) Ty.val.dflt)) (Val.n (List.getD z44 (Int.toNat x5) Ty.val.dflt)) (Val.step (List.getD z44 (Int.toNat x5) Ty.val.dflt)) (Val.text (List.getD z44 (Int.toNat x5) Ty.val.dflt)) (Val.list (List.getD z44 (Int.toNat x5) Ty.val.dflt)) r3.2 (Val.rows (List.getD z44 (Int.toNat x5) Ty.val.dflt)))) ((fun (z43 : List Val) => List.set z43 (Int.toNat x5) (Val.mk (Val.kind (List.getD z43 (Int.toNat x5) Ty.val.dflt)) (Val.n (List.getD z43 (Int.toNat x5) Ty.val.dflt)) (Val.step (List.getD z43 (Int.toNat x5) Ty.val.dflt)) (Val.text (List.getD z43 (Int.toNat x5) Ty.val.dflt)) r2.2 (Val.columns (List.getD z43 (Int.toNat x5) Ty.val.dflt)) (Val.rows (List.getD z43 (Int.toNat x5) Ty.val.dflt)))) ((fun (z42 : List Val) => List.set z42 (Int.toNat x5) (Val.mk (Val.kind (List.getD z42 (Int.toNat x5) Ty.val.dflt)) (Val.n (List.getD z42 (Int.toNat x5) Ty.val.dflt)) (Val.step (List.getD z42 (Int.toNat x5) Ty.val.dflt)) r1 (Val.list (List.getD z42 (Int.toNat x5) Ty.val.dflt)) (Val.columns (List.getD z42 (Int.toNat x5) Ty.val.dflt)) (Val.rows (List.getD z42 (Int.toNat x5) Ty.val.dflt)))) ((fun (z41 : List Val) => List.set z41 (Int.toNat x5) (Val.mk (Val.kind (List.getD z41 (Int.toNat x5) Ty.val.dflt)) (Val.n (List.getD z41 (Int.toNat x5) Ty.val.dflt)) (IntKind.i64.wrap ((IntKind.i64.wrap (x1 + 1)) + 1)) (Val.text (List.getD z41 (Int.toNat x5) Ty.val.dflt)) (Val.list (List.getD z41 (Int.toNat x5) Ty.val.dflt)) (Val.columns (List.getD z41 (Int.toNat x5) Ty.val.dflt)) (Val.rows (List.getD z41 (Int.toNat x5) Ty.val.dflt)))) ((fun (z40 : List Val) => List.set z40 (Int.toNat x5) (Val.mk (Val.kind (List.getD z40 (Int.toNat x5) Ty.val.dflt)) (IntKind.i64.wrap (x1 + 1)) (Val.step (List.getD z40 (Int.toNat x5) Ty.val.dflt)) (Val.text (List.getD z40 (Int.toNat x5) Ty.val.dflt)) (Val.list (List.getD z40 (Int.toNat x5) Ty.val.dflt)) (Val.columns (List.getD z40 (Int.toNat x5) Ty.val.dflt)) (Val.rows (List.getD z40 (Int.toNat x5) Ty.val.dflt)))) (List.set x0 (Int.toNat x5) (Val.mk x1 (Val.n (List.getD x0 (Int.toNat x5) Ty.val.dflt)) (Val.step (List.getD x0 (Int.toNat x5) Ty.val.dflt)) (Val.text (List.getD x0 (Int.toNat x5) Ty.val.dflt)) (Val.list (List.getD x0 (Int.toNat x5) Ty.val.dflt)) (Val.columns (List.getD x0 (Int.toNat x5) Ty.val.dflt)) (Val.rows (List.getD x0 (Int.toNat x5) Ty.val.dflt))))))))) (Int.toNat x5) Ty.val.dflt)) r3.1) (yBP r4), (Int.toNat x5) = (Int.toNat x5), List.length r4.2 = List.length (Val.rows (List.getD ((fun (z44 : List Val) => List.set z44 (Int.toNat x5) (Val.mk (Val.kind (List.getD z44 (Int.toNat x5) Ty.val.dflt)) (Val.n (List.getD z44 (Int.toNat x5) Ty.val.dflt)) (Val.step (List.getD z44 (Int.toNat x5) Ty.val.dflt)) (Val.text (List.getD z44 (Int.toNat x5) Ty.val.dflt)) (Val.list (List.getD z44 (Int.toNat x5) Ty.val.dflt)) r3.2 (Val.rows (List.getD z44 (Int.toNat x5) Ty.val.dflt)))) ((fun (z43 : List Val) => List.set z43 (Int.toNat x5) (Val.mk (Val.kind (List.getD z43 (Int.toNat x5) Ty.val.dflt)) (Val.n (List.getD z43 (Int.toNat x5) Ty.val.dflt)) (Val.step (List.getD z43 (Int.toNat x5) Ty.val.dflt)) (Val.text (List.getD z43 (Int.toNat x5) Ty.val.dflt)) r2.2 (Val.columns (List.getD z43 (Int.toNat x5) Ty.val.dflt)) (Val.rows (List.getD z43 (Int.toNat x5) Ty.val.dflt)))) ((fun (z42 : List Val) => List.set z42 (Int.toNat x5) (Val.mk (Val.kind (List.getD z42 (Int.toNat x5) Ty.val.dflt)) (Val.n (List.getD z42 (Int.toNat x5) Ty.val.dflt)) (Val.step (List.getD z42 (Int.toNat x5) Ty.val.dflt)) r1 (Val.list (List.getD z42 (Int.toNat x5) Ty.val.dflt)) (Val.columns (List.getD z42 (Int.toNat x5) Ty.val.dflt)) (Val.rows (List.getD z42 (Int.toNat x5) Ty.val.dflt)))) ((fun (z41 : List Val) => List.set z41 (Int.toNat x5) (Val.mk (Val.kind (List.getD z41 (Int.toNat x5) Ty.val.dflt)) (Val.n (List.getD z41 (Int.toNat x5) Ty.val.dflt)) (IntKind.i64.wrap ((IntKind.i64.wrap (x1 + 1)) + 1)) (Val.text (List.getD z41 (Int.toNat x5) Ty.val.dflt)) (Val.list (List.getD z41 (Int.toNat x5) Ty.val.dflt)) (Val.columns (List.getD z41 (Int.toNat x5) Ty.val.dflt)) (Val.rows (List.getD z41 (Int.toNat x5) Ty.val.dflt)))) ((fun (z40 : List Val) => List.set z40 (Int.toNat x5) (Val.mk (Val.kind (List.getD z40 (Int.toNat x5) Ty.val.dflt)) (IntKind.i64.wrap (x1 + 1)) (Val.step (List.getD z40 (Int.toNat x5) Ty.val.dflt)) (Val.text (List.getD z40 (Int.toNat x5) Ty.val.dflt)) (Val.list (List.getD z40 (Int.toNat x5) Ty.val.dflt)) (Val.columns (List.getD z40 (Int.toNat x5) Ty.val.dflt)) (Val.rows (List.getD z40 (Int.toNat x5) Ty.val.dflt)))) (List.set x0 (Int.toNat x5) (Val.mk x1 (Val.n (List.getD x0 (Int.toNat x5) Ty.val.dflt)) (Val.step (List.getD x0 (Int.toNat x5) Ty.val.dflt)) (Val.text (List.getD x0 (Int.toNat x5) Ty.val.dflt)) (Val.list (List.getD x0 (Int.toNat x5) Ty.val.dflt)) (Val.columns (List.getD x0 (Int.toNat x5) Ty.val.dflt)) (Val.rows (List.getD x0 (Int.toNat x5) Ty.val.dflt))))))))) (Int.toNat x5) Ty.val.dflt))]) := by kernel_rfl
theorem p67_2_1 (x0 : List Val) (x1 x5 : Int) : run tt (AbsCalls Try.prog) I67 3000 true (stkAt 2 I67.body) ⟨(S67_2 x0 x1 x5), [false], [], []⟩ = some (.done (yAx (x1, x0)) [(decide ((x5 : Int) < (List.length x0 : Int))) = false]) := by kernel_rfl
theorem p67_e_2 (a0 : List Val) (a1 : Int) : run tt (AbsCalls Try.prog) I67 3000 false [.code I67.body] ⟨(zBg 0 (yAZ a0 a1)), [], [], []⟩ = some (.stop (stkAt 2 I67.body) (S67_2 a0 a1 0) []) := by kernel_rfl
theorem c67_2 {N : Nat} {rc_laws_markValueS : (List Val) → Int → Option (Int × (List Val))} (hrc_laws_markValueS : ∀ a0 a1 r, rc_laws_markValueS a0 a1 = some r → AbC 67 (yAZ a0 a1) (yAx r)) : ∀ n x0 x1 x5 r, yBK N rc_laws_markValueS n x0 x1 x5 = some r → Reach Try.prog Try.f67 I67 (stkAt 2 I67.body) (S67_2 x0 x1 x5) (yAx r) := by
 intro n
 induction n with
 | zero => intro x0 x1 x5 r h; have h' : (none : Option (Int × (List Val))) = some r := h; cases h'
 | succ n ih =>
  intro x0 x1 x5 r h
  rw [yBK] at h
  rcases cond_inv h with ⟨h0, h⟩ | ⟨h0, h⟩
  ·obtain ⟨h1, h⟩ := ite_inv h
   obtain ⟨h2, h⟩ := ite_inv h
   obtain ⟨h3, h⟩ := ite_inv h
   obtain ⟨r1, h4, h⟩ := bind_inv h
   obtain ⟨h5, h⟩ := ite_inv h
   obtain ⟨h6, h⟩ := ite_inv h
   obtain ⟨r2, h7, h⟩ := bind_inv h
   obtain ⟨h9, h⟩ := ite_inv h
   obtain ⟨h10, h⟩ := ite_inv h
   obtain ⟨r3, h11, h⟩ := bind_inv h
   obtain ⟨h13, h⟩ := ite_inv h
   obtain ⟨h14, h⟩ := ite_inv h
   obtain ⟨r4, h15, h⟩ := bind_inv h
   obtain ⟨h17, h⟩ := ite_inv h
   exact Reach.stop ttok mix fk67 (p67_2_0 x0 x1 x5 r1 r2 r3 r4) (obs_cons h0 (obs_cons h1 (obs_cons h2 (obs_cons h3 (obs_cons (yBq h4) (obs_cons h5 (obs_cons h6 (obs_cons (hrc_laws_markValueS _ _ _ h7) (obs_cons rfl (obs_cons h9 (obs_cons h10 (obs_cons (yE2 h11) (obs_cons rfl (obs_cons h13 (obs_cons h14 (obs_cons (yFB h15) (obs_cons rfl (obs_cons h17 obs_nil)))))))))))))))))) (ih _ _ _ _ h)
  ·obtain rfl := Option.some.inj h
   exact Reach.done ttok mix fk67 (p67_2_1 x0 x1 x5) (obs_cons h0 obs_nil)
theorem c67_e {N : Nat} {rc_laws_markValueS : (List Val) → Int → Option (Int × (List Val))} (hrc_laws_markValueS : ∀ a0 a1 r, rc_laws_markValueS a0 a1 = some r → AbC 67 (yAZ a0 a1) (yAx r)) : ∀ a0 a1 r, yC3 N rc_laws_markValueS a0 a1 = some r → Reach Try.prog Try.f67 I67 [.code I67.body] (zBg 0 (yAZ a0 a1)) (yAx r) := by
 intro a0 a1 r h
 unfold yC3 at h
 exact Reach.stop ttok mix fk67 (p67_e_2 a0 a1) obs_nil (c67_2 hrc_laws_markValueS  _ _ _ _ _ h)
theorem yFw {N : Nat} {rc_laws_markValueS : (List Val) → Int → Option (Int × (List Val))} (hrc_laws_markValueS : ∀ a0 a1 r, rc_laws_markValueS a0 a1 = some r → AbC 67 (yAZ a0 a1) (yAx r)) {a0 : List Val} {a1 : Int} {r : Int × (List Val)} (h : yC3 N rc_laws_markValueS a0 a1 = some r) : AbC 67 (yAZ a0 a1) (yAx r) :=
 AbsCalls.of_reach fk67 rfl rfl (Nat.le_of_ble_eq_true rfl) (c67_e hrc_laws_markValueS a0 a1 r h)
theorem yFI {N : Nat} : ∀ d, (∀ a0 a1 r, yCF N d a0 a1 = some r → AbC 67 (yAZ a0 a1) (yAx r)) := by
 intro d
 induction d with
 | zero => intro _ _ r h; have h' : (none : Option (Int × (List Val))) = some r := h; cases h'
 | succ d ih => intro _ _ r h; exact yFw (N := N) ih h
theorem laws_markValueS_ok {N : Nat} {a0 : List Val} {a1 : Int} {r : Int × (List Val)} (h : yE3 N a0 a1 = some r) : AbC 67 (yAZ a0 a1) (yAx r) := yFI N _ _ r h
noncomputable def I22 : Info := { body := (Try.f22.body).getD .skip, nt := 18, results := [.tmp 4], keep := [0, 2, 4, 8, 5], live := [], modes := [(1, [(1, .ref, false), (3, .ref, false)]), (2, [(1, .ref, false), (3, .ref, false)]), (3, [(1, .ref, false), (3, .ref, false)])], ext := [], lnt := [(5, 4), (5, 5), (5, 6)], casts := [], fcast := [] }
theorem fk22 : FnOk Try.prog 22 Try.f22 I22 := ⟨Try.func22, by kernel_rfl, by kernel_rfl, by kernel_rfl, by kernel_rfl⟩
theorem p22_e_0 (a0 : Val) (a1 : Int) (r1 : Int × (List Val)) (r2 : Int × (List Str)) (r3 : Int × (List Rowd)) : run tt (AbsCalls Try.prog) I22 3000 false [.code I22.body] ⟨(zBg 0 (yEx a0 a1)), [], [yAx r1, yBa r2, yBP r3], []⟩ = some (.done (yEy (r3.1, r1.2, r2.2, r3.2)) [AbC 67 (yAZ (Val.list a0) a1) (yAx r1), List.length r1.2 = List.length (Val.list a0), AbC 80 (yCE (Val.columns a0) r1.1) (yBa r2), List.length r2.2 = List.length (Val.columns a0), AbC 81 (yDq (Val.rows a0) r2.1) (yBP r3), List.length r3.2 = List.length (Val.rows a0)]) := by kernel_rfl
theorem c22_e {N : Nat} : ∀ a0 a1 r, yDC N a0 a1 = some r → Reach Try.prog Try.f22 I22 [.code I22.body] (zBg 0 (yEx a0 a1)) (yEy r) := by
 intro a0 a1 r h
 unfold yDC at h
 obtain ⟨r1, h0, h⟩ := bind_inv h
 obtain ⟨h1, h⟩ := ite_inv h
 obtain ⟨r2, h2, h⟩ := bind_inv h
 obtain ⟨h3, h⟩ := ite_inv h
 obtain ⟨r3, h4, h⟩ := bind_inv h
 obtain ⟨h5, h⟩ := ite_inv h
 obtain rfl := Option.some.inj h
 exact Reach.done ttok mix fk22 (p22_e_0 a0 a1 r1 r2 r3) (obs_cons (laws_markValueS_ok h0) (obs_cons h1 (obs_cons (yE2 h2) (obs_cons h3 (obs_cons (yFB h4) (obs_cons h5 obs_nil))))))
theorem laws_markValue_ok {N : Nat} {a0 : Val} {a1 : Int} {r : Int × (List Val) × (List Str) × (List Rowd)} (h : yDC N  a0 a1 = some r) : AbC 22 (yEx a0 a1) (yEy r) :=
 AbsCalls.of_reach fk22 rfl rfl (Nat.le_of_ble_eq_true rfl) (c22_e a0 a1 r h)
noncomputable def I83 : Info := { body := (Try.f83.body).getD .skip, nt := 22, results := [.tmp 4], keep := [0, 2, 8, 10, 18, 36], live := [(2, [0, 2, 10])], modes := [], ext := [], lnt := [], casts := [], fcast := [] }
theorem fk83 : FnOk Try.prog 83 Try.f83 I83 := ⟨Try.func83, by kernel_rfl, by kernel_rfl, by kernel_rfl, by kernel_rfl⟩
def S83_2 (x0 : List Str) (x1 x5 : Int) : St := [(0, .v false [.sl .ro .str x0]), (2, .v false [.int .i64 x1]), (10, .v false [.int .i64 x5])]
theorem p83_2_0 (x0 : List Str) (x1 x5 : Int) (r1 : Str) : run tt (AbsCalls Try.prog) I83 3000 true (stkAt 2 I83.body) ⟨(S83_2 x0 x1 x5), [true, true], [yAi r1], []⟩ = some (.done (yAj (-1)) [(decide ((x5 : Int) < (List.length x0 : Int))) = true, (0 : Int) ≤ x5 ∧ x5 < (List.length x0), AbC 79 (yAK x1) (yAi r1), (!(((List.getD x0 (Int.toNat x5) Ty.str.dflt) : Str) == r1)) = true]) := by kernel_rfl
theorem p83_2_1 (x0 : List Str) (x1 x5 : Int) (r1 : Str) : run tt (AbsCalls Try.prog) I83 3000 true (stkAt 2 I83.body) ⟨(S83_2 x0 x1 x5), [true, false], [yAi r1], []⟩ = some (.stop (stkAt 2 I83.body) (S83_2 x0 (IntKind.i64.wrap (x1 + 1)) (IntKind.i64.wrap (x5 + 1))) [(decide ((x5 : Int) < (List.length x0 : Int))) = true, (0 : Int) ≤ x5 ∧ x5 < (List.length x0), AbC 79 (yAK x1) (yAi r1), (!(((List.getD x0 (Int.toNat x5) Ty.str.dflt) : Str) == r1)) = false]) := by kernel_rfl
theorem p83_2_2 (x0 : List Str) (x1 x5 : Int) : run tt (AbsCalls Try.prog) I83 3000 true (stkAt 2 I83.body) ⟨(S83_2 x0 x1 x5), [false], [], []⟩ = some (.done (yAj x1) [(decide ((x5 : Int) < (List.length x0 : Int))) = false]) := by kernel_rfl
theorem p83_e_3 (a0 : List Str) (a1 : Int) : run tt (AbsCalls Try.prog) I83 3000 false [.code I83.body] ⟨(zBg 0 (yA1 a0 a1)), [], [], []⟩ = some (.stop (stkAt 2 I83.body) (S83_2 a0 a1 0) []) := by kernel_rfl
theorem c83_2 {N : Nat} : ∀ n x0 x1 x5 r, yBv N n x0 x1 x5 = some r → Reach Try.prog Try.f83 I83 (stkAt 2 I83.body) (S83_2 x0 x1 x5) (yAj r) := by
 intro n
 induction n with
 | zero => intro x0 x1 x5 r h; have h' : (none : Option (Int)) = some r := h; cases h'
 | succ n ih =>
  intro x0 x1 x5 r h
  rw [yBv] at h
  rcases cond_inv h with ⟨h0, h⟩ | ⟨h0, h⟩
  ·obtain ⟨h1, h⟩ := ite_inv h
   obtain ⟨r1, h2, h⟩ := bind_inv h
   rcases cond_inv h with ⟨h3, h⟩ | ⟨h3, h⟩
   ·obtain rfl := Option.some.inj h
    exact Reach.done ttok mix fk83 (p83_2_0 x0 x1 x5 r1) (obs_cons h0 (obs_cons h1 (obs_cons (yBq h2) (obs_cons h3 obs_nil))))
   ·exact Reach.stop ttok mix fk83 (p83_2_1 x0 x1 x5 r1) (obs_cons h0 (obs_cons h1 (obs_cons (yBq h2) (obs_cons h3 obs_nil)))) (ih _ _ _ _ h)
  ·obtain rfl := Option.some.inj h
   exact Reach.done ttok mix fk83 (p83_2_2 x0 x1 x5) (obs_cons h0 obs_nil)
theorem c83_e {N : Nat} : ∀ a0 a1 r, yCM N a0 a1 = some r → Reach Try.prog Try.f83 I83 [.code I83.body] (zBg 0 (yA1 a0 a1)) (yAj r) := by
 intro a0 a1 r h
 unfold yCM at h
 exact Reach.stop ttok mix fk83 (p83_e_3 a0 a1) obs_nil (c83_2   _ _ _ _ _ h)
theorem yBY {N : Nat} {a0 : List Str} {a1 : Int} {r : Int} (h : yCM N  a0 a1 = some r) : AbC 83 (yA1 a0 a1) (yAj r) :=
 AbsCalls.of_reach fk83 rfl rfl (Nat.le_of_ble_eq_true rfl) (c83_e a0 a1 r h)
noncomputable def I131 : Info := { body := (Try.f131.body).getD .skip, nt := 21, results := [.tmp 4], keep := [0, 2, 8, 10, 18, 34], live := [(2, [0, 2, 10])], modes := [], ext := [], lnt := [], casts := [], fcast := [] }
theorem fk131 : FnOk Try.prog 131 Try.f131 I131 := ⟨Try.func131, by kernel_rfl, by kernel_rfl, by kernel_rfl, by kernel_rfl⟩
def S131_2 (x0 : List Int) (x1 x5 : Int) : St := [(0, .v false [.sl .ro .int x0]), (2, .v false [.int .i64 x1]), (10, .v false [.int .i64 x5])]
theorem p131_2_0 (x0 : List Int) (x1 x5 : Int) : run tt (AbsCalls Try.prog) I131 3000 true (stkAt 2 I131.body) ⟨(S131_2 x0 x1 x5), [true, true], [], []⟩ = some (.done (yA6 (-1)) [(decide ((x5 : Int) < (List.length x0 : Int))) = true, (0 : Int) ≤ x5 ∧ x5 < (List.length x0), (((List.getD x0 (Int.toNat x5) Ty.int.dflt) : Int) != x1) = true]) := by kernel_rfl
theorem p131_2_1 (x0 : List Int) (x1 x5 : Int) : run tt (AbsCalls Try.prog) I131 3000 true (stkAt 2 I131.body) ⟨(S131_2 x0 x1 x5), [true, false], [], []⟩ = some (.stop (stkAt 2 I131.body) (S131_2 x0 (IntKind.i64.wrap (x1 + 1)) (IntKind.i64.wrap (x5 + 1))) [(decide ((x5 : Int) < (List.length x0 : Int))) = true, (0 : Int) ≤ x5 ∧ x5 < (List.length x0), (((List.getD x0 (Int.toNat x5) Ty.int.dflt) : Int) != x1) = false]) := by kernel_rfl
theorem p131_2_2 (x0 : List Int) (x1 x5 : Int) : run tt (AbsCalls Try.prog) I131 3000 true (stkAt 2 I131.body) ⟨(S131_2 x0 x1 x5), [false], [], []⟩ = some (.done (yA6 x1) [(decide ((x5 : Int) < (List.length x0 : Int))) = false]) := by kernel_rfl
theorem p131_e_3 (a0 : List Int) (a1 : Int) : run tt (AbsCalls Try.prog) I131 3000 false [.code I131.body] ⟨(zBg 0 (yCL a0 a1)), [], [], []⟩ = some (.stop (stkAt 2 I131.body) (S131_2 a0 a1 0) []) := by kernel_rfl
theorem c131_2 {N : Nat} : ∀ n x0 x1 x5 r, yCe N n x0 x1 x5 = some r → Reach Try.prog Try.f131 I131 (stkAt 2 I131.body) (S131_2 x0 x1 x5) (yA6 r) := by
 intro n
 induction n with
 | zero => intro x0 x1 x5 r h; have h' : (none : Option (Int)) = some r := h; cases h'
 | succ n ih =>
  intro x0 x1 x5 r h
  rw [yCe] at h
  rcases cond_inv h with ⟨h0, h⟩ | ⟨h0, h⟩
  ·obtain ⟨h1, h⟩ := ite_inv h
   rcases cond_inv h with ⟨h2, h⟩ | ⟨h2, h⟩
   ·obtain rfl := Option.some.inj h
    exact Reach.done ttok mix fk131 (p131_2_0 x0 x1 x5) (obs_cons h0 (obs_cons h1 (obs_cons h2 obs_nil)))
   ·exact Reach.stop ttok mix fk131 (p131_2_1 x0 x1 x5) (obs_cons h0 (obs_cons h1 (obs_cons h2 obs_nil))) (ih _ _ _ _ h)
  ·obtain rfl := Option.some.inj h
   exact Reach.done ttok mix fk131 (p131_2_2 x0 x1 x5) (obs_cons h0 obs_nil)
theorem c131_e {N : Nat} : ∀ a0 a1 r, yEn N a0 a1 = some r → Reach Try.prog Try.f131 I131 [.code I131.body] (zBg 0 (yCL a0 a1)) (yA6 r) := by
 intro a0 a1 r h
 unfold yEn at h
 exact Reach.stop ttok mix fk131 (p131_e_3 a0 a1) obs_nil (c131_2   _ _ _ _ _ h)
theorem yEQ {N : Nat} {a0 : List Int} {a1 : Int} {r : Int} (h : yEn N  a0 a1 = some r) : AbC 131 (yCL a0 a1) (yA6 r) :=
 AbsCalls.of_reach fk131 rfl rfl (Nat.le_of_ble_eq_true rfl) (c131_e a0 a1 r h)
noncomputable def I132 : Info := { body := (Try.f132.body).getD .skip, nt := 31, results := [.tmp 4], keep := [0, 2, 8, 10, 18, 36, 54], live := [(2, [0, 2, 10])], modes := [], ext := [], lnt := [], casts := [], fcast := [] }
theorem fk132 : FnOk Try.prog 132 Try.f132 I132 := ⟨Try.func132, by kernel_rfl, by kernel_rfl, by kernel_rfl, by kernel_rfl⟩
def S132_2 (x0 : List Org) (x1 x5 : Int) : St := [(0, .v false [.sl .ro .org x0]), (2, .v false [.int .i64 x1]), (10, .v false [.int .i64 x5])]
theorem p132_2_0 (x0 : List Org) (x1 x5 : Int) : run tt (AbsCalls Try.prog) I132 3000 true (stkAt 2 I132.body) ⟨(S132_2 x0 x1 x5), [true, true], [], []⟩ = some (.done (yAO (-1)) [(decide ((x5 : Int) < (List.length x0 : Int))) = true, (0 : Int) ≤ x5 ∧ x5 < (List.length x0), (((Org.cell (List.getD x0 (Int.toNat x5) Ty.org.dflt)) : Int) != x1) = true]) := by kernel_rfl
theorem p132_2_1 (x0 : List Org) (x1 x5 : Int) : run tt (AbsCalls Try.prog) I132 3000 true (stkAt 2 I132.body) ⟨(S132_2 x0 x1 x5), [true, false, true], [], []⟩ = some (.done (yAO (-1)) [(decide ((x5 : Int) < (List.length x0 : Int))) = true, (0 : Int) ≤ x5 ∧ x5 < (List.length x0), (((Org.cell (List.getD x0 (Int.toNat x5) Ty.org.dflt)) : Int) != x1) = false, (0 : Int) ≤ x5 ∧ x5 < (List.length x0), (((Org.row (List.getD x0 (Int.toNat x5) Ty.org.dflt)) : Int) != (IntKind.i64.wrap (x1 + 1))) = true]) := by kernel_rfl
theorem p132_2_2 (x0 : List Org) (x1 x5 : Int) : run tt (AbsCalls Try.prog) I132 3000 true (stkAt 2 I132.body) ⟨(S132_2 x0 x1 x5), [true, false, false], [], []⟩ = some (.stop (stkAt 2 I132.body) (S132_2 x0 (IntKind.i64.wrap ((IntKind.i64.wrap (x1 + 1)) + 1)) (IntKind.i64.wrap (x5 + 1))) [(decide ((x5 : Int) < (List.length x0 : Int))) = true, (0 : Int) ≤ x5 ∧ x5 < (List.length x0), (((Org.cell (List.getD x0 (Int.toNat x5) Ty.org.dflt)) : Int) != x1) = false, (0 : Int) ≤ x5 ∧ x5 < (List.length x0), (((Org.row (List.getD x0 (Int.toNat x5) Ty.org.dflt)) : Int) != (IntKind.i64.wrap (x1 + 1))) = false]) := by kernel_rfl
theorem p132_2_3 (x0 : List Org) (x1 x5 : Int) : run tt (AbsCalls Try.prog) I132 3000 true (stkAt 2 I132.body) ⟨(S132_2 x0 x1 x5), [false], [], []⟩ = some (.done (yAO x1) [(decide ((x5 : Int) < (List.length x0 : Int))) = false]) := by kernel_rfl
theorem p132_e_4 (a0 : List Org) (a1 : Int) : run tt (AbsCalls Try.prog) I132 3000 false [.code I132.body] ⟨(zBg 0 (yCC a0 a1)), [], [], []⟩ = some (.stop (stkAt 2 I132.body) (S132_2 a0 a1 0) []) := by kernel_rfl
theorem c132_2 {N : Nat} : ∀ n x0 x1 x5 r, yBu N n x0 x1 x5 = some r → Reach Try.prog Try.f132 I132 (stkAt 2 I132.body) (S132_2 x0 x1 x5) (yAO r) := by
 intro n
 induction n with
 | zero => intro x0 x1 x5 r h; have h' : (none : Option (Int)) = some r := h; cases h'
 | succ n ih =>
  intro x0 x1 x5 r h
  rw [yBu] at h
  rcases cond_inv h with ⟨h0, h⟩ | ⟨h0, h⟩
  ·obtain ⟨h1, h⟩ := ite_inv h
   rcases cond_inv h with ⟨h2, h⟩ | ⟨h2, h⟩
   ·obtain rfl := Option.some.inj h
    exact Reach.done ttok mix fk132 (p132_2_0 x0 x1 x5) (obs_cons h0 (obs_cons h1 (obs_cons h2 obs_nil)))
   ·rcases cond_inv h with ⟨h4, h⟩ | ⟨h4, h⟩
    ·obtain rfl := Option.some.inj h
     exact Reach.done ttok mix fk132 (p132_2_1 x0 x1 x5) (obs_cons h0 (obs_cons h1 (obs_cons h2 (obs_cons h1 (obs_cons h4 obs_nil)))))
    ·exact Reach.stop ttok mix fk132 (p132_2_2 x0 x1 x5) (obs_cons h0 (obs_cons h1 (obs_cons h2 (obs_cons h1 (obs_cons h4 obs_nil))))) (ih _ _ _ _ h)
  ·obtain rfl := Option.some.inj h
   exact Reach.done ttok mix fk132 (p132_2_3 x0 x1 x5) (obs_cons h0 obs_nil)
theorem c132_e {N : Nat} : ∀ a0 a1 r, yDo N a0 a1 = some r → Reach Try.prog Try.f132 I132 [.code I132.body] (zBg 0 (yCC a0 a1)) (yAO r) := by
 intro a0 a1 r h
 unfold yDo at h
 exact Reach.stop ttok mix fk132 (p132_e_4 a0 a1) obs_nil (c132_2   _ _ _ _ _ h)
theorem yE0 {N : Nat} {a0 : List Org} {a1 : Int} {r : Int} (h : yDo N  a0 a1 = some r) : AbC 132 (yCC a0 a1) (yAO r) :=
 AbsCalls.of_reach fk132 rfl rfl (Nat.le_of_ble_eq_true rfl) (c132_e a0 a1 r h)
noncomputable def I84 : Info := { body := (Try.f84.body).getD .skip, nt := 31, results := [.tmp 4], keep := [0, 2, 8, 10, 18, 40, 58], live := [(2, [0, 2, 10])], modes := [], ext := [], lnt := [], casts := [], fcast := [] }
theorem fk84 : FnOk Try.prog 84 Try.f84 I84 := ⟨Try.func84, by kernel_rfl, by kernel_rfl, by kernel_rfl, by kernel_rfl⟩
def S84_2 (x0 : List Rowd) (x1 x5 : Int) : St := [(0, .v false [.sl .ro .row x0]), (2, .v false [.int .i64 x1]), (10, .v false [.int .i64 x5])]
theorem p84_2_0 (x0 : List Rowd) (x1 x5 r1 : Int) : run tt (AbsCalls Try.prog) I84 3000 true (stkAt 2 I84.body) ⟨(S84_2 x0 x1 x5), [true, true], [yA6 r1], []⟩ = some (.done (yAD (-1)) [(decide ((x5 : Int) < (List.length x0 : Int))) = true, (0 : Int) ≤ x5 ∧ x5 < (List.length x0), AbC 131 (yCL (Rowd.cells (List.getD x0 (Int.toNat x5) Ty.row.dflt)) x1) (yA6 r1), (decide ((r1 : Int) < 0)) = true]) := by kernel_rfl
theorem p84_2_1 (x0 : List Rowd) (x1 x5 r1 r2 : Int) : run tt (AbsCalls Try.prog) I84 3000 true (stkAt 2 I84.body) ⟨(S84_2 x0 x1 x5), [true, false, true], [yA6 r1, yAO r2], []⟩ = some (.done (yAD (-1)) [(decide ((x5 : Int) < (List.length x0 : Int))) = true, (0 : Int) ≤ x5 ∧ x5 < (List.length x0), AbC 131 (yCL (Rowd.cells (List.getD x0 (Int.toNat x5) Ty.row.dflt)) x1) (yA6 r1), (decide ((r1 : Int) < 0)) = false, (0 : Int) ≤ x5 ∧ x5 < (List.length x0), AbC 132 (yCC (Rowd.frm (List.getD x0 (Int.toNat x5) Ty.row.dflt)) r1) (yAO r2), (decide ((r2 : Int) < 0)) = true]) := by kernel_rfl
theorem p84_2_2 (x0 : List Rowd) (x1 x5 r1 r2 : Int) : run tt (AbsCalls Try.prog) I84 3000 true (stkAt 2 I84.body) ⟨(S84_2 x0 x1 x5), [true, false, false], [yA6 r1, yAO r2], []⟩ = some (.stop (stkAt 2 I84.body) (S84_2 x0 r2 (IntKind.i64.wrap (x5 + 1))) [(decide ((x5 : Int) < (List.length x0 : Int))) = true, (0 : Int) ≤ x5 ∧ x5 < (List.length x0), AbC 131 (yCL (Rowd.cells (List.getD x0 (Int.toNat x5) Ty.row.dflt)) x1) (yA6 r1), (decide ((r1 : Int) < 0)) = false, (0 : Int) ≤ x5 ∧ x5 < (List.length x0), AbC 132 (yCC (Rowd.frm (List.getD x0 (Int.toNat x5) Ty.row.dflt)) r1) (yAO r2), (decide ((r2 : Int) < 0)) = false]) := by kernel_rfl
theorem p84_2_3 (x0 : List Rowd) (x1 x5 : Int) : run tt (AbsCalls Try.prog) I84 3000 true (stkAt 2 I84.body) ⟨(S84_2 x0 x1 x5), [false], [], []⟩ = some (.done (yAD x1) [(decide ((x5 : Int) < (List.length x0 : Int))) = false]) := by kernel_rfl
theorem p84_e_4 (a0 : List Rowd) (a1 : Int) : run tt (AbsCalls Try.prog) I84 3000 false [.code I84.body] ⟨(zBg 0 (yCf a0 a1)), [], [], []⟩ = some (.stop (stkAt 2 I84.body) (S84_2 a0 a1 0) []) := by kernel_rfl
theorem c84_2 {N : Nat} : ∀ n x0 x1 x5 r, yCg N n x0 x1 x5 = some r → Reach Try.prog Try.f84 I84 (stkAt 2 I84.body) (S84_2 x0 x1 x5) (yAD r) := by
 intro n
 induction n with
 | zero => intro x0 x1 x5 r h; have h' : (none : Option (Int)) = some r := h; cases h'
 | succ n ih =>
  intro x0 x1 x5 r h
  rw [yCg] at h
  rcases cond_inv h with ⟨h0, h⟩ | ⟨h0, h⟩
  ·obtain ⟨h1, h⟩ := ite_inv h
   obtain ⟨r1, h2, h⟩ := bind_inv h
   rcases cond_inv h with ⟨h3, h⟩ | ⟨h3, h⟩
   ·obtain rfl := Option.some.inj h
    exact Reach.done ttok mix fk84 (p84_2_0 x0 x1 x5 r1) (obs_cons h0 (obs_cons h1 (obs_cons (yEQ h2) (obs_cons h3 obs_nil))))
   ·obtain ⟨r2, h5, h⟩ := bind_inv h
    rcases cond_inv h with ⟨h6, h⟩ | ⟨h6, h⟩
    ·obtain rfl := Option.some.inj h
     exact Reach.done ttok mix fk84 (p84_2_1 x0 x1 x5 r1 r2) (obs_cons h0 (obs_cons h1 (obs_cons (yEQ h2) (obs_cons h3 (obs_cons h1 (obs_cons (yE0 h5) (obs_cons h6 obs_nil)))))))
    ·exact Reach.stop ttok mix fk84 (p84_2_2 x0 x1 x5 r1 r2) (obs_cons h0 (obs_cons h1 (obs_cons (yEQ h2) (obs_cons h3 (obs_cons h1 (obs_cons (yE0 h5) (obs_cons h6 obs_nil))))))) (ih _ _ _ _ h)
  ·obtain rfl := Option.some.inj h
   exact Reach.done ttok mix fk84 (p84_2_3 x0 x1 x5) (obs_cons h0 obs_nil)
theorem c84_e {N : Nat} : ∀ a0 a1 r, yDV N a0 a1 = some r → Reach Try.prog Try.f84 I84 [.code I84.body] (zBg 0 (yCf a0 a1)) (yAD r) := by
 intro a0 a1 r h
 unfold yDV at h
 exact Reach.stop ttok mix fk84 (p84_e_4 a0 a1) obs_nil (c84_2   _ _ _ _ _ h)
theorem yEg {N : Nat} {a0 : List Rowd} {a1 : Int} {r : Int} (h : yDV N  a0 a1 = some r) : AbC 84 (yCf a0 a1) (yAD r) :=
 AbsCalls.of_reach fk84 rfl rfl (Nat.le_of_ble_eq_true rfl) (c84_e a0 a1 r h)
noncomputable def I82 : Info := { body := (Try.f82.body).getD .skip, nt := 77, results := [.tmp 4], keep := [0, 2, 8, 10, 18, 36, 54, 72, 92, 114, 132, 150], live := [(2, [0, 2, 10])], modes := [], ext := [], lnt := [], casts := [], fcast := [] }
theorem fk82 : FnOk Try.prog 82 Try.f82 I82 := ⟨Try.func82, by kernel_rfl, by kernel_rfl, by kernel_rfl, by kernel_rfl⟩
def S82_2 (x0 : List Val) (x1 x5 : Int) : St := [(0, .v false [.sl .ro .val x0]), (2, .v false [.int .i64 x1]), (10, .v false [.int .i64 x5])]
theorem p82_2_0 (x0 : List Val) (x1 x5 : Int) : run tt (AbsCalls Try.prog) I82 3000 true (stkAt 2 I82.body) ⟨(S82_2 x0 x1 x5), [true, true], [], []⟩ = some (.done (yAe (-1)) [(decide ((x5 : Int) < (List.length x0 : Int))) = true, (0 : Int) ≤ x5 ∧ x5 < (List.length x0), (((Val.kind (List.getD x0 (Int.toNat x5) Ty.val.dflt)) : Int) != x1) = true]) := by kernel_rfl
theorem p82_2_1 (x0 : List Val) (x1 x5 : Int) : run tt (AbsCalls Try.prog) I82 3000 true (stkAt 2 I82.body) ⟨(S82_2 x0 x1 x5), [true, false, true], [], []⟩ = some (.done (yAe (-1)) [(decide ((x5 : Int) < (List.length x0 : Int))) = true, (0 : Int) ≤ x5 ∧ x5 < (List.length x0), (((Val.kind (List.getD x0 (Int.toNat x5) Ty.val.dflt)) : Int) != x1) = false, (0 : Int) ≤ x5 ∧ x5 < (List.length x0), (((Val.n (List.getD x0 (Int.toNat x5) Ty.val.dflt)) : Int) != (IntKind.i64.wrap (x1 + 1))) = true]) := by kernel_rfl
theorem p82_2_2 (x0 : List Val) (x1 x5 : Int) : run tt (AbsCalls Try.prog) I82 3000 true (stkAt 2 I82.body) ⟨(S82_2 x0 x1 x5), [true, false, false, true], [], []⟩ = some (.done (yAe (-1)) [(decide ((x5 : Int) < (List.length x0 : Int))) = true, (0 : Int) ≤ x5 ∧ x5 < (List.length x0), (((Val.kind (List.getD x0 (Int.toNat x5) Ty.val.dflt)) : Int) != x1) = false, (0 : Int) ≤ x5 ∧ x5 < (List.length x0), (((Val.n (List.getD x0 (Int.toNat x5) Ty.val.dflt)) : Int) != (IntKind.i64.wrap (x1 + 1))) = false, (0 : Int) ≤ x5 ∧ x5 < (List.length x0), (((Val.step (List.getD x0 (Int.toNat x5) Ty.val.dflt)) : Int) != (IntKind.i64.wrap ((IntKind.i64.wrap (x1 + 1)) + 1))) = true]) := by kernel_rfl
theorem p82_2_3 (x0 : List Val) (x1 x5 : Int) (r1 : Str) : run tt (AbsCalls Try.prog) I82 3000 true (stkAt 2 I82.body) ⟨(S82_2 x0 x1 x5), [true, false, false, false, true], [yAi r1], []⟩ = some (.done (yAe (-1)) [(decide ((x5 : Int) < (List.length x0 : Int))) = true, (0 : Int) ≤ x5 ∧ x5 < (List.length x0), (((Val.kind (List.getD x0 (Int.toNat x5) Ty.val.dflt)) : Int) != x1) = false, (0 : Int) ≤ x5 ∧ x5 < (List.length x0), (((Val.n (List.getD x0 (Int.toNat x5) Ty.val.dflt)) : Int) != (IntKind.i64.wrap (x1 + 1))) = false, (0 : Int) ≤ x5 ∧ x5 < (List.length x0), (((Val.step (List.getD x0 (Int.toNat x5) Ty.val.dflt)) : Int) != (IntKind.i64.wrap ((IntKind.i64.wrap (x1 + 1)) + 1))) = false, (0 : Int) ≤ x5 ∧ x5 < (List.length x0), AbC 79 (yAK (IntKind.i64.wrap ((IntKind.i64.wrap ((IntKind.i64.wrap (x1 + 1)) + 1)) + 1))) (yAi r1), (!(((Val.text (List.getD x0 (Int.toNat x5) Ty.val.dflt)) : Str) == r1)) = true]) := by kernel_rfl
theorem p82_2_4 (x0 : List Val) (x1 x5 : Int) (r1 : Str) (r2 : Int) : run tt (AbsCalls Try.prog) I82 3000 true (stkAt 2 I82.body) ⟨(S82_2 x0 x1 x5), [true, false, false, false, false, true], [yAi r1, yAe r2], []⟩ = some (.done (yAe (-1)) [(decide ((x5 : Int) < (List.length x0 : Int))) = true, (0 : Int) ≤ x5 ∧ x5 < (List.length x0), (((Val.kind (List.getD x0 (Int.toNat x5) Ty.val.dflt)) : Int) != x1) = false, (0 : Int) ≤ x5 ∧ x5 < (List.length x0), (((Val.n (List.getD x0 (Int.toNat x5) Ty.val.dflt)) : Int) != (IntKind.i64.wrap (x1 + 1))) = false, (0 : Int) ≤ x5 ∧ x5 < (List.length x0), (((Val.step (List.getD x0 (Int.toNat x5) Ty.val.dflt)) : Int) != (IntKind.i64.wrap ((IntKind.i64.wrap (x1 + 1)) + 1))) = false, (0 : Int) ≤ x5 ∧ x5 < (List.length x0), AbC 79 (yAK (IntKind.i64.wrap ((IntKind.i64.wrap ((IntKind.i64.wrap (x1 + 1)) + 1)) + 1))) (yAi r1), (!(((Val.text (List.getD x0 (Int.toNat x5) Ty.val.dflt)) : Str) == r1)) = false, (0 : Int) ≤ x5 ∧ x5 < (List.length x0), AbC 82 (yAn (Val.list (List.getD x0 (Int.toNat x5) Ty.val.dflt)) (IntKind.i64.wrap ((IntKind.i64.wrap ((IntKind.i64.wrap ((IntKind.i64.wrap (x1 + 1)) + 1)) + 1)) + 1))) (yAe r2), (decide ((r2 : Int) < 0)) = true]) := by kernel_rfl
theorem p82_2_5 (x0 : List Val) (x1 x5 : Int) (r1 : Str) (r2 r3 : Int) : run tt (AbsCalls Try.prog) I82 3000 true (stkAt 2 I82.body) ⟨(S82_2 x0 x1 x5), [true, false, false, false, false, false, true], [yAi r1, yAe r2, yAj r3], []⟩ = some (.done (yAe (-1)) [(decide ((x5 : Int) < (List.length x0 : Int))) = true, (0 : Int) ≤ x5 ∧ x5 < (List.length x0), (((Val.kind (List.getD x0 (Int.toNat x5) Ty.val.dflt)) : Int) != x1) = false, (0 : Int) ≤ x5 ∧ x5 < (List.length x0), (((Val.n (List.getD x0 (Int.toNat x5) Ty.val.dflt)) : Int) != (IntKind.i64.wrap (x1 + 1))) = false, (0 : Int) ≤ x5 ∧ x5 < (List.length x0), (((Val.step (List.getD x0 (Int.toNat x5) Ty.val.dflt)) : Int) != (IntKind.i64.wrap ((IntKind.i64.wrap (x1 + 1)) + 1))) = false, (0 : Int) ≤ x5 ∧ x5 < (List.length x0), AbC 79 (yAK (IntKind.i64.wrap ((IntKind.i64.wrap ((IntKind.i64.wrap (x1 + 1)) + 1)) + 1))) (yAi r1), (!(((Val.text (List.getD x0 (Int.toNat x5) Ty.val.dflt)) : Str) == r1)) = false, (0 : Int) ≤ x5 ∧ x5 < (List.length x0), AbC 82 (yAn (Val.list (List.getD x0 (Int.toNat x5) Ty.val.dflt)) (IntKind.i64.wrap ((IntKind.i64.wrap ((IntKind.i64.wrap ((IntKind.i64.wrap (x1 + 1)) + 1)) + 1)) + 1))) (yAe r2), (decide ((r2 : Int) < 0)) = false, (0 : Int) ≤ x5 ∧ x5 < (List.length x0), AbC 83 (yA1 (Val.columns (List.getD x0 (Int.toNat x5) Ty.val.dflt)) r2) (yAj r3), (decide ((r3 : Int) < 0)) = true]) := by kernel_rfl
theorem p82_2_6 (x0 : List Val) (x1 x5 : Int) (r1 : Str) (r2 r3 r4 : Int) : run tt (AbsCalls Try.prog) I82 3000 true (stkAt 2 I82.body) ⟨(S82_2 x0 x1 x5), [true, false, false, false, false, false, false, true], [yAi r1, yAe r2, yAj r3, yAD r4], []⟩ = some (.done (yAe (-1)) [(decide ((x5 : Int) < (List.length x0 : Int))) = true, (0 : Int) ≤ x5 ∧ x5 < (List.length x0), (((Val.kind (List.getD x0 (Int.toNat x5) Ty.val.dflt)) : Int) != x1) = false, (0 : Int) ≤ x5 ∧ x5 < (List.length x0), (((Val.n (List.getD x0 (Int.toNat x5) Ty.val.dflt)) : Int) != (IntKind.i64.wrap (x1 + 1))) = false, (0 : Int) ≤ x5 ∧ x5 < (List.length x0), (((Val.step (List.getD x0 (Int.toNat x5) Ty.val.dflt)) : Int) != (IntKind.i64.wrap ((IntKind.i64.wrap (x1 + 1)) + 1))) = false, (0 : Int) ≤ x5 ∧ x5 < (List.length x0), AbC 79 (yAK (IntKind.i64.wrap ((IntKind.i64.wrap ((IntKind.i64.wrap (x1 + 1)) + 1)) + 1))) (yAi r1), (!(((Val.text (List.getD x0 (Int.toNat x5) Ty.val.dflt)) : Str) == r1)) = false, (0 : Int) ≤ x5 ∧ x5 < (List.length x0), AbC 82 (yAn (Val.list (List.getD x0 (Int.toNat x5) Ty.val.dflt)) (IntKind.i64.wrap ((IntKind.i64.wrap ((IntKind.i64.wrap ((IntKind.i64.wrap (x1 + 1)) + 1)) + 1)) + 1))) (yAe r2), (decide ((r2 : Int) < 0)) = false, (0 : Int) ≤ x5 ∧ x5 < (List.length x0), AbC 83 (yA1 (Val.columns (List.getD x0 (Int.toNat x5) Ty.val.dflt)) r2) (yAj r3), (decide ((r3 : Int) < 0)) = false, (0 : Int) ≤ x5 ∧ x5 < (List.length x0), AbC 84 (yCf (Val.rows (List.getD x0 (Int.toNat x5) Ty.val.dflt)) r3) (yAD r4), (decide ((r4 : Int) < 0)) = true]) := by kernel_rfl
theorem p82_2_7 (x0 : List Val) (x1 x5 : Int) (r1 : Str) (r2 r3 r4 : Int) : run tt (AbsCalls Try.prog) I82 3000 true (stkAt 2 I82.body) ⟨(S82_2 x0 x1 x5), [true, false, false, false, false, false, false, false], [yAi r1, yAe r2, yAj r3, yAD r4], []⟩ = some (.stop (stkAt 2 I82.body) (S82_2 x0 r4 (IntKind.i64.wrap (x5 + 1))) [(decide ((x5 : Int) < (List.length x0 : Int))) = true, (0 : Int) ≤ x5 ∧ x5 < (List.length x0), (((Val.kind (List.getD x0 (Int.toNat x5) Ty.val.dflt)) : Int) != x1) = false, (0 : Int) ≤ x5 ∧ x5 < (List.length x0), (((Val.n (List.getD x0 (Int.toNat x5) Ty.val.dflt)) : Int) != (IntKind.i64.wrap (x1 + 1))) = false, (0 : Int) ≤ x5 ∧ x5 < (List.length x0), (((Val.step (List.getD x0 (Int.toNat x5) Ty.val.dflt)) : Int) != (IntKind.i64.wrap ((IntKind.i64.wrap (x1 + 1)) + 1))) = false, (0 : Int) ≤ x5 ∧ x5 < (List.length x0), AbC 79 (yAK (IntKind.i64.wrap ((IntKind.i64.wrap ((IntKind.i64.wrap (x1 + 1)) + 1)) + 1))) (yAi r1), (!(((Val.text (List.getD x0 (Int.toNat x5) Ty.val.dflt)) : Str) == r1)) = false, (0 : Int) ≤ x5 ∧ x5 < (List.length x0), AbC 82 (yAn (Val.list (List.getD x0 (Int.toNat x5) Ty.val.dflt)) (IntKind.i64.wrap ((IntKind.i64.wrap ((IntKind.i64.wrap ((IntKind.i64.wrap (x1 + 1)) + 1)) + 1)) + 1))) (yAe r2), (decide ((r2 : Int) < 0)) = false, (0 : Int) ≤ x5 ∧ x5 < (List.length x0), AbC 83 (yA1 (Val.columns (List.getD x0 (Int.toNat x5) Ty.val.dflt)) r2) (yAj r3), (decide ((r3 : Int) < 0)) = false, (0 : Int) ≤ x5 ∧ x5 < (List.length x0), AbC 84 (yCf (Val.rows (List.getD x0 (Int.toNat x5) Ty.val.dflt)) r3) (yAD r4), (decide ((r4 : Int) < 0)) = false]) := by kernel_rfl
theorem p82_2_8 (x0 : List Val) (x1 x5 : Int) : run tt (AbsCalls Try.prog) I82 3000 true (stkAt 2 I82.body) ⟨(S82_2 x0 x1 x5), [false], [], []⟩ = some (.done (yAe x1) [(decide ((x5 : Int) < (List.length x0 : Int))) = false]) := by kernel_rfl
theorem p82_e_9 (a0 : List Val) (a1 : Int) : run tt (AbsCalls Try.prog) I82 3000 false [.code I82.body] ⟨(zBg 0 (yAn a0 a1)), [], [], []⟩ = some (.stop (stkAt 2 I82.body) (S82_2 a0 a1 0) []) := by kernel_rfl
theorem c82_2 {N : Nat} {rc_laws_heldValueS : (List Val) → Int → Option (Int)} (hrc_laws_heldValueS : ∀ a0 a1 r, rc_laws_heldValueS a0 a1 = some r → AbC 82 (yAn a0 a1) (yAe r)) : ∀ n x0 x1 x5 r, yBJ N rc_laws_heldValueS n x0 x1 x5 = some r → Reach Try.prog Try.f82 I82 (stkAt 2 I82.body) (S82_2 x0 x1 x5) (yAe r) := by
 intro n
 induction n with
 | zero => intro x0 x1 x5 r h; have h' : (none : Option (Int)) = some r := h; cases h'
 | succ n ih =>
  intro x0 x1 x5 r h
  rw [yBJ] at h
  rcases cond_inv h with ⟨h0, h⟩ | ⟨h0, h⟩
  ·obtain ⟨h1, h⟩ := ite_inv h
   rcases cond_inv h with ⟨h2, h⟩ | ⟨h2, h⟩
   ·obtain rfl := Option.some.inj h
    exact Reach.done ttok mix fk82 (p82_2_0 x0 x1 x5) (obs_cons h0 (obs_cons h1 (obs_cons h2 obs_nil)))
   ·rcases cond_inv h with ⟨h4, h⟩ | ⟨h4, h⟩
    ·obtain rfl := Option.some.inj h
     exact Reach.done ttok mix fk82 (p82_2_1 x0 x1 x5) (obs_cons h0 (obs_cons h1 (obs_cons h2 (obs_cons h1 (obs_cons h4 obs_nil)))))
    ·rcases cond_inv h with ⟨h6, h⟩ | ⟨h6, h⟩
     ·obtain rfl := Option.some.inj h
      exact Reach.done ttok mix fk82 (p82_2_2 x0 x1 x5) (obs_cons h0 (obs_cons h1 (obs_cons h2 (obs_cons h1 (obs_cons h4 (obs_cons h1 (obs_cons h6 obs_nil)))))))
     ·obtain ⟨r1, h8, h⟩ := bind_inv h
      rcases cond_inv h with ⟨h9, h⟩ | ⟨h9, h⟩
      ·obtain rfl := Option.some.inj h
       exact Reach.done ttok mix fk82 (p82_2_3 x0 x1 x5 r1) (obs_cons h0 (obs_cons h1 (obs_cons h2 (obs_cons h1 (obs_cons h4 (obs_cons h1 (obs_cons h6 (obs_cons h1 (obs_cons (yBq h8) (obs_cons h9 obs_nil))))))))))
      ·obtain ⟨r2, h11, h⟩ := bind_inv h
       rcases cond_inv h with ⟨h12, h⟩ | ⟨h12, h⟩
       ·obtain rfl := Option.some.inj h
        exact Reach.done ttok mix fk82 (p82_2_4 x0 x1 x5 r1 r2) (obs_cons h0 (obs_cons h1 (obs_cons h2 (obs_cons h1 (obs_cons h4 (obs_cons h1 (obs_cons h6 (obs_cons h1 (obs_cons (yBq h8) (obs_cons h9 (obs_cons h1 (obs_cons (hrc_laws_heldValueS _ _ _ h11) (obs_cons h12 obs_nil)))))))))))))
       ·obtain ⟨r3, h14, h⟩ := bind_inv h
        rcases cond_inv h with ⟨h15, h⟩ | ⟨h15, h⟩
        ·obtain rfl := Option.some.inj h
         exact Reach.done ttok mix fk82 (p82_2_5 x0 x1 x5 r1 r2 r3) (obs_cons h0 (obs_cons h1 (obs_cons h2 (obs_cons h1 (obs_cons h4 (obs_cons h1 (obs_cons h6 (obs_cons h1 (obs_cons (yBq h8) (obs_cons h9 (obs_cons h1 (obs_cons (hrc_laws_heldValueS _ _ _ h11) (obs_cons h12 (obs_cons h1 (obs_cons (yBY h14) (obs_cons h15 obs_nil))))))))))))))))
        ·obtain ⟨r4, h17, h⟩ := bind_inv h
         rcases cond_inv h with ⟨h18, h⟩ | ⟨h18, h⟩
         ·obtain rfl := Option.some.inj h
          exact Reach.done ttok mix fk82 (p82_2_6 x0 x1 x5 r1 r2 r3 r4) (obs_cons h0 (obs_cons h1 (obs_cons h2 (obs_cons h1 (obs_cons h4 (obs_cons h1 (obs_cons h6 (obs_cons h1 (obs_cons (yBq h8) (obs_cons h9 (obs_cons h1 (obs_cons (hrc_laws_heldValueS _ _ _ h11) (obs_cons h12 (obs_cons h1 (obs_cons (yBY h14) (obs_cons h15 (obs_cons h1 (obs_cons (yEg h17) (obs_cons h18 obs_nil)))))))))))))))))))
         ·exact Reach.stop ttok mix fk82 (p82_2_7 x0 x1 x5 r1 r2 r3 r4) (obs_cons h0 (obs_cons h1 (obs_cons h2 (obs_cons h1 (obs_cons h4 (obs_cons h1 (obs_cons h6 (obs_cons h1 (obs_cons (yBq h8) (obs_cons h9 (obs_cons h1 (obs_cons (hrc_laws_heldValueS _ _ _ h11) (obs_cons h12 (obs_cons h1 (obs_cons (yBY h14) (obs_cons h15 (obs_cons h1 (obs_cons (yEg h17) (obs_cons h18 obs_nil))))))))))))))))))) (ih _ _ _ _ h)
  ·obtain rfl := Option.some.inj h
   exact Reach.done ttok mix fk82 (p82_2_8 x0 x1 x5) (obs_cons h0 obs_nil)
theorem c82_e {N : Nat} {rc_laws_heldValueS : (List Val) → Int → Option (Int)} (hrc_laws_heldValueS : ∀ a0 a1 r, rc_laws_heldValueS a0 a1 = some r → AbC 82 (yAn a0 a1) (yAe r)) : ∀ a0 a1 r, yC2 N rc_laws_heldValueS a0 a1 = some r → Reach Try.prog Try.f82 I82 [.code I82.body] (zBg 0 (yAn a0 a1)) (yAe r) := by
 intro a0 a1 r h
 unfold yC2 at h
 exact Reach.stop ttok mix fk82 (p82_e_9 a0 a1) obs_nil (c82_2 hrc_laws_heldValueS  _ _ _ _ _ h)
theorem yFv {N : Nat} {rc_laws_heldValueS : (List Val) → Int → Option (Int)} (hrc_laws_heldValueS : ∀ a0 a1 r, rc_laws_heldValueS a0 a1 = some r → AbC 82 (yAn a0 a1) (yAe r)) {a0 : List Val} {a1 : Int} {r : Int} (h : yC2 N rc_laws_heldValueS a0 a1 = some r) : AbC 82 (yAn a0 a1) (yAe r) :=
 AbsCalls.of_reach fk82 rfl rfl (Nat.le_of_ble_eq_true rfl) (c82_e hrc_laws_heldValueS a0 a1 r h)
theorem yFH {N : Nat} : ∀ d, (∀ a0 a1 r, yCD N d a0 a1 = some r → AbC 82 (yAn a0 a1) (yAe r)) := by
 intro d
 induction d with
 | zero => intro _ _ r h; have h' : (none : Option (Int)) = some r := h; cases h'
 | succ d ih => intro _ _ r h; exact yFv (N := N) ih h
theorem yDJ {N : Nat} {a0 : List Val} {a1 : Int} {r : Int} (h : yE1 N a0 a1 = some r) : AbC 82 (yAn a0 a1) (yAe r) := yFH N _ _ r h
noncomputable def I23 : Info := { body := (Try.f23.body).getD .skip, nt := 24, results := [.tmp 4], keep := [0, 2, 4, 8, 20, 32, 44, 5], live := [], modes := [], ext := [], lnt := [], casts := [], fcast := [] }
theorem fk23 : FnOk Try.prog 23 Try.f23 I23 := ⟨Try.func23, by kernel_rfl, by kernel_rfl, by kernel_rfl, by kernel_rfl⟩
theorem p23_e_0 (a0 : Val) (a1 r1 : Int) : run tt (AbsCalls Try.prog) I23 3000 false [.code I23.body] ⟨(zBg 0 (yCt a0 a1)), [true], [yAe r1], []⟩ = some (.done (yCu (-1)) [AbC 82 (yAn (Val.list a0) a1) (yAe r1), (decide ((r1 : Int) < 0)) = true]) := by kernel_rfl
theorem p23_e_1 (a0 : Val) (a1 r1 r2 : Int) : run tt (AbsCalls Try.prog) I23 3000 false [.code I23.body] ⟨(zBg 0 (yCt a0 a1)), [false, true], [yAe r1, yAj r2], []⟩ = some (.done (yCu (-1)) [AbC 82 (yAn (Val.list a0) a1) (yAe r1), (decide ((r1 : Int) < 0)) = false, AbC 83 (yA1 (Val.columns a0) r1) (yAj r2), (decide ((r2 : Int) < 0)) = true]) := by kernel_rfl
theorem p23_e_2 (a0 : Val) (a1 r1 r2 r3 : Int) : run tt (AbsCalls Try.prog) I23 3000 false [.code I23.body] ⟨(zBg 0 (yCt a0 a1)), [false, false, true], [yAe r1, yAj r2, yAD r3], []⟩ = some (.done (yCu (-1)) [AbC 82 (yAn (Val.list a0) a1) (yAe r1), (decide ((r1 : Int) < 0)) = false, AbC 83 (yA1 (Val.columns a0) r1) (yAj r2), (decide ((r2 : Int) < 0)) = false, AbC 84 (yCf (Val.rows a0) r2) (yAD r3), (decide ((r3 : Int) < 0)) = true]) := by kernel_rfl
theorem p23_e_3 (a0 : Val) (a1 r1 r2 r3 : Int) : run tt (AbsCalls Try.prog) I23 3000 false [.code I23.body] ⟨(zBg 0 (yCt a0 a1)), [false, false, false], [yAe r1, yAj r2, yAD r3], []⟩ = some (.done (yCu r3) [AbC 82 (yAn (Val.list a0) a1) (yAe r1), (decide ((r1 : Int) < 0)) = false, AbC 83 (yA1 (Val.columns a0) r1) (yAj r2), (decide ((r2 : Int) < 0)) = false, AbC 84 (yCf (Val.rows a0) r2) (yAD r3), (decide ((r3 : Int) < 0)) = false]) := by kernel_rfl
theorem c23_e {N : Nat} : ∀ a0 a1 r, yDB N a0 a1 = some r → Reach Try.prog Try.f23 I23 [.code I23.body] (zBg 0 (yCt a0 a1)) (yCu r) := by
 intro a0 a1 r h
 unfold yDB at h
 obtain ⟨r1, h0, h⟩ := bind_inv h
 rcases cond_inv h with ⟨h1, h⟩ | ⟨h1, h⟩
 ·obtain rfl := Option.some.inj h
  exact Reach.done ttok mix fk23 (p23_e_0 a0 a1 r1) (obs_cons (yDJ h0) (obs_cons h1 obs_nil))
 ·obtain ⟨r2, h2, h⟩ := bind_inv h
  rcases cond_inv h with ⟨h3, h⟩ | ⟨h3, h⟩
  ·obtain rfl := Option.some.inj h
   exact Reach.done ttok mix fk23 (p23_e_1 a0 a1 r1 r2) (obs_cons (yDJ h0) (obs_cons h1 (obs_cons (yBY h2) (obs_cons h3 obs_nil))))
  ·obtain ⟨r3, h4, h⟩ := bind_inv h
   rcases cond_inv h with ⟨h5, h⟩ | ⟨h5, h⟩
   ·obtain rfl := Option.some.inj h
    exact Reach.done ttok mix fk23 (p23_e_2 a0 a1 r1 r2 r3) (obs_cons (yDJ h0) (obs_cons h1 (obs_cons (yBY h2) (obs_cons h3 (obs_cons (yEg h4) (obs_cons h5 obs_nil))))))
   ·obtain rfl := Option.some.inj h
    exact Reach.done ttok mix fk23 (p23_e_3 a0 a1 r1 r2 r3) (obs_cons (yDJ h0) (obs_cons h1 (obs_cons (yBY h2) (obs_cons h3 (obs_cons (yEg h4) (obs_cons h5 obs_nil))))))
theorem laws_heldValue_ok {N : Nat} {a0 : Val} {a1 : Int} {r : Int} (h : yDB N  a0 a1 = some r) : AbC 23 (yCt a0 a1) (yCu r) :=
 AbsCalls.of_reach fk23 rfl rfl (Nat.le_of_ble_eq_true rfl) (c23_e a0 a1 r h)
end Go.Ab.T
end
