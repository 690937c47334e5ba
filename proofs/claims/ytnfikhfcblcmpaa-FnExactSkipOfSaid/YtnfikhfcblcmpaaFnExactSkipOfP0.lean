/- The statement FnExactSkipOf holds: plain functions, certificates, laws. Conditions: none. -/
import Derived.Test.YtnfikhfcblcmpaaChecked
import Derived.Test.YtnfikhfcblcmpaaProg
import Derived.Test.YtnfikhfcblcmpaaRows
import Derived.Test.YtnfikhfcblcmpaaL2
set_option linter.all false
section
namespace Go.Ab
set_option linter.unusedVariables false
def xEA (a0 : List Val) (a1 : Int) : List Arg := [.val (.v false [.sl .ro .val []]), .val (.v false [.int .i64 a1])]
def xC0 (r : Int) : CallO := ⟨.v false [.int .i64 r], [], []⟩
def xEB (N : Nat) : Nat → Int → Int → Option (Int)
  | 0, _, _ => none
  | n + 1, x1, x5 =>
    bif (decide ((x5 : Int) < (0 : Int))) then (
      if (0 : Int) ≤ x5 ∧ x5 < (0) then
      none
      else none
    ) else (
      some x1
    )
def xEH (N : Nat) (a0 : List Val) (a1 : Int) : Option (Int) :=
  (xEB N N a1 0)
def xDk (a0 : List Str) (a1 : Int) : List Arg := [.val (.v false [.sl .ro .str a0]), .val (.v false [.int .i64 a1])]
def xBE (r : Int) : CallO := ⟨.v false [.int .i64 r], [], []⟩
def xEI (N : Nat) : Nat → (List Str) → Int → Int → Option (Int)
  | 0, _, _, _ => none
  | n + 1, x0, x1, x5 =>
    bif (decide ((x5 : Int) < (List.length x0 : Int))) then (
      if (0 : Int) ≤ x5 ∧ x5 < (List.length x0) then
      bif (decide (((IntKind.i64.wrap (x1 - (List.length (List.getD x0 (Int.toNat x5) Ty.str.dflt) : Int))) : Int) < 0)) then (
        some (-1)
      ) else (
        (xEI N n x0 (IntKind.i64.wrap (x1 - (List.length (List.getD x0 (Int.toNat x5) Ty.str.dflt) : Int))) (IntKind.i64.wrap (x5 + 1)))
      )
      else none
    ) else (
      some x1
    )
def xF0 (N : Nat) (a0 : List Str) (a1 : Int) : Option (Int) :=
  bif (decide (((IntKind.i64.wrap (a1 - (List.length a0 : Int))) : Int) < 0)) then (
    some (-1)
  ) else (
    (xEI N N a0 (IntKind.i64.wrap (a1 - (List.length a0 : Int))) 0)
  )
def xEx (a0 : List Int) (a1 : Int) : List Arg := [.val (.v false [.sl .ro .int a0]), .val (.v false [.int .i64 a1])]
def xCL (r : Int) : CallO := ⟨.v false [.int .i64 r], [], []⟩
def xHb (N : Nat) (a0 : List Int) (a1 : Int) : Option (Int) :=
  bif (decide (((IntKind.i64.wrap (a1 - (List.length a0 : Int))) : Int) < 0)) then (
    some (-1)
  ) else (
    some (IntKind.i64.wrap (a1 - (List.length a0 : Int)))
  )
def xDW (a0 : List Org) (a1 : Int) : List Arg := [.val (.v false [.sl .ro .org a0]), .val (.v false [.int .i64 a1])]
def xCE (r : Int) : CallO := ⟨.v false [.int .i64 r], [], []⟩
def xFY (N : Nat) (a0 : List Org) (a1 : Int) : Option (Int) :=
  bif (decide (((IntKind.i64.wrap (a1 - (List.length a0 : Int))) : Int) < 0)) then (
    some (-1)
  ) else (
    some (IntKind.i64.wrap (a1 - (List.length a0 : Int)))
  )
def xEZ (a0 : Rowd) (a1 : Int) : List Arg := [.val (.v true [.sl .ro .int (Rowd.cells a0), .sl .ro .org (Rowd.frm a0)]), .val (.v false [.int .i64 a1])]
def xDR (r : Int) : CallO := ⟨.v false [.int .i64 r], [], []⟩
def xGY (N : Nat) (a0 : Rowd) (a1 : Int) : Option (Int) :=
  Option.bind (xHb N (Rowd.cells a0) a1) fun r1 =>
  bif (decide ((r1 : Int) < 0)) then (
    some (-1)
  ) else (
    Option.bind (xFY N (Rowd.frm a0) r1) fun r2 =>
    bif (decide ((r2 : Int) < 0)) then (
      some (-1)
    ) else (
      some r2
    )
  )
def xFm (a0 : List Rowd) (a1 : Int) : List Arg := [.val (.v false [.sl .ro .row a0]), .val (.v false [.int .i64 a1])]
def xCM (r : Int) : CallO := ⟨.v false [.int .i64 r], [], []⟩
def xFZ (N : Nat) : Nat → (List Rowd) → Int → Int → Option (Int)
  | 0, _, _, _ => none
  | n + 1, x0, x1, x5 =>
    bif (decide ((x5 : Int) < (List.length x0 : Int))) then (
      if (0 : Int) ≤ x5 ∧ x5 < (List.length x0) then
      Option.bind (xGY N (List.getD x0 (Int.toNat x5) Ty.row.dflt) x1) fun r1 =>
      bif (decide ((r1 : Int) < 0)) then (
        some (-1)
      ) else (
        (xFZ N n x0 r1 (IntKind.i64.wrap (x5 + 1)))
      )
      else none
    ) else (
      some x1
    )
def xHc (N : Nat) (a0 : List Rowd) (a1 : Int) : Option (Int) :=
  bif (decide (((IntKind.i64.wrap (a1 - (List.length a0 : Int))) : Int) < 0)) then (
    some (-1)
  ) else (
    (xFZ N N a0 (IntKind.i64.wrap (a1 - (List.length a0 : Int))) 0)
  )
def xAl (a0 : Val) (a1 : Int) : List Arg := [.val (.v true [.int .i64 (Val.kind a0), .int .i64 (Val.n a0), .int .i64 (Val.step a0), .str (Val.text a0), .sl .ro .val (Val.list a0), .sl .ro .str (Val.columns a0), .sl .ro .row (Val.rows a0)]), .val (.v false [.int .i64 a1])]
def xAe (r : Int) : CallO := ⟨.v false [.int .i64 r], [], []⟩
def xFK (N : Nat) (rc_laws_szValue : Val → Int → Option (Int)) (rc_laws_szValueS : (List Val) → Int → Option (Int)) (a0 : Val) (a1 : Int) : Option (Int) :=
  bif (decide (((IntKind.i64.wrap (a1 - (List.length (Val.text a0) : Int))) : Int) < 0)) then (
    some (-1)
  ) else (
    Option.bind (rc_laws_szValueS (Val.list a0) (IntKind.i64.wrap (a1 - (List.length (Val.text a0) : Int)))) fun r1 =>
    bif (decide ((r1 : Int) < 0)) then (
      some (-1)
    ) else (
      Option.bind (xF0 N (Val.columns a0) r1) fun r2 =>
      bif (decide ((r2 : Int) < 0)) then (
        some (-1)
      ) else (
        Option.bind (xHc N (Val.rows a0) r2) fun r3 =>
        bif (decide ((r3 : Int) < 0)) then (
          some (-1)
        ) else (
          some r3
        )
      )
    )
  )
def xBz (a0 : List Val) (a1 : Int) : List Arg := [.val (.v false [.sl .ro .val a0]), .val (.v false [.int .i64 a1])]
def xAY (r : Int) : CallO := ⟨.v false [.int .i64 r], [], []⟩
def xFa (N : Nat) (rc_laws_szValue : Val → Int → Option (Int)) (rc_laws_szValueS : (List Val) → Int → Option (Int)) : Nat → (List Val) → Int → Int → Option (Int)
  | 0, _, _, _ => none
  | n + 1, x0, x1, x5 =>
    bif (decide ((x5 : Int) < (List.length x0 : Int))) then (
      if (0 : Int) ≤ x5 ∧ x5 < (List.length x0) then
      Option.bind (rc_laws_szValue (List.getD x0 (Int.toNat x5) Ty.val.dflt) x1) fun r1 =>
      bif (decide ((r1 : Int) < 0)) then (
        some (-1)
      ) else (
        (xFa N rc_laws_szValue rc_laws_szValueS n x0 r1 (IntKind.i64.wrap (x5 + 1)))
      )
      else none
    ) else (
      some x1
    )
def xFv (N : Nat) (rc_laws_szValue : Val → Int → Option (Int)) (rc_laws_szValueS : (List Val) → Int → Option (Int)) (a0 : List Val) (a1 : Int) : Option (Int) :=
  bif (decide (((IntKind.i64.wrap (a1 - (List.length a0 : Int))) : Int) < 0)) then (
    some (-1)
  ) else (
    (xFa N rc_laws_szValue rc_laws_szValueS N a0 (IntKind.i64.wrap (a1 - (List.length a0 : Int))) 0)
  )
structure laws_szValue_rec where
  c_laws_szValue : Val → Int → Option (Int)
  c_laws_szValueS : (List Val) → Int → Option (Int)
def xB6 (N : Nat) : Nat → laws_szValue_rec
  | 0 => ⟨fun _ _ => none, fun _ _ => none⟩
  | d + 1 => ⟨xFK N (xB6 N d).c_laws_szValue (xB6 N d).c_laws_szValueS, xFv N (xB6 N d).c_laws_szValue (xB6 N d).c_laws_szValueS⟩
def xEP (N : Nat) (a0 : Val) (a1 : Int) : Option (Int) := (xB6 N N).c_laws_szValue a0 a1
def xFM (a0 : List Str) : List Arg := [.val (.v false [.sl .ro .str a0])]
def xDY (r : (List Str)) : CallO := ⟨.v false [.sl .own .str r], [], []⟩
def xEK (N : Nat) : Nat → (List Str) → (List Str) → Int → Option ((List Str))
  | 0, _, _, _ => none
  | n + 1, x0, x3, x4 =>
    bif (decide ((x4 : Int) < (List.length x0 : Int))) then (
      if (0 : Int) ≤ x4 ∧ x4 < (List.length x0) then
      if (0 : Int) ≤ x4 ∧ x4 < (List.length x3) then
      (xEK N n x0 (List.set x3 (Int.toNat x4) (List.getD x0 (Int.toNat x4) Ty.str.dflt)) (IntKind.i64.wrap (x4 + 1)))
      else none
      else none
    ) else (
      some x3
    )
def xFq (N : Nat) (a0 : List Str) : Option ((List Str)) :=
  if (0 : Int) ≤ (List.length a0 : Int) ∧ (List.length a0 : Int) = (List.length a0 : Int) ∧ (List.length a0 : Int) ≤ Lim then
  (xEK N N a0 (List.replicate (Int.toNat (List.length a0 : Int)) Ty.str.dflt) 0)
  else none
def xGG (a0 : List Int) : List Arg := [.val (.v false [.sl .ro .int a0])]
def xFn (r : (List Int)) : CallO := ⟨.v false [.sl .own .int r], [], []⟩
def xF1 (N : Nat) : Nat → (List Int) → (List Int) → Int → Option ((List Int))
  | 0, _, _, _ => none
  | n + 1, x0, x3, x4 =>
    bif (decide ((x4 : Int) < (List.length x0 : Int))) then (
      if (0 : Int) ≤ x4 ∧ x4 < (List.length x0) then
      if (0 : Int) ≤ x4 ∧ x4 < (List.length x3) then
      (xF1 N n x0 (List.set x3 (Int.toNat x4) (List.getD x0 (Int.toNat x4) Ty.int.dflt)) (IntKind.i64.wrap (x4 + 1)))
      else none
      else none
    ) else (
      some x3
    )
def xGt (N : Nat) (a0 : List Int) : Option ((List Int)) :=
  if (0 : Int) ≤ (List.length a0 : Int) ∧ (List.length a0 : Int) = (List.length a0 : Int) ∧ (List.length a0 : Int) ≤ Lim then
  (xF1 N N a0 (List.replicate (Int.toNat (List.length a0 : Int)) Ty.int.dflt) 0)
  else none
def xF8 (a0 : Org) : List Arg := [.val (.v true [.int .i64 (Org.cell a0), .int .i64 (Org.row a0)])]
def xFb (r : Org) : CallO := ⟨.v true [.int .i64 (Org.cell r), .int .i64 (Org.row r)], [], []⟩
def xGh (N : Nat) (a0 : Org) : Option (Org) :=
  some a0
def xFL (a0 : List Org) : List Arg := [.val (.v false [.sl .ro .org a0])]
def xDX (r : (List Org)) : CallO := ⟨.v false [.sl .own .org r], [], []⟩
def xEJ (N : Nat) : Nat → (List Org) → (List Org) → Int → Option ((List Org))
  | 0, _, _, _ => none
  | n + 1, x0, x3, x4 =>
    bif (decide ((x4 : Int) < (List.length x0 : Int))) then (
      if (0 : Int) ≤ x4 ∧ x4 < (List.length x0) then
      Option.bind (xGh N (List.getD x0 (Int.toNat x4) Ty.org.dflt)) fun r1 =>
      if (0 : Int) ≤ x4 ∧ x4 < (List.length x3) then
      (xEJ N n x0 (List.set x3 (Int.toNat x4) r1) (IntKind.i64.wrap (x4 + 1)))
      else none
      else none
    ) else (
      some x3
    )
def xFo (N : Nat) (a0 : List Org) : Option ((List Org)) :=
  if (0 : Int) ≤ (List.length a0 : Int) ∧ (List.length a0 : Int) = (List.length a0 : Int) ∧ (List.length a0 : Int) ≤ Lim then
  (xEJ N N a0 (List.replicate (Int.toNat (List.length a0 : Int)) Ty.org.dflt) 0)
  else none
def xGV (a0 : Rowd) : List Arg := [.val (.v true [.sl .ro .int (Rowd.cells a0), .sl .ro .org (Rowd.frm a0)])]
def xGi (r : Rowd) : CallO := ⟨.v true [.sl .own .int (Rowd.cells r), .sl .own .org (Rowd.frm r)], [], []⟩
def xGu (N : Nat) (a0 : Rowd) : Option (Rowd) :=
  Option.bind (xGt N (Rowd.cells a0)) fun r1 =>
  Option.bind (xFo N (Rowd.frm a0)) fun r2 =>
  some (Rowd.mk r1 r2)
def xGH (a0 : List Rowd) : List Arg := [.val (.v false [.sl .ro .row a0])]
def xFp (r : (List Rowd)) : CallO := ⟨.v false [.sl .own .row r], [], []⟩
def xF2 (N : Nat) : Nat → (List Rowd) → (List Rowd) → Int → Option ((List Rowd))
  | 0, _, _, _ => none
  | n + 1, x0, x3, x4 =>
    bif (decide ((x4 : Int) < (List.length x0 : Int))) then (
      if (0 : Int) ≤ x4 ∧ x4 < (List.length x0) then
      Option.bind (xGu N (List.getD x0 (Int.toNat x4) Ty.row.dflt)) fun r1 =>
      if (0 : Int) ≤ x4 ∧ x4 < (List.length x3) then
      (xF2 N n x0 (List.set x3 (Int.toNat x4) r1) (IntKind.i64.wrap (x4 + 1)))
      else none
      else none
    ) else (
      some x3
    )
def xGv (N : Nat) (a0 : List Rowd) : Option ((List Rowd)) :=
  if (0 : Int) ≤ (List.length a0 : Int) ∧ (List.length a0 : Int) = (List.length a0 : Int) ∧ (List.length a0 : Int) ≤ Lim then
  (xF2 N N a0 (List.replicate (Int.toNat (List.length a0 : Int)) Ty.row.dflt) 0)
  else none
def xAc (a0 : Val) : List Arg := [.val (.v true [.int .i64 (Val.kind a0), .int .i64 (Val.n a0), .int .i64 (Val.step a0), .str (Val.text a0), .sl .ro .val (Val.list a0), .sl .ro .str (Val.columns a0), .sl .ro .row (Val.rows a0)])]
def xAa (r : Val) : CallO := ⟨.v true [.int .i64 (Val.kind r), .int .i64 (Val.n r), .int .i64 (Val.step r), .str (Val.text r), .sl .own .val (Val.list r), .sl .own .str (Val.columns r), .sl .own .row (Val.rows r)], [], []⟩
def xDZ (N : Nat) (rc_laws_toValue : Val → Option (Val)) (rc_laws_toValueS : (List Val) → Option ((List Val))) (a0 : Val) : Option (Val) :=
  Option.bind (rc_laws_toValueS (Val.list a0)) fun r1 =>
  Option.bind (xFq N (Val.columns a0)) fun r2 =>
  Option.bind (xGv N (Val.rows a0)) fun r3 =>
  some (Val.mk (Val.kind a0) (Val.n a0) (Val.step a0) (Val.text a0) r1 r2 r3)
def xCh (a0 : List Val) : List Arg := [.val (.v false [.sl .ro .val a0])]
def xBP (r : (List Val)) : CallO := ⟨.v false [.sl .own .val r], [], []⟩
def xFc (N : Nat) (rc_laws_toValue : Val → Option (Val)) (rc_laws_toValueS : (List Val) → Option ((List Val))) : Nat → (List Val) → (List Val) → Int → Option ((List Val))
  | 0, _, _, _ => none
  | n + 1, x0, x3, x4 =>
    bif (decide ((x4 : Int) < (List.length x0 : Int))) then (
      if (0 : Int) ≤ x4 ∧ x4 < (List.length x0) then
      Option.bind (rc_laws_toValue (List.getD x0 (Int.toNat x4) Ty.val.dflt)) fun r1 =>
      if (0 : Int) ≤ x4 ∧ x4 < (List.length x3) then
      (xFc N rc_laws_toValue rc_laws_toValueS n x0 (List.set x3 (Int.toNat x4) (Val.re r1)) (IntKind.i64.wrap (x4 + 1)))
      else none
      else none
    ) else (
      some x3
    )
def xDB (N : Nat) (rc_laws_toValue : Val → Option (Val)) (rc_laws_toValueS : (List Val) → Option ((List Val))) (a0 : List Val) : Option ((List Val)) :=
  if (0 : Int) ≤ (List.length a0 : Int) ∧ (List.length a0 : Int) = (List.length a0 : Int) ∧ (List.length a0 : Int) ≤ Lim then
  (xFc N rc_laws_toValue rc_laws_toValueS N a0 (List.replicate (Int.toNat (List.length a0 : Int)) Ty.val.dflt) 0)
  else none
structure laws_toValue_rec where
  c_laws_toValue : Val → Option (Val)
  c_laws_toValueS : (List Val) → Option ((List Val))
def xBf (N : Nat) : Nat → laws_toValue_rec
  | 0 => ⟨fun _ => none, fun _ => none⟩
  | d + 1 => ⟨xDZ N (xBf N d).c_laws_toValue (xBf N d).c_laws_toValueS, xDB N (xBf N d).c_laws_toValue (xBf N d).c_laws_toValueS⟩
def xAM (N : Nat) (a0 : Val) : Option (Val) := (xBf N N).c_laws_toValue a0
def xEQ (a0 : Int) (a1 : Int) (a2 : Int) : List Arg := [.val (.v false [.int .i64 a0]), .val (.v false [.int .i64 a1]), .val (.v false [.int .i64 a2])]
def xC6 (r : Bool) : CallO := ⟨.v false [.bool r], [], []⟩
def xGN (N : Nat) (a0 : Int) (a1 : Int) (a2 : Int) : Option (Bool) :=
  bif (decide ((a0 : Int) ≥ a1)) then (
    some (decide ((a0 : Int) ≤ a2))
  ) else (
    some false
  )
def xB7 (a0 : Int) : List Arg := [.val (.v false [.int .i64 a0])]
def xA4 (r : Bool) : CallO := ⟨.v false [.bool r], [], []⟩
def xDr (N : Nat) (a0 : Int) : Option (Bool) :=
  Option.bind (xGN N a0 (-1000000000) 1000000000) fun r1 =>
  some r1
def xE1 (a0 : Str) : List Arg := [.val (.v false [.str a0])]
def xB2 (r : Bool) : CallO := ⟨.v false [.bool r], [], []⟩
def xB1 (N : Nat) : Nat → Str → Int → Option (Bool)
  | 0, _, _ => none
  | n + 1, x0, x3 =>
    bif (decide ((x3 : Int) < (List.length x0 : Int))) then (
      if (0 : Int) ≤ x3 ∧ x3 < (List.length x0) then
      bif (decide ((((List.getD x0 (Int.toNat x3) 0).toNat : Int) : Int) < 32)) then (
        some false
      ) else (
        bif (decide ((((List.getD x0 (Int.toNat x3) 0).toNat : Int) : Int) > 126)) then (
          some false
        ) else (
          bif ((((List.getD x0 (Int.toNat x3) 0).toNat : Int) : Int) == 34) then (
            some false
          ) else (
            (xB1 N n x0 (IntKind.i64.wrap (x3 + 1)))
          )
        )
      )
      else none
    ) else (
      some (decide (((List.length x0 : Int) : Int) ≤ 20))
    )
def xFe (N : Nat) (a0 : Str) : Option (Bool) :=
  (xB1 N N a0 0)
def xCG (a0 : Val) : List Arg := [.val (.v true [.int .i64 (Val.kind a0), .int .i64 (Val.n a0), .int .i64 (Val.step a0), .str (Val.text a0), .sl .ro .val (Val.list a0), .sl .ro .str (Val.columns a0), .sl .ro .row (Val.rows a0)])]
def xBS (r : Bool) : CallO := ⟨.v false [.bool r], [], []⟩
def xF5 (N : Nat) (a0 : Val) : Option (Bool) :=
  bif (((Val.kind a0) : Int) == 1) then (
    some true
  ) else (
    bif (((Val.kind a0) : Int) == 2) then (
      some true
    ) else (
      some (((Val.kind a0) : Int) == 3)
    )
  )
def xGj (a0 : Int) (a1 : Int) : List Arg := [.val (.v false [.int .i64 a0]), .val (.v false [.int .i64 a1])]
def xFQ (r : Int) : CallO := ⟨.v false [.int .i64 r], [], []⟩
def xG0 (N : Nat) (a0 : Int) (a1 : Int) : Option (Int) :=
  bif (decide ((a0 : Int) > a1)) then (
    some a0
  ) else (
    some a1
  )
def xCp (a0 : Val) : List Arg := [.val (.v true [.int .i64 (Val.kind a0), .int .i64 (Val.n a0), .int .i64 (Val.step a0), .str (Val.text a0), .sl .ro .val (Val.list a0), .sl .ro .str (Val.columns a0), .sl .ro .row (Val.rows a0)])]
def xBR (r : Int) : CallO := ⟨.v false [.int .i64 r], [], []⟩
def xD8 (N : Nat) (rc_spec_DepthOf : Val → Option (Int)) : Nat → Int → Int → Val → Option (Int)
  | 0, _, _, _ => none
  | n + 1, x3, x4, b1 =>
    bif (decide ((x4 : Int) < (List.length (Val.list b1) : Int))) then (
      if (0 : Int) ≤ x4 ∧ x4 < (List.length (Val.list b1)) then
      Option.bind (rc_spec_DepthOf (List.getD (Val.list b1) (Int.toNat x4) Ty.val.dflt)) fun r1 =>
      Option.bind (xG0 N x3 r1) fun r2 =>
      (xD8 N rc_spec_DepthOf n r2 (IntKind.i64.wrap (x4 + 1)) b1)
      else none
    ) else (
      some (IntKind.i64.wrap (x3 + 1))
    )
def xFN (N : Nat) (rc_spec_DepthOf : Val → Option (Int)) (a0 : Val) : Option (Int) :=
  (xD8 N rc_spec_DepthOf N 0 0 a0)
def xDN (N : Nat) : Nat → Val → Option (Int)
  | 0, _ => none
  | d + 1, a0 => xFN N (xDN N d) a0
def xHl (N : Nat) (a0 : Val) : Option (Int) := xDN N N a0
def xEM (a0 : Str) : List Arg := [.val (.v false [.str a0])]
def xBg (r : Bool) : CallO := ⟨.v false [.bool r], [], []⟩
def xCf (N : Nat) : Nat → Str → Int → Option (Bool)
  | 0, _, _ => none
  | n + 1, x0, x3 =>
    bif (decide ((x3 : Int) < (List.length x0 : Int))) then (
      if (0 : Int) ≤ x3 ∧ x3 < (List.length x0) then
      bif (decide ((((List.getD x0 (Int.toNat x3) 0).toNat : Int) : Int) ≥ 97)) then (
        bif (decide ((((List.getD x0 (Int.toNat x3) 0).toNat : Int) : Int) ≥ 48)) then (
          bif (!(decide ((((List.getD x0 (Int.toNat x3) 0).toNat : Int) : Int) ≤ 122))) then (
            bif ((x3 : Int) == 0) then (
              some false
            ) else (
              bif (!(decide ((((List.getD x0 (Int.toNat x3) 0).toNat : Int) : Int) ≤ 57))) then (
                some false
              ) else (
                (xCf N n x0 (IntKind.i64.wrap (x3 + 1)))
              )
            )
          ) else (
            (xCf N n x0 (IntKind.i64.wrap (x3 + 1)))
          )
        ) else (
          bif (!(decide ((((List.getD x0 (Int.toNat x3) 0).toNat : Int) : Int) ≤ 122))) then (
            bif ((x3 : Int) == 0) then (
              some false
            ) else (
              some false
            )
          ) else (
            (xCf N n x0 (IntKind.i64.wrap (x3 + 1)))
          )
        )
      ) else (
        bif (decide ((((List.getD x0 (Int.toNat x3) 0).toNat : Int) : Int) ≥ 48)) then (
          bif ((x3 : Int) == 0) then (
            some false
          ) else (
            bif (!(decide ((((List.getD x0 (Int.toNat x3) 0).toNat : Int) : Int) ≤ 57))) then (
              some false
            ) else (
              (xCf N n x0 (IntKind.i64.wrap (x3 + 1)))
            )
          )
        ) else (
          bif ((x3 : Int) == 0) then (
            some false
          ) else (
            some false
          )
        )
      )
      else none
    ) else (
      some (decide (((List.length x0 : Int) : Int) > 0))
    )
def xGO (N : Nat) (a0 : Str) : Option (Bool) :=
  (xCf N N a0 0)
def xFx : List Arg := []
def xEt (r : (List Str)) : CallO := ⟨.v false [.sl .own .str r], [], []⟩
def xFF (N : Nat) : Option ((List Str)) :=
  some [[108, 101, 116], [105, 110], [105, 102], [116, 104, 101, 110], [101, 108, 115, 101], [102, 111, 114], [100, 111], [108, 101, 110], [115, 117, 109], [116, 97, 107, 101], [115, 107, 105, 112], [114, 97, 110, 103, 101], [110, 116, 104], [119, 104, 101, 114, 101], [107, 101, 101, 112], [97, 100, 100], [103, 114, 111, 117, 112], [106, 111, 105, 110], [99, 111, 108, 117, 109, 110], [114, 111, 119, 115], [99, 108, 111, 99, 107], [99, 104, 97, 110, 99, 101], [102, 105, 108, 101], [116, 97, 98, 108, 101]]
def xFP (a0 : List Str) (a1 : Str) : List Arg := [.val (.v false [.sl .ro .str a0]), .val (.v false [.str a1])]
def xCW (r : Bool) : CallO := ⟨.v false [.bool r], [], []⟩
def xEs (N : Nat) : Nat → (List Str) → Str → Int → Option (Bool)
  | 0, _, _, _ => none
  | n + 1, x0, x1, x5 =>
    bif (decide ((x5 : Int) < (List.length x0 : Int))) then (
      if (0 : Int) ≤ x5 ∧ x5 < (List.length x0) then
      bif (((List.getD x0 (Int.toNat x5) Ty.str.dflt) : Str) == x1) then (
        some true
      ) else (
        (xEs N n x0 x1 (IntKind.i64.wrap (x5 + 1)))
      )
      else none
    ) else (
      some false
    )
def xGZ (N : Nat) (a0 : List Str) (a1 : Str) : Option (Bool) :=
  (xEs N N a0 a1 0)
def xFw (a0 : Str) : List Arg := [.val (.v false [.str a0])]
def xEr (r : Bool) : CallO := ⟨.v false [.bool r], [], []⟩
def xEL (N : Nat) (a0 : Str) : Option (Bool) :=
  Option.bind (xFF N) fun r1 =>
  Option.bind (xGZ N r1 a0) fun r2 =>
  some r2
def xCA (a0 : Str) : List Arg := [.val (.v false [.str a0])]
def xB0 (r : Bool) : CallO := ⟨.v false [.bool r], [], []⟩
def xEh (N : Nat) (a0 : Str) : Option (Bool) :=
  Option.bind (xGO N a0) fun r1 =>
  bif r1 then (
    bif (decide (((List.length a0 : Int) : Int) ≤ 8)) then (
      Option.bind (xEL N a0) fun r2 =>
      some (!r2)
    ) else (
      some false
    )
  ) else (
    some false
  )
def xE0 (a0 : List Str) : List Arg := [.val (.v false [.sl .ro .str a0])]
def xCz (r : Bool) : CallO := ⟨.v false [.bool r], [], []⟩
def xCe (N : Nat) : Nat → (List Str) → Int → Option (Bool)
  | 0, _, _ => none
  | n + 1, x0, x3 =>
    bif (decide ((x3 : Int) < (List.length x0 : Int))) then (
      if (0 : Int) ≤ x3 ∧ x3 ≤ (List.length x0) then
      if (0 : Int) ≤ x3 ∧ x3 < (List.length x0) then
      Option.bind (xGZ N (List.take (Int.toNat x3) x0) (List.getD x0 (Int.toNat x3) Ty.str.dflt)) fun r1 =>
      bif r1 then (
        some false
      ) else (
        (xCe N n x0 (IntKind.i64.wrap (x3 + 1)))
      )
      else none
      else none
    ) else (
      some true
    )
def xFd (N : Nat) (a0 : List Str) : Option (Bool) :=
  (xCe N N a0 0)
def xD1 (a0 : List Str) : List Arg := [.val (.v false [.sl .ro .str a0])]
def xBF (r : Bool) : CallO := ⟨.v false [.bool r], [], []⟩
def xDm (N : Nat) : Nat → (List Str) → Int → Option (Bool)
  | 0, _, _ => none
  | n + 1, x0, x3 =>
    bif (decide ((x3 : Int) < (List.length x0 : Int))) then (
      if (0 : Int) ≤ x3 ∧ x3 < (List.length x0) then
      Option.bind (xEh N (List.getD x0 (Int.toNat x3) Ty.str.dflt)) fun r1 =>
      bif (!r1) then (
        some false
      ) else (
        (xDm N n x0 (IntKind.i64.wrap (x3 + 1)))
      )
      else none
    ) else (
      Option.bind (xGN N (List.length x0 : Int) 1 4) fun r1 =>
      bif r1 then (
        Option.bind (xFd N x0) fun r2 =>
        some r2
      ) else (
        some false
      )
    )
def xF4 (N : Nat) (a0 : List Str) : Option (Bool) :=
  (xDm N N a0 0)
def xDO (a0 : Org) (a1 : Org) : List Arg := [.val (.v true [.int .i64 (Org.cell a0), .int .i64 (Org.row a0)]), .val (.v true [.int .i64 (Org.cell a1), .int .i64 (Org.row a1)])]
def xCt (r : Bool) : CallO := ⟨.v false [.bool r], [], []⟩
def xFS (N : Nat) (a0 : Org) (a1 : Org) : Option (Bool) :=
  bif (decide (((Org.cell a0) : Int) < (Org.cell a1))) then (
    some true
  ) else (
    bif (((Org.cell a0) : Int) == (Org.cell a1)) then (
      some (decide (((Org.row a0) : Int) < (Org.row a1)))
    ) else (
      some false
    )
  )
def xEb (a0 : List Org) : List Arg := [.val (.v false [.sl .ro .org a0])]
def xBB (r : Bool) : CallO := ⟨.v false [.bool r], [], []⟩
def xB3 (N : Nat) : Nat → (List Org) → Int → Option (Bool)
  | 0, _, _ => none
  | n + 1, x0, x3 =>
    bif (decide ((x3 : Int) < (List.length x0 : Int))) then (
      if (0 : Int) ≤ x3 ∧ x3 < (List.length x0) then
      bif (decide (((Org.cell (List.getD x0 (Int.toNat x3) Ty.org.dflt)) : Int) < 0)) then (
        some false
      ) else (
        bif (decide (((Org.row (List.getD x0 (Int.toNat x3) Ty.org.dflt)) : Int) < 0)) then (
          some false
        ) else (
          bif (decide ((x3 : Int) > 0)) then (
            if (0 : Int) ≤ (IntKind.i64.wrap (x3 - 1)) ∧ (IntKind.i64.wrap (x3 - 1)) < (List.length x0) then
            Option.bind (xFS N (List.getD x0 (Int.toNat (IntKind.i64.wrap (x3 - 1))) Ty.org.dflt) (List.getD x0 (Int.toNat x3) Ty.org.dflt)) fun r1 =>
            bif (!r1) then (
              some false
            ) else (
              (xB3 N n x0 (IntKind.i64.wrap (x3 + 1)))
            )
            else none
          ) else (
            (xB3 N n x0 (IntKind.i64.wrap (x3 + 1)))
          )
        )
      )
      else none
    ) else (
      some true
    )
def xFh (N : Nat) (a0 : List Org) : Option (Bool) :=
  (xB3 N N a0 0)
def xEN (a0 : Val) : List Arg := [.val (.v true [.int .i64 (Val.kind a0), .int .i64 (Val.n a0), .int .i64 (Val.step a0), .str (Val.text a0), .sl .ro .val (Val.list a0), .sl .ro .str (Val.columns a0), .sl .ro .row (Val.rows a0)])]
def xBT (r : Bool) : CallO := ⟨.v false [.bool r], [], []⟩
def xC8 (N : Nat) (k4 : Int → Val → Option (Bool)) : Nat → Int → Int → Val → Rowd → Option (Bool)
  | 0, _, _, _, _ => none
  | n + 1, x3, x5, b1, b4 =>
    bif (decide ((x5 : Int) < (List.length (Rowd.cells b4) : Int))) then (
      if (0 : Int) ≤ x5 ∧ x5 < (List.length (Rowd.cells b4)) then
      Option.bind (xDr N (List.getD (Rowd.cells b4) (Int.toNat x5) Ty.int.dflt)) fun r1 =>
      bif (!r1) then (
        some false
      ) else (
        (xC8 N k4 n x3 (IntKind.i64.wrap (x5 + 1)) b1 b4)
      )
      else none
    ) else (
      (k4 (IntKind.i64.wrap (x3 + 1)) b1)
    )
def xDw (N : Nat) : Nat → Int → Val → Option (Bool)
  | 0, _, _ => none
  | n + 1, x3, b1 =>
    bif (decide ((x3 : Int) < (List.length (Val.rows b1) : Int))) then (
      if (0 : Int) ≤ x3 ∧ x3 < (List.length (Val.rows b1)) then
      bif (((List.length (Rowd.cells (List.getD (Val.rows b1) (Int.toNat x3) Ty.row.dflt)) : Int) : Int) != (List.length (Val.columns b1) : Int)) then (
        some false
      ) else (
        Option.bind (xFh N (Rowd.frm (List.getD (Val.rows b1) (Int.toNat x3) Ty.row.dflt))) fun r1 =>
        bif (!r1) then (
          some false
        ) else (
          (xC8 N (fun z0 z1 => (xDw N n z0 z1)) N x3 0 b1 (List.getD (Val.rows b1) (Int.toNat x3) Ty.row.dflt))
        )
      )
      else none
    ) else (
      some true
    )
def xGb (N : Nat) (a0 : Val) : Option (Bool) :=
  Option.bind (xF4 N (Val.columns a0)) fun r1 =>
  bif (!r1) then (
    some false
  ) else (
    bif (decide (((List.length (Val.rows a0) : Int) : Int) > 12)) then (
      some false
    ) else (
      (xDw N N 0 a0)
    )
  )
def xAv (a0 : Val) : List Arg := [.val (.v true [.int .i64 (Val.kind a0), .int .i64 (Val.n a0), .int .i64 (Val.step a0), .str (Val.text a0), .sl .ro .val (Val.list a0), .sl .ro .str (Val.columns a0), .sl .ro .row (Val.rows a0)])]
def xAq (r : Bool) : CallO := ⟨.v false [.bool r], [], []⟩
def xCn (N : Nat) (rc_spec_IsValidValue : Val → Option (Bool)) (rc_spec_l3List : Val → Option (Bool)) (a0 : Val) : Option (Bool) :=
  bif (((Val.kind a0) : Int) != 3) then (
    bif (decide (((List.length (Val.list a0) : Int) : Int) > 0)) then (
      some false
    ) else (
      bif (((Val.kind a0) : Int) != 5) then (
        bif (decide (((IntKind.i64.wrap ((List.length (Val.columns a0) : Int) + (List.length (Val.rows a0) : Int))) : Int) > 0)) then (
          some false
        ) else (
          bif (((Val.kind a0) : Int) != 2) then (
            bif (!(((Val.text a0) : Str) == [])) then (
              some false
            ) else (
              bif (((Val.kind a0) : Int) != 4) then (
                bif (((Val.step a0) : Int) != 0) then (
                  some false
                ) else (
                  bif (((Val.kind a0) : Int) == 1) then (
                    Option.bind (xDr N (Val.n a0)) fun r1 =>
                    some r1
                  ) else (
                    bif (((Val.kind a0) : Int) == 6) then (
                      Option.bind (xGN N (Val.n a0) 1 8) fun r1 =>
                      some r1
                    ) else (
                      some false
                    )
                  )
                )
              ) else (
                Option.bind (xDr N (Val.n a0)) fun r1 =>
                bif r1 then (
                  Option.bind (xDr N (Val.step a0)) fun r2 =>
                  some r2
                ) else (
                  some false
                )
              )
            )
          ) else (
            bif (((Val.step a0) : Int) != 0) then (
              some false
            ) else (
              bif (((Val.n a0) : Int) == 0) then (
                Option.bind (xFe N (Val.text a0)) fun r1 =>
                some r1
              ) else (
                some false
              )
            )
          )
        )
      ) else (
        bif (!(((Val.text a0) : Str) == [])) then (
          some false
        ) else (
          bif (((Val.step a0) : Int) != 0) then (
            some false
          ) else (
            bif (((Val.n a0) : Int) == 0) then (
              Option.bind (xGb N a0) fun r1 =>
              some r1
            ) else (
              some false
            )
          )
        )
      )
    )
  ) else (
    bif (decide (((IntKind.i64.wrap ((List.length (Val.columns a0) : Int) + (List.length (Val.rows a0) : Int))) : Int) > 0)) then (
      some false
    ) else (
      bif (!(((Val.text a0) : Str) == [])) then (
        some false
      ) else (
        bif (((Val.step a0) : Int) != 0) then (
          some false
        ) else (
          bif (((Val.n a0) : Int) == 0) then (
            Option.bind (rc_spec_l3List a0) fun r1 =>
            some r1
          ) else (
            some false
          )
        )
      )
    )
  )
def xCN (a0 : Val) : List Arg := [.val (.v true [.int .i64 (Val.kind a0), .int .i64 (Val.n a0), .int .i64 (Val.step a0), .str (Val.text a0), .sl .ro .val (Val.list a0), .sl .ro .str (Val.columns a0), .sl .ro .row (Val.rows a0)])]
def xBL (r : Bool) : CallO := ⟨.v false [.bool r], [], []⟩
def xDq (N : Nat) (rc_spec_IsValidValue : Val → Option (Bool)) (rc_spec_l3List : Val → Option (Bool)) : Nat → Int → Val → Option (Bool)
  | 0, _, _ => none
  | n + 1, x3, b1 =>
    bif (decide ((x3 : Int) < (List.length (Val.list b1) : Int))) then (
      if (0 : Int) ≤ x3 ∧ x3 < (List.length (Val.list b1)) then
      Option.bind (xF5 N (List.getD (Val.list b1) (Int.toNat x3) Ty.val.dflt)) fun r1 =>
      bif (!r1) then (
        some false
      ) else (
        Option.bind (rc_spec_IsValidValue (List.getD (Val.list b1) (Int.toNat x3) Ty.val.dflt)) fun r2 =>
        bif (!r2) then (
          some false
        ) else (
          (xDq N rc_spec_IsValidValue rc_spec_l3List n (IntKind.i64.wrap (x3 + 1)) b1)
        )
      )
      else none
    ) else (
      bif (decide (((List.length (Val.list b1) : Int) : Int) ≤ 8)) then (
        Option.bind (xHl N b1) fun r1 =>
        some (decide ((r1 : Int) ≤ 3))
      ) else (
        some false
      )
    )
def xF9 (N : Nat) (rc_spec_IsValidValue : Val → Option (Bool)) (rc_spec_l3List : Val → Option (Bool)) (a0 : Val) : Option (Bool) :=
  (xDq N rc_spec_IsValidValue rc_spec_l3List N 0 a0)
structure spec_IsValidValue_rec where
  c_spec_IsValidValue : Val → Option (Bool)
  c_spec_l3List : Val → Option (Bool)
def xAJ (N : Nat) : Nat → spec_IsValidValue_rec
  | 0 => ⟨fun _ => none, fun _ => none⟩
  | d + 1 => ⟨xCn N (xAJ N d).c_spec_IsValidValue (xAJ N d).c_spec_l3List, xF9 N (xAJ N d).c_spec_IsValidValue (xAJ N d).c_spec_l3List⟩
def xGw (N : Nat) (a0 : Val) : Option (Bool) := (xAJ N N).c_spec_IsValidValue a0
def xBI (a0 : Int) : List Arg := [.val (.v false [.int .i64 a0])]
def xAS (r : Val) : CallO := ⟨.v true [.int .i64 (Val.kind r), .int .i64 (Val.n r), .int .i64 (Val.step r), .str (Val.text r), .sl .own .val (Val.list r), .sl .own .str (Val.columns r), .sl .own .row (Val.rows r)], [], []⟩
def xA8 (N : Nat) (a0 : Int) : Option (Val) :=
  some (Val.mk 6 a0 0 [] [] [] [])
def xDx (a0 : List Val) : List Arg := [.val (.v false [.sl .ro .val a0])]
def xBr (r : Val × Bool) : CallO := ⟨.tup [(true, [.int .i64 (Val.kind r.1), .int .i64 (Val.n r.1), .int .i64 (Val.step r.1), .str (Val.text r.1), .sl .own .val (Val.list r.1), .sl .own .str (Val.columns r.1), .sl .own .row (Val.rows r.1)]), (false, [.bool r.2])], [], []⟩
def xCX (N : Nat) : Nat → (List Val) → Int → Val → Option (Val × Bool)
  | 0, _, _, _ => none
  | n + 1, x0, x4, b2 =>
    bif (decide ((x4 : Int) < (List.length x0 : Int))) then (
      if (0 : Int) ≤ x4 ∧ x4 < (List.length x0) then
      Option.bind (xGw N (List.getD x0 (Int.toNat x4) Ty.val.dflt)) fun r1 =>
      bif (!r1) then (
        Option.bind (xA8 N 4) fun r2 =>
        some (r2, true)
      ) else (
        bif (((Val.kind (List.getD x0 (Int.toNat x4) Ty.val.dflt)) : Int) == 6) then (
          Option.bind (xA8 N (Val.n (List.getD x0 (Int.toNat x4) Ty.val.dflt))) fun r2 =>
          some (r2, true)
        ) else (
          (xCX N n x0 (IntKind.i64.wrap (x4 + 1)) b2)
        )
      )
      else none
    ) else (
      some ((Val.mk 0 0 0 [] [] [] []), false)
    )
def xGP (N : Nat) (a0 : List Val) : Option (Val × Bool) :=
  (xCX N N a0 0 (Val.mk 0 0 0 [] [] [] []))
def xBu (a0 : Val) (a1 : Val) : List Arg := [.val (.v true [.int .i64 (Val.kind a0), .int .i64 (Val.n a0), .int .i64 (Val.step a0), .str (Val.text a0), .sl .ro .val (Val.list a0), .sl .ro .str (Val.columns a0), .sl .ro .row (Val.rows a0)]), .val (.v true [.int .i64 (Val.kind a1), .int .i64 (Val.n a1), .int .i64 (Val.step a1), .str (Val.text a1), .sl .ro .val (Val.list a1), .sl .ro .str (Val.columns a1), .sl .ro .row (Val.rows a1)])]
def xAR (r : Val × Bool) : CallO := ⟨.tup [(true, [.int .i64 (Val.kind r.1), .int .i64 (Val.n r.1), .int .i64 (Val.step r.1), .str (Val.text r.1), .sl .own .val (Val.list r.1), .sl .own .str (Val.columns r.1), .sl .own .row (Val.rows r.1)]), (false, [.bool r.2])], [], []⟩
def xGa (N : Nat) (a0 : Val) (a1 : Val) : Option (Val × Bool) :=
  Option.bind (xGP N [(Val.re a0), (Val.re a1)]) fun r1 =>
  bif r1.2 then (
    some (r1.1, true)
  ) else (
    bif (((Val.kind a0) : Int) != 1) then (
      Option.bind (xA8 N 4) fun r2 =>
      some (r2, true)
    ) else (
      bif (((Val.kind a1) : Int) != 3) then (
        bif (((Val.kind a1) : Int) != 4) then (
          Option.bind (xA8 N 4) fun r2 =>
          some (r2, true)
        ) else (
          some ((Val.mk 0 0 0 [] [] [] []), false)
        )
      ) else (
        some ((Val.mk 0 0 0 [] [] [] []), false)
      )
    )
  )
def xGW (a0 : Rowd) : List Arg := [.val (.v true [.sl .ro .int (Rowd.cells a0), .sl .ro .org (Rowd.frm a0)])]
def xGl (r : Rowd) : CallO := ⟨.v true [.sl .own .int (Rowd.cells r), .sl .own .org (Rowd.frm r)], [], []⟩
def xG2 (N : Nat) (a0 : Rowd) : Option (Rowd) :=
  if 0 + List.length (Rowd.cells a0) ≤ Lim then
  if 0 + List.length (Rowd.frm a0) ≤ Lim then
  some (Rowd.mk ([] ++ (Rowd.cells a0)) ([] ++ (Rowd.frm a0)))
  else none
  else none
def xCi (a0 : Val) : List Arg := [.val (.v true [.int .i64 (Val.kind a0), .int .i64 (Val.n a0), .int .i64 (Val.step a0), .str (Val.text a0), .sl .ro .val (Val.list a0), .sl .ro .str (Val.columns a0), .sl .ro .row (Val.rows a0)])]
def xBt (r : Val) : CallO := ⟨.v true [.int .i64 (Val.kind r), .int .i64 (Val.n r), .int .i64 (Val.step r), .str (Val.text r), .sl .own .val (Val.list r), .sl .own .str (Val.columns r), .sl .own .row (Val.rows r)], [], []⟩
def xDT (N : Nat) (rc_spec_l3Copy : Val → Option (Val)) : Nat → Int → Val → Val → Val → Option (Val)
  | 0, _, _, _, _ => none
  | n + 1, x5, b1, b2, b3 =>
    bif (decide ((x5 : Int) < (List.length (Val.rows b1) : Int))) then (
      if (0 : Int) ≤ x5 ∧ x5 < (List.length (Val.rows b1)) then
      Option.bind (xG2 N (List.getD (Val.rows b1) (Int.toNat x5) Ty.row.dflt)) fun r1 =>
      if List.length (Val.rows b3) + List.length [r1] ≤ Lim then
      (xDT N rc_spec_l3Copy n (IntKind.i64.wrap (x5 + 1)) b1 b2 (Val.mk (Val.kind b3) (Val.n b3) (Val.step b3) (Val.text b3) (Val.list b3) (Val.columns b3) ((Val.rows b3) ++ [r1])))
      else none
      else none
    ) else (
      some b3
    )
def xEz (N : Nat) (rc_spec_l3Copy : Val → Option (Val)) : Nat → Int → Val → Val → Val → Option (Val)
  | 0, _, _, _, _ => none
  | n + 1, x4, b1, b2, b3 =>
    bif (decide ((x4 : Int) < (List.length (Val.list b1) : Int))) then (
      if (0 : Int) ≤ x4 ∧ x4 < (List.length (Val.list b1)) then
      Option.bind (rc_spec_l3Copy (List.getD (Val.list b1) (Int.toNat x4) Ty.val.dflt)) fun r1 =>
      if List.length (Val.list b3) + List.length [(Val.re r1)] ≤ Lim then
      (xEz N rc_spec_l3Copy n (IntKind.i64.wrap (x4 + 1)) b1 b2 (Val.mk (Val.kind b3) (Val.n b3) (Val.step b3) (Val.text b3) ((Val.list b3) ++ [(Val.re r1)]) (Val.columns b3) (Val.rows b3)))
      else none
      else none
    ) else (
      (xDT N rc_spec_l3Copy N 0 b1 b2 b3)
    )
def xEj (N : Nat) (rc_spec_l3Copy : Val → Option (Val)) (a0 : Val) : Option (Val) :=
  if 0 + List.length (Val.columns a0) ≤ Lim then
  (xEz N rc_spec_l3Copy N 0 a0 (Val.mk 0 0 0 [] [] [] []) (Val.mk (Val.kind a0) (Val.n a0) (Val.step a0) (Val.text a0) [] ([] ++ (Val.columns a0)) []))
  else none
def xEc (N : Nat) : Nat → Val → Option (Val)
  | 0, _ => none
  | d + 1, a0 => xEj N (xEc N d) a0
def xHh (N : Nat) (a0 : Val) : Option (Val) := xEc N N a0
def xE2 (a0 : Int) : List Arg := [.val (.v false [.int .i64 a0])]
def xD9 (r : Val) : CallO := ⟨.v true [.int .i64 (Val.kind r), .int .i64 (Val.n r), .int .i64 (Val.step r), .str (Val.text r), .sl .own .val (Val.list r), .sl .own .str (Val.columns r), .sl .own .row (Val.rows r)], [], []⟩
def xFf (N : Nat) (a0 : Int) : Option (Val) :=
  some (Val.mk 1 a0 0 [] [] [] [])
def xDv (a0 : Int) : List Arg := [.val (.v false [.int .i64 a0])]
def xCF (r : Val) : CallO := ⟨.v true [.int .i64 (Val.kind r), .int .i64 (Val.n r), .int .i64 (Val.step r), .str (Val.text r), .sl .own .val (Val.list r), .sl .own .str (Val.columns r), .sl .own .row (Val.rows r)], [], []⟩
def xDC (N : Nat) (a0 : Int) : Option (Val) :=
  Option.bind (xDr N a0) fun r1 =>
  bif (!r1) then (
    Option.bind (xA8 N 5) fun r2 =>
    some r2
  ) else (
    Option.bind (xFf N a0) fun r2 =>
    some r2
  )
def xDS (a0 : Val) (a1 : Val) : List Arg := [.val (.v true [.int .i64 (Val.kind a0), .int .i64 (Val.n a0), .int .i64 (Val.step a0), .str (Val.text a0), .sl .ro .val (Val.list a0), .sl .ro .str (Val.columns a0), .sl .ro .row (Val.rows a0)]), .val (.v true [.int .i64 (Val.kind a1), .int .i64 (Val.n a1), .int .i64 (Val.step a1), .str (Val.text a1), .sl .ro .val (Val.list a1), .sl .ro .str (Val.columns a1), .sl .ro .row (Val.rows a1)])]
def xCV (r : Val) : CallO := ⟨.v true [.int .i64 (Val.kind r), .int .i64 (Val.n r), .int .i64 (Val.step r), .str (Val.text r), .sl .own .val (Val.list r), .sl .own .str (Val.columns r), .sl .own .row (Val.rows r)], [], []⟩
def xEi (N : Nat) (a0 : Val) (a1 : Val) : Option (Val) :=
  Option.bind (xGa N a0 a1) fun r1 =>
  bif r1.2 then (
    some r1.1
  ) else (
    bif (decide (((Val.n a0) : Int) < 0)) then (
      Option.bind (xA8 N 5) fun r2 =>
      some r2
    ) else (
      bif (((Val.kind a1) : Int) == 3) then (
        bif (decide (((Val.n a0) : Int) ≥ (List.length (Val.list a1) : Int))) then (
          Option.bind (xA8 N 5) fun r2 =>
          some r2
        ) else (
          if (0 : Int) ≤ (Val.n a0) ∧ (Val.n a0) < (List.length (Val.list a1)) then
          Option.bind (xHh N (List.getD (Val.list a1) (Int.toNat (Val.n a0)) Ty.val.dflt)) fun r2 =>
          some r2
          else none
        )
      ) else (
        Option.bind (xDC N (IntKind.i64.wrap ((Val.n a1) + (IntKind.i64.wrap ((Val.n a0) * (Val.step a1)))))) fun r2 =>
        some r2
      )
    )
  )
def xDo (a0 : Int) (a1 : Int) (a2 : Int) : List Arg := [.val (.v false [.int .i64 a0]), .val (.v false [.int .i64 a1]), .val (.v false [.int .i64 a2])]
def xBV (r : Bool) : CallO := ⟨.v false [.bool r], [], []⟩
def xEV (N : Nat) (a0 : Int) (a1 : Int) (a2 : Int) : Option (Bool) :=
  bif (decide ((a1 : Int) ≤ a0)) then (
    some (decide ((a0 : Int) ≤ a2))
  ) else (
    some false
  )
def xB4 (a0 : Int) : List Arg := [.val (.v false [.int .i64 a0])]
def xA3 (r : Bool) : CallO := ⟨.v false [.bool r], [], []⟩
def xDn (N : Nat) (a0 : Int) : Option (Bool) :=
  Option.bind (xEV N a0 (-1000000000) 1000000000) fun r1 =>
  some r1
def xES (a0 : Str) : List Arg := [.val (.v false [.str a0])]
def xBY (r : Bool) : CallO := ⟨.v false [.bool r], [], []⟩
def xDa (N : Nat) : Nat → Str → Int → Option (Bool)
  | 0, _, _ => none
  | n + 1, x0, x3 =>
    bif (decide ((x3 : Int) < (List.length x0 : Int))) then (
      if (0 : Int) ≤ x3 ∧ x3 < (List.length x0) then
      bif (decide ((((List.getD x0 (Int.toNat x3) 0).toNat : Int) : Int) < 32)) then (
        some false
      ) else (
        bif (decide ((((List.getD x0 (Int.toNat x3) 0).toNat : Int) : Int) > 126)) then (
          some false
        ) else (
          bif ((((List.getD x0 (Int.toNat x3) 0).toNat : Int) : Int) == 34) then (
            some false
          ) else (
            (xDa N n x0 (IntKind.i64.wrap (x3 + 1)))
          )
        )
      )
      else none
    ) else (
      some (decide (((List.length x0 : Int) : Int) ≤ 20))
    )
def xE5 (N : Nat) (a0 : Str) : Option (Bool) :=
  (xDa N N a0 0)
def xFW (a0 : Str) : List Arg := [.val (.v false [.str a0])]
def xBU (r : Bool) : CallO := ⟨.v false [.bool r], [], []⟩
def xCJ (N : Nat) : Nat → Str → Int → Option (Bool)
  | 0, _, _ => none
  | n + 1, x0, x3 =>
    bif (decide ((x3 : Int) < (List.length x0 : Int))) then (
      if (0 : Int) ≤ x3 ∧ x3 < (List.length x0) then
      bif (decide ((((List.getD x0 (Int.toNat x3) 0).toNat : Int) : Int) ≥ 97)) then (
        bif (!(decide ((((List.getD x0 (Int.toNat x3) 0).toNat : Int) : Int) ≤ 122))) then (
          bif ((x3 : Int) == 0) then (
            some false
          ) else (
            bif (decide ((((List.getD x0 (Int.toNat x3) 0).toNat : Int) : Int) < 48)) then (
              some false
            ) else (
              bif (decide ((((List.getD x0 (Int.toNat x3) 0).toNat : Int) : Int) > 57)) then (
                some false
              ) else (
                (xCJ N n x0 (IntKind.i64.wrap (x3 + 1)))
              )
            )
          )
        ) else (
          (xCJ N n x0 (IntKind.i64.wrap (x3 + 1)))
        )
      ) else (
        bif ((x3 : Int) == 0) then (
          some false
        ) else (
          bif (decide ((((List.getD x0 (Int.toNat x3) 0).toNat : Int) : Int) < 48)) then (
            some false
          ) else (
            bif (decide ((((List.getD x0 (Int.toNat x3) 0).toNat : Int) : Int) > 57)) then (
              some false
            ) else (
              (xCJ N n x0 (IntKind.i64.wrap (x3 + 1)))
            )
          )
        )
      )
      else none
    ) else (
      Option.bind (xEV N (List.length x0 : Int) 1 8) fun r1 =>
      some r1
    )
def xG7 (N : Nat) (a0 : Str) : Option (Bool) :=
  (xCJ N N a0 0)
def xAI (a0 : Str) : List Arg := [.val (.v false [.str a0])]
def xAH (r : Int) : CallO := ⟨.v false [.int .i64 r], [], []⟩
def xEk (N : Nat) (a0 : Str) : Option (Int) :=
  bif ((a0 : Str) == [99, 108, 111, 99, 107]) then (
    some 0
  ) else (
    bif ((a0 : Str) == [108, 101, 110]) then (
      some 1
    ) else (
      bif ((a0 : Str) == [115, 117, 109]) then (
        some 1
      ) else (
        bif ((a0 : Str) == [114, 111, 119, 115]) then (
          some 1
        ) else (
          bif ((a0 : Str) == [99, 104, 97, 110, 99, 101]) then (
            some 1
          ) else (
            bif ((a0 : Str) == [102, 105, 108, 101]) then (
              some 1
            ) else (
              bif ((a0 : Str) == [116, 97, 107, 101]) then (
                some 2
              ) else (
                bif ((a0 : Str) == [115, 107, 105, 112]) then (
                  some 2
                ) else (
                  bif ((a0 : Str) == [114, 97, 110, 103, 101]) then (
                    some 2
                  ) else (
                    bif ((a0 : Str) == [110, 116, 104]) then (
                      some 2
                    ) else (
                      bif ((a0 : Str) == [107, 101, 101, 112]) then (
                        some 2
                      ) else (
                        bif ((a0 : Str) == [99, 111, 108, 117, 109, 110]) then (
                          some 2
                        ) else (
                          bif ((a0 : Str) == [116, 97, 98, 108, 101]) then (
                            some 2
                          ) else (
                            bif ((a0 : Str) == [119, 104, 101, 114, 101]) then (
                              some 3
                            ) else (
                              bif ((a0 : Str) == [103, 114, 111, 117, 112]) then (
                                some 3
                              ) else (
                                bif ((a0 : Str) == [106, 111, 105, 110]) then (
                                  some 3
                                ) else (
                                  bif ((a0 : Str) == [97, 100, 100]) then (
                                    some 4
                                  ) else (
                                    some (-1)
                                  )
                                )
                              )
                            )
                          )
                        )
                      )
                    )
                  )
                )
              )
            )
          )
        )
      )
    )
  )
def xBG (a0 : Str) : List Arg := [.val (.v false [.str a0])]
def xBv (r : Bool) : CallO := ⟨.v false [.bool r], [], []⟩
def xED (N : Nat) (a0 : Str) : Option (Bool) :=
  bif ((a0 : Str) == [108, 101, 116]) then (
    some true
  ) else (
    bif ((a0 : Str) == [105, 110]) then (
      some true
    ) else (
      bif ((a0 : Str) == [105, 102]) then (
        some true
      ) else (
        bif ((a0 : Str) == [116, 104, 101, 110]) then (
          some true
        ) else (
          bif ((a0 : Str) == [101, 108, 115, 101]) then (
            some true
          ) else (
            bif ((a0 : Str) == [102, 111, 114]) then (
              some true
            ) else (
              bif ((a0 : Str) == [100, 111]) then (
                some true
              ) else (
                Option.bind (xEk N a0) fun r1 =>
                some (decide ((r1 : Int) ≥ 0))
              )
            )
          )
        )
      )
    )
  )
def xC9 (a0 : Str) : List Arg := [.val (.v false [.str a0])]
def xCb (r : Bool) : CallO := ⟨.v false [.bool r], [], []⟩
def xEd (N : Nat) (a0 : Str) : Option (Bool) :=
  Option.bind (xG7 N a0) fun r1 =>
  bif r1 then (
    Option.bind (xED N a0) fun r2 =>
    some (!r2)
  ) else (
    some false
  )
def xFz (a0 : List Str) (a1 : Str) : List Arg := [.val (.v false [.sl .ro .str a0]), .val (.v false [.str a1])]
def xCQ (r : Int) : CallO := ⟨.v false [.int .i64 r], [], []⟩
def xDs (N : Nat) : Nat → Str → (List Str) → Int → Int → Option (Int)
  | 0, _, _, _, _ => none
  | n + 1, x1, x7, x8, x9 =>
    bif (decide ((x9 : Int) < x8)) then (
      if (0 : Int) ≤ x9 ∧ x9 < (List.length x7) then
      bif (((List.getD x7 (Int.toNat x9) Ty.str.dflt) : Str) == x1) then (
        some x9
      ) else (
        (xDs N n x1 x7 x8 (IntKind.i64.wrap (x9 + 1)))
      )
      else none
    ) else (
      some (-1)
    )
def xGK (N : Nat) (a0 : List Str) (a1 : Str) : Option (Int) :=
  (xDs N N a1 a0 (List.length a0 : Int) 0)
def xER (a0 : List Str) : List Arg := [.val (.v false [.sl .ro .str a0])]
def xCu (r : Bool) : CallO := ⟨.v false [.bool r], [], []⟩
def xCa (N : Nat) : Nat → (List Str) → (List Str) → Int → Int → Option (Bool)
  | 0, _, _, _, _ => none
  | n + 1, x0, x5, x6, x7 =>
    bif (decide ((x7 : Int) < x6)) then (
      if (0 : Int) ≤ x7 ∧ x7 < (List.length x5) then
      Option.bind (xGK N x0 (List.getD x5 (Int.toNat x7) Ty.str.dflt)) fun r1 =>
      bif ((r1 : Int) != x7) then (
        some false
      ) else (
        (xCa N n x0 x5 x6 (IntKind.i64.wrap (x7 + 1)))
      )
      else none
    ) else (
      some true
    )
def xE4 (N : Nat) (a0 : List Str) : Option (Bool) :=
  (xCa N N a0 a0 (List.length a0 : Int) 0)
def xDy (a0 : List Str) : List Arg := [.val (.v false [.sl .ro .str a0])]
def xBw (r : Bool) : CallO := ⟨.v false [.bool r], [], []⟩
def xCR (N : Nat) : Nat → (List Str) → (List Str) → Int → Int → Option (Bool)
  | 0, _, _, _, _ => none
  | n + 1, x0, x5, x6, x7 =>
    bif (decide ((x7 : Int) < x6)) then (
      if (0 : Int) ≤ x7 ∧ x7 < (List.length x5) then
      Option.bind (xEd N (List.getD x5 (Int.toNat x7) Ty.str.dflt)) fun r1 =>
      bif (!r1) then (
        some false
      ) else (
        (xCR N n x0 x5 x6 (IntKind.i64.wrap (x7 + 1)))
      )
      else none
    ) else (
      Option.bind (xEV N (List.length x0 : Int) 1 4) fun r1 =>
      bif r1 then (
        Option.bind (xE4 N x0) fun r2 =>
        some r2
      ) else (
        some false
      )
    )
def xFA (N : Nat) (a0 : List Str) : Option (Bool) :=
  (xCR N N a0 a0 (List.length a0 : Int) 0)
def xCj (a0 : Org) (a1 : Org) : List Arg := [.val (.v true [.int .i64 (Org.cell a0), .int .i64 (Org.row a0)]), .val (.v true [.int .i64 (Org.cell a1), .int .i64 (Org.row a1)])]
def xBO (r : Bool) : CallO := ⟨.v false [.bool r], [], []⟩
def xEG (N : Nat) (a0 : Org) (a1 : Org) : Option (Bool) :=
  bif (decide (((Org.cell a0) : Int) < (Org.cell a1))) then (
    some true
  ) else (
    bif (((Org.cell a0) : Int) == (Org.cell a1)) then (
      some (decide (((Org.row a0) : Int) < (Org.row a1)))
    ) else (
      some false
    )
  )
def xD4 (a0 : Val) : List Arg := [.val (.v true [.int .i64 (Val.kind a0), .int .i64 (Val.n a0), .int .i64 (Val.step a0), .str (Val.text a0), .sl .ro .val (Val.list a0), .sl .ro .str (Val.columns a0), .sl .ro .row (Val.rows a0)])]
def xBd (r : Bool) : CallO := ⟨.v false [.bool r], [], []⟩
def xCq (N : Nat) (k4 : (List Rowd) → Int → Int → Val → Option (Bool)) : Nat → (List Rowd) → Int → Int → (List Org) → Int → Int → Val → Rowd → Option (Bool)
  | 0, _, _, _, _, _, _, _, _ => none
  | n + 1, x20, x21, x22, x45, x46, x47, b1, b4 =>
    bif (decide ((x47 : Int) < x46)) then (
      if (0 : Int) ≤ x47 ∧ x47 < (List.length x45) then
      bif (decide (((Org.cell (List.getD x45 (Int.toNat x47) Ty.org.dflt)) : Int) < 0)) then (
        some false
      ) else (
        bif (decide (((Org.row (List.getD x45 (Int.toNat x47) Ty.org.dflt)) : Int) < 0)) then (
          some false
        ) else (
          bif (decide ((x47 : Int) > 0)) then (
            if (0 : Int) ≤ (IntKind.i64.wrap (x47 - 1)) ∧ (IntKind.i64.wrap (x47 - 1)) < (List.length (Rowd.frm b4)) then
            Option.bind (xEG N (List.getD (Rowd.frm b4) (Int.toNat (IntKind.i64.wrap (x47 - 1))) Ty.org.dflt) (List.getD x45 (Int.toNat x47) Ty.org.dflt)) fun r1 =>
            bif (!r1) then (
              some false
            ) else (
              (xCq N k4 n x20 x21 x22 x45 x46 (IntKind.i64.wrap (x47 + 1)) b1 b4)
            )
            else none
          ) else (
            (xCq N k4 n x20 x21 x22 x45 x46 (IntKind.i64.wrap (x47 + 1)) b1 b4)
          )
        )
      )
      else none
    ) else (
      (k4 x20 x21 (IntKind.i64.wrap (x22 + 1)) b1)
    )
def xDu (N : Nat) (k4 : (List Rowd) → Int → Int → Val → Option (Bool)) : Nat → (List Rowd) → Int → Int → (List Int) → Int → Int → Val → Rowd → Option (Bool)
  | 0, _, _, _, _, _, _, _, _ => none
  | n + 1, x20, x21, x22, x34, x35, x36, b1, b4 =>
    bif (decide ((x36 : Int) < x35)) then (
      if (0 : Int) ≤ x36 ∧ x36 < (List.length x34) then
      Option.bind (xDn N (List.getD x34 (Int.toNat x36) Ty.int.dflt)) fun r1 =>
      bif (!r1) then (
        some false
      ) else (
        (xDu N k4 n x20 x21 x22 x34 x35 (IntKind.i64.wrap (x36 + 1)) b1 b4)
      )
      else none
    ) else (
      (xCq N k4 N x20 x21 x22 (Rowd.frm b4) (List.length (Rowd.frm b4) : Int) 0 b1 b4)
    )
def xDt (N : Nat) : Nat → (List Rowd) → Int → Int → Val → Option (Bool)
  | 0, _, _, _, _ => none
  | n + 1, x20, x21, x22, b1 =>
    bif (decide ((x22 : Int) < x21)) then (
      if (0 : Int) ≤ x22 ∧ x22 < (List.length x20) then
      bif (((List.length (Rowd.cells (List.getD x20 (Int.toNat x22) Ty.row.dflt)) : Int) : Int) != (List.length (Val.columns b1) : Int)) then (
        some false
      ) else (
        (xDu N (fun z0 z1 z2 z3 => (xDt N n z0 z1 z2 z3)) N x20 x21 x22 (Rowd.cells (List.getD x20 (Int.toNat x22) Ty.row.dflt)) (List.length (Rowd.cells (List.getD x20 (Int.toNat x22) Ty.row.dflt)) : Int) 0 b1 (List.getD x20 (Int.toNat x22) Ty.row.dflt))
      )
      else none
    ) else (
      some true
    )
def xFC (N : Nat) (a0 : Val) : Option (Bool) :=
  Option.bind (xFA N (Val.columns a0)) fun r1 =>
  bif (!r1) then (
    some false
  ) else (
    bif (decide (((List.length (Val.rows a0) : Int) : Int) > 12)) then (
      some false
    ) else (
      (xDt N N (Val.rows a0) (List.length (Val.rows a0) : Int) 0 a0)
    )
  )
def xCo (a0 : Val) : List Arg := [.val (.v true [.int .i64 (Val.kind a0), .int .i64 (Val.n a0), .int .i64 (Val.step a0), .str (Val.text a0), .sl .ro .val (Val.list a0), .sl .ro .str (Val.columns a0), .sl .ro .row (Val.rows a0)])]
def xBQ (r : Int) : CallO := ⟨.v false [.int .i64 r], [], []⟩
def xD2 (N : Nat) (rc_impl_DepthOf : Val → Option (Int)) : Nat → Int → (List Val) → Int → Int → Option (Int)
  | 0, _, _, _, _ => none
  | n + 1, x3, x7, x8, x9 =>
    bif (decide ((x9 : Int) < x8)) then (
      if (0 : Int) ≤ x9 ∧ x9 < (List.length x7) then
      Option.bind (rc_impl_DepthOf (List.getD x7 (Int.toNat x9) Ty.val.dflt)) fun r1 =>
      (xD2 N rc_impl_DepthOf n (if (r1 : Int) > x3 then r1 else x3) x7 x8 (IntKind.i64.wrap (x9 + 1)))
      else none
    ) else (
      some (IntKind.i64.wrap (x3 + 1))
    )
def xFH (N : Nat) (rc_impl_DepthOf : Val → Option (Int)) (a0 : Val) : Option (Int) :=
  (xD2 N rc_impl_DepthOf N 0 (Val.list a0) (List.length (Val.list a0) : Int) 0)
def xDD (N : Nat) : Nat → Val → Option (Int)
  | 0, _ => none
  | d + 1, a0 => xFH N (xDD N d) a0
def xGJ (N : Nat) (a0 : Val) : Option (Int) := xDD N N a0
def xAj (a0 : Val) : List Arg := [.val (.v true [.int .i64 (Val.kind a0), .int .i64 (Val.n a0), .int .i64 (Val.step a0), .str (Val.text a0), .sl .ro .val (Val.list a0), .sl .ro .str (Val.columns a0), .sl .ro .row (Val.rows a0)])]
def xAi (r : Bool) : CallO := ⟨.v false [.bool r], [], []⟩
def xA7 (N : Nat) (rc_impl_IsValidValue : Val → Option (Bool)) : Nat → (List Val) → Int → Int → Val → Option (Bool)
  | 0, _, _, _, _ => none
  | n + 1, x124, x125, x126, b1 =>
    bif (decide ((x126 : Int) < x125)) then (
      if (0 : Int) ≤ x126 ∧ x126 < (List.length x124) then
      bif (((Val.kind (List.getD x124 (Int.toNat x126) Ty.val.dflt)) : Int) != 1) then (
        bif (((Val.kind (List.getD x124 (Int.toNat x126) Ty.val.dflt)) : Int) != 2) then (
          bif (((Val.kind (List.getD x124 (Int.toNat x126) Ty.val.dflt)) : Int) != 3) then (
            some false
          ) else (
            Option.bind (rc_impl_IsValidValue (List.getD x124 (Int.toNat x126) Ty.val.dflt)) fun r1 =>
            bif (!r1) then (
              some false
            ) else (
              (xA7 N rc_impl_IsValidValue n x124 x125 (IntKind.i64.wrap (x126 + 1)) b1)
            )
          )
        ) else (
          Option.bind (rc_impl_IsValidValue (List.getD x124 (Int.toNat x126) Ty.val.dflt)) fun r1 =>
          bif (!r1) then (
            some false
          ) else (
            (xA7 N rc_impl_IsValidValue n x124 x125 (IntKind.i64.wrap (x126 + 1)) b1)
          )
        )
      ) else (
        Option.bind (rc_impl_IsValidValue (List.getD x124 (Int.toNat x126) Ty.val.dflt)) fun r1 =>
        bif (!r1) then (
          some false
        ) else (
          (xA7 N rc_impl_IsValidValue n x124 x125 (IntKind.i64.wrap (x126 + 1)) b1)
        )
      )
      else none
    ) else (
      bif (((Val.n b1) : Int) == 0) then (
        bif (((Val.step b1) : Int) == 0) then (
          bif (((Val.text b1) : Str) == []) then (
            bif (((List.length (Val.columns b1) : Int) : Int) == 0) then (
              bif (((List.length (Val.rows b1) : Int) : Int) == 0) then (
                bif (decide (((List.length (Val.list b1) : Int) : Int) ≤ 8)) then (
                  Option.bind (xGJ N b1) fun r1 =>
                  some (decide ((r1 : Int) ≤ 3))
                ) else (
                  some false
                )
              ) else (
                some false
              )
            ) else (
              some false
            )
          ) else (
            some false
          )
        ) else (
          some false
        )
      ) else (
        some false
      )
    )
def xCm (N : Nat) (rc_impl_IsValidValue : Val → Option (Bool)) (a0 : Val) : Option (Bool) :=
  bif (((List.length (Val.list a0) : Int) : Int) == 0) then (
    bif (((List.length (Val.columns a0) : Int) : Int) == 0) then (
      bif (((Val.kind a0) : Int) == 1) then (
        bif (((List.length (Val.rows a0) : Int) : Int) == 0) then (
          bif (((Val.step a0) : Int) == 0) then (
            bif (((Val.text a0) : Str) == []) then (
              Option.bind (xDn N (Val.n a0)) fun r1 =>
              some r1
            ) else (
              some false
            )
          ) else (
            some false
          )
        ) else (
          some false
        )
      ) else (
        bif (((Val.kind a0) : Int) == 2) then (
          bif (((List.length (Val.rows a0) : Int) : Int) == 0) then (
            bif (((Val.n a0) : Int) == 0) then (
              bif (((Val.step a0) : Int) == 0) then (
                Option.bind (xE5 N (Val.text a0)) fun r1 =>
                some r1
              ) else (
                some false
              )
            ) else (
              some false
            )
          ) else (
            some false
          )
        ) else (
          bif (((Val.kind a0) : Int) == 4) then (
            bif (((List.length (Val.rows a0) : Int) : Int) == 0) then (
              bif (((Val.text a0) : Str) == []) then (
                Option.bind (xDn N (Val.n a0)) fun r1 =>
                bif r1 then (
                  Option.bind (xDn N (Val.step a0)) fun r2 =>
                  some r2
                ) else (
                  some false
                )
              ) else (
                some false
              )
            ) else (
              some false
            )
          ) else (
            bif (((Val.kind a0) : Int) == 6) then (
              bif (((List.length (Val.rows a0) : Int) : Int) == 0) then (
                bif (((Val.step a0) : Int) == 0) then (
                  bif (((Val.text a0) : Str) == []) then (
                    Option.bind (xEV N (Val.n a0) 1 8) fun r1 =>
                    some r1
                  ) else (
                    some false
                  )
                ) else (
                  some false
                )
              ) else (
                some false
              )
            ) else (
              bif (((Val.kind a0) : Int) == 5) then (
                bif (((Val.n a0) : Int) == 0) then (
                  bif (((Val.step a0) : Int) == 0) then (
                    bif (((Val.text a0) : Str) == []) then (
                      Option.bind (xFC N a0) fun r1 =>
                      some r1
                    ) else (
                      some false
                    )
                  ) else (
                    some false
                  )
                ) else (
                  some false
                )
              ) else (
                bif (((Val.kind a0) : Int) == 3) then (
                  (xA7 N rc_impl_IsValidValue N (Val.list a0) (List.length (Val.list a0) : Int) 0 a0)
                ) else (
                  some false
                )
              )
            )
          )
        )
      )
    ) else (
      bif (((Val.kind a0) : Int) == 1) then (
        some false
      ) else (
        bif (((Val.kind a0) : Int) == 2) then (
          some false
        ) else (
          bif (((Val.kind a0) : Int) == 4) then (
            some false
          ) else (
            bif (((Val.kind a0) : Int) == 6) then (
              some false
            ) else (
              bif (((Val.kind a0) : Int) == 5) then (
                bif (((Val.n a0) : Int) == 0) then (
                  bif (((Val.step a0) : Int) == 0) then (
                    bif (((Val.text a0) : Str) == []) then (
                      Option.bind (xFC N a0) fun r1 =>
                      some r1
                    ) else (
                      some false
                    )
                  ) else (
                    some false
                  )
                ) else (
                  some false
                )
              ) else (
                bif (((Val.kind a0) : Int) == 3) then (
                  (xA7 N rc_impl_IsValidValue N (Val.list a0) (List.length (Val.list a0) : Int) 0 a0)
                ) else (
                  some false
                )
              )
            )
          )
        )
      )
    )
  ) else (
    bif (((Val.kind a0) : Int) == 1) then (
      some false
    ) else (
      bif (((Val.kind a0) : Int) == 2) then (
        some false
      ) else (
        bif (((Val.kind a0) : Int) == 4) then (
          some false
        ) else (
          bif (((Val.kind a0) : Int) == 6) then (
            some false
          ) else (
            bif (((Val.kind a0) : Int) == 5) then (
              bif (((Val.n a0) : Int) == 0) then (
                bif (((Val.step a0) : Int) == 0) then (
                  bif (((Val.text a0) : Str) == []) then (
                    some false
                  ) else (
                    some false
                  )
                ) else (
                  some false
                )
              ) else (
                some false
              )
            ) else (
              bif (((Val.kind a0) : Int) == 3) then (
                (xA7 N rc_impl_IsValidValue N (Val.list a0) (List.length (Val.list a0) : Int) 0 a0)
              ) else (
                some false
              )
            )
          )
        )
      )
    )
  )
def xBe (N : Nat) : Nat → Val → Option (Bool)
  | 0, _ => none
  | d + 1, a0 => xCm N (xBe N d) a0
def xGo (N : Nat) (a0 : Val) : Option (Bool) := xBe N N a0
def xAZ (a0 : Int) : List Arg := [.val (.v false [.int .i64 a0])]
def xAD (r : Val) : CallO := ⟨.v true [.int .i64 (Val.kind r), .int .i64 (Val.n r), .int .i64 (Val.step r), .str (Val.text r), .sl .own .val (Val.list r), .sl .own .str (Val.columns r), .sl .own .row (Val.rows r)], [], []⟩
def xA2 (N : Nat) (a0 : Int) : Option (Val) :=
  some (Val.mk 6 a0 0 [] [] [] [])
def xBp (a0 : List Val) : List Arg := [.val (.v false [.sl .ro .val a0])]
def xFD (r : Val × Bool × Bool) : CallO := ⟨.tup [(true, [.int .i64 (Val.kind r.1), .int .i64 (Val.n r.1), .int .i64 (Val.step r.1), .str (Val.text r.1), .sl .ro .val (Val.list r.1), .sl .ro .str (Val.columns r.1), .sl .ro .row (Val.rows r.1)]), (false, [.bool r.2.1])], [], []⟩
def xBs (r : Val × Bool × Bool) : CallO := ⟨.tup [(true, [.int .i64 (Val.kind r.1), .int .i64 (Val.n r.1), .int .i64 (Val.step r.1), .str (Val.text r.1), .sl .own .val (Val.list r.1), .sl .own .str (Val.columns r.1), .sl .own .row (Val.rows r.1)]), (false, [.bool r.2.1])], [], []⟩
def xBH (r : Val × Bool × Bool) : CallO := ⟨.tup [(true, [.int .i64 (Val.kind r.1), .int .i64 (Val.n r.1), .int .i64 (Val.step r.1), .str (Val.text r.1), .sl .ro .val [], .sl .ro .str [], .sl .ro .row []]), (false, [.bool r.2.1])], [], []⟩
def xBq (r : Val × Bool × Bool) : CallO := bif r.2.2 then xFD r else xBs r
def xBN (N : Nat) : Nat → (List Val) → Int → Int → Val → Option (Val × Bool × Bool)
  | 0, _, _, _, _ => none
  | n + 1, x6, x7, x8, b2 =>
    bif (decide ((x8 : Int) < x7)) then (
      if (0 : Int) ≤ x8 ∧ x8 < (List.length x6) then
      Option.bind (xGo N (List.getD x6 (Int.toNat x8) Ty.val.dflt)) fun r1 =>
      bif (!r1) then (
        Option.bind (xA2 N 4) fun r2 =>
        some (r2, true, false)
      ) else (
        bif (((Val.kind (List.getD x6 (Int.toNat x8) Ty.val.dflt)) : Int) == 6) then (
          some ((List.getD x6 (Int.toNat x8) Ty.val.dflt), true, true)
        ) else (
          (xBN N n x6 x7 (IntKind.i64.wrap (x8 + 1)) b2)
        )
      )
      else none
    ) else (
      some ((Val.mk 0 0 0 [] [] [] []), false, false)
    )
def xEF (N : Nat) (a0 : List Val) : Option (Val × Bool × Bool) :=
  (xBN N N a0 (List.length a0 : Int) 0 (Val.mk 0 0 0 [] [] [] []))
def xAs (a0 : Val) (a1 : Val) : List Arg := [.val (.v true [.int .i64 (Val.kind a0), .int .i64 (Val.n a0), .int .i64 (Val.step a0), .str (Val.text a0), .sl .ro .val (Val.list a0), .sl .ro .str (Val.columns a0), .sl .ro .row (Val.rows a0)]), .val (.v true [.int .i64 (Val.kind a1), .int .i64 (Val.n a1), .int .i64 (Val.step a1), .str (Val.text a1), .sl .ro .val (Val.list a1), .sl .ro .str (Val.columns a1), .sl .ro .row (Val.rows a1)])]
def xAB (r : Val × Bool × Bool) : CallO := ⟨.tup [(true, [.int .i64 (Val.kind r.1), .int .i64 (Val.n r.1), .int .i64 (Val.step r.1), .str (Val.text r.1), .sl .ro .val (Val.list r.1), .sl .ro .str (Val.columns r.1), .sl .ro .row (Val.rows r.1)]), (false, [.bool r.2.1])], [], []⟩
def xAA (r : Val × Bool × Bool) : CallO := ⟨.tup [(true, [.int .i64 (Val.kind r.1), .int .i64 (Val.n r.1), .int .i64 (Val.step r.1), .str (Val.text r.1), .sl .own .val (Val.list r.1), .sl .own .str (Val.columns r.1), .sl .own .row (Val.rows r.1)]), (false, [.bool r.2.1])], [], []⟩
def xA0 (r : Val × Bool × Bool) : CallO := bif r.2.2 then xAB r else xAA r
def xCT (N : Nat) (a0 : Val) (a1 : Val) : Option (Val × Bool × Bool) :=
  Option.bind (xEF N [(Val.re a0), (Val.re a1)]) fun r1 =>
  bif r1.2.2 then (
    if List.isEmpty (Val.list r1.1) = true then
    if List.isEmpty (Val.columns r1.1) = true then
    if List.isEmpty (Val.rows r1.1) = true then
    bif r1.2.1 then (
      some ((Val.mk (Val.kind r1.1) (Val.n r1.1) (Val.step r1.1) (Val.text r1.1) [] [] []), true, true)
    ) else (
      Option.bind (xA2 N 4) fun r2 =>
      bif (((Val.kind a0) : Int) != 1) then (
        some (r2, true, false)
      ) else (
        bif (((Val.kind a1) : Int) != 3) then (
          some (r2, (((Val.kind a1) : Int) != 4), false)
        ) else (
          some (r2, false, false)
        )
      )
    )
    else none
    else none
    else none
  ) else (
    bif r1.2.1 then (
      some (r1.1, true, false)
    ) else (
      Option.bind (xA2 N 4) fun r2 =>
      bif (((Val.kind a0) : Int) != 1) then (
        some (r2, true, false)
      ) else (
        bif (((Val.kind a1) : Int) != 3) then (
          some (r2, (((Val.kind a1) : Int) != 4), false)
        ) else (
          some (r2, false, false)
        )
      )
    )
  )
def xGd (a0 : Rowd) : List Arg := [.val (.v true [.sl .ro .int (Rowd.cells a0), .sl .ro .org (Rowd.frm a0)])]
def xFB (r : Rowd) : CallO := ⟨.v true [.sl .own .int (Rowd.cells r), .sl .own .org (Rowd.frm r)], [], []⟩
def xGL (N : Nat) (a0 : Rowd) : Option (Rowd) :=
  if 0 + List.length (Rowd.cells a0) ≤ Lim then
  if 0 + List.length (Rowd.frm a0) ≤ Lim then
  some (Rowd.mk ([] ++ (Rowd.cells a0)) ([] ++ (Rowd.frm a0)))
  else none
  else none
def xBm (a0 : Val) : List Arg := [.val (.v true [.int .i64 (Val.kind a0), .int .i64 (Val.n a0), .int .i64 (Val.step a0), .str (Val.text a0), .sl .ro .val (Val.list a0), .sl .ro .str (Val.columns a0), .sl .ro .row (Val.rows a0)])]
def xA1 (r : Val) : CallO := ⟨.v true [.int .i64 (Val.kind r), .int .i64 (Val.n r), .int .i64 (Val.step r), .str (Val.text r), .sl .own .val (Val.list r), .sl .own .str (Val.columns r), .sl .own .row (Val.rows r)], [], []⟩
def xCC (N : Nat) (rc_impl_copyValue : Val → Option (Val)) (rc_impl_copyValues : (List Val) → Option ((List Val))) : Nat → (List Rowd) → Int → Int → Val → Val → Option (Val)
  | 0, _, _, _, _, _ => none
  | n + 1, x18, x19, x20, b2, b3 =>
    bif (decide ((x20 : Int) < x19)) then (
      if (0 : Int) ≤ x20 ∧ x20 < (List.length x18) then
      Option.bind (xGL N (List.getD x18 (Int.toNat x20) Ty.row.dflt)) fun r1 =>
      if List.length (Val.rows b3) + List.length [r1] ≤ Lim then
      (xCC N rc_impl_copyValue rc_impl_copyValues n x18 x19 (IntKind.i64.wrap (x20 + 1)) b2 (Val.mk (Val.kind b3) (Val.n b3) (Val.step b3) (Val.text b3) (Val.list b3) (Val.columns b3) ((Val.rows b3) ++ [r1])))
      else none
      else none
    ) else (
      some b3
    )
def xDd (N : Nat) (rc_impl_copyValue : Val → Option (Val)) (rc_impl_copyValues : (List Val) → Option ((List Val))) (a0 : Val) : Option (Val) :=
  Option.bind (rc_impl_copyValues (Val.list a0)) fun r1 =>
  if 0 + List.length (Val.columns a0) ≤ Lim then
  (xCC N rc_impl_copyValue rc_impl_copyValues N (Val.rows a0) (List.length (Val.rows a0) : Int) 0 (Val.mk 0 0 0 [] [] [] []) (Val.mk (Val.kind a0) (Val.n a0) (Val.step a0) (Val.text a0) r1 ([] ++ (Val.columns a0)) []))
  else none
def xBn (a0 : List Val) : List Arg := [.val (.v false [.sl .ro .val a0])]
def xA5 (r : (List Val)) : CallO := ⟨.v false [.sl .own .val r], [], []⟩
def xCS (N : Nat) (rc_impl_copyValue : Val → Option (Val)) (rc_impl_copyValues : (List Val) → Option ((List Val))) : Nat → (List Val) → (List Val) → Int → Int → Option ((List Val))
  | 0, _, _, _, _ => none
  | n + 1, x3, x7, x8, x9 =>
    bif (decide ((x9 : Int) < x8)) then (
      if (0 : Int) ≤ x9 ∧ x9 < (List.length x7) then
      Option.bind (rc_impl_copyValue (List.getD x7 (Int.toNat x9) Ty.val.dflt)) fun r1 =>
      if List.length x3 + List.length [(Val.re r1)] ≤ Lim then
      (xCS N rc_impl_copyValue rc_impl_copyValues n (x3 ++ [(Val.re r1)]) x7 x8 (IntKind.i64.wrap (x9 + 1)))
      else none
      else none
    ) else (
      some x3
    )
def xCZ (N : Nat) (rc_impl_copyValue : Val → Option (Val)) (rc_impl_copyValues : (List Val) → Option ((List Val))) (a0 : List Val) : Option ((List Val)) :=
  (xCS N rc_impl_copyValue rc_impl_copyValues N [] a0 (List.length a0 : Int) 0)
structure impl_copyValue_rec where
  c_impl_copyValue : Val → Option (Val)
  c_impl_copyValues : (List Val) → Option ((List Val))
def xAO (N : Nat) : Nat → impl_copyValue_rec
  | 0 => ⟨fun _ => none, fun _ => none⟩
  | d + 1 => ⟨xDd N (xAO N d).c_impl_copyValue (xAO N d).c_impl_copyValues, xCZ N (xAO N d).c_impl_copyValue (xAO N d).c_impl_copyValues⟩
def xGE (N : Nat) (a0 : Val) : Option (Val) := (xAO N N).c_impl_copyValue a0
def xG6 (N : Nat) (a0 : List Val) : Option ((List Val)) := (xAO N N).c_impl_copyValues a0
def xET (a0 : Int) : List Arg := [.val (.v false [.int .i64 a0])]
def xD3 (r : Val) : CallO := ⟨.v true [.int .i64 (Val.kind r), .int .i64 (Val.n r), .int .i64 (Val.step r), .str (Val.text r), .sl .own .val (Val.list r), .sl .own .str (Val.columns r), .sl .own .row (Val.rows r)], [], []⟩
def xE6 (N : Nat) (a0 : Int) : Option (Val) :=
  some (Val.mk 1 a0 0 [] [] [] [])
def xCB (a0 : Int) : List Arg := [.val (.v false [.int .i64 a0])]
def xBX (r : Val) : CallO := ⟨.v true [.int .i64 (Val.kind r), .int .i64 (Val.n r), .int .i64 (Val.step r), .str (Val.text r), .sl .own .val (Val.list r), .sl .own .str (Val.columns r), .sl .own .row (Val.rows r)], [], []⟩
def xCP (N : Nat) (a0 : Int) : Option (Val) :=
  Option.bind (xDn N a0) fun r1 =>
  bif (!r1) then (
    Option.bind (xA2 N 5) fun r2 =>
    some r2
  ) else (
    Option.bind (xE6 N a0) fun r2 =>
    some r2
  )
def xBl (a0 : Val) (a1 : Val) : List Arg := [.val (.v true [.int .i64 (Val.kind a0), .int .i64 (Val.n a0), .int .i64 (Val.step a0), .str (Val.text a0), .sl .ro .val (Val.list a0), .sl .ro .str (Val.columns a0), .sl .ro .row (Val.rows a0)]), .val (.v true [.int .i64 (Val.kind a1), .int .i64 (Val.n a1), .int .i64 (Val.step a1), .str (Val.text a1), .sl .ro .val (Val.list a1), .sl .ro .str (Val.columns a1), .sl .ro .row (Val.rows a1)])]
def xCI (r : Val × Bool) : CallO := ⟨.v true [.int .i64 (Val.kind r.1), .int .i64 (Val.n r.1), .int .i64 (Val.step r.1), .str (Val.text r.1), .sl .ro .val (Val.list r.1), .sl .ro .str (Val.columns r.1), .sl .ro .row (Val.rows r.1)], [], []⟩
def xCH (r : Val × Bool) : CallO := ⟨.v true [.int .i64 (Val.kind r.1), .int .i64 (Val.n r.1), .int .i64 (Val.step r.1), .str (Val.text r.1), .sl .own .val (Val.list r.1), .sl .own .str (Val.columns r.1), .sl .own .row (Val.rows r.1)], [], []⟩
def xBM (r : Val × Bool) : CallO := bif r.2 then xCI r else xCH r
def xDc (N : Nat) (a0 : Val) (a1 : Val) : Option (Val × Bool) :=
  Option.bind (xCT N a0 a1) fun r1 =>
  bif r1.2.2 then (
    bif r1.2.1 then (
      some (r1.1, true)
    ) else (
      bif (decide (((Val.n a0) : Int) < 0)) then (
        Option.bind (xA2 N 5) fun r2 =>
        some (r2, false)
      ) else (
        bif (((Val.kind a1) : Int) == 3) then (
          bif (decide (((Val.n a0) : Int) ≥ (List.length (Val.list a1) : Int))) then (
            Option.bind (xA2 N 5) fun r2 =>
            some (r2, false)
          ) else (
            if (0 : Int) ≤ (Val.n a0) ∧ (Val.n a0) < (List.length (Val.list a1)) then
            Option.bind (xGE N (List.getD (Val.list a1) (Int.toNat (Val.n a0)) Ty.val.dflt)) fun r2 =>
            some (r2, false)
            else none
          )
        ) else (
          Option.bind (xCP N (IntKind.i64.wrap ((Val.n a1) + (IntKind.i64.wrap ((Val.n a0) * (Val.step a1)))))) fun r2 =>
          some (r2, false)
        )
      )
    )
  ) else (
    bif r1.2.1 then (
      some (r1.1, false)
    ) else (
      bif (decide (((Val.n a0) : Int) < 0)) then (
        Option.bind (xA2 N 5) fun r2 =>
        some (r2, false)
      ) else (
        bif (((Val.kind a1) : Int) == 3) then (
          bif (decide (((Val.n a0) : Int) ≥ (List.length (Val.list a1) : Int))) then (
            Option.bind (xA2 N 5) fun r2 =>
            some (r2, false)
          ) else (
            if (0 : Int) ≤ (Val.n a0) ∧ (Val.n a0) < (List.length (Val.list a1)) then
            Option.bind (xGE N (List.getD (Val.list a1) (Int.toNat (Val.n a0)) Ty.val.dflt)) fun r2 =>
            some (r2, false)
            else none
          )
        ) else (
          Option.bind (xCP N (IntKind.i64.wrap ((Val.n a1) + (IntKind.i64.wrap ((Val.n a0) * (Val.step a1)))))) fun r2 =>
          some (r2, false)
        )
      )
    )
  )
def xDf (a0 : List Str) (a1 : List Str) : List Arg := [.val (.v false [.sl .ro .str a0]), .val (.v false [.sl .ro .str a1])]
def xBC (r : Bool) : CallO := ⟨.v false [.bool r], [], []⟩
def xDg (N : Nat) : Nat → (List Str) → (List Str) → Int → Option (Bool)
  | 0, _, _, _ => none
  | n + 1, x0, x1, x5 =>
    bif (decide ((x5 : Int) < (List.length x0 : Int))) then (
      if (0 : Int) ≤ x5 ∧ x5 < (List.length x0) then
      if (0 : Int) ≤ x5 ∧ x5 < (List.length x1) then
      bif (!(((List.getD x0 (Int.toNat x5) Ty.str.dflt) : Str) == (List.getD x1 (Int.toNat x5) Ty.str.dflt))) then (
        some false
      ) else (
        (xDg N n x0 x1 (IntKind.i64.wrap (x5 + 1)))
      )
      else none
      else none
    ) else (
      some true
    )
def xFl (N : Nat) (a0 : List Str) (a1 : List Str) : Option (Bool) :=
  bif (((List.length a0 : Int) : Int) != (List.length a1 : Int)) then (
    some false
  ) else (
    (xDg N N a0 a1 0)
  )
def xEu (a0 : List Int) (a1 : List Int) : List Arg := [.val (.v false [.sl .ro .int a0]), .val (.v false [.sl .ro .int a1])]
def xCg (r : Bool) : CallO := ⟨.v false [.bool r], [], []⟩
def xEv (N : Nat) : Nat → (List Int) → (List Int) → Int → Option (Bool)
  | 0, _, _, _ => none
  | n + 1, x0, x1, x5 =>
    bif (decide ((x5 : Int) < (List.length x0 : Int))) then (
      if (0 : Int) ≤ x5 ∧ x5 < (List.length x0) then
      if (0 : Int) ≤ x5 ∧ x5 < (List.length x1) then
      bif (((List.getD x0 (Int.toNat x5) Ty.int.dflt) : Int) != (List.getD x1 (Int.toNat x5) Ty.int.dflt)) then (
        some false
      ) else (
        (xEv N n x0 x1 (IntKind.i64.wrap (x5 + 1)))
      )
      else none
      else none
    ) else (
      some true
    )
def xGp (N : Nat) (a0 : List Int) (a1 : List Int) : Option (Bool) :=
  bif (((List.length a0 : Int) : Int) != (List.length a1 : Int)) then (
    some false
  ) else (
    (xEv N N a0 a1 0)
  )
def xDF (a0 : Org) (a1 : Org) : List Arg := [.val (.v true [.int .i64 (Org.cell a0), .int .i64 (Org.row a0)]), .val (.v true [.int .i64 (Org.cell a1), .int .i64 (Org.row a1)])]
def xCr (r : Bool) : CallO := ⟨.v false [.bool r], [], []⟩
def xFI (N : Nat) (a0 : Org) (a1 : Org) : Option (Bool) :=
  bif (((Org.cell a0) : Int) != (Org.cell a1)) then (
    some false
  ) else (
    bif (((Org.row a0) : Int) != (Org.row a1)) then (
      some false
    ) else (
      some true
    )
  )
def xDU (a0 : List Org) (a1 : List Org) : List Arg := [.val (.v false [.sl .ro .org a0]), .val (.v false [.sl .ro .org a1])]
def xB8 (r : Bool) : CallO := ⟨.v false [.bool r], [], []⟩
def xDe (N : Nat) : Nat → (List Org) → (List Org) → Int → Option (Bool)
  | 0, _, _, _ => none
  | n + 1, x0, x1, x5 =>
    bif (decide ((x5 : Int) < (List.length x0 : Int))) then (
      if (0 : Int) ≤ x5 ∧ x5 < (List.length x0) then
      if (0 : Int) ≤ x5 ∧ x5 < (List.length x1) then
      Option.bind (xFI N (List.getD x0 (Int.toNat x5) Ty.org.dflt) (List.getD x1 (Int.toNat x5) Ty.org.dflt)) fun r1 =>
      bif (!r1) then (
        some false
      ) else (
        (xDe N n x0 x1 (IntKind.i64.wrap (x5 + 1)))
      )
      else none
      else none
    ) else (
      some true
    )
def xFj (N : Nat) (a0 : List Org) (a1 : List Org) : Option (Bool) :=
  bif (((List.length a0 : Int) : Int) != (List.length a1 : Int)) then (
    some false
  ) else (
    (xDe N N a0 a1 0)
  )
def xEW (a0 : Rowd) (a1 : Rowd) : List Arg := [.val (.v true [.sl .ro .int (Rowd.cells a0), .sl .ro .org (Rowd.frm a0)]), .val (.v true [.sl .ro .int (Rowd.cells a1), .sl .ro .org (Rowd.frm a1)])]
def xDQ (r : Bool) : CallO := ⟨.v false [.bool r], [], []⟩
def xGX (N : Nat) (a0 : Rowd) (a1 : Rowd) : Option (Bool) :=
  Option.bind (xGp N (Rowd.cells a0) (Rowd.cells a1)) fun r1 =>
  bif (!r1) then (
    some false
  ) else (
    Option.bind (xFj N (Rowd.frm a0) (Rowd.frm a1)) fun r2 =>
    bif (!r2) then (
      some false
    ) else (
      some true
    )
  )
def xFk (a0 : List Rowd) (a1 : List Rowd) : List Arg := [.val (.v false [.sl .ro .row a0]), .val (.v false [.sl .ro .row a1])]
def xCK (r : Bool) : CallO := ⟨.v false [.bool r], [], []⟩
def xEw (N : Nat) : Nat → (List Rowd) → (List Rowd) → Int → Option (Bool)
  | 0, _, _, _ => none
  | n + 1, x0, x1, x5 =>
    bif (decide ((x5 : Int) < (List.length x0 : Int))) then (
      if (0 : Int) ≤ x5 ∧ x5 < (List.length x0) then
      if (0 : Int) ≤ x5 ∧ x5 < (List.length x1) then
      Option.bind (xGX N (List.getD x0 (Int.toNat x5) Ty.row.dflt) (List.getD x1 (Int.toNat x5) Ty.row.dflt)) fun r1 =>
      bif (!r1) then (
        some false
      ) else (
        (xEw N n x0 x1 (IntKind.i64.wrap (x5 + 1)))
      )
      else none
      else none
    ) else (
      some true
    )
def xGq (N : Nat) (a0 : List Rowd) (a1 : List Rowd) : Option (Bool) :=
  bif (((List.length a0 : Int) : Int) != (List.length a1 : Int)) then (
    some false
  ) else (
    (xEw N N a0 a1 0)
  )
def xAf (a0 : Val) (a1 : Val) : List Arg := [.val (.v true [.int .i64 (Val.kind a0), .int .i64 (Val.n a0), .int .i64 (Val.step a0), .str (Val.text a0), .sl .ro .val (Val.list a0), .sl .ro .str (Val.columns a0), .sl .ro .row (Val.rows a0)]), .val (.v true [.int .i64 (Val.kind a1), .int .i64 (Val.n a1), .int .i64 (Val.step a1), .str (Val.text a1), .sl .ro .val (Val.list a1), .sl .ro .str (Val.columns a1), .sl .ro .row (Val.rows a1)])]
def xAb (r : Bool) : CallO := ⟨.v false [.bool r], [], []⟩
def xDV (N : Nat) (rc_laws_eqValue : Val → Val → Option (Bool)) (rc_laws_eqValueS : (List Val) → (List Val) → Option (Bool)) (a0 : Val) (a1 : Val) : Option (Bool) :=
  bif (((Val.kind a0) : Int) != (Val.kind a1)) then (
    some false
  ) else (
    bif (((Val.n a0) : Int) != (Val.n a1)) then (
      some false
    ) else (
      bif (((Val.step a0) : Int) != (Val.step a1)) then (
        some false
      ) else (
        bif (!(((Val.text a0) : Str) == (Val.text a1))) then (
          some false
        ) else (
          Option.bind (rc_laws_eqValueS (Val.list a0) (Val.list a1)) fun r1 =>
          bif (!r1) then (
            some false
          ) else (
            Option.bind (xFl N (Val.columns a0) (Val.columns a1)) fun r2 =>
            bif (!r2) then (
              some false
            ) else (
              Option.bind (xGq N (Val.rows a0) (Val.rows a1)) fun r3 =>
              bif (!r3) then (
                some false
              ) else (
                some true
              )
            )
          )
        )
      )
    )
  )
def xBx (a0 : List Val) (a1 : List Val) : List Arg := [.val (.v false [.sl .ro .val a0]), .val (.v false [.sl .ro .val a1])]
def xAX (r : Bool) : CallO := ⟨.v false [.bool r], [], []⟩
def xDG (N : Nat) (rc_laws_eqValue : Val → Val → Option (Bool)) (rc_laws_eqValueS : (List Val) → (List Val) → Option (Bool)) : Nat → (List Val) → (List Val) → Int → Option (Bool)
  | 0, _, _, _ => none
  | n + 1, x0, x1, x5 =>
    bif (decide ((x5 : Int) < (List.length x0 : Int))) then (
      if (0 : Int) ≤ x5 ∧ x5 < (List.length x0) then
      if (0 : Int) ≤ x5 ∧ x5 < (List.length x1) then
      Option.bind (rc_laws_eqValue (List.getD x0 (Int.toNat x5) Ty.val.dflt) (List.getD x1 (Int.toNat x5) Ty.val.dflt)) fun r1 =>
      bif (!r1) then (
        some false
      ) else (
        (xDG N rc_laws_eqValue rc_laws_eqValueS n x0 x1 (IntKind.i64.wrap (x5 + 1)))
      )
      else none
      else none
    ) else (
      some true
    )
def xDz (N : Nat) (rc_laws_eqValue : Val → Val → Option (Bool)) (rc_laws_eqValueS : (List Val) → (List Val) → Option (Bool)) (a0 : List Val) (a1 : List Val) : Option (Bool) :=
  bif (((List.length a0 : Int) : Int) != (List.length a1 : Int)) then (
    some false
  ) else (
    (xDG N rc_laws_eqValue rc_laws_eqValueS N a0 a1 0)
  )
structure laws_eqValue_rec where
  c_laws_eqValue : Val → Val → Option (Bool)
  c_laws_eqValueS : (List Val) → (List Val) → Option (Bool)
def xBj (N : Nat) : Nat → laws_eqValue_rec
  | 0 => ⟨fun _ _ => none, fun _ _ => none⟩
  | d + 1 => ⟨xDV N (xBj N d).c_laws_eqValue (xBj N d).c_laws_eqValueS, xDz N (xBj N d).c_laws_eqValue (xBj N d).c_laws_eqValueS⟩
def xAL (N : Nat) (a0 : Val) (a1 : Val) : Option (Bool) := (xBj N N).c_laws_eqValue a0 a1
def xBD (a0 : Int) : List Arg := [.val (.v false [.int .i64 a0])]
def xAP (r : Str) : CallO := ⟨.v false [.str r], [], []⟩
def xDM (N : Nat) : Nat → Int → Str → Option (Str)
  | 0, _, _ => none
  | n + 1, x0, x3 =>
    bif (decide ((x0 : Int) > 0)) then (
      if List.length (List.map (fun n => UInt8.ofNat (Int.toNat n)) [(IntKind.u8.wrap ((IntKind.i64.wrap (48 + (Int.tmod x0 10)))))]) + List.length x3 ≤ Lim then
      (xDM N n (IntKind.i64.wrap (Int.tdiv x0 10)) ((List.map (fun n => UInt8.ofNat (Int.toNat n)) [(IntKind.u8.wrap ((IntKind.i64.wrap (48 + (Int.tmod x0 10)))))]) ++ x3))
      else none
    ) else (
      if List.length [109] + List.length x3 ≤ Lim then
      some ([109] ++ x3)
      else none
    )
def xDp (N : Nat) (a0 : Int) : Option (Str) :=
  bif (decide ((a0 : Int) ≤ 0)) then (
    some [109, 48]
  ) else (
    (xDM N N a0 [])
  )
def xEp (a0 : List Str) (a1 : Int) : List Arg := [.val (.v false [.sl .ro .str []]), .val (.v false [.int .i64 a1])]
def xCD (r : Int) : CallO := ⟨.v false [.int .i64 r], [], []⟩
def xEq (N : Nat) : Nat → Int → Int → Option (Int)
  | 0, _, _ => none
  | n + 1, x1, x5 =>
    bif (decide ((x5 : Int) < (0 : Int))) then (
      Option.bind (xDp N x1) fun r1 =>
      if (0 : Int) ≤ x5 ∧ x5 < (0) then
      none
      else none
    ) else (
      some x1
    )
def xEo (N : Nat) (a0 : List Str) (a1 : Int) : Option (Int) :=
  (xEq N N a1 0)
def xD6 (a0 : List Str) (a1 : Int) : List Arg := [.val (.v false [.sl (.lnt 0) .str a0]), .val (.v false [.int .i64 a1])]
def xCd (r : Int × (List Str)) : CallO := ⟨.v false [.int .i64 r.1], [], [.sl (.lnt 0) .str r.2]⟩
def xCy (N : Nat) : Nat → (List Str) → Int → Int → Option (Int × (List Str))
  | 0, _, _, _ => none
  | n + 1, x0, x1, x5 =>
    bif (decide ((x5 : Int) < (List.length x0 : Int))) then (
      Option.bind (xDp N x1) fun r1 =>
      if (0 : Int) ≤ x5 ∧ x5 < (List.length x0) then
      (xCy N n (List.set x0 (Int.toNat x5) r1) (IntKind.i64.wrap (x1 + 1)) (IntKind.i64.wrap (x5 + 1)))
      else none
    ) else (
      some (x1, x0)
    )
def xEg (N : Nat) (a0 : List Str) (a1 : Int) : Option (Int × (List Str)) :=
  (xCy N N a0 a1 0)
def xF7 (a0 : List Int) (a1 : Int) : List Arg := [.val (.v false [.sl (.lnt 0) .int a0]), .val (.v false [.int .i64 a1])]
def xEf (r : Int × (List Int)) : CallO := ⟨.v false [.int .i64 r.1], [], [.sl (.lnt 0) .int r.2]⟩
def xDK (N : Nat) : Nat → (List Int) → Int → Int → Option (Int × (List Int))
  | 0, _, _, _ => none
  | n + 1, x0, x1, x5 =>
    bif (decide ((x5 : Int) < (List.length x0 : Int))) then (
      if (0 : Int) ≤ x5 ∧ x5 < (List.length x0) then
      (xDK N n (List.set x0 (Int.toNat x5) x1) (IntKind.i64.wrap (x1 + 1)) (IntKind.i64.wrap (x5 + 1)))
      else none
    ) else (
      some (x1, x0)
    )
def xGg (N : Nat) (a0 : List Int) (a1 : Int) : Option (Int × (List Int)) :=
  (xDK N N a0 a1 0)
def xFt (a0 : List Rowd) (a1 : Int) : List Arg := [.val (.v false [.sl .ro .row []]), .val (.v false [.int .i64 a1])]
def xDA (r : Int) : CallO := ⟨.v false [.int .i64 r], [], []⟩
def xFu (N : Nat) : Nat → Int → Int → Option (Int)
  | 0, _, _ => none
  | n + 1, x1, x5 =>
    bif (decide ((x5 : Int) < (0 : Int))) then (
      if (0 : Int) ≤ x5 ∧ x5 < (0) then
      none
      else none
    ) else (
      some x1
    )
def xFE (N : Nat) (a0 : List Rowd) (a1 : Int) : Option (Int) :=
  (xFu N N a1 0)
def xBi (a0 : Val) (a1 : Int) : List Arg := [.val (.v true [.int .i64 (Val.kind a0), .int .i64 (Val.n a0), .int .i64 (Val.step a0), .str (Val.text a0), .sl .ro .val [], .sl .ro .str [], .sl .ro .row []]), .val (.v false [.int .i64 a1])]
def xAK (r : Int) : CallO := ⟨.v false [.int .i64 r], [], []⟩
def xC5 (N : Nat) (a0 : Val) (a1 : Int) : Option (Int) :=
  Option.bind (xEH N [] a1) fun r1 =>
  Option.bind (xEo N [] r1) fun r2 =>
  Option.bind (xFE N [] r2) fun r3 =>
  some r3
def xEY (a0 : List Org) (a1 : Int) : List Arg := [.val (.v false [.sl (.lnt 0) .org a0]), .val (.v false [.int .i64 a1])]
def xDj (r : Int × (List Org)) : CallO := ⟨.v false [.int .i64 r.1], [], [.sl (.lnt 0) .org r.2]⟩
def xCx (N : Nat) : Nat → (List Org) → Int → Int → Option (Int × (List Org))
  | 0, _, _, _ => none
  | n + 1, x0, x1, x5 =>
    bif (decide ((x5 : Int) < (List.length x0 : Int))) then (
      if (0 : Int) ≤ x5 ∧ x5 < (List.length x0) then
      if (0 : Int) ≤ x5 ∧ x5 < (List.length (List.set x0 (Int.toNat x5) (Org.mk x1 (Org.row (List.getD x0 (Int.toNat x5) Ty.org.dflt))))) then
      (xCx N n ((fun (z1 : List Org) => List.set z1 (Int.toNat x5) (Org.mk (Org.cell (List.getD z1 (Int.toNat x5) Ty.org.dflt)) (IntKind.i64.wrap (x1 + 1)))) (List.set x0 (Int.toNat x5) (Org.mk x1 (Org.row (List.getD x0 (Int.toNat x5) Ty.org.dflt))))) (IntKind.i64.wrap ((IntKind.i64.wrap (x1 + 1)) + 1)) (IntKind.i64.wrap (x5 + 1)))
      else none
      else none
    ) else (
      some (x1, x0)
    )
def xE8 (N : Nat) (a0 : List Org) (a1 : Int) : Option (Int × (List Org)) :=
  (xCx N N a0 a1 0)
def xE9 (a0 : List Rowd) (a1 : Int) : List Arg := [.val (.v false [.sl (.lnt 0) .row a0]), .val (.v false [.int .i64 a1])]
def xC4 (r : Int × (List Rowd)) : CallO := ⟨.v false [.int .i64 r.1], [], [.sl (.lnt 0) .row r.2]⟩
def xDL (N : Nat) : Nat → (List Rowd) → Int → Int → Option (Int × (List Rowd))
  | 0, _, _, _ => none
  | n + 1, x0, x1, x5 =>
    bif (decide ((x5 : Int) < (List.length x0 : Int))) then (
      if (0 : Int) ≤ x5 ∧ x5 < (List.length x0) then
      Option.bind (xGg N (Rowd.cells (List.getD x0 (Int.toNat x5) Ty.row.dflt)) x1) fun r1 =>
      if List.length r1.2 = List.length (Rowd.cells (List.getD x0 (Int.toNat x5) Ty.row.dflt)) then
      if (0 : Int) ≤ x5 ∧ x5 < (List.length (List.set x0 (Int.toNat x5) (Rowd.mk r1.2 (Rowd.frm (List.getD x0 (Int.toNat x5) Ty.row.dflt))))) then
      Option.bind (xE8 N (Rowd.frm (List.getD (List.set x0 (Int.toNat x5) (Rowd.mk r1.2 (Rowd.frm (List.getD x0 (Int.toNat x5) Ty.row.dflt)))) (Int.toNat x5) Ty.row.dflt)) r1.1) fun r2 =>
      if List.length r2.2 = List.length (Rowd.frm (List.getD (List.set x0 (Int.toNat x5) (Rowd.mk r1.2 (Rowd.frm (List.getD x0 (Int.toNat x5) Ty.row.dflt)))) (Int.toNat x5) Ty.row.dflt)) then
      (xDL N n ((fun (z1 : List Rowd) => List.set z1 (Int.toNat x5) (Rowd.mk (Rowd.cells (List.getD z1 (Int.toNat x5) Ty.row.dflt)) r2.2)) (List.set x0 (Int.toNat x5) (Rowd.mk r1.2 (Rowd.frm (List.getD x0 (Int.toNat x5) Ty.row.dflt))))) r2.1 (IntKind.i64.wrap (x5 + 1)))
      else none
      else none
      else none
      else none
    ) else (
      some (x1, x0)
    )
def xFJ (N : Nat) (a0 : List Rowd) (a1 : Int) : Option (Int × (List Rowd)) :=
  (xDL N N a0 a1 0)
def xBW (a0 : List Val) (a1 : Int) : List Arg := [.val (.v false [.sl (.lnt 0) .val a0]), .val (.v false [.int .i64 a1])]
def xBo (r : Int × (List Val)) : CallO := ⟨.v false [.int .i64 r.1], [], [.sl (.lnt 0) .val r.2]⟩
def xCU (N : Nat) (rc_laws_markValueS : (List Val) → Int → Option (Int × (List Val))) : Nat → (List Val) → Int → Int → Option (Int × (List Val))
  | 0, _, _, _ => none
  | n + 1, x0, x1, x5 =>
    bif (decide ((x5 : Int) < (List.length x0 : Int))) then (
      if (0 : Int) ≤ x5 ∧ x5 < (List.length x0) then
      if (0 : Int) ≤ x5 ∧ x5 < (List.length (List.set x0 (Int.toNat x5) (Val.mk x1 (Val.n (List.getD x0 (Int.toNat x5) Ty.val.dflt)) (Val.step (List.getD x0 (Int.toNat x5) Ty.val.dflt)) (Val.text (List.getD x0 (Int.toNat x5) Ty.val.dflt)) (Val.list (List.getD x0 (Int.toNat x5) Ty.val.dflt)) (Val.columns (List.getD x0 (Int.toNat x5) Ty.val.dflt)) (Val.rows (List.getD x0 (Int.toNat x5) Ty.val.dflt))))) then
      if (0 : Int) ≤ x5 ∧ x5 < (List.length ((fun (z40 : List Val) => List.set z40 (Int.toNat x5) (Val.mk (Val.kind (List.getD z40 (Int.toNat x5) Ty.val.dflt)) (IntKind.i64.wrap (x1 + 1)) (Val.step (List.getD z40 (Int.toNat x5) Ty.val.dflt)) (Val.text (List.getD z40 (Int.toNat x5) Ty.val.dflt)) (Val.list (List.getD z40 (Int.toNat x5) Ty.val.dflt)) (Val.columns (List.getD z40 (Int.toNat x5) Ty.val.dflt)) (Val.rows (List.getD z40 (Int.toNat x5) Ty.val.dflt)))) (List.set x0 (Int.toNat x5) (Val.mk x1 (Val.n (List.getD x0 (Int.toNat x5) Ty.val.dflt)) (Val.step (List.getD x0 (Int.toNat x5) Ty.val.dflt)) (Val.text (List.getD x0 (Int.toNat x5) Ty.val.dflt)) (Val.list (List.getD x0 (Int.toNat x5) Ty.val.dflt)) (Val.columns (List.getD x0 (Int.toNat x5) Ty.val.dflt)) (Val.rows (List.getD x0 (Int.toNat x5) Ty.val.dflt)))))) then
      Option.bind (xDp N (IntKind.i64.wrap ((IntKind.i64.wrap ((IntKind.i64.wrap (x1 + 1)) + 1)) + 1))) fun r1 =>
      if (0 : Int) ≤ x5 ∧ x5 < (List.length ((fun (z41 : List Val) => List.set z41 (Int.toNat x5) (Val.mk (Val.kind (List.getD z41 (Int.toNat x5) Ty.val.dflt)) (Val.n (List.getD z41 (Int.toNat x5) Ty.val.dflt)) (IntKind.i64.wrap ((IntKind.i64.wrap (x1 + 1)) + 1)) (Val.text (List.getD z41 (Int.toNat x5) Ty.val.dflt)) (Val.list (List.getD z41 (Int.toNat x5) Ty.val.dflt)) (Val.columns (List.getD z41 (Int.toNat x5) Ty.val.dflt)) (Val.rows (List.getD z41 (Int.toNat x5) Ty.val.dflt)))) ((fun (z40 : List Val) => List.set z40 (Int.toNat x5) (Val.mk (Val.kind (List.getD z40 (Int.toNat x5) Ty.val.dflt)) (IntKind.i64.wrap (x1 + 1)) (Val.step (List.getD z40 (Int.toNat x5) Ty.val.dflt)) (Val.text (List.getD z40 (Int.toNat x5) Ty.val.dflt)) (Val.list (List.getD z40 (Int.toNat x5) Ty.val.dflt)) (Val.columns (List.getD z40 (Int.toNat x5) Ty.val.dflt)) (Val.rows (List.getD z40 (Int.toNat x5) Ty.val.dflt)))) (List.set x0 (Int.toNat x5) (Val.mk x1 (Val.n (List.getD x0 (Int.toNat x5) Ty.val.dflt)) (Val.step (List.getD x0 (Int.toNat x5) Ty.val.dflt)) (Val.text (List.getD x0 (Int.toNat x5) Ty.val.dflt)) (Val.list (List.getD x0 (Int.toNat x5) Ty.val.dflt)) (Val.columns (List.getD x0 (Int.toNat x5) Ty.val.dflt)) (Val.rows (List.getD x0 (Int.toNat x5) Ty.val.dflt))))))) then
      if (0 : Int) ≤ x5 ∧ x5 < (List.length ((fun (z42 : List Val) => List.set z42 (Int.toNat x5) (Val.mk (Val.kind (List.getD z42 (Int.toNat x5) Ty.val.dflt)) (Val.n (List.getD z42 (Int.toNat x5) Ty.val.dflt)) (Val.step (List.getD z42 (Int.toNat x5) Ty.val.dflt)) r1 (Val.list (List.getD z42 (Int.toNat x5) Ty.val.dflt)) (Val.columns (List.getD z42 (Int.toNat x5) Ty.val.dflt)) (Val.rows (List.getD z42 (Int.toNat x5) Ty.val.dflt)))) ((fun (z41 : List Val) => List.set z41 (Int.toNat x5) (Val.mk (Val.kind (List.getD z41 (Int.toNat x5) Ty.val.dflt)) (Val.n (List.getD z41 (Int.toNat x5) Ty.val.dflt)) (IntKind.i64.wrap ((IntKind.i64.wrap (x1 + 1)) + 1)) (Val.text (List.getD z41 (Int.toNat x5) Ty.val.dflt)) (Val.list (List.getD z41 (Int.toNat x5) Ty.val.dflt)) (Val.columns (List.getD z41 (Int.toNat x5) Ty.val.dflt)) (Val.rows (List.getD z41 (Int.toNat x5) Ty.val.dflt)))) ((fun (z40 : List Val) => List.set z40 (Int.toNat x5) (Val.mk (Val.kind (List.getD z40 (Int.toNat x5) Ty.val.dflt)) (IntKind.i64.wrap (x1 + 1)) (Val.step (List.getD z40 (Int.toNat x5) Ty.val.dflt)) (Val.text (List.getD z40 (Int.toNat x5) Ty.val.dflt)) (Val.list (List.getD z40 (Int.toNat x5) Ty.val.dflt)) (Val.columns (List.getD z40 (Int.toNat x5) Ty.val.dflt)) (Val.rows (List.getD z40 (Int.toNat x5) Ty.val.dflt)))) (List.set x0 (Int.toNat x5) (Val.mk x1 (Val.n (List.getD x0 (Int.toNat x5) Ty.val.dflt)) (Val.step (List.getD x0 (Int.toNat x5) Ty.val.dflt)) (Val.text (List.getD x0 (Int.toNat x5) Ty.val.dflt)) (Val.list (List.getD x0 (Int.toNat x5) Ty.val.dflt)) (Val.columns (List.getD x0 (Int.toNat x5) Ty.val.dflt)) (Val.rows (List.getD x0 (Int.toNat x5) Ty.val.dflt)))))))) then
      Option.bind (rc_laws_markValueS (Val.list (List.getD ((fun (z42 : List Val) => List.set z42 (Int.toNat x5) (Val.mk (Val.kind (List.getD z42 (Int.toNat x5) Ty.val.dflt)) (Val.n (List.getD z42 (Int.toNat x5) Ty.val.dflt)) (Val.step (List.getD z42 (Int.toNat x5) Ty.val.dflt)) r1 (Val.list (List.getD z42 (Int.toNat x5) Ty.val.dflt)) (Val.columns (List.getD z42 (Int.toNat x5) Ty.val.dflt)) (Val.rows (List.getD z42 (Int.toNat x5) Ty.val.dflt)))) ((fun (z41 : List Val) => List.set z41 (Int.toNat x5) (Val.mk (Val.kind (List.getD z41 (Int.toNat x5) Ty.val.dflt)) (Val.n (List.getD z41 (Int.toNat x5) Ty.val.dflt)) (IntKind.i64.wrap ((IntKind.i64.wrap (x1 + 1)) + 1)) (Val.text (List.getD z41 (Int.toNat x5) Ty.val.dflt)) (Val.list (List.getD z41 (Int.toNat x5) Ty.val.dflt)) (Val.columns (List.getD z41 (Int.toNat x5) Ty.val.dflt)) (Val.rows (List.getD z41 (Int.toNat x5) Ty.val.dflt)))) ((fun (z40 : List Val) => List.set z40 (Int.toNat x5) (Val.mk (Val.kind (List.getD z40 (Int.toNat x5) Ty.val.dflt)) (IntKind.i64.wrap (x1 + 1)) (Val.step (List.getD z40 (Int.toNat x5) Ty.val.dflt)) (Val.text (List.getD z40 (Int.toNat x5) Ty.val.dflt)) (Val.list (List.getD z40 (Int.toNat x5) Ty.val.dflt)) (Val.columns (List.getD z40 (Int.toNat x5) Ty.val.dflt)) (Val.rows (List.getD z40 (Int.toNat x5) Ty.val.dflt)))) (List.set x0 (Int.toNat x5) (Val.mk x1 (Val.n (List.getD x0 (Int.toNat x5) Ty.val.dflt)) (Val.step (List.getD x0 (Int.toNat x5) Ty.val.dflt)) (Val.text (List.getD x0 (Int.toNat x5) Ty.val.dflt)) (Val.list (List.getD x0 (Int.toNat x5) Ty.val.dflt)) (Val.columns (List.getD x0 (Int.toNat x5) Ty.val.dflt)) (Val.rows (List.getD x0 (Int.toNat x5) Ty.val.dflt))))))) (Int.toNat x5) Ty.val.dflt)) (IntKind.i64.wrap ((IntKind.i64.wrap ((IntKind.i64.wrap ((IntKind.i64.wrap (x1 + 1)) + 1)) + 1)) + 1))) fun r2 =>
      if List.length r2.2 = List.length (Val.list (List.getD ((fun (z42 : List Val) => List.set z42 (Int.toNat x5) (Val.mk (Val.kind (List.getD z42 (Int.toNat x5) Ty.val.dflt)) (Val.n (List.getD z42 (Int.toNat x5) Ty.val.dflt)) (Val.step (List.getD z42 (Int.toNat x5) Ty.val.dflt)) r1 (Val.list (List.getD z42 (Int.toNat x5) Ty.val.dflt)) (Val.columns (List.getD z42 (Int.toNat x5) Ty.val.dflt)) (Val.rows (List.getD z42 (Int.toNat x5) Ty.val.dflt)))) ((fun (z41 : List Val) => List.set z41 (Int.toNat x5) (Val.mk (Val.kind (List.getD z41 (Int.toNat x5) Ty.val.dflt)) (Val.n (List.getD z41 (Int.toNat x5) Ty.val.dflt)) (IntKind.i64.wrap ((IntKind.i64.wrap (x1 + 1)) + 1)) (Val.text (List.getD z41 (Int.toNat x5) Ty.val.dflt)) (Val.list (List.getD z41 (Int.toNat x5) Ty.val.dflt)) (Val.columns (List.getD z41 (Int.toNat x5) Ty.val.dflt)) (Val.rows (List.getD z41 (Int.toNat x5) Ty.val.dflt)))) ((fun (z40 : List Val) => List.set z40 (Int.toNat x5) (Val.mk (Val.kind (List.getD z40 (Int.toNat x5) Ty.val.dflt)) (IntKind.i64.wrap (x1 + 1)) (Val.step (List.getD z40 (Int.toNat x5) Ty.val.dflt)) (Val.text (List.getD z40 (Int.toNat x5) Ty.val.dflt)) (Val.list (List.getD z40 (Int.toNat x5) Ty.val.dflt)) (Val.columns (List.getD z40 (Int.toNat x5) Ty.val.dflt)) (Val.rows (List.getD z40 (Int.toNat x5) Ty.val.dflt)))) (List.set x0 (Int.toNat x5) (Val.mk x1 (Val.n (List.getD x0 (Int.toNat x5) Ty.val.dflt)) (Val.step (List.getD x0 (Int.toNat x5) Ty.val.dflt)) (Val.text (List.getD x0 (Int.toNat x5) Ty.val.dflt)) (Val.list (List.getD x0 (Int.toNat x5) Ty.val.dflt)) (Val.columns (List.getD x0 (Int.toNat x5) Ty.val.dflt)) (Val.rows (List.getD x0 (Int.toNat x5) Ty.val.dflt))))))) (Int.toNat x5) Ty.val.dflt)) then
      if (0 : Int) ≤ x5 ∧ x5 < (List.length ((fun (z43 : List Val) => List.set z43 (Int.toNat x5) (Val.mk (Val.kind (List.getD z43 (Int.toNat x5) Ty.val.dflt)) (Val.n (List.getD z43 (Int.toNat x5) Ty.val.dflt)) (Val.step (List.getD z43 (Int.toNat x5) Ty.val.dflt)) (Val.text (List.getD z43 (Int.toNat x5) Ty.val.dflt)) r2.2 (Val.columns (List.getD z43 (Int.toNat x5) Ty.val.dflt)) (Val.rows (List.getD z43 (Int.toNat x5) Ty.val.dflt)))) ((fun (z42 : List Val) => List.set z42 (Int.toNat x5) (Val.mk (Val.kind (List.getD z42 (Int.toNat x5) Ty.val.dflt)) (Val.n (List.getD z42 (Int.toNat x5) Ty.val.dflt)) (Val.step (List.getD z42 (Int.toNat x5) Ty.val.dflt)) r1 (Val.list (List.getD z42 (Int.toNat x5) Ty.val.dflt)) (Val.columns (List.getD z42 (Int.toNat x5) Ty.val.dflt)) (Val.rows (List.getD z42 (Int.toNat x5) Ty.val.dflt)))) ((fun (z41 : List Val) => List.set z41 (Int.toNat x5) (Val.mk (Val.kind (List.getD z41 (Int.toNat x5) Ty.val.dflt)) (Val.n (List.getD z41 (Int.toNat x5) Ty.val.dflt)) (IntKind.i64.wrap ((IntKind.i64.wrap (x1 + 1)) + 1)) (Val.text (List.getD z41 (Int.toNat x5) Ty.val.dflt)) (Val.list (List.getD z41 (Int.toNat x5) Ty.val.dflt)) (Val.columns (List.getD z41 (Int.toNat x5) Ty.val.dflt)) (Val.rows (List.getD z41 (Int.toNat x5) Ty.val.dflt)))) ((fun (z40 : List Val) => List.set z40 (Int.toNat x5) (Val.mk (Val.kind (List.getD z40 (Int.toNat x5) Ty.val.dflt)) (IntKind.i64.wrap (x1 + 1)) (Val.step (List.getD z40 (Int.toNat x5) Ty.val.dflt)) (Val.text (List.getD z40 (Int.toNat x5) Ty.val.dflt)) (Val.list (List.getD z40 (Int.toNat x5) Ty.val.dflt)) (Val.columns (List.getD z40 (Int.toNat x5) Ty.val.dflt)) (Val.rows (List.getD z40 (Int.toNat x5) Ty.val.dflt)))) (List.set x0 (Int.toNat x5) (Val.mk x1 (Val.n (List.getD x0 (Int.toNat x5) Ty.val.dflt)) (Val.step (List.getD x0 (Int.toNat x5) Ty.val.dflt)) (Val.text (List.getD x0 (Int.toNat x5) Ty.val.dflt)) (Val.list (List.getD x0 (Int.toNat x5) Ty.val.dflt)) (Val.columns (List.getD x0 (Int.toNat x5) Ty.val.dflt)) (Val.rows (List.getD x0 (Int.toNat x5) Ty.val.dflt))))))))) then
      Option.bind (xEg N (Val.columns (List.getD ((fun (z43 : List Val) => List.set z43 (Int.toNat x5) (Val.mk (Val.kind (List.getD z43 (Int.toNat x5) Ty.val.dflt)) (Val.n (List.getD z43 (Int.toNat x5) Ty.val.dflt)) (Val.step (List.getD z43 (Int.toNat x5) Ty.val.dflt)) (Val.text (List.getD z43 (Int.toNat x5) Ty.val.dflt)) r2.2 (Val.columns (List.getD z43 (Int.toNat x5) Ty.val.dflt)) (Val.rows (List.getD z43 (Int.toNat x5) Ty.val.dflt)))) ((fun (z42 : List Val) => List.set z42 (Int.toNat x5) (Val.mk (Val.kind (List.getD z42 (Int.toNat x5) Ty.val.dflt)) (Val.n (List.getD z42 (Int.toNat x5) Ty.val.dflt)) (Val.step (List.getD z42 (Int.toNat x5) Ty.val.dflt)) r1 (Val.list (List.getD z42 (Int.toNat x5) Ty.val.dflt)) (Val.columns (List.getD z42 (Int.toNat x5) Ty.val.dflt)) (Val.rows (List.getD z42 (Int.toNat x5) Ty.val.dflt)))) ((fun (z41 : List Val) => List.set z41 (Int.toNat x5) (Val.mk (Val.kind (List.getD z41 (Int.toNat x5) Ty.val.dflt)) (Val.n (List.getD z41 (Int.toNat x5) Ty.val.dflt)) (IntKind.i64.wrap ((IntKind.i64.wrap (x1 + 1)) + 1)) (Val.text (List.getD z41 (Int.toNat x5) Ty.val.dflt)) (Val.list (List.getD z41 (Int.toNat x5) Ty.val.dflt)) (Val.columns (List.getD z41 (Int.toNat x5) Ty.val.dflt)) (Val.rows (List.getD z41 (Int.toNat x5) Ty.val.dflt)))) ((fun (z40 : List Val) => List.set z40 (Int.toNat x5) (Val.mk (Val.kind (List.getD z40 (Int.toNat x5) Ty.val.dflt)) (IntKind.i64.wrap (x1 + 1)) (Val.step (List.getD z40 (Int.toNat x5) Ty.val.dflt)) (Val.text (List.getD z40 (Int.toNat x5) Ty.val.dflt)) (Val.list (List.getD z40 (Int.toNat x5) Ty.val.dflt)) (Val.columns (List.getD z40 (Int.toNat x5) Ty.val.dflt)) (Val.rows (List.getD z40 (Int.toNat x5) Ty.val.dflt)))) (List.set x0 (Int.toNat x5) (Val.mk x1 (Val.n (List.getD x0 (Int.toNat x5) Ty.val.dflt)) (Val.step (List.getD x0 (Int.toNat x5) Ty.val.dflt)) (Val.text (List.getD x0 (Int.toNat x5) Ty.val.dflt)) (Val.list (List.getD x0 (Int.toNat x5) Ty.val.dflt)) (Val.columns (List.getD x0 (Int.toNat x5) Ty.val.dflt)) (Val.rows (List.getD x0 (Int.toNat x5) Ty.val.dflt)))))))) (Int.toNat x5) Ty.val.dflt)) r2.1) fun r3 =>
      if List.length r3.2 = List.length (Val.columns (List.getD ((fun (z43 : List Val) => List.set z43 (Int.toNat x5) (Val.mk (Val.kind (List.getD z43 (Int.toNat x5) Ty.val.dflt)) (Val.n (List.getD z43 (Int.toNat x5) Ty.val.dflt)) (Val.step (List.getD z43 (Int.toNat x5) Ty.val.dflt)) (Val.text (List.getD z43 (Int.toNat x5) Ty.val.dflt)) r2.2 (Val.columns (List.getD z43 (Int.toNat x5) Ty.val.dflt)) (Val.rows (List.getD z43 (Int.toNat x5) Ty.val.dflt)))) ((fun (z42 : List Val) => List.set z42 (Int.toNat x5) (Val.mk (Val.kind (List.getD z42 (Int.toNat x5) Ty.val.dflt)) (Val.n (List.getD z42 (Int.toNat x5) Ty.val.dflt)) (Val.step (List.getD z42 (Int.toNat x5) Ty.val.dflt)) r1 (Val.list (List.getD z42 (Int.toNat x5) Ty.val.dflt)) (Val.columns (List.getD z42 (Int.toNat x5) Ty.val.dflt)) (Val.rows (List.getD z42 (Int.toNat x5) Ty.val.dflt)))) ((fun (z41 : List Val) => List.set z41 (Int.toNat x5) (Val.mk (Val.kind (List.getD z41 (Int.toNat x5) Ty.val.dflt)) (Val.n (List.getD z41 (Int.toNat x5) Ty.val.dflt)) (IntKind.i64.wrap ((IntKind.i64.wrap (x1 + 1)) + 1)) (Val.text (List.getD z41 (Int.toNat x5) Ty.val.dflt)) (Val.list (List.getD z41 (Int.toNat x5) Ty.val.dflt)) (Val.columns (List.getD z41 (Int.toNat x5) Ty.val.dflt)) (Val.rows (List.getD z41 (Int.toNat x5) Ty.val.dflt)))) ((fun (z40 : List Val) => List.set z40 (Int.toNat x5) (Val.mk (Val.kind (List.getD z40 (Int.toNat x5) Ty.val.dflt)) (IntKind.i64.wrap (x1 + 1)) (Val.step (List.getD z40 (Int.toNat x5) Ty.val.dflt)) (Val.text (List.getD z40 (Int.toNat x5) Ty.val.dflt)) (Val.list (List.getD z40 (Int.toNat x5) Ty.val.dflt)) (Val.columns (List.getD z40 (Int.toNat x5) Ty.val.dflt)) (Val.rows (List.getD z40 (Int.toNat x5) Ty.val.dflt)))) (List.set x0 (Int.toNat x5) (Val.mk x1 (Val.n (List.getD x0 (Int.toNat x5) Ty.val.dflt)) (Val.step (List.getD x0 (Int.toNat x5) Ty.val.dflt)) (Val.text (List.getD x0 (Int.toNat x5) Ty.val.dflt)) (Val.list (List.getD x0 (Int.toNat x5) Ty.val.dflt)) (Val.columns (List.getD x0 (Int.toNat x5) Ty.val.dflt)) (Val.rows (List.getD x0 (Int.toNat x5) Ty.val.dflt)))))))) (Int.toNat x5) Ty.val.dflt)) then
      if (0 : Int) ≤ x5 ∧ x5 < (List.length ((fun (z44 : List Val) => List.set z44 (Int.toNat x5) (Val.mk (Val.kind (List.getD z44 (Int.toNat x5) Ty.val.dflt)) (Val.n (List.getD z44 (Int.toNat x5) Ty.val.dflt)) (Val.step (List.getD z44 (Int.toNat x5) Ty.val.dflt)) (Val.text (List.getD z44 (Int.toNat x5) Ty.val.dflt)) (Val.list (List.getD z44 (Int.toNat x5) Ty.val.dflt)) r3.2 (Val.rows (List.getD z44 (Int.toNat x5) Ty.val.dflt)))) ((fun (z43 : List Val) => List.set z43 (Int.toNat x5) (Val.mk (Val.kind (List.getD z43 (Int.toNat x5) Ty.val.dflt)) (Val.n (List.getD z43 (Int.toNat x5) Ty.val.dflt)) (Val.step (List.getD z43 (Int.toNat x5) Ty.val.dflt)) (Val.text (List.getD z43 (Int.toNat x5) Ty.val.dflt)) r2.2 (Val.columns (List.getD z43 (Int.toNat x5) Ty.val.dflt)) (Val.rows (List.getD z43 (Int.toNat x5) Ty.val.dflt)))) ((fun (z42 : List Val) => List.set z42 (Int.toNat x5) (Val.mk (Val.kind (List.getD z42 (Int.toNat x5) Ty.val.dflt)) (Val.n (List.getD z42 (Int.toNat x5) Ty.val.dflt)) (Val.step (List.getD z42 (Int.toNat x5) Ty.val.dflt)) r1 (Val.list (List.getD z42 (Int.toNat x5) Ty.val.dflt)) (Val.columns (List.getD z42 (Int.toNat x5) Ty.val.dflt)) (Val.rows (List.getD z42 (Int.toNat x5) Ty.val.dflt)))) ((fun (z41 : List Val) => List.set z41 (Int.toNat x5) (Val.mk (Val.kind (List.getD z41 (Int.toNat x5) Ty.val.dflt)) (Val.n (List.getD z41 (Int.toNat x5) Ty.val.dflt)) (IntKind.i64.wrap ((IntKind.i64.wrap (x1 + 1)) + 1)) (Val.text (List.getD z41 (Int.toNat x5) Ty.val.dflt)) (Val.list (List.getD z41 (Int.toNat x5) Ty.val.dflt)) (Val.columns (List.getD z41 (Int.toNat x5) Ty.val.dflt)) (Val.rows (List.getD z41 (Int.toNat x5) Ty.val.dflt)))) ((fun (z40 : List Val) => List.set z40 (Int.toNat x5) (Val.mk (Val.kind (List.getD z40 (Int.toNat x5) Ty.val.dflt)) (IntKind.i64.wrap (x1 + 1)) (Val.step (List.getD z40 (Int.toNat x5) Ty.val.dflt)) (Val.text (List.getD z40 (Int.toNat x5) Ty.val.dflt)) (Val.list (List.getD z40 (Int.toNat x5) Ty.val.dflt)) (Val.columns (List.getD z40 (Int.toNat x5) Ty.val.dflt)) (Val.rows (List.getD z40 (Int.toNat x5) Ty.val.dflt)))) (List.set x0 (Int.toNat x5) (Val.mk x1 (Val.n (List.getD x0 (Int.toNat x5) Ty.val.dflt)) (Val.step (List.getD x0 (Int.toNat x5) Ty.val.dflt)) (Val.text (List.getD x0 (Int.toNat x5) Ty.val.dflt)) (Val.list (List.getD x0 (Int.toNat x5) Ty.val.dflt)) (Val.columns (List.getD x0 (Int.toNat x5) Ty.val.dflt)) (Val.rows (List.getD x0 (Int.toNat x5) Ty.val.dflt)))))))))) then
      Option.bind (xFJ N (Val.rows (List.getD ((fun (z44 : List Val) => List.set z44 (Int.toNat x5) (Val.mk (Val.kind (List.getD z44 (Int.toNat x5) Ty.val.dflt)) (Val.n (List.getD z44 (Int.toNat x5) Ty.val.dflt)) (Val.step (List.getD z44 (Int.toNat x5) Ty.val.dflt)) (Val.text (List.getD z44 (Int.toNat x5) Ty.val.dflt)) (Val.list (List.getD z44 (Int.toNat x5) Ty.val.dflt)) r3.2 (Val.rows (List.getD z44 (Int.toNat x5) Ty.val.dflt)))) ((fun (z43 : List Val) => List.set z43 (Int.toNat x5) (Val.mk (Val.kind (List.getD z43 (Int.toNat x5) Ty.val.dflt)) (Val.n (List.getD z43 (Int.toNat x5) Ty.val.dflt)) (Val.step (List.getD z43 (Int.toNat x5) Ty.val.dflt)) (Val.text (List.getD z43 (Int.toNat x5) Ty.val.dflt)) r2.2 (Val.columns (List.getD z43 (Int.toNat x5) Ty.val.dflt)) (Val.rows (List.getD z43 (Int.toNat x5) Ty.val.dflt)))) ((fun (z42 : List Val) => List.set z42 (Int.toNat x5) (Val.mk (Val.kind (List.getD z42 (Int.toNat x5) Ty.val.dflt)) (Val.n (List.getD z42 (Int.toNat x5) Ty.val.dflt)) (Val.step (List.getD z42 (Int.toNat x5) Ty.val.dflt)) r1 (Val.list (List.getD z42 (Int.toNat x5) Ty.val.dflt)) (Val.columns (List.getD z42 (Int.toNat x5) Ty.val.dflt)) (Val.rows (List.getD z42 (Int.toNat x5) Ty.val.dflt)))) ((fun (z41 : List Val) => List.set z41 (Int.toNat x5) (Val.mk (Val.kind (List.getD z41 (Int.toNat x5) Ty.val.dflt)) (Val.n (List.getD z41 (Int.toNat x5) Ty.val.dflt)) (IntKind.i64.wrap ((IntKind.i64.wrap (x1 + 1)) + 1)) (Val.text (List.getD z41 (Int.toNat x5) Ty.val.dflt)) (Val.list (List.getD z41 (Int.toNat x5) Ty.val.dflt)) (Val.columns (List.getD z41 (Int.toNat x5) Ty.val.dflt)) (Val.rows (List.getD z41 (Int.toNat x5) Ty.val.dflt)))) ((fun (z40 : List Val) => List.set z40 (Int.toNat x5) (Val.mk (Val.kind (List.getD z40 (Int.toNat x5) Ty.val.dflt)) (IntKind.i64.wrap (x1 + 1)) (Val.step (List.getD z40 (Int.toNat x5) Ty.val.dflt)) (Val.text (List.getD z40 (Int.toNat x5) Ty.val.dflt)) (Val.list (List.getD z40 (Int.toNat x5) Ty.val.dflt)) (Val.columns (List.getD z40 (Int.toNat x5) Ty.val.dflt)) (Val.rows (List.getD z40 (Int.toNat x5) Ty.val.dflt)))) (List.set x0 (Int.toNat x5) (Val.mk x1 (Val.n (List.getD x0 (Int.toNat x5) Ty.val.dflt)) (Val.step (List.getD x0 (Int.toNat x5) Ty.val.dflt)) (Val.text (List.getD x0 (Int.toNat x5) Ty.val.dflt)) (Val.list (List.getD x0 (Int.toNat x5) Ty.val.dflt)) (Val.columns (List.getD x0 (Int.toNat x5) Ty.val.dflt)) (Val.rows (List.getD x0 (Int.toNat x5) Ty.val.dflt))))))))) (Int.toNat x5) Ty.val.dflt)) r3.1) fun r4 =>
      if List.length r4.2 = List.length (Val.rows (List.getD ((fun (z44 : List Val) => List.set z44 (Int.toNat x5) (Val.mk (Val.kind (List.getD z44 (Int.toNat x5) Ty.val.dflt)) (Val.n (List.getD z44 (Int.toNat x5) Ty.val.dflt)) (Val.step (List.getD z44 (Int.toNat x5) Ty.val.dflt)) (Val.text (List.getD z44 (Int.toNat x5) Ty.val.dflt)) (Val.list (List.getD z44 (Int.toNat x5) Ty.val.dflt)) r3.2 (Val.rows (List.getD z44 (Int.toNat x5) Ty.val.dflt)))) ((fun (z43 : List Val) => List.set z43 (Int.toNat x5) (Val.mk (Val.kind (List.getD z43 (Int.toNat x5) Ty.val.dflt)) (Val.n (List.getD z43 (Int.toNat x5) Ty.val.dflt)) (Val.step (List.getD z43 (Int.toNat x5) Ty.val.dflt)) (Val.text (List.getD z43 (Int.toNat x5) Ty.val.dflt)) r2.2 (Val.columns (List.getD z43 (Int.toNat x5) Ty.val.dflt)) (Val.rows (List.getD z43 (Int.toNat x5) Ty.val.dflt)))) ((fun (z42 : List Val) => List.set z42 (Int.toNat x5) (Val.mk (Val.kind (List.getD z42 (Int.toNat x5) Ty.val.dflt)) (Val.n (List.getD z42 (Int.toNat x5) Ty.val.dflt)) (Val.step (List.getD z42 (Int.toNat x5) Ty.val.dflt)) r1 (Val.list (List.getD z42 (Int.toNat x5) Ty.val.dflt)) (Val.columns (List.getD z42 (Int.toNat x5) Ty.val.dflt)) (Val.rows (List.getD z42 (Int.toNat x5) Ty.val.dflt)))) ((fun (z41 : List Val) => List.set z41 (Int.toNat x5) (Val.mk (Val.kind (List.getD z41 (Int.toNat x5) Ty.val.dflt)) (Val.n (List.getD z41 (Int.toNat x5) Ty.val.dflt)) (IntKind.i64.wrap ((IntKind.i64.wrap (x1 + 1)) + 1)) (Val.text (List.getD z41 (Int.toNat x5) Ty.val.dflt)) (Val.list (List.getD z41 (Int.toNat x5) Ty.val.dflt)) (Val.columns (List.getD z41 (Int.toNat x5) Ty.val.dflt)) (Val.rows (List.getD z41 (Int.toNat x5) Ty.val.dflt)))) ((fun (z40 : List Val) => List.set z40 (Int.toNat x5) (Val.mk (Val.kind (List.getD z40 (Int.toNat x5) Ty.val.dflt)) (IntKind.i64.wrap (x1 + 1)) (Val.step (List.getD z40 (Int.toNat x5) Ty.val.dflt)) (Val.text (List.getD z40 (Int.toNat x5) Ty.val.dflt)) (Val.list (List.getD z40 (Int.toNat x5) Ty.val.dflt)) (Val.columns (List.getD z40 (Int.toNat x5) Ty.val.dflt)) (Val.rows (List.getD z40 (Int.toNat x5) Ty.val.dflt)))) (List.set x0 (Int.toNat x5) (Val.mk x1 (Val.n (List.getD x0 (Int.toNat x5) Ty.val.dflt)) (Val.step (List.getD x0 (Int.toNat x5) Ty.val.dflt)) (Val.text (List.getD x0 (Int.toNat x5) Ty.val.dflt)) (Val.list (List.getD x0 (Int.toNat x5) Ty.val.dflt)) (Val.columns (List.getD x0 (Int.toNat x5) Ty.val.dflt)) (Val.rows (List.getD x0 (Int.toNat x5) Ty.val.dflt))))))))) (Int.toNat x5) Ty.val.dflt)) then
      (xCU N rc_laws_markValueS n ((fun (z45 : List Val) => List.set z45 (Int.toNat x5) (Val.mk (Val.kind (List.getD z45 (Int.toNat x5) Ty.val.dflt)) (Val.n (List.getD z45 (Int.toNat x5) Ty.val.dflt)) (Val.step (List.getD z45 (Int.toNat x5) Ty.val.dflt)) (Val.text (List.getD z45 (Int.toNat x5) Ty.val.dflt)) (Val.list (List.getD z45 (Int.toNat x5) Ty.val.dflt)) (Val.columns (List.getD z45 (Int.toNat x5) Ty.val.dflt)) r4.2)) ((fun (z44 : List Val) => List.set z44 (Int.toNat x5) (Val.mk (Val.kind (List.getD z44 (Int.toNat x5) Ty.val.dflt)) (Val.n (List.getD z44 (Int.toNat x5) Ty.val.dflt)) (Val.step (List.getD z44 (Int.toNat x5) Ty.val.dflt)) (Val.text (List.getD z44 (Int.toNat x5) Ty.val.dflt)) (Val.list (List.getD z44 (Int.toNat x5) Ty.val.dflt)) r3.2 (Val.rows (List.getD z44 (Int.toNat x5) Ty.val.dflt)))) ((fun (z43 : List Val) => List.set z43 (Int.toNat x5) (Val.mk (Val.kind (List.getD z43 (Int.toNat x5) Ty.val.dflt)) (Val.n (List.getD z43 (Int.toNat x5) Ty.val.dflt)) (Val.step (List.getD z43 (Int.toNat x5) Ty.val.dflt)) (Val.text (List.getD z43 (Int.toNat x5) Ty.val.dflt)) r2.2 (Val.columns (List.getD z43 (Int.toNat x5) Ty.val.dflt)) (Val.rows (List.getD z43 (Int.toNat x5) Ty.val.dflt)))) ((fun (z42 : List Val) => List.set z42 (Int.toNat x5) (Val.mk (Val.kind (List.getD z42 (Int.toNat x5) Ty.val.dflt)) (Val.n (List.getD z42 (Int.toNat x5) Ty.val.dflt)) (Val.step (List.getD z42 (Int.toNat x5) Ty.val.dflt)) r1 (Val.list (List.getD z42 (Int.toNat x5) Ty.val.dflt)) (Val.columns (List.getD z42 (Int.toNat x5) Ty.val.dflt)) (Val.rows (List.getD z42 (Int.toNat x5) Ty.val.dflt)))) ((fun (z41 : List Val) => List.set z41 (Int.toNat x5) (Val.mk (Val.kind (List.getD z41 (Int.toNat x5) Ty.val.dflt)) (Val.n (List.getD z41 (Int.toNat x5) Ty.val.dflt)) (IntKind.i64.wrap ((IntKind.i64.wrap (x1 + 1)) + 1)) (Val.text (List.getD z41 (Int.toNat x5) Ty.val.dflt)) (Val.list (List.getD z41 (Int.toNat x5) Ty.val.dflt)) (Val.columns (List.getD z41 (Int.toNat x5) Ty.val.dflt)) (Val.rows (List.getD z41 (Int.toNat x5) Ty.val.dflt)))) ((fun (z40 : List Val) => List.set z40 (Int.toNat x5) (Val.mk (Val.kind (List.getD z40 (Int.toNat x5) Ty.val.dflt)) (IntKind.i64.wrap (x1 + 1)) (Val.step (List.getD z40 (Int.toNat x5) Ty.val.dflt)) (Val.text (List.getD z40 (Int.toNat x5) Ty.val.dflt)) (Val.list (List.getD z40 (Int.toNat x5) Ty.val.dflt)) (Val.columns (List.getD z40 (Int.toNat x5) Ty.val.dflt)) (Val.rows (List.getD z40 (Int.toNat x5) Ty.val.dflt)))) (List.set x0 (Int.toNat x5) (Val.mk x1 (Val.n (List.getD x0 (Int.toNat x5) Ty.val.dflt)) (Val.step (List.getD x0 (Int.toNat x5) Ty.val.dflt)) (Val.text (List.getD x0 (Int.toNat x5) Ty.val.dflt)) (Val.list (List.getD x0 (Int.toNat x5) Ty.val.dflt)) (Val.columns (List.getD x0 (Int.toNat x5) Ty.val.dflt)) (Val.rows (List.getD x0 (Int.toNat x5) Ty.val.dflt)))))))))) r4.1 (IntKind.i64.wrap (x5 + 1)))
      else none
      else none
      else none
      else none
      else none
      else none
      else none
      else none
      else none
      else none
    ) else (
      some (x1, x0)
    )
def xEC (N : Nat) (rc_laws_markValueS : (List Val) → Int → Option (Int × (List Val))) (a0 : List Val) (a1 : Int) : Option (Int × (List Val)) :=
  (xCU N rc_laws_markValueS N a0 a1 0)
def xD7 (N : Nat) : Nat → (List Val) → Int → Option (Int × (List Val))
  | 0, _, _ => none
  | d + 1, a0, a1 => xEC N (xD7 N d) a0 a1
def xHa (N : Nat) (a0 : List Val) (a1 : Int) : Option (Int × (List Val)) := xD7 N N a0 a1
def xAm (a0 : Val) (a1 : Int) : List Arg := [.val (.v true [.int .i64 (Val.kind a0), .int .i64 (Val.n a0), .int .i64 (Val.step a0), .str (Val.text a0), .sl (.lnt 0) .val (Val.list a0), .sl (.lnt 1) .str (Val.columns a0), .sl (.lnt 2) .row (Val.rows a0)]), .val (.v false [.int .i64 a1])]
def xAg (r : Int × (List Val) × (List Str) × (List Rowd)) : CallO := ⟨.v false [.int .i64 r.1], [], [.sl (.lnt 0) .val r.2.1, .sl (.lnt 1) .str r.2.2.1, .sl (.lnt 2) .row r.2.2.2]⟩
def xBc (N : Nat) (a0 : Val) (a1 : Int) : Option (Int × (List Val) × (List Str) × (List Rowd)) :=
  Option.bind (xHa N (Val.list a0) a1) fun r1 =>
  if List.length r1.2 = List.length (Val.list a0) then
  Option.bind (xEg N (Val.columns a0) r1.1) fun r2 =>
  if List.length r2.2 = List.length (Val.columns a0) then
  Option.bind (xFJ N (Val.rows a0) r2.1) fun r3 =>
  if List.length r3.2 = List.length (Val.rows a0) then
  some (r3.1, r1.2, r2.2, r3.2)
  else none
  else none
  else none
def xBZ (a0 : List Str) (a1 : Int) : List Arg := [.val (.v false [.sl .ro .str a0]), .val (.v false [.int .i64 a1])]
def xAV (r : Int) : CallO := ⟨.v false [.int .i64 r], [], []⟩
def xCc (N : Nat) : Nat → (List Str) → Int → Int → Option (Int)
  | 0, _, _, _ => none
  | n + 1, x0, x1, x5 =>
    bif (decide ((x5 : Int) < (List.length x0 : Int))) then (
      if (0 : Int) ≤ x5 ∧ x5 < (List.length x0) then
      Option.bind (xDp N x1) fun r1 =>
      bif (!(((List.getD x0 (Int.toNat x5) Ty.str.dflt) : Str) == r1)) then (
        some (-1)
      ) else (
        (xCc N n x0 (IntKind.i64.wrap (x1 + 1)) (IntKind.i64.wrap (x5 + 1)))
      )
      else none
    ) else (
      some x1
    )
def xDJ (N : Nat) (a0 : List Str) (a1 : Int) : Option (Int) :=
  (xCc N N a0 a1 0)
def xEe (a0 : List Int) (a1 : Int) : List Arg := [.val (.v false [.sl .ro .int a0]), .val (.v false [.int .i64 a1])]
def xB5 (r : Int) : CallO := ⟨.v false [.int .i64 r], [], []⟩
def xDH (N : Nat) : Nat → (List Int) → Int → Int → Option (Int)
  | 0, _, _, _ => none
  | n + 1, x0, x1, x5 =>
    bif (decide ((x5 : Int) < (List.length x0 : Int))) then (
      if (0 : Int) ≤ x5 ∧ x5 < (List.length x0) then
      bif (((List.getD x0 (Int.toNat x5) Ty.int.dflt) : Int) != x1) then (
        some (-1)
      ) else (
        (xDH N n x0 (IntKind.i64.wrap (x1 + 1)) (IntKind.i64.wrap (x5 + 1)))
      )
      else none
    ) else (
      some x1
    )
def xGe (N : Nat) (a0 : List Int) (a1 : Int) : Option (Int) :=
  (xDH N N a0 a1 0)
def xD5 (a0 : List Org) (a1 : Int) : List Arg := [.val (.v false [.sl .ro .org a0]), .val (.v false [.int .i64 a1])]
def xBJ (r : Int) : CallO := ⟨.v false [.int .i64 r], [], []⟩
def xCw (N : Nat) : Nat → (List Org) → Int → Int → Option (Int)
  | 0, _, _, _ => none
  | n + 1, x0, x1, x5 =>
    bif (decide ((x5 : Int) < (List.length x0 : Int))) then (
      if (0 : Int) ≤ x5 ∧ x5 < (List.length x0) then
      bif (((Org.cell (List.getD x0 (Int.toNat x5) Ty.org.dflt)) : Int) != x1) then (
        some (-1)
      ) else (
        bif (((Org.row (List.getD x0 (Int.toNat x5) Ty.org.dflt)) : Int) != (IntKind.i64.wrap (x1 + 1))) then (
          some (-1)
        ) else (
          (xCw N n x0 (IntKind.i64.wrap ((IntKind.i64.wrap (x1 + 1)) + 1)) (IntKind.i64.wrap (x5 + 1)))
        )
      )
      else none
    ) else (
      some x1
    )
def xE7 (N : Nat) (a0 : List Org) (a1 : Int) : Option (Int) :=
  (xCw N N a0 a1 0)
def xDI (a0 : List Rowd) (a1 : Int) : List Arg := [.val (.v false [.sl .ro .row a0]), .val (.v false [.int .i64 a1])]
def xBy (r : Int) : CallO := ⟨.v false [.int .i64 r], [], []⟩
def xC3 (N : Nat) : Nat → (List Rowd) → Int → Int → Option (Int)
  | 0, _, _, _ => none
  | n + 1, x0, x1, x5 =>
    bif (decide ((x5 : Int) < (List.length x0 : Int))) then (
      if (0 : Int) ≤ x5 ∧ x5 < (List.length x0) then
      Option.bind (xGe N (Rowd.cells (List.getD x0 (Int.toNat x5) Ty.row.dflt)) x1) fun r1 =>
      bif (decide ((r1 : Int) < 0)) then (
        some (-1)
      ) else (
        Option.bind (xE7 N (Rowd.frm (List.getD x0 (Int.toNat x5) Ty.row.dflt)) r1) fun r2 =>
        bif (decide ((r2 : Int) < 0)) then (
          some (-1)
        ) else (
          (xC3 N n x0 r2 (IntKind.i64.wrap (x5 + 1)))
        )
      )
      else none
    ) else (
      some x1
    )
def xEX (N : Nat) (a0 : List Rowd) (a1 : Int) : Option (Int) :=
  (xC3 N N a0 a1 0)
def xA6 (a0 : List Val) (a1 : Int) : List Arg := [.val (.v false [.sl .ro .val a0]), .val (.v false [.int .i64 a1])]
def xAC (r : Int) : CallO := ⟨.v false [.int .i64 r], [], []⟩
def xCk (N : Nat) (rc_laws_heldValueS : (List Val) → Int → Option (Int)) : Nat → (List Val) → Int → Int → Option (Int)
  | 0, _, _, _ => none
  | n + 1, x0, x1, x5 =>
    bif (decide ((x5 : Int) < (List.length x0 : Int))) then (
      if (0 : Int) ≤ x5 ∧ x5 < (List.length x0) then
      bif (((Val.kind (List.getD x0 (Int.toNat x5) Ty.val.dflt)) : Int) != x1) then (
        some (-1)
      ) else (
        bif (((Val.n (List.getD x0 (Int.toNat x5) Ty.val.dflt)) : Int) != (IntKind.i64.wrap (x1 + 1))) then (
          some (-1)
        ) else (
          bif (((Val.step (List.getD x0 (Int.toNat x5) Ty.val.dflt)) : Int) != (IntKind.i64.wrap ((IntKind.i64.wrap (x1 + 1)) + 1))) then (
            some (-1)
          ) else (
            Option.bind (xDp N (IntKind.i64.wrap ((IntKind.i64.wrap ((IntKind.i64.wrap (x1 + 1)) + 1)) + 1))) fun r1 =>
            bif (!(((Val.text (List.getD x0 (Int.toNat x5) Ty.val.dflt)) : Str) == r1)) then (
              some (-1)
            ) else (
              Option.bind (rc_laws_heldValueS (Val.list (List.getD x0 (Int.toNat x5) Ty.val.dflt)) (IntKind.i64.wrap ((IntKind.i64.wrap ((IntKind.i64.wrap ((IntKind.i64.wrap (x1 + 1)) + 1)) + 1)) + 1))) fun r2 =>
              bif (decide ((r2 : Int) < 0)) then (
                some (-1)
              ) else (
                Option.bind (xDJ N (Val.columns (List.getD x0 (Int.toNat x5) Ty.val.dflt)) r2) fun r3 =>
                bif (decide ((r3 : Int) < 0)) then (
                  some (-1)
                ) else (
                  Option.bind (xEX N (Val.rows (List.getD x0 (Int.toNat x5) Ty.val.dflt)) r3) fun r4 =>
                  bif (decide ((r4 : Int) < 0)) then (
                    some (-1)
                  ) else (
                    (xCk N rc_laws_heldValueS n x0 r4 (IntKind.i64.wrap (x5 + 1)))
                  )
                )
              )
            )
          )
        )
      )
      else none
    ) else (
      some x1
    )
def xDP (N : Nat) (rc_laws_heldValueS : (List Val) → Int → Option (Int)) (a0 : List Val) (a1 : Int) : Option (Int) :=
  (xCk N rc_laws_heldValueS N a0 a1 0)
def xDi (N : Nat) : Nat → (List Val) → Int → Option (Int)
  | 0, _, _ => none
  | d + 1, a0, a1 => xDP N (xDi N d) a0 a1
def xGf (N : Nat) (a0 : List Val) (a1 : Int) : Option (Int) := xDi N N a0 a1
def xAy (a0 : Val) (a1 : Int) : List Arg := [.val (.v true [.int .i64 (Val.kind a0), .int .i64 (Val.n a0), .int .i64 (Val.step a0), .str (Val.text a0), .sl .ro .val (Val.list a0), .sl .ro .str (Val.columns a0), .sl .ro .row (Val.rows a0)]), .val (.v false [.int .i64 a1])]
def xAk (r : Int) : CallO := ⟨.v false [.int .i64 r], [], []⟩
def xAQ (N : Nat) (a0 : Val) (a1 : Int) : Option (Int) :=
  Option.bind (xGf N (Val.list a0) a1) fun r1 =>
  bif (decide ((r1 : Int) < 0)) then (
    some (-1)
  ) else (
    Option.bind (xDJ N (Val.columns a0) r1) fun r2 =>
    bif (decide ((r2 : Int) < 0)) then (
      some (-1)
    ) else (
      Option.bind (xEX N (Val.rows a0) r2) fun r3 =>
      bif (decide ((r3 : Int) < 0)) then (
        some (-1)
      ) else (
        some r3
      )
    )
  )
def laws_FnExactNthOf (N : Nat) (a0 : Val) (a1 : Val) : Option (Bool) :=
  Option.bind (xEP N a0 1048576) fun r1 =>
  bif (decide ((r1 : Int) < 0)) then (
    some true
  ) else (
    Option.bind (xEP N a1 r1) fun r2 =>
    bif (decide ((r2 : Int) < 0)) then (
      some true
    ) else (
      Option.bind (xAM N a0) fun r3 =>
      Option.bind (xAM N a1) fun r4 =>
      Option.bind (xEi N r3 r4) fun r5 =>
      Option.bind (xAM N a0) fun r6 =>
      Option.bind (xAM N a1) fun r7 =>
      Option.bind (xDc N r6 r7) fun r8 =>
      bif r8.2 then (
        if List.isEmpty (Val.list r8.1) = true then
        if List.isEmpty (Val.columns r8.1) = true then
        if List.isEmpty (Val.rows r8.1) = true then
        Option.bind (xAL N (Val.mk (Val.kind r8.1) (Val.n r8.1) (Val.step r8.1) (Val.text r8.1) [] [] []) r5) fun r9 =>
        bif (!r9) then (
          some false
        ) else (
          Option.bind (xAM N a0) fun r10 =>
          Option.bind (xAL N r6 r10) fun r11 =>
          bif (!r11) then (
            some false
          ) else (
            Option.bind (xAM N a1) fun r12 =>
            Option.bind (xAL N r7 r12) fun r13 =>
            bif (!r13) then (
              some false
            ) else (
              Option.bind (xBc N r6 1) fun r14 =>
              if List.length r14.2.1 = List.length (Val.list r6) then
              if List.length r14.2.2.1 = List.length (Val.columns r6) then
              if List.length r14.2.2.2 = List.length (Val.rows r6) then
              Option.bind (xBc N r7 r14.1) fun r15 =>
              if List.length r15.2.1 = List.length (Val.list r7) then
              if List.length r15.2.2.1 = List.length (Val.columns r7) then
              if List.length r15.2.2.2 = List.length (Val.rows r7) then
              bif (decide ((r15.1 : Int) < 0)) then (
                some false
              ) else (
                Option.bind (xAL N (Val.mk (Val.kind r8.1) (Val.n r8.1) (Val.step r8.1) (Val.text r8.1) [] [] []) r5) fun r16 =>
                bif (!r16) then (
                  some false
                ) else (
                  Option.bind (xC5 N (Val.mk (Val.kind r8.1) (Val.n r8.1) (Val.step r8.1) (Val.text r8.1) [] [] []) 1) fun r17 =>
                  Option.bind (xAQ N (Val.mk (Val.kind r8.1) (Val.n r8.1) (Val.step r8.1) (Val.text r8.1) [] [] []) 1) fun r18 =>
                  bif (decide ((r18 : Int) < 0)) then (
                    some false
                  ) else (
                    bif ((r18 : Int) != r17) then (
                      some false
                    ) else (
                      Option.bind (xAM N a0) fun r19 =>
                      Option.bind (xAM N a1) fun r20 =>
                      Option.bind (xDc N r19 r20) fun r21 =>
                      bif r21.2 then (
                        if List.isEmpty (Val.list r21.1) = true then
                        if List.isEmpty (Val.columns r21.1) = true then
                        if List.isEmpty (Val.rows r21.1) = true then
                        Option.bind (xAL N (Val.mk (Val.kind r21.1) (Val.n r21.1) (Val.step r21.1) (Val.text r21.1) [] [] []) r5) fun r22 =>
                        bif (!r22) then (
                          some false
                        ) else (
                          Option.bind (xAQ N (Val.mk (Val.kind r8.1) (Val.n r8.1) (Val.step r8.1) (Val.text r8.1) [] [] []) 1) fun r23 =>
                          bif (decide ((r23 : Int) < 0)) then (
                            some false
                          ) else (
                            bif ((r23 : Int) != r17) then (
                              some false
                            ) else (
                              some true
                            )
                          )
                        )
                        else none
                        else none
                        else none
                      ) else (
                        Option.bind (xAL N r21.1 r5) fun r22 =>
                        bif (!r22) then (
                          some false
                        ) else (
                          Option.bind (xAQ N (Val.mk (Val.kind r8.1) (Val.n r8.1) (Val.step r8.1) (Val.text r8.1) [] [] []) 1) fun r23 =>
                          bif (decide ((r23 : Int) < 0)) then (
                            some false
                          ) else (
                            bif ((r23 : Int) != r17) then (
                              some false
                            ) else (
                              some true
                            )
                          )
                        )
                      )
                    )
                  )
                )
              )
              else none
              else none
              else none
              else none
              else none
              else none
            )
          )
        )
        else none
        else none
        else none
      ) else (
        Option.bind (xAL N r8.1 r5) fun r9 =>
        bif (!r9) then (
          some false
        ) else (
          Option.bind (xAM N a0) fun r10 =>
          Option.bind (xAL N r6 r10) fun r11 =>
          bif (!r11) then (
            some false
          ) else (
            Option.bind (xAM N a1) fun r12 =>
            Option.bind (xAL N r7 r12) fun r13 =>
            bif (!r13) then (
              some false
            ) else (
              Option.bind (xBc N r6 1) fun r14 =>
              if List.length r14.2.1 = List.length (Val.list r6) then
              if List.length r14.2.2.1 = List.length (Val.columns r6) then
              if List.length r14.2.2.2 = List.length (Val.rows r6) then
              Option.bind (xBc N r7 r14.1) fun r15 =>
              if List.length r15.2.1 = List.length (Val.list r7) then
              if List.length r15.2.2.1 = List.length (Val.columns r7) then
              if List.length r15.2.2.2 = List.length (Val.rows r7) then
              bif (decide ((r15.1 : Int) < 0)) then (
                some false
              ) else (
                Option.bind (xAL N r8.1 r5) fun r16 =>
                bif (!r16) then (
                  some false
                ) else (
                  Option.bind (xBc N r8.1 1) fun r17 =>
                  if List.length r17.2.1 = List.length (Val.list r8.1) then
                  if List.length r17.2.2.1 = List.length (Val.columns r8.1) then
                  if List.length r17.2.2.2 = List.length (Val.rows r8.1) then
                  Option.bind (xAQ N (Val.mk (Val.kind r8.1) (Val.n r8.1) (Val.step r8.1) (Val.text r8.1) r17.2.1 r17.2.2.1 r17.2.2.2) 1) fun r18 =>
                  bif (decide ((r18 : Int) < 0)) then (
                    some false
                  ) else (
                    bif ((r18 : Int) != r17.1) then (
                      some false
                    ) else (
                      Option.bind (xAM N a0) fun r19 =>
                      Option.bind (xAM N a1) fun r20 =>
                      Option.bind (xDc N r19 r20) fun r21 =>
                      bif r21.2 then (
                        if List.isEmpty (Val.list r21.1) = true then
                        if List.isEmpty (Val.columns r21.1) = true then
                        if List.isEmpty (Val.rows r21.1) = true then
                        Option.bind (xAL N (Val.mk (Val.kind r21.1) (Val.n r21.1) (Val.step r21.1) (Val.text r21.1) [] [] []) r5) fun r22 =>
                        bif (!r22) then (
                          some false
                        ) else (
                          Option.bind (xAQ N (Val.mk (Val.kind r8.1) (Val.n r8.1) (Val.step r8.1) (Val.text r8.1) r17.2.1 r17.2.2.1 r17.2.2.2) 1) fun r23 =>
                          bif (decide ((r23 : Int) < 0)) then (
                            some false
                          ) else (
                            bif ((r23 : Int) != r17.1) then (
                              some false
                            ) else (
                              some true
                            )
                          )
                        )
                        else none
                        else none
                        else none
                      ) else (
                        Option.bind (xAL N r21.1 r5) fun r22 =>
                        bif (!r22) then (
                          some false
                        ) else (
                          Option.bind (xAQ N (Val.mk (Val.kind r8.1) (Val.n r8.1) (Val.step r8.1) (Val.text r8.1) r17.2.1 r17.2.2.1 r17.2.2.2) 1) fun r23 =>
                          bif (decide ((r23 : Int) < 0)) then (
                            some false
                          ) else (
                            bif ((r23 : Int) != r17.1) then (
                              some false
                            ) else (
                              some true
                            )
                          )
                        )
                      )
                    )
                  )
                  else none
                  else none
                  else none
                )
              )
              else none
              else none
              else none
              else none
              else none
              else none
            )
          )
        )
      )
    )
  )
def xEE (a0 : List Val) : List Arg := [.val (.v false [.sl .ro .val a0])]
def xDb (r : Val) : CallO := ⟨.v true [.int .i64 (Val.kind r), .int .i64 (Val.n r), .int .i64 (Val.step r), .str (Val.text r), .sl .own .val (Val.list r), .sl .own .str (Val.columns r), .sl .own .row (Val.rows r)], [], []⟩
def xFi (N : Nat) (a0 : List Val) : Option (Val) :=
  Option.bind (xG6 N a0) fun r1 =>
  some (Val.mk 3 0 0 [] r1 [] [])
def xGk (a0 : Int) (a1 : Int) : List Arg := [.val (.v false [.int .i64 a0]), .val (.v false [.int .i64 a1])]
def xFR (r : Int) : CallO := ⟨.v false [.int .i64 r], [], []⟩
def xG1 (N : Nat) (a0 : Int) (a1 : Int) : Option (Int) :=
  bif (decide ((a0 : Int) < a1)) then (
    some a0
  ) else (
    some a1
  )
def xFO (a0 : List Val) : List Arg := [.val (.v false [.sl .ro .val a0])]
def xD0 (r : Val) : CallO := ⟨.v true [.int .i64 (Val.kind r), .int .i64 (Val.n r), .int .i64 (Val.step r), .str (Val.text r), .sl .own .val (Val.list r), .sl .own .str (Val.columns r), .sl .own .row (Val.rows r)], [], []⟩
def xDl (N : Nat) : Nat → (List Val) → Int → Val → Val → Option (Val)
  | 0, _, _, _, _ => none
  | n + 1, x0, x4, b2, b3 =>
    bif (decide ((x4 : Int) < (List.length x0 : Int))) then (
      if (0 : Int) ≤ x4 ∧ x4 < (List.length x0) then
      Option.bind (xHh N (List.getD x0 (Int.toNat x4) Ty.val.dflt)) fun r1 =>
      if List.length (Val.list b3) + List.length [(Val.re r1)] ≤ Lim then
      (xDl N n x0 (IntKind.i64.wrap (x4 + 1)) b2 (Val.mk (Val.kind b3) (Val.n b3) (Val.step b3) (Val.text b3) ((Val.list b3) ++ [(Val.re r1)]) (Val.columns b3) (Val.rows b3)))
      else none
      else none
    ) else (
      some b3
    )
def xF3 (N : Nat) (a0 : List Val) : Option (Val) :=
  (xDl N N a0 0 (Val.mk 0 0 0 [] [] [] []) (Val.mk 3 0 0 [] [] [] []))
def xE3 (a0 : Int) (a1 : Int) : List Arg := [.val (.v false [.int .i64 a0]), .val (.v false [.int .i64 a1])]
def xEa (r : Val) : CallO := ⟨.v true [.int .i64 (Val.kind r), .int .i64 (Val.n r), .int .i64 (Val.step r), .str (Val.text r), .sl .own .val (Val.list r), .sl .own .str (Val.columns r), .sl .own .row (Val.rows r)], [], []⟩
def xFg (N : Nat) (a0 : Int) (a1 : Int) : Option (Val) :=
  some (Val.mk 4 a0 a1 [] [] [] [])
def xAG (a0 : Val) (a1 : Val) : List Arg := [.val (.v true [.int .i64 (Val.kind a0), .int .i64 (Val.n a0), .int .i64 (Val.step a0), .str (Val.text a0), .sl .ro .val (Val.list a0), .sl .ro .str (Val.columns a0), .sl .ro .row (Val.rows a0)]), .val (.v true [.int .i64 (Val.kind a1), .int .i64 (Val.n a1), .int .i64 (Val.step a1), .str (Val.text a1), .sl .ro .val (Val.list a1), .sl .ro .str (Val.columns a1), .sl .ro .row (Val.rows a1)])]
def xAp (r : Val) : CallO := ⟨.v true [.int .i64 (Val.kind r), .int .i64 (Val.n r), .int .i64 (Val.step r), .str (Val.text r), .sl .own .val (Val.list r), .sl .own .str (Val.columns r), .sl .own .row (Val.rows r)], [], []⟩
def xEy (N : Nat) (a0 : Val) (a1 : Val) : Option (Val) :=
  Option.bind (xGa N a0 a1) fun r1 =>
  bif r1.2 then (
    some r1.1
  ) else (
    bif (decide (((Val.n a0) : Int) < 0)) then (
      Option.bind (xA8 N 5) fun r2 =>
      some r2
    ) else (
      bif (((Val.kind a1) : Int) == 3) then (
        Option.bind (xG1 N (Val.n a0) (List.length (Val.list a1) : Int)) fun r2 =>
        if (0 : Int) ≤ r2 ∧ r2 ≤ (List.length (Val.list a1)) then
        Option.bind (xF3 N (List.drop (Int.toNat r2) (Val.list a1))) fun r3 =>
        some r3
        else none
      ) else (
        Option.bind (xEi N a0 a1) fun r2 =>
        bif (((Val.kind r2) : Int) == 6) then (
          some r2
        ) else (
          Option.bind (xFg N (Val.n r2) (Val.step a1)) fun r3 =>
          some r3
        )
      )
    )
  )
def xCv (a0 : Int) (a1 : Int) : List Arg := [.val (.v false [.int .i64 a0]), .val (.v false [.int .i64 a1])]
def xBA (r : Val) : CallO := ⟨.v true [.int .i64 (Val.kind r), .int .i64 (Val.n r), .int .i64 (Val.step r), .str (Val.text r), .sl .own .val (Val.list r), .sl .own .str (Val.columns r), .sl .own .row (Val.rows r)], [], []⟩
def xC1 (N : Nat) (a0 : Int) (a1 : Int) : Option (Val) :=
  some (Val.mk 4 a0 a1 [] [] [] [])
def xAr (a0 : Val) (a1 : Val) : List Arg := [.val (.v true [.int .i64 (Val.kind a0), .int .i64 (Val.n a0), .int .i64 (Val.step a0), .str (Val.text a0), .sl .ro .val (Val.list a0), .sl .ro .str (Val.columns a0), .sl .ro .row (Val.rows a0)]), .val (.v true [.int .i64 (Val.kind a1), .int .i64 (Val.n a1), .int .i64 (Val.step a1), .str (Val.text a1), .sl .ro .val (Val.list a1), .sl .ro .str (Val.columns a1), .sl .ro .row (Val.rows a1)])]
def xG5 (r : Val × Bool) : CallO := ⟨.v true [.int .i64 (Val.kind r.1), .int .i64 (Val.n r.1), .int .i64 (Val.step r.1), .str (Val.text r.1), .sl .ro .val (Val.list r.1), .sl .ro .str (Val.columns r.1), .sl .ro .row (Val.rows r.1)], [], []⟩
def xAw (r : Val × Bool) : CallO := ⟨.v true [.int .i64 (Val.kind r.1), .int .i64 (Val.n r.1), .int .i64 (Val.step r.1), .str (Val.text r.1), .sl .own .val (Val.list r.1), .sl .own .str (Val.columns r.1), .sl .own .row (Val.rows r.1)], [], []⟩
def xAx (r : Val × Bool) : CallO := ⟨.v true [.int .i64 (Val.kind r.1), .int .i64 (Val.n r.1), .int .i64 (Val.step r.1), .str (Val.text r.1), .sl .ro .val [], .sl .ro .str [], .sl .ro .row []], [], []⟩
def xBb (r : Val × Bool) : CallO := bif r.2 then xG5 r else xAw r
def xDE (N : Nat) (a0 : Val) (a1 : Val) : Option (Val × Bool) :=
  Option.bind (xCT N a0 a1) fun r1 =>
  bif r1.2.2 then (
    bif r1.2.1 then (
      some (r1.1, true)
    ) else (
      bif (decide (((Val.n a0) : Int) < 0)) then (
        Option.bind (xA2 N 5) fun r2 =>
        some (r2, false)
      ) else (
        bif (((Val.kind a1) : Int) == 3) then (
          if (0 : Int) ≤ (if ((List.length (Val.list a1) : Int) : Int) < (Val.n a0) then (List.length (Val.list a1) : Int) else (Val.n a0)) ∧ (if ((List.length (Val.list a1) : Int) : Int) < (Val.n a0) then (List.length (Val.list a1) : Int) else (Val.n a0)) ≤ (List.length (Val.list a1)) then
          Option.bind (xFi N (List.drop (Int.toNat (if ((List.length (Val.list a1) : Int) : Int) < (Val.n a0) then (List.length (Val.list a1) : Int) else (Val.n a0))) (Val.list a1))) fun r2 =>
          some (r2, false)
          else none
        ) else (
          Option.bind (xDc N a0 a1) fun r2 =>
          bif r2.2 then (
            bif (((Val.kind r2.1) : Int) == 6) then (
              some (r2.1, true)
            ) else (
              Option.bind (xC1 N (Val.n r2.1) (Val.step a1)) fun r3 =>
              some (r3, false)
            )
          ) else (
            bif (((Val.kind r2.1) : Int) == 6) then (
              some (r2.1, false)
            ) else (
              Option.bind (xC1 N (Val.n r2.1) (Val.step a1)) fun r3 =>
              some (r3, false)
            )
          )
        )
      )
    )
  ) else (
    bif r1.2.1 then (
      some (r1.1, false)
    ) else (
      bif (decide (((Val.n a0) : Int) < 0)) then (
        Option.bind (xA2 N 5) fun r2 =>
        some (r2, false)
      ) else (
        bif (((Val.kind a1) : Int) == 3) then (
          if (0 : Int) ≤ (if ((List.length (Val.list a1) : Int) : Int) < (Val.n a0) then (List.length (Val.list a1) : Int) else (Val.n a0)) ∧ (if ((List.length (Val.list a1) : Int) : Int) < (Val.n a0) then (List.length (Val.list a1) : Int) else (Val.n a0)) ≤ (List.length (Val.list a1)) then
          Option.bind (xFi N (List.drop (Int.toNat (if ((List.length (Val.list a1) : Int) : Int) < (Val.n a0) then (List.length (Val.list a1) : Int) else (Val.n a0))) (Val.list a1))) fun r2 =>
          some (r2, false)
          else none
        ) else (
          Option.bind (xDc N a0 a1) fun r2 =>
          bif r2.2 then (
            bif (((Val.kind r2.1) : Int) == 6) then (
              some (r2.1, true)
            ) else (
              Option.bind (xC1 N (Val.n r2.1) (Val.step a1)) fun r3 =>
              some (r3, false)
            )
          ) else (
            bif (((Val.kind r2.1) : Int) == 6) then (
              some (r2.1, false)
            ) else (
              Option.bind (xC1 N (Val.n r2.1) (Val.step a1)) fun r3 =>
              some (r3, false)
            )
          )
        )
      )
    )
  )
def xAt (a0 : Val) (a1 : Val) : List Arg := [.val (.v true [.int .i64 (Val.kind a0), .int .i64 (Val.n a0), .int .i64 (Val.step a0), .str (Val.text a0), .sl .ro .val (Val.list a0), .sl .ro .str (Val.columns a0), .sl .ro .row (Val.rows a0)]), .val (.v true [.int .i64 (Val.kind a1), .int .i64 (Val.n a1), .int .i64 (Val.step a1), .str (Val.text a1), .sl .ro .val (Val.list a1), .sl .ro .str (Val.columns a1), .sl .ro .row (Val.rows a1)])]
def xAu (r : Bool) : CallO := ⟨.v false [.bool r], [], []⟩
def xFr (N : Nat) (a0 : Val) (a1 : Val) : Option (Bool) :=
  Option.bind (xEP N a0 1048576) fun r1 =>
  bif (decide ((r1 : Int) < 0)) then (
    some true
  ) else (
    Option.bind (xEP N a1 r1) fun r2 =>
    bif (decide ((r2 : Int) < 0)) then (
      some true
    ) else (
      Option.bind (xAM N a0) fun r3 =>
      Option.bind (xAM N a1) fun r4 =>
      Option.bind (xEy N r3 r4) fun r5 =>
      Option.bind (xAM N a0) fun r6 =>
      Option.bind (xAM N a1) fun r7 =>
      Option.bind (xDE N r6 r7) fun r8 =>
      bif r8.2 then (
        if List.isEmpty (Val.list r8.1) = true then
        if List.isEmpty (Val.columns r8.1) = true then
        if List.isEmpty (Val.rows r8.1) = true then
        Option.bind (xAL N (Val.mk (Val.kind r8.1) (Val.n r8.1) (Val.step r8.1) (Val.text r8.1) [] [] []) r5) fun r9 =>
        bif (!r9) then (
          some false
        ) else (
          Option.bind (xAM N a0) fun r10 =>
          Option.bind (xAL N r6 r10) fun r11 =>
          bif (!r11) then (
            some false
          ) else (
            Option.bind (xAM N a1) fun r12 =>
            Option.bind (xAL N r7 r12) fun r13 =>
            bif (!r13) then (
              some false
            ) else (
              Option.bind (xBc N r6 1) fun r14 =>
              if List.length r14.2.1 = List.length (Val.list r6) then
              if List.length r14.2.2.1 = List.length (Val.columns r6) then
              if List.length r14.2.2.2 = List.length (Val.rows r6) then
              Option.bind (xBc N r7 r14.1) fun r15 =>
              if List.length r15.2.1 = List.length (Val.list r7) then
              if List.length r15.2.2.1 = List.length (Val.columns r7) then
              if List.length r15.2.2.2 = List.length (Val.rows r7) then
              bif (decide ((r15.1 : Int) < 0)) then (
                some false
              ) else (
                Option.bind (xAL N (Val.mk (Val.kind r8.1) (Val.n r8.1) (Val.step r8.1) (Val.text r8.1) [] [] []) r5) fun r16 =>
                bif (!r16) then (
                  some false
                ) else (
                  Option.bind (xC5 N (Val.mk (Val.kind r8.1) (Val.n r8.1) (Val.step r8.1) (Val.text r8.1) [] [] []) 1) fun r17 =>
                  Option.bind (xAQ N (Val.mk (Val.kind r8.1) (Val.n r8.1) (Val.step r8.1) (Val.text r8.1) [] [] []) 1) fun r18 =>
                  bif (decide ((r18 : Int) < 0)) then (
                    some false
                  ) else (
                    bif ((r18 : Int) != r17) then (
                      some false
                    ) else (
                      Option.bind (xAM N a0) fun r19 =>
                      Option.bind (xAM N a1) fun r20 =>
                      Option.bind (xDE N r19 r20) fun r21 =>
                      bif r21.2 then (
                        if List.isEmpty (Val.list r21.1) = true then
                        if List.isEmpty (Val.columns r21.1) = true then
                        if List.isEmpty (Val.rows r21.1) = true then
                        Option.bind (xAL N (Val.mk (Val.kind r21.1) (Val.n r21.1) (Val.step r21.1) (Val.text r21.1) [] [] []) r5) fun r22 =>
                        bif (!r22) then (
                          some false
                        ) else (
                          Option.bind (xAQ N (Val.mk (Val.kind r8.1) (Val.n r8.1) (Val.step r8.1) (Val.text r8.1) [] [] []) 1) fun r23 =>
                          bif (decide ((r23 : Int) < 0)) then (
                            some false
                          ) else (
                            bif ((r23 : Int) != r17) then (
                              some false
                            ) else (
                              some true
                            )
                          )
                        )
                        else none
                        else none
                        else none
                      ) else (
                        Option.bind (xAL N r21.1 r5) fun r22 =>
                        bif (!r22) then (
                          some false
                        ) else (
                          Option.bind (xAQ N (Val.mk (Val.kind r8.1) (Val.n r8.1) (Val.step r8.1) (Val.text r8.1) [] [] []) 1) fun r23 =>
                          bif (decide ((r23 : Int) < 0)) then (
                            some false
                          ) else (
                            bif ((r23 : Int) != r17) then (
                              some false
                            ) else (
                              some true
                            )
                          )
                        )
                      )
                    )
                  )
                )
              )
              else none
              else none
              else none
              else none
              else none
              else none
            )
          )
        )
        else none
        else none
        else none
      ) else (
        Option.bind (xAL N r8.1 r5) fun r9 =>
        bif (!r9) then (
          some false
        ) else (
          Option.bind (xAM N a0) fun r10 =>
          Option.bind (xAL N r6 r10) fun r11 =>
          bif (!r11) then (
            some false
          ) else (
            Option.bind (xAM N a1) fun r12 =>
            Option.bind (xAL N r7 r12) fun r13 =>
            bif (!r13) then (
              some false
            ) else (
              Option.bind (xBc N r6 1) fun r14 =>
              if List.length r14.2.1 = List.length (Val.list r6) then
              if List.length r14.2.2.1 = List.length (Val.columns r6) then
              if List.length r14.2.2.2 = List.length (Val.rows r6) then
              Option.bind (xBc N r7 r14.1) fun r15 =>
              if List.length r15.2.1 = List.length (Val.list r7) then
              if List.length r15.2.2.1 = List.length (Val.columns r7) then
              if List.length r15.2.2.2 = List.length (Val.rows r7) then
              bif (decide ((r15.1 : Int) < 0)) then (
                some false
              ) else (
                Option.bind (xAL N r8.1 r5) fun r16 =>
                bif (!r16) then (
                  some false
                ) else (
                  Option.bind (xBc N r8.1 1) fun r17 =>
                  if List.length r17.2.1 = List.length (Val.list r8.1) then
                  if List.length r17.2.2.1 = List.length (Val.columns r8.1) then
                  if List.length r17.2.2.2 = List.length (Val.rows r8.1) then
                  Option.bind (xAQ N (Val.mk (Val.kind r8.1) (Val.n r8.1) (Val.step r8.1) (Val.text r8.1) r17.2.1 r17.2.2.1 r17.2.2.2) 1) fun r18 =>
                  bif (decide ((r18 : Int) < 0)) then (
                    some false
                  ) else (
                    bif ((r18 : Int) != r17.1) then (
                      some false
                    ) else (
                      Option.bind (xAM N a0) fun r19 =>
                      Option.bind (xAM N a1) fun r20 =>
                      Option.bind (xDE N r19 r20) fun r21 =>
                      bif r21.2 then (
                        if List.isEmpty (Val.list r21.1) = true then
                        if List.isEmpty (Val.columns r21.1) = true then
                        if List.isEmpty (Val.rows r21.1) = true then
                        Option.bind (xAL N (Val.mk (Val.kind r21.1) (Val.n r21.1) (Val.step r21.1) (Val.text r21.1) [] [] []) r5) fun r22 =>
                        bif (!r22) then (
                          some false
                        ) else (
                          Option.bind (xAQ N (Val.mk (Val.kind r8.1) (Val.n r8.1) (Val.step r8.1) (Val.text r8.1) r17.2.1 r17.2.2.1 r17.2.2.2) 1) fun r23 =>
                          bif (decide ((r23 : Int) < 0)) then (
                            some false
                          ) else (
                            bif ((r23 : Int) != r17.1) then (
                              some false
                            ) else (
                              some true
                            )
                          )
                        )
                        else none
                        else none
                        else none
                      ) else (
                        Option.bind (xAL N r21.1 r5) fun r22 =>
                        bif (!r22) then (
                          some false
                        ) else (
                          Option.bind (xAQ N (Val.mk (Val.kind r8.1) (Val.n r8.1) (Val.step r8.1) (Val.text r8.1) r17.2.1 r17.2.2.1 r17.2.2.2) 1) fun r23 =>
                          bif (decide ((r23 : Int) < 0)) then (
                            some false
                          ) else (
                            bif ((r23 : Int) != r17.1) then (
                              some false
                            ) else (
                              some true
                            )
                          )
                        )
                      )
                    )
                  )
                  else none
                  else none
                  else none
                )
              )
              else none
              else none
              else none
              else none
              else none
              else none
            )
          )
        )
      )
    )
  )
end Go.Ab
end
section
open Go.Proofs
namespace Go.Ab.T
abbrev AbC (f : FuncId) (a : List Arg) (r : CallO) : Prop := AbsCalls Try.prog f a r
end Go.Ab.T
end
section
open Go.Proofs
namespace Go.Ab.T
set_option linter.unusedVariables false
set_option maxRecDepth 100000
def tt : TT := [(3, { zero := some [.int .i64 0], ik := some .i64 }),
 (4, { zero := some [.bool false], isBool := true }),
 (5, { zero := some [.int .u8 0], ik := some .u8 }),
 (9, { zero := some [.str []], isStr := true }),
 (22, { zero := some [.sl .own .val []], elem := some (26, .val) }),
 (23, { zero := some [.sl .own .str []], elem := some (9, .str) }),
 (24, { zero := some [.sl .own .row []], elem := some (77, .row) }),
 (26, { sz := 7, agg := true, zero := some [.int .i64 0, .int .i64 0, .int .i64 0, .str [], .sl .own .val [], .sl .own .str [], .sl .own .row []], offs := [0, 1, 2, 3, 4, 5, 6], fsz := [1, 1, 1, 1, 1, 1, 1] }),
 (28, { zero := some [.sl .own .val []], elem := some (31, .val) }),
 (29, { zero := some [.sl .own .row []], elem := some (62, .row) }),
 (31, { sz := 7, agg := true, zero := some [.int .i64 0, .int .i64 0, .int .i64 0, .str [], .sl .own .val [], .sl .own .str [], .sl .own .row []], offs := [0, 1, 2, 3, 4, 5, 6], fsz := [1, 1, 1, 1, 1, 1, 1] }),
 (57, { zero := some [.sl .own .int []], elem := some (3, .int) }),
 (60, { zero := some [.sl .own .org []], elem := some (94, .org) }),
 (62, { sz := 2, agg := true, zero := some [.sl .own .int [], .sl .own .org []], offs := [0, 1], fsz := [1, 1] }),
 (75, { zero := some [.sl .own .org []], elem := some (100, .org) }),
 (77, { sz := 2, agg := true, zero := some [.sl .own .int [], .sl .own .org []], offs := [0, 1], fsz := [1, 1] }),
 (92, { zero := some [.sl .own .byte []], elem := some (5, .byte) }),
 (94, { sz := 2, agg := true, zero := some [.int .i64 0, .int .i64 0], offs := [0, 1], fsz := [1, 1], same := true }),
 (100, { sz := 2, agg := true, zero := some [.int .i64 0, .int .i64 0], offs := [0, 1], fsz := [1, 1], same := true })]
theorem ttok : TTok Try.prog tt := ttChk_ok (by kernel_rfl)
theorem mix : Try.prog.follows .mixedOrders = true := by kernel_rfl
noncomputable def xGz : Info := { body := (Try.f40.body).getD .skip, nt := 63, results := [.tmp 4], keep := [0, 2, 8, 10, 18], live := [(2, [0, 2, 10])], modes := [], ext := [], lnt := [], casts := [], fcast := [] }
theorem fk1000040 : FnOk Try.prog 40 Try.f40 xGz := ⟨Try.func40, by kernel_rfl, by kernel_rfl, by kernel_rfl, by kernel_rfl⟩
def S1000040_2 (x1 x5 : Int) : St := [(0, .v false [.sl .ro .val []]), (2, .v false [.int .i64 x1]), (10, .v false [.int .i64 x5])]
theorem p1000040_2_0 (x1 x5 : Int) : run tt (AbsCalls Try.prog) xGz 3000 true (stkAt 2 xGz.body) ⟨(S1000040_2 x1 x5), [false], [], []⟩ = some (.done (xC0 x1) [(decide ((x5 : Int) < (0 : Int))) = false]) := by kernel_rfl
theorem p1000040_e_1 (a0 : List Val) (a1 : Int) : run tt (AbsCalls Try.prog) xGz 3000 false [.code xGz.body] ⟨(zBi 0 (xEA a0 a1)), [], [], []⟩ = some (.stop (stkAt 2 xGz.body) (S1000040_2 a1 0) []) := by kernel_rfl
theorem c1000040_2 {N : Nat} : ∀ n x1 x5 r, xEB N n x1 x5 = some r → Reach Try.prog Try.f40 xGz (stkAt 2 xGz.body) (S1000040_2 x1 x5) (xC0 r) := by
 intro n
 induction n with
 | zero => intro x1 x5 r h; have h' : (none : Option (Int)) = some r := h; cases h'
 | succ n ih =>
  intro x1 x5 r h
  rw [xEB] at h
  rcases cond_inv h with ⟨h0, h⟩ | ⟨h0, h⟩
  ·obtain ⟨h1, h⟩ := ite_inv h
   cases h
  ·obtain rfl := Option.some.inj h
   exact Reach.done ttok mix fk1000040 (p1000040_2_0 x1 x5) (obs_cons h0 obs_nil)
theorem c1000040_e {N : Nat} : ∀ a0 a1 r, xEH N a0 a1 = some r → Reach Try.prog Try.f40 xGz [.code xGz.body] (zBi 0 (xEA a0 a1)) (xC0 r) := by
 intro a0 a1 r h
 unfold xEH at h
 exact Reach.stop ttok mix fk1000040 (p1000040_e_1 a0 a1) obs_nil (c1000040_2   _ _ _ _ h)
theorem xIb {N : Nat} {a0 : List Val} {a1 : Int} {r : Int} (h : xEH N  a0 a1 = some r) : AbC 40 (xEA a0 a1) (xC0 r) :=
 AbsCalls.of_reach fk1000040 rfl rfl (Nat.le_of_ble_eq_true rfl) (c1000040_e a0 a1 r h)
noncomputable def I24 : Info := { body := (Try.f24.body).getD .skip, nt := 28, results := [.tmp 4], keep := [0, 2, 8, 10, 22, 30, 52], live := [(5, [0, 2, 10])], modes := [], ext := [], lnt := [], casts := [], fcast := [] }
theorem fk24 : FnOk Try.prog 24 Try.f24 I24 := ⟨Try.func24, by kernel_rfl, by kernel_rfl, by kernel_rfl, by kernel_rfl⟩
def S24_5 (x0 : List Str) (x1 x5 : Int) : St := [(0, .v false [.sl .ro .str x0]), (2, .v false [.int .i64 x1]), (10, .v false [.int .i64 x5])]
theorem p24_5_0 (x0 : List Str) (x1 x5 : Int) : run tt (AbsCalls Try.prog) I24 3000 true (stkAt 5 I24.body) ⟨(S24_5 x0 x1 x5), [true, true], [], []⟩ = some (.done (xBE (-1)) [(decide ((x5 : Int) < (List.length x0 : Int))) = true, (0 : Int) ≤ x5 ∧ x5 < (List.length x0), (decide (((IntKind.i64.wrap (x1 - (List.length (List.getD x0 (Int.toNat x5) Ty.str.dflt) : Int))) : Int) < 0)) = true]) := by kernel_rfl
theorem p24_5_1 (x0 : List Str) (x1 x5 : Int) : run tt (AbsCalls Try.prog) I24 3000 true (stkAt 5 I24.body) ⟨(S24_5 x0 x1 x5), [true, false], [], []⟩ = some (.stop (stkAt 5 I24.body) (S24_5 x0 (IntKind.i64.wrap (x1 - (List.length (List.getD x0 (Int.toNat x5) Ty.str.dflt) : Int))) (IntKind.i64.wrap (x5 + 1))) [(decide ((x5 : Int) < (List.length x0 : Int))) = true, (0 : Int) ≤ x5 ∧ x5 < (List.length x0), (decide (((IntKind.i64.wrap (x1 - (List.length (List.getD x0 (Int.toNat x5) Ty.str.dflt) : Int))) : Int) < 0)) = false]) := by kernel_rfl
theorem p24_5_2 (x0 : List Str) (x1 x5 : Int) : run tt (AbsCalls Try.prog) I24 3000 true (stkAt 5 I24.body) ⟨(S24_5 x0 x1 x5), [false], [], []⟩ = some (.done (xBE x1) [(decide ((x5 : Int) < (List.length x0 : Int))) = false]) := by kernel_rfl
theorem p24_e_3 (a0 : List Str) (a1 : Int) : run tt (AbsCalls Try.prog) I24 3000 false [.code I24.body] ⟨(zBi 0 (xDk a0 a1)), [true], [], []⟩ = some (.done (xBE (-1)) [(decide (((IntKind.i64.wrap (a1 - (List.length a0 : Int))) : Int) < 0)) = true]) := by kernel_rfl
theorem p24_e_4 (a0 : List Str) (a1 : Int) : run tt (AbsCalls Try.prog) I24 3000 false [.code I24.body] ⟨(zBi 0 (xDk a0 a1)), [false], [], []⟩ = some (.stop (stkAt 5 I24.body) (S24_5 a0 (IntKind.i64.wrap (a1 - (List.length a0 : Int))) 0) [(decide (((IntKind.i64.wrap (a1 - (List.length a0 : Int))) : Int) < 0)) = false]) := by kernel_rfl
theorem c24_5 {N : Nat} : ∀ n x0 x1 x5 r, xEI N n x0 x1 x5 = some r → Reach Try.prog Try.f24 I24 (stkAt 5 I24.body) (S24_5 x0 x1 x5) (xBE r) := by
 intro n
 induction n with
 | zero => intro x0 x1 x5 r h; have h' : (none : Option (Int)) = some r := h; cases h'
 | succ n ih =>
  intro x0 x1 x5 r h
  rw [xEI] at h
  rcases cond_inv h with ⟨h0, h⟩ | ⟨h0, h⟩
  ·obtain ⟨h1, h⟩ := ite_inv h
   rcases cond_inv h with ⟨h2, h⟩ | ⟨h2, h⟩
   ·obtain rfl := Option.some.inj h
    exact Reach.done ttok mix fk24 (p24_5_0 x0 x1 x5) (obs_cons h0 (obs_cons h1 (obs_cons h2 obs_nil)))
   ·exact Reach.stop ttok mix fk24 (p24_5_1 x0 x1 x5) (obs_cons h0 (obs_cons h1 (obs_cons h2 obs_nil))) (ih _ _ _ _ h)
  ·obtain rfl := Option.some.inj h
   exact Reach.done ttok mix fk24 (p24_5_2 x0 x1 x5) (obs_cons h0 obs_nil)
theorem c24_e {N : Nat} : ∀ a0 a1 r, xF0 N a0 a1 = some r → Reach Try.prog Try.f24 I24 [.code I24.body] (zBi 0 (xDk a0 a1)) (xBE r) := by
 intro a0 a1 r h
 unfold xF0 at h
 rcases cond_inv h with ⟨h0, h⟩ | ⟨h0, h⟩
 ·obtain rfl := Option.some.inj h
  exact Reach.done ttok mix fk24 (p24_e_3 a0 a1) (obs_cons h0 obs_nil)
 ·exact Reach.stop ttok mix fk24 (p24_e_4 a0 a1) (obs_cons h0 obs_nil) (c24_5   _ _ _ _ _ h)
theorem xGs {N : Nat} {a0 : List Str} {a1 : Int} {r : Int} (h : xF0 N  a0 a1 = some r) : AbC 24 (xDk a0 a1) (xBE r) :=
 AbsCalls.of_reach fk24 rfl rfl (Nat.le_of_ble_eq_true rfl) (c24_e a0 a1 r h)
noncomputable def I94 : Info := { body := (Try.f94.body).getD .skip, nt := 12, results := [.tmp 4], keep := [0, 2, 8, 20], live := [], modes := [], ext := [], lnt := [], casts := [], fcast := [] }
theorem fk94 : FnOk Try.prog 94 Try.f94 I94 := ⟨Try.func94, by kernel_rfl, by kernel_rfl, by kernel_rfl, by kernel_rfl⟩
theorem p94_e_0 (a0 : List Int) (a1 : Int) : run tt (AbsCalls Try.prog) I94 3000 false [.code I94.body] ⟨(zBi 0 (xEx a0 a1)), [true], [], []⟩ = some (.done (xCL (-1)) [(decide (((IntKind.i64.wrap (a1 - (List.length a0 : Int))) : Int) < 0)) = true]) := by kernel_rfl
theorem p94_e_1 (a0 : List Int) (a1 : Int) : run tt (AbsCalls Try.prog) I94 3000 false [.code I94.body] ⟨(zBi 0 (xEx a0 a1)), [false], [], []⟩ = some (.done (xCL (IntKind.i64.wrap (a1 - (List.length a0 : Int)))) [(decide (((IntKind.i64.wrap (a1 - (List.length a0 : Int))) : Int) < 0)) = false]) := by kernel_rfl
theorem c94_e {N : Nat} : ∀ a0 a1 r, xHb N a0 a1 = some r → Reach Try.prog Try.f94 I94 [.code I94.body] (zBi 0 (xEx a0 a1)) (xCL r) := by
 intro a0 a1 r h
 unfold xHb at h
 rcases cond_inv h with ⟨h0, h⟩ | ⟨h0, h⟩
 ·obtain rfl := Option.some.inj h
  exact Reach.done ttok mix fk94 (p94_e_0 a0 a1) (obs_cons h0 obs_nil)
 ·obtain rfl := Option.some.inj h
  exact Reach.done ttok mix fk94 (p94_e_1 a0 a1) (obs_cons h0 obs_nil)
theorem xHr {N : Nat} {a0 : List Int} {a1 : Int} {r : Int} (h : xHb N  a0 a1 = some r) : AbC 94 (xEx a0 a1) (xCL r) :=
 AbsCalls.of_reach fk94 rfl rfl (Nat.le_of_ble_eq_true rfl) (c94_e a0 a1 r h)
noncomputable def I95 : Info := { body := (Try.f95.body).getD .skip, nt := 12, results := [.tmp 4], keep := [0, 2, 8, 20], live := [], modes := [], ext := [], lnt := [], casts := [], fcast := [] }
theorem fk95 : FnOk Try.prog 95 Try.f95 I95 := ⟨Try.func95, by kernel_rfl, by kernel_rfl, by kernel_rfl, by kernel_rfl⟩
theorem p95_e_0 (a0 : List Org) (a1 : Int) : run tt (AbsCalls Try.prog) I95 3000 false [.code I95.body] ⟨(zBi 0 (xDW a0 a1)), [true], [], []⟩ = some (.done (xCE (-1)) [(decide (((IntKind.i64.wrap (a1 - (List.length a0 : Int))) : Int) < 0)) = true]) := by kernel_rfl
theorem p95_e_1 (a0 : List Org) (a1 : Int) : run tt (AbsCalls Try.prog) I95 3000 false [.code I95.body] ⟨(zBi 0 (xDW a0 a1)), [false], [], []⟩ = some (.done (xCE (IntKind.i64.wrap (a1 - (List.length a0 : Int)))) [(decide (((IntKind.i64.wrap (a1 - (List.length a0 : Int))) : Int) < 0)) = false]) := by kernel_rfl
theorem c95_e {N : Nat} : ∀ a0 a1 r, xFY N a0 a1 = some r → Reach Try.prog Try.f95 I95 [.code I95.body] (zBi 0 (xDW a0 a1)) (xCE r) := by
 intro a0 a1 r h
 unfold xFY at h
 rcases cond_inv h with ⟨h0, h⟩ | ⟨h0, h⟩
 ·obtain rfl := Option.some.inj h
  exact Reach.done ttok mix fk95 (p95_e_0 a0 a1) (obs_cons h0 obs_nil)
 ·obtain rfl := Option.some.inj h
  exact Reach.done ttok mix fk95 (p95_e_1 a0 a1) (obs_cons h0 obs_nil)
theorem xHx {N : Nat} {a0 : List Org} {a1 : Int} {r : Int} (h : xFY N  a0 a1 = some r) : AbC 95 (xDW a0 a1) (xCE r) :=
 AbsCalls.of_reach fk95 rfl rfl (Nat.le_of_ble_eq_true rfl) (c95_e a0 a1 r h)
noncomputable def I73 : Info := { body := (Try.f73.body).getD .skip, nt := 18, results := [.tmp 4], keep := [0, 2, 4, 8, 20, 32, 5], live := [], modes := [], ext := [], lnt := [], casts := [], fcast := [] }
theorem fk73 : FnOk Try.prog 73 Try.f73 I73 := ⟨Try.func73, by kernel_rfl, by kernel_rfl, by kernel_rfl, by kernel_rfl⟩
theorem p73_e_0 (a0 : Rowd) (a1 r1 : Int) : run tt (AbsCalls Try.prog) I73 3000 false [.code I73.body] ⟨(zBi 0 (xEZ a0 a1)), [true], [xCL r1], []⟩ = some (.done (xDR (-1)) [AbC 94 (xEx (Rowd.cells a0) a1) (xCL r1), (decide ((r1 : Int) < 0)) = true]) := by kernel_rfl
theorem p73_e_1 (a0 : Rowd) (a1 r1 r2 : Int) : run tt (AbsCalls Try.prog) I73 3000 false [.code I73.body] ⟨(zBi 0 (xEZ a0 a1)), [false, true], [xCL r1, xCE r2], []⟩ = some (.done (xDR (-1)) [AbC 94 (xEx (Rowd.cells a0) a1) (xCL r1), (decide ((r1 : Int) < 0)) = false, AbC 95 (xDW (Rowd.frm a0) r1) (xCE r2), (decide ((r2 : Int) < 0)) = true]) := by kernel_rfl
theorem p73_e_2 (a0 : Rowd) (a1 r1 r2 : Int) : run tt (AbsCalls Try.prog) I73 3000 false [.code I73.body] ⟨(zBi 0 (xEZ a0 a1)), [false, false], [xCL r1, xCE r2], []⟩ = some (.done (xDR r2) [AbC 94 (xEx (Rowd.cells a0) a1) (xCL r1), (decide ((r1 : Int) < 0)) = false, AbC 95 (xDW (Rowd.frm a0) r1) (xCE r2), (decide ((r2 : Int) < 0)) = false]) := by kernel_rfl
theorem c73_e {N : Nat} : ∀ a0 a1 r, xGY N a0 a1 = some r → Reach Try.prog Try.f73 I73 [.code I73.body] (zBi 0 (xEZ a0 a1)) (xDR r) := by
 intro a0 a1 r h
 unfold xGY at h
 obtain ⟨r1, h0, h⟩ := bind_inv h
 rcases cond_inv h with ⟨h1, h⟩ | ⟨h1, h⟩
 ·obtain rfl := Option.some.inj h
  exact Reach.done ttok mix fk73 (p73_e_0 a0 a1 r1) (obs_cons (xHr h0) (obs_cons h1 obs_nil))
 ·obtain ⟨r2, h2, h⟩ := bind_inv h
  rcases cond_inv h with ⟨h3, h⟩ | ⟨h3, h⟩
  ·obtain rfl := Option.some.inj h
   exact Reach.done ttok mix fk73 (p73_e_1 a0 a1 r1 r2) (obs_cons (xHr h0) (obs_cons h1 (obs_cons (xHx h2) (obs_cons h3 obs_nil))))
  ·obtain rfl := Option.some.inj h
   exact Reach.done ttok mix fk73 (p73_e_2 a0 a1 r1 r2) (obs_cons (xHr h0) (obs_cons h1 (obs_cons (xHx h2) (obs_cons h3 obs_nil))))
theorem laws_szRow_ok {N : Nat} {a0 : Rowd} {a1 : Int} {r : Int} (h : xGY N  a0 a1 = some r) : AbC 73 (xEZ a0 a1) (xDR r) :=
 AbsCalls.of_reach fk73 rfl rfl (Nat.le_of_ble_eq_true rfl) (c73_e a0 a1 r h)
noncomputable def I25 : Info := { body := (Try.f25.body).getD .skip, nt := 27, results := [.tmp 4], keep := [0, 2, 8, 10, 22, 30, 50], live := [(5, [0, 2, 10])], modes := [], ext := [], lnt := [], casts := [], fcast := [] }
theorem fk25 : FnOk Try.prog 25 Try.f25 I25 := ⟨Try.func25, by kernel_rfl, by kernel_rfl, by kernel_rfl, by kernel_rfl⟩
def S25_5 (x0 : List Rowd) (x1 x5 : Int) : St := [(0, .v false [.sl .ro .row x0]), (2, .v false [.int .i64 x1]), (10, .v false [.int .i64 x5])]
theorem p25_5_0 (x0 : List Rowd) (x1 x5 r1 : Int) : run tt (AbsCalls Try.prog) I25 3000 true (stkAt 5 I25.body) ⟨(S25_5 x0 x1 x5), [true, true], [xDR r1], []⟩ = some (.done (xCM (-1)) [(decide ((x5 : Int) < (List.length x0 : Int))) = true, (0 : Int) ≤ x5 ∧ x5 < (List.length x0), AbC 73 (xEZ (List.getD x0 (Int.toNat x5) Ty.row.dflt) x1) (xDR r1), (decide ((r1 : Int) < 0)) = true]) := by kernel_rfl
theorem p25_5_1 (x0 : List Rowd) (x1 x5 r1 : Int) : run tt (AbsCalls Try.prog) I25 3000 true (stkAt 5 I25.body) ⟨(S25_5 x0 x1 x5), [true, false], [xDR r1], []⟩ = some (.stop (stkAt 5 I25.body) (S25_5 x0 r1 (IntKind.i64.wrap (x5 + 1))) [(decide ((x5 : Int) < (List.length x0 : Int))) = true, (0 : Int) ≤ x5 ∧ x5 < (List.length x0), AbC 73 (xEZ (List.getD x0 (Int.toNat x5) Ty.row.dflt) x1) (xDR r1), (decide ((r1 : Int) < 0)) = false]) := by kernel_rfl
theorem p25_5_2 (x0 : List Rowd) (x1 x5 : Int) : run tt (AbsCalls Try.prog) I25 3000 true (stkAt 5 I25.body) ⟨(S25_5 x0 x1 x5), [false], [], []⟩ = some (.done (xCM x1) [(decide ((x5 : Int) < (List.length x0 : Int))) = false]) := by kernel_rfl
theorem p25_e_3 (a0 : List Rowd) (a1 : Int) : run tt (AbsCalls Try.prog) I25 3000 false [.code I25.body] ⟨(zBi 0 (xFm a0 a1)), [true], [], []⟩ = some (.done (xCM (-1)) [(decide (((IntKind.i64.wrap (a1 - (List.length a0 : Int))) : Int) < 0)) = true]) := by kernel_rfl
theorem p25_e_4 (a0 : List Rowd) (a1 : Int) : run tt (AbsCalls Try.prog) I25 3000 false [.code I25.body] ⟨(zBi 0 (xFm a0 a1)), [false], [], []⟩ = some (.stop (stkAt 5 I25.body) (S25_5 a0 (IntKind.i64.wrap (a1 - (List.length a0 : Int))) 0) [(decide (((IntKind.i64.wrap (a1 - (List.length a0 : Int))) : Int) < 0)) = false]) := by kernel_rfl
theorem c25_5 {N : Nat} : ∀ n x0 x1 x5 r, xFZ N n x0 x1 x5 = some r → Reach Try.prog Try.f25 I25 (stkAt 5 I25.body) (S25_5 x0 x1 x5) (xCM r) := by
 intro n
 induction n with
 | zero => intro x0 x1 x5 r h; have h' : (none : Option (Int)) = some r := h; cases h'
 | succ n ih =>
  intro x0 x1 x5 r h
  rw [xFZ] at h
  rcases cond_inv h with ⟨h0, h⟩ | ⟨h0, h⟩
  ·obtain ⟨h1, h⟩ := ite_inv h
   obtain ⟨r1, h2, h⟩ := bind_inv h
   rcases cond_inv h with ⟨h3, h⟩ | ⟨h3, h⟩
   ·obtain rfl := Option.some.inj h
    exact Reach.done ttok mix fk25 (p25_5_0 x0 x1 x5 r1) (obs_cons h0 (obs_cons h1 (obs_cons (laws_szRow_ok h2) (obs_cons h3 obs_nil))))
   ·exact Reach.stop ttok mix fk25 (p25_5_1 x0 x1 x5 r1) (obs_cons h0 (obs_cons h1 (obs_cons (laws_szRow_ok h2) (obs_cons h3 obs_nil)))) (ih _ _ _ _ h)
  ·obtain rfl := Option.some.inj h
   exact Reach.done ttok mix fk25 (p25_5_2 x0 x1 x5) (obs_cons h0 obs_nil)
theorem c25_e {N : Nat} : ∀ a0 a1 r, xHc N a0 a1 = some r → Reach Try.prog Try.f25 I25 [.code I25.body] (zBi 0 (xFm a0 a1)) (xCM r) := by
 intro a0 a1 r h
 unfold xHc at h
 rcases cond_inv h with ⟨h0, h⟩ | ⟨h0, h⟩
 ·obtain rfl := Option.some.inj h
  exact Reach.done ttok mix fk25 (p25_e_3 a0 a1) (obs_cons h0 obs_nil)
 ·exact Reach.stop ttok mix fk25 (p25_e_4 a0 a1) (obs_cons h0 obs_nil) (c25_5   _ _ _ _ _ h)
theorem xIi {N : Nat} {a0 : List Rowd} {a1 : Int} {r : Int} (h : xHc N  a0 a1 = some r) : AbC 25 (xFm a0 a1) (xCM r) :=
 AbsCalls.of_reach fk25 rfl rfl (Nat.le_of_ble_eq_true rfl) (c25_e a0 a1 r h)
noncomputable def I8 : Info := { body := (Try.f8.body).getD .skip, nt := 31, results := [.tmp 4], keep := [0, 2, 4, 8, 22, 34, 46, 58, 5], live := [], modes := [], ext := [], lnt := [], casts := [], fcast := [] }
theorem fk8 : FnOk Try.prog 8 Try.f8 I8 := ⟨Try.func8, by kernel_rfl, by kernel_rfl, by kernel_rfl, by kernel_rfl⟩
theorem p8_e_0 (a0 : Val) (a1 : Int) : run tt (AbsCalls Try.prog) I8 3000 false [.code I8.body] ⟨(zBi 0 (xAl a0 a1)), [true], [], []⟩ = some (.done (xAe (-1)) [(decide (((IntKind.i64.wrap (a1 - (List.length (Val.text a0) : Int))) : Int) < 0)) = true]) := by kernel_rfl
theorem p8_e_1 (a0 : Val) (a1 r1 : Int) : run tt (AbsCalls Try.prog) I8 3000 false [.code I8.body] ⟨(zBi 0 (xAl a0 a1)), [false, true], [xAY r1], []⟩ = some (.done (xAe (-1)) [(decide (((IntKind.i64.wrap (a1 - (List.length (Val.text a0) : Int))) : Int) < 0)) = false, AbC 23 (xBz (Val.list a0) (IntKind.i64.wrap (a1 - (List.length (Val.text a0) : Int)))) (xAY r1), (decide ((r1 : Int) < 0)) = true]) := by kernel_rfl
theorem p8_e_2 (a0 : Val) (a1 r1 r2 : Int) : run tt (AbsCalls Try.prog) I8 3000 false [.code I8.body] ⟨(zBi 0 (xAl a0 a1)), [false, false, true], [xAY r1, xBE r2], []⟩ = some (.done (xAe (-1)) [(decide (((IntKind.i64.wrap (a1 - (List.length (Val.text a0) : Int))) : Int) < 0)) = false, AbC 23 (xBz (Val.list a0) (IntKind.i64.wrap (a1 - (List.length (Val.text a0) : Int)))) (xAY r1), (decide ((r1 : Int) < 0)) = false, AbC 24 (xDk (Val.columns a0) r1) (xBE r2), (decide ((r2 : Int) < 0)) = true]) := by kernel_rfl
theorem p8_e_3 (a0 : Val) (a1 r1 r2 r3 : Int) : run tt (AbsCalls Try.prog) I8 3000 false [.code I8.body] ⟨(zBi 0 (xAl a0 a1)), [false, false, false, true], [xAY r1, xBE r2, xCM r3], []⟩ = some (.done (xAe (-1)) [(decide (((IntKind.i64.wrap (a1 - (List.length (Val.text a0) : Int))) : Int) < 0)) = false, AbC 23 (xBz (Val.list a0) (IntKind.i64.wrap (a1 - (List.length (Val.text a0) : Int)))) (xAY r1), (decide ((r1 : Int) < 0)) = false, AbC 24 (xDk (Val.columns a0) r1) (xBE r2), (decide ((r2 : Int) < 0)) = false, AbC 25 (xFm (Val.rows a0) r2) (xCM r3), (decide ((r3 : Int) < 0)) = true]) := by kernel_rfl
theorem p8_e_4 (a0 : Val) (a1 r1 r2 r3 : Int) : run tt (AbsCalls Try.prog) I8 3000 false [.code I8.body] ⟨(zBi 0 (xAl a0 a1)), [false, false, false, false], [xAY r1, xBE r2, xCM r3], []⟩ = some (.done (xAe r3) [(decide (((IntKind.i64.wrap (a1 - (List.length (Val.text a0) : Int))) : Int) < 0)) = false, AbC 23 (xBz (Val.list a0) (IntKind.i64.wrap (a1 - (List.length (Val.text a0) : Int)))) (xAY r1), (decide ((r1 : Int) < 0)) = false, AbC 24 (xDk (Val.columns a0) r1) (xBE r2), (decide ((r2 : Int) < 0)) = false, AbC 25 (xFm (Val.rows a0) r2) (xCM r3), (decide ((r3 : Int) < 0)) = false]) := by kernel_rfl
theorem c8_e {N : Nat} {rc_laws_szValue : Val → Int → Option (Int)} (hrc_laws_szValue : ∀ a0 a1 r, rc_laws_szValue a0 a1 = some r → AbC 8 (xAl a0 a1) (xAe r)) {rc_laws_szValueS : (List Val) → Int → Option (Int)} (hrc_laws_szValueS : ∀ a0 a1 r, rc_laws_szValueS a0 a1 = some r → AbC 23 (xBz a0 a1) (xAY r)) : ∀ a0 a1 r, xFK N rc_laws_szValue rc_laws_szValueS a0 a1 = some r → Reach Try.prog Try.f8 I8 [.code I8.body] (zBi 0 (xAl a0 a1)) (xAe r) := by
 intro a0 a1 r h
 unfold xFK at h
 rcases cond_inv h with ⟨h0, h⟩ | ⟨h0, h⟩
 ·obtain rfl := Option.some.inj h
  exact Reach.done ttok mix fk8 (p8_e_0 a0 a1) (obs_cons h0 obs_nil)
 ·obtain ⟨r1, h1, h⟩ := bind_inv h
  rcases cond_inv h with ⟨h2, h⟩ | ⟨h2, h⟩
  ·obtain rfl := Option.some.inj h
   exact Reach.done ttok mix fk8 (p8_e_1 a0 a1 r1) (obs_cons h0 (obs_cons (hrc_laws_szValueS _ _ _ h1) (obs_cons h2 obs_nil)))
  ·obtain ⟨r2, h3, h⟩ := bind_inv h
   rcases cond_inv h with ⟨h4, h⟩ | ⟨h4, h⟩
   ·obtain rfl := Option.some.inj h
    exact Reach.done ttok mix fk8 (p8_e_2 a0 a1 r1 r2) (obs_cons h0 (obs_cons (hrc_laws_szValueS _ _ _ h1) (obs_cons h2 (obs_cons (xGs h3) (obs_cons h4 obs_nil)))))
   ·obtain ⟨r3, h5, h⟩ := bind_inv h
    rcases cond_inv h with ⟨h6, h⟩ | ⟨h6, h⟩
    ·obtain rfl := Option.some.inj h
     exact Reach.done ttok mix fk8 (p8_e_3 a0 a1 r1 r2 r3) (obs_cons h0 (obs_cons (hrc_laws_szValueS _ _ _ h1) (obs_cons h2 (obs_cons (xGs h3) (obs_cons h4 (obs_cons (xIi h5) (obs_cons h6 obs_nil)))))))
    ·obtain rfl := Option.some.inj h
     exact Reach.done ttok mix fk8 (p8_e_4 a0 a1 r1 r2 r3) (obs_cons h0 (obs_cons (hrc_laws_szValueS _ _ _ h1) (obs_cons h2 (obs_cons (xGs h3) (obs_cons h4 (obs_cons (xIi h5) (obs_cons h6 obs_nil)))))))
theorem xIc {N : Nat} {rc_laws_szValue : Val → Int → Option (Int)} (hrc_laws_szValue : ∀ a0 a1 r, rc_laws_szValue a0 a1 = some r → AbC 8 (xAl a0 a1) (xAe r)) {rc_laws_szValueS : (List Val) → Int → Option (Int)} (hrc_laws_szValueS : ∀ a0 a1 r, rc_laws_szValueS a0 a1 = some r → AbC 23 (xBz a0 a1) (xAY r)) {a0 : Val} {a1 : Int} {r : Int} (h : xFK N rc_laws_szValue rc_laws_szValueS a0 a1 = some r) : AbC 8 (xAl a0 a1) (xAe r) :=
 AbsCalls.of_reach fk8 rfl rfl (Nat.le_of_ble_eq_true rfl) (c8_e hrc_laws_szValue hrc_laws_szValueS a0 a1 r h)
noncomputable def I23 : Info := { body := (Try.f23.body).getD .skip, nt := 27, results := [.tmp 4], keep := [0, 2, 8, 10, 22, 30, 50], live := [(5, [0, 2, 10])], modes := [], ext := [], lnt := [], casts := [], fcast := [] }
theorem fk23 : FnOk Try.prog 23 Try.f23 I23 := ⟨Try.func23, by kernel_rfl, by kernel_rfl, by kernel_rfl, by kernel_rfl⟩
def S23_5 (x0 : List Val) (x1 x5 : Int) : St := [(0, .v false [.sl .ro .val x0]), (2, .v false [.int .i64 x1]), (10, .v false [.int .i64 x5])]
theorem p23_5_0 (x0 : List Val) (x1 x5 r1 : Int) : run tt (AbsCalls Try.prog) I23 3000 true (stkAt 5 I23.body) ⟨(S23_5 x0 x1 x5), [true, true], [xAe r1], []⟩ = some (.done (xAY (-1)) [(decide ((x5 : Int) < (List.length x0 : Int))) = true, (0 : Int) ≤ x5 ∧ x5 < (List.length x0), AbC 8 (xAl (List.getD x0 (Int.toNat x5) Ty.val.dflt) x1) (xAe r1), (decide ((r1 : Int) < 0)) = true]) := by kernel_rfl
theorem p23_5_1 (x0 : List Val) (x1 x5 r1 : Int) : run tt (AbsCalls Try.prog) I23 3000 true (stkAt 5 I23.body) ⟨(S23_5 x0 x1 x5), [true, false], [xAe r1], []⟩ = some (.stop (stkAt 5 I23.body) (S23_5 x0 r1 (IntKind.i64.wrap (x5 + 1))) [(decide ((x5 : Int) < (List.length x0 : Int))) = true, (0 : Int) ≤ x5 ∧ x5 < (List.length x0), AbC 8 (xAl (List.getD x0 (Int.toNat x5) Ty.val.dflt) x1) (xAe r1), (decide ((r1 : Int) < 0)) = false]) := by kernel_rfl
theorem p23_5_2 (x0 : List Val) (x1 x5 : Int) : run tt (AbsCalls Try.prog) I23 3000 true (stkAt 5 I23.body) ⟨(S23_5 x0 x1 x5), [false], [], []⟩ = some (.done (xAY x1) [(decide ((x5 : Int) < (List.length x0 : Int))) = false]) := by kernel_rfl
theorem p23_e_3 (a0 : List Val) (a1 : Int) : run tt (AbsCalls Try.prog) I23 3000 false [.code I23.body] ⟨(zBi 0 (xBz a0 a1)), [true], [], []⟩ = some (.done (xAY (-1)) [(decide (((IntKind.i64.wrap (a1 - (List.length a0 : Int))) : Int) < 0)) = true]) := by kernel_rfl
theorem p23_e_4 (a0 : List Val) (a1 : Int) : run tt (AbsCalls Try.prog) I23 3000 false [.code I23.body] ⟨(zBi 0 (xBz a0 a1)), [false], [], []⟩ = some (.stop (stkAt 5 I23.body) (S23_5 a0 (IntKind.i64.wrap (a1 - (List.length a0 : Int))) 0) [(decide (((IntKind.i64.wrap (a1 - (List.length a0 : Int))) : Int) < 0)) = false]) := by kernel_rfl
theorem c23_5 {N : Nat} {rc_laws_szValue : Val → Int → Option (Int)} (hrc_laws_szValue : ∀ a0 a1 r, rc_laws_szValue a0 a1 = some r → AbC 8 (xAl a0 a1) (xAe r)) {rc_laws_szValueS : (List Val) → Int → Option (Int)} (hrc_laws_szValueS : ∀ a0 a1 r, rc_laws_szValueS a0 a1 = some r → AbC 23 (xBz a0 a1) (xAY r)) : ∀ n x0 x1 x5 r, xFa N rc_laws_szValue rc_laws_szValueS n x0 x1 x5 = some r → Reach Try.prog Try.f23 I23 (stkAt 5 I23.body) (S23_5 x0 x1 x5) (xAY r) := by
 intro n
 induction n with
 | zero => intro x0 x1 x5 r h; have h' : (none : Option (Int)) = some r := h; cases h'
 | succ n ih =>
  intro x0 x1 x5 r h
  rw [xFa] at h
  rcases cond_inv h with ⟨h0, h⟩ | ⟨h0, h⟩
  ·obtain ⟨h1, h⟩ := ite_inv h
   obtain ⟨r1, h2, h⟩ := bind_inv h
   rcases cond_inv h with ⟨h3, h⟩ | ⟨h3, h⟩
   ·obtain rfl := Option.some.inj h
    exact Reach.done ttok mix fk23 (p23_5_0 x0 x1 x5 r1) (obs_cons h0 (obs_cons h1 (obs_cons (hrc_laws_szValue _ _ _ h2) (obs_cons h3 obs_nil))))
   ·exact Reach.stop ttok mix fk23 (p23_5_1 x0 x1 x5 r1) (obs_cons h0 (obs_cons h1 (obs_cons (hrc_laws_szValue _ _ _ h2) (obs_cons h3 obs_nil)))) (ih _ _ _ _ h)
  ·obtain rfl := Option.some.inj h
   exact Reach.done ttok mix fk23 (p23_5_2 x0 x1 x5) (obs_cons h0 obs_nil)
theorem c23_e {N : Nat} {rc_laws_szValue : Val → Int → Option (Int)} (hrc_laws_szValue : ∀ a0 a1 r, rc_laws_szValue a0 a1 = some r → AbC 8 (xAl a0 a1) (xAe r)) {rc_laws_szValueS : (List Val) → Int → Option (Int)} (hrc_laws_szValueS : ∀ a0 a1 r, rc_laws_szValueS a0 a1 = some r → AbC 23 (xBz a0 a1) (xAY r)) : ∀ a0 a1 r, xFv N rc_laws_szValue rc_laws_szValueS a0 a1 = some r → Reach Try.prog Try.f23 I23 [.code I23.body] (zBi 0 (xBz a0 a1)) (xAY r) := by
 intro a0 a1 r h
 unfold xFv at h
 rcases cond_inv h with ⟨h0, h⟩ | ⟨h0, h⟩
 ·obtain rfl := Option.some.inj h
  exact Reach.done ttok mix fk23 (p23_e_3 a0 a1) (obs_cons h0 obs_nil)
 ·exact Reach.stop ttok mix fk23 (p23_e_4 a0 a1) (obs_cons h0 obs_nil) (c23_5 hrc_laws_szValue hrc_laws_szValueS  _ _ _ _ _ h)
theorem xH1 {N : Nat} {rc_laws_szValue : Val → Int → Option (Int)} (hrc_laws_szValue : ∀ a0 a1 r, rc_laws_szValue a0 a1 = some r → AbC 8 (xAl a0 a1) (xAe r)) {rc_laws_szValueS : (List Val) → Int → Option (Int)} (hrc_laws_szValueS : ∀ a0 a1 r, rc_laws_szValueS a0 a1 = some r → AbC 23 (xBz a0 a1) (xAY r)) {a0 : List Val} {a1 : Int} {r : Int} (h : xFv N rc_laws_szValue rc_laws_szValueS a0 a1 = some r) : AbC 23 (xBz a0 a1) (xAY r) :=
 AbsCalls.of_reach fk23 rfl rfl (Nat.le_of_ble_eq_true rfl) (c23_e hrc_laws_szValue hrc_laws_szValueS a0 a1 r h)
theorem xIv {N : Nat} : ∀ d, (∀ a0 a1 r, (xB6 N d).c_laws_szValue a0 a1 = some r → AbC 8 (xAl a0 a1) (xAe r)) ∧ (∀ a0 a1 r, (xB6 N d).c_laws_szValueS a0 a1 = some r → AbC 23 (xBz a0 a1) (xAY r)) := by
 intro d
 induction d with
 | zero =>
  refine ⟨?_, ?_⟩ <;> (intros; rename_i h; cases h)
 | succ d ih =>
  obtain ⟨ih0, ih1⟩ := ih
  refine ⟨?_, ?_⟩
  ·intro _ _ r h; exact xIc (N := N) ih0 ih1 h
  ·intro _ _ r h; exact xH1 (N := N) ih0 ih1 h
theorem xAo {N : Nat} {a0 : Val} {a1 : Int} {r : Int} (h : xEP N a0 a1 = some r) : AbC 8 (xAl a0 a1) (xAe r) := (xIv N).1 _ _ r h
noncomputable def I31 : Info := { body := (Try.f31.body).getD .skip, nt := 22, results := [.tmp 2], keep := [0, 4, 6, 8, 22], live := [(3, [0, 6, 8])], modes := [(5, [(0, .ref, false)]), (6, [(0, .take, false)])], ext := [], lnt := [], casts := [], fcast := [] }
theorem fk31 : FnOk Try.prog 31 Try.f31 I31 := ⟨Try.func31, by kernel_rfl, by kernel_rfl, by kernel_rfl, by kernel_rfl⟩
def S31_3 (x0 x3 : List Str) (x4 : Int) : St := [(0, .v false [.sl .ro .str x0]), (6, .v false [.sl .own .str x3]), (8, .v false [.int .i64 x4])]
theorem p31_3_0 (x0 x3 : List Str) (x4 : Int) : run tt (AbsCalls Try.prog) I31 3000 true (stkAt 3 I31.body) ⟨(S31_3 x0 x3 x4), [true], [], []⟩ = some (.stop (stkAt 3 I31.body) (S31_3 x0 (List.set x3 (Int.toNat x4) (List.getD x0 (Int.toNat x4) Ty.str.dflt)) (IntKind.i64.wrap (x4 + 1))) [(decide ((x4 : Int) < (List.length x0 : Int))) = true, (0 : Int) ≤ x4 ∧ x4 < (List.length x0), (0 : Int) ≤ x4 ∧ x4 < (List.length x3)]) := by kernel_rfl
theorem p31_3_1 (x0 x3 : List Str) (x4 : Int) : run tt (AbsCalls Try.prog) I31 3000 true (stkAt 3 I31.body) ⟨(S31_3 x0 x3 x4), [false], [], []⟩ = some (.done (xDY x3) [(decide ((x4 : Int) < (List.length x0 : Int))) = false]) := by kernel_rfl
theorem p31_e_2 (a0 : List Str) : run tt (AbsCalls Try.prog) I31 3000 false [.code I31.body] ⟨(zBi 0 (xFM a0)), [], [], []⟩ = some (.stop (stkAt 3 I31.body) (S31_3 a0 (List.replicate (Int.toNat (List.length a0 : Int)) Ty.str.dflt) 0) [(0 : Int) ≤ (List.length a0 : Int) ∧ (List.length a0 : Int) = (List.length a0 : Int) ∧ (List.length a0 : Int) ≤ Lim]) := by kernel_rfl
theorem c31_3 {N : Nat} : ∀ n x0 x3 x4 r, xEK N n x0 x3 x4 = some r → Reach Try.prog Try.f31 I31 (stkAt 3 I31.body) (S31_3 x0 x3 x4) (xDY r) := by
 intro n
 induction n with
 | zero => intro x0 x3 x4 r h; have h' : (none : Option ((List Str))) = some r := h; cases h'
 | succ n ih =>
  intro x0 x3 x4 r h
  rw [xEK] at h
  rcases cond_inv h with ⟨h0, h⟩ | ⟨h0, h⟩
  ·obtain ⟨h1, h⟩ := ite_inv h
   obtain ⟨h2, h⟩ := ite_inv h
   exact Reach.stop ttok mix fk31 (p31_3_0 x0 x3 x4) (obs_cons h0 (obs_cons h1 (obs_cons h2 obs_nil))) (ih _ _ _ _ h)
  ·obtain rfl := Option.some.inj h
   exact Reach.done ttok mix fk31 (p31_3_1 x0 x3 x4) (obs_cons h0 obs_nil)
theorem c31_e {N : Nat} : ∀ a0 r, xFq N a0 = some r → Reach Try.prog Try.f31 I31 [.code I31.body] (zBi 0 (xFM a0)) (xDY r) := by
 intro a0 r h
 unfold xFq at h
 obtain ⟨h0, h⟩ := ite_inv h
 exact Reach.stop ttok mix fk31 (p31_e_2 a0) (obs_cons h0 obs_nil) (c31_3   _ _ _ _ _ h)
theorem laws_toStringS_ok {N : Nat} {a0 : List Str} {r : (List Str)} (h : xFq N  a0 = some r) : AbC 31 (xFM a0) (xDY r) :=
 AbsCalls.of_reach fk31 rfl rfl (Nat.le_of_ble_eq_true rfl) (c31_e a0 r h)
noncomputable def I96 : Info := { body := (Try.f96.body).getD .skip, nt := 22, results := [.tmp 2], keep := [0, 4, 6, 8, 22], live := [(3, [0, 6, 8])], modes := [(5, [(0, .ref, false)]), (6, [(0, .take, false)])], ext := [], lnt := [], casts := [], fcast := [] }
theorem fk96 : FnOk Try.prog 96 Try.f96 I96 := ⟨Try.func96, by kernel_rfl, by kernel_rfl, by kernel_rfl, by kernel_rfl⟩
def S96_3 (x0 x3 : List Int) (x4 : Int) : St := [(0, .v false [.sl .ro .int x0]), (6, .v false [.sl .own .int x3]), (8, .v false [.int .i64 x4])]
theorem p96_3_0 (x0 x3 : List Int) (x4 : Int) : run tt (AbsCalls Try.prog) I96 3000 true (stkAt 3 I96.body) ⟨(S96_3 x0 x3 x4), [true], [], []⟩ = some (.stop (stkAt 3 I96.body) (S96_3 x0 (List.set x3 (Int.toNat x4) (List.getD x0 (Int.toNat x4) Ty.int.dflt)) (IntKind.i64.wrap (x4 + 1))) [(decide ((x4 : Int) < (List.length x0 : Int))) = true, (0 : Int) ≤ x4 ∧ x4 < (List.length x0), (0 : Int) ≤ x4 ∧ x4 < (List.length x3)]) := by kernel_rfl
theorem p96_3_1 (x0 x3 : List Int) (x4 : Int) : run tt (AbsCalls Try.prog) I96 3000 true (stkAt 3 I96.body) ⟨(S96_3 x0 x3 x4), [false], [], []⟩ = some (.done (xFn x3) [(decide ((x4 : Int) < (List.length x0 : Int))) = false]) := by kernel_rfl
theorem p96_e_2 (a0 : List Int) : run tt (AbsCalls Try.prog) I96 3000 false [.code I96.body] ⟨(zBi 0 (xGG a0)), [], [], []⟩ = some (.stop (stkAt 3 I96.body) (S96_3 a0 (List.replicate (Int.toNat (List.length a0 : Int)) Ty.int.dflt) 0) [(0 : Int) ≤ (List.length a0 : Int) ∧ (List.length a0 : Int) = (List.length a0 : Int) ∧ (List.length a0 : Int) ≤ Lim]) := by kernel_rfl
theorem c96_3 {N : Nat} : ∀ n x0 x3 x4 r, xF1 N n x0 x3 x4 = some r → Reach Try.prog Try.f96 I96 (stkAt 3 I96.body) (S96_3 x0 x3 x4) (xFn r) := by
 intro n
 induction n with
 | zero => intro x0 x3 x4 r h; have h' : (none : Option ((List Int))) = some r := h; cases h'
 | succ n ih =>
  intro x0 x3 x4 r h
  rw [xF1] at h
  rcases cond_inv h with ⟨h0, h⟩ | ⟨h0, h⟩
  ·obtain ⟨h1, h⟩ := ite_inv h
   obtain ⟨h2, h⟩ := ite_inv h
   exact Reach.stop ttok mix fk96 (p96_3_0 x0 x3 x4) (obs_cons h0 (obs_cons h1 (obs_cons h2 obs_nil))) (ih _ _ _ _ h)
  ·obtain rfl := Option.some.inj h
   exact Reach.done ttok mix fk96 (p96_3_1 x0 x3 x4) (obs_cons h0 obs_nil)
theorem c96_e {N : Nat} : ∀ a0 r, xGt N a0 = some r → Reach Try.prog Try.f96 I96 [.code I96.body] (zBi 0 (xGG a0)) (xFn r) := by
 intro a0 r h
 unfold xGt at h
 obtain ⟨h0, h⟩ := ite_inv h
 exact Reach.stop ttok mix fk96 (p96_e_2 a0) (obs_cons h0 obs_nil) (c96_3   _ _ _ _ _ h)
theorem laws_toIntS_ok {N : Nat} {a0 : List Int} {r : (List Int)} (h : xGt N  a0 = some r) : AbC 96 (xGG a0) (xFn r) :=
 AbsCalls.of_reach fk96 rfl rfl (Nat.le_of_ble_eq_true rfl) (c96_e a0 r h)
noncomputable def I115 : Info := { body := (Try.f115.body).getD .skip, nt := 11, results := [.cell 2 94], keep := [0, 2, 4, 6, 3, 5, 7], live := [], modes := [], ext := [], lnt := [], casts := [], fcast := [] }
theorem fk115 : FnOk Try.prog 115 Try.f115 I115 := ⟨Try.func115, by kernel_rfl, by kernel_rfl, by kernel_rfl, by kernel_rfl⟩
theorem p115_e_0 (a0 : Org) : run tt (AbsCalls Try.prog) I115 3000 false [.code I115.body] ⟨(zBi 0 (xF8 a0)), [], [], []⟩ = some (.done (xFb a0) []) := by kernel_rfl
theorem c115_e {N : Nat} : ∀ a0 r, xGh N a0 = some r → Reach Try.prog Try.f115 I115 [.code I115.body] (zBi 0 (xF8 a0)) (xFb r) := by
 intro a0 r h
 unfold xGh at h
 obtain rfl := Option.some.inj h
 exact Reach.done ttok mix fk115 (p115_e_0 a0) obs_nil
theorem laws_toOrigin_ok {N : Nat} {a0 : Org} {r : Org} (h : xGh N  a0 = some r) : AbC 115 (xF8 a0) (xFb r) :=
 AbsCalls.of_reach fk115 rfl rfl (Nat.le_of_ble_eq_true rfl) (c115_e a0 r h)
noncomputable def I97 : Info := { body := (Try.f97.body).getD .skip, nt := 23, results := [.tmp 2], keep := [0, 4, 6, 8, 22], live := [(3, [0, 6, 8])], modes := [(5, [(0, .ref, false)]), (6, [(0, .take, false)])], ext := [], lnt := [], casts := [], fcast := [] }
theorem fk97 : FnOk Try.prog 97 Try.f97 I97 := ⟨Try.func97, by kernel_rfl, by kernel_rfl, by kernel_rfl, by kernel_rfl⟩
def S97_3 (x0 x3 : List Org) (x4 : Int) : St := [(0, .v false [.sl .ro .org x0]), (6, .v false [.sl .own .org x3]), (8, .v false [.int .i64 x4])]
theorem p97_3_0 (x0 x3 : List Org) (x4 : Int) (r1 : Org) : run tt (AbsCalls Try.prog) I97 3000 true (stkAt 3 I97.body) ⟨(S97_3 x0 x3 x4), [true], [xFb r1], []⟩ = some (.stop (stkAt 3 I97.body) (S97_3 x0 (List.set x3 (Int.toNat x4) r1) (IntKind.i64.wrap (x4 + 1))) [(decide ((x4 : Int) < (List.length x0 : Int))) = true, (0 : Int) ≤ x4 ∧ x4 < (List.length x0), AbC 115 (xF8 (List.getD x0 (Int.toNat x4) Ty.org.dflt)) (xFb r1), (0 : Int) ≤ x4 ∧ x4 < (List.length x3)]) := by kernel_rfl
theorem p97_3_1 (x0 x3 : List Org) (x4 : Int) : run tt (AbsCalls Try.prog) I97 3000 true (stkAt 3 I97.body) ⟨(S97_3 x0 x3 x4), [false], [], []⟩ = some (.done (xDX x3) [(decide ((x4 : Int) < (List.length x0 : Int))) = false]) := by kernel_rfl
theorem p97_e_2 (a0 : List Org) : run tt (AbsCalls Try.prog) I97 3000 false [.code I97.body] ⟨(zBi 0 (xFL a0)), [], [], []⟩ = some (.stop (stkAt 3 I97.body) (S97_3 a0 (List.replicate (Int.toNat (List.length a0 : Int)) Ty.org.dflt) 0) [(0 : Int) ≤ (List.length a0 : Int) ∧ (List.length a0 : Int) = (List.length a0 : Int) ∧ (List.length a0 : Int) ≤ Lim]) := by kernel_rfl
theorem c97_3 {N : Nat} : ∀ n x0 x3 x4 r, xEJ N n x0 x3 x4 = some r → Reach Try.prog Try.f97 I97 (stkAt 3 I97.body) (S97_3 x0 x3 x4) (xDX r) := by
 intro n
 induction n with
 | zero => intro x0 x3 x4 r h; have h' : (none : Option ((List Org))) = some r := h; cases h'
 | succ n ih =>
  intro x0 x3 x4 r h
  rw [xEJ] at h
  rcases cond_inv h with ⟨h0, h⟩ | ⟨h0, h⟩
  ·obtain ⟨h1, h⟩ := ite_inv h
   obtain ⟨r1, h2, h⟩ := bind_inv h
   obtain ⟨h3, h⟩ := ite_inv h
   exact Reach.stop ttok mix fk97 (p97_3_0 x0 x3 x4 r1) (obs_cons h0 (obs_cons h1 (obs_cons (laws_toOrigin_ok h2) (obs_cons h3 obs_nil)))) (ih _ _ _ _ h)
  ·obtain rfl := Option.some.inj h
   exact Reach.done ttok mix fk97 (p97_3_1 x0 x3 x4) (obs_cons h0 obs_nil)
theorem c97_e {N : Nat} : ∀ a0 r, xFo N a0 = some r → Reach Try.prog Try.f97 I97 [.code I97.body] (zBi 0 (xFL a0)) (xDX r) := by
 intro a0 r h
 unfold xFo at h
 obtain ⟨h0, h⟩ := ite_inv h
 exact Reach.stop ttok mix fk97 (p97_e_2 a0) (obs_cons h0 obs_nil) (c97_3   _ _ _ _ _ h)
theorem laws_toOriginS_ok {N : Nat} {a0 : List Org} {r : (List Org)} (h : xFo N  a0 = some r) : AbC 97 (xFL a0) (xDX r) :=
 AbsCalls.of_reach fk97 rfl rfl (Nat.le_of_ble_eq_true rfl) (c97_e a0 r h)
noncomputable def I75 : Info := { body := (Try.f75.body).getD .skip, nt := 13, results := [.cell 2 62], keep := [0, 2, 4, 6, 3, 5, 7], live := [], modes := [(4, [(0, .take, false)])], ext := [], lnt := [], casts := [], fcast := [] }
theorem fk75 : FnOk Try.prog 75 Try.f75 I75 := ⟨Try.func75, by kernel_rfl, by kernel_rfl, by kernel_rfl, by kernel_rfl⟩
theorem p75_e_0 (a0 : Rowd) (r1 : (List Int)) (r2 : (List Org)) : run tt (AbsCalls Try.prog) I75 3000 false [.code I75.body] ⟨(zBi 0 (xGV a0)), [], [xFn r1, xDX r2], []⟩ = some (.done (xGi (Rowd.mk r1 r2)) [AbC 96 (xGG (Rowd.cells a0)) (xFn r1), AbC 97 (xFL (Rowd.frm a0)) (xDX r2)]) := by kernel_rfl
theorem c75_e {N : Nat} : ∀ a0 r, xGu N a0 = some r → Reach Try.prog Try.f75 I75 [.code I75.body] (zBi 0 (xGV a0)) (xGi r) := by
 intro a0 r h
 unfold xGu at h
 obtain ⟨r1, h0, h⟩ := bind_inv h
 obtain ⟨r2, h1, h⟩ := bind_inv h
 obtain rfl := Option.some.inj h
 exact Reach.done ttok mix fk75 (p75_e_0 a0 r1 r2) (obs_cons (laws_toIntS_ok h0) (obs_cons (laws_toOriginS_ok h1) obs_nil))
theorem laws_toRow_ok {N : Nat} {a0 : Rowd} {r : Rowd} (h : xGu N  a0 = some r) : AbC 75 (xGV a0) (xGi r) :=
 AbsCalls.of_reach fk75 rfl rfl (Nat.le_of_ble_eq_true rfl) (c75_e a0 r h)
noncomputable def I32 : Info := { body := (Try.f32.body).getD .skip, nt := 23, results := [.tmp 2], keep := [0, 4, 6, 8, 22], live := [(3, [0, 6, 8])], modes := [(5, [(0, .ref, false)]), (6, [(0, .take, false)])], ext := [], lnt := [], casts := [], fcast := [] }
theorem fk32 : FnOk Try.prog 32 Try.f32 I32 := ⟨Try.func32, by kernel_rfl, by kernel_rfl, by kernel_rfl, by kernel_rfl⟩
def S32_3 (x0 x3 : List Rowd) (x4 : Int) : St := [(0, .v false [.sl .ro .row x0]), (6, .v false [.sl .own .row x3]), (8, .v false [.int .i64 x4])]
theorem p32_3_0 (x0 x3 : List Rowd) (x4 : Int) (r1 : Rowd) : run tt (AbsCalls Try.prog) I32 3000 true (stkAt 3 I32.body) ⟨(S32_3 x0 x3 x4), [true], [xGi r1], []⟩ = some (.stop (stkAt 3 I32.body) (S32_3 x0 (List.set x3 (Int.toNat x4) r1) (IntKind.i64.wrap (x4 + 1))) [(decide ((x4 : Int) < (List.length x0 : Int))) = true, (0 : Int) ≤ x4 ∧ x4 < (List.length x0), AbC 75 (xGV (List.getD x0 (Int.toNat x4) Ty.row.dflt)) (xGi r1), (0 : Int) ≤ x4 ∧ x4 < (List.length x3)]) := by kernel_rfl
theorem p32_3_1 (x0 x3 : List Rowd) (x4 : Int) : run tt (AbsCalls Try.prog) I32 3000 true (stkAt 3 I32.body) ⟨(S32_3 x0 x3 x4), [false], [], []⟩ = some (.done (xFp x3) [(decide ((x4 : Int) < (List.length x0 : Int))) = false]) := by kernel_rfl
theorem p32_e_2 (a0 : List Rowd) : run tt (AbsCalls Try.prog) I32 3000 false [.code I32.body] ⟨(zBi 0 (xGH a0)), [], [], []⟩ = some (.stop (stkAt 3 I32.body) (S32_3 a0 (List.replicate (Int.toNat (List.length a0 : Int)) Ty.row.dflt) 0) [(0 : Int) ≤ (List.length a0 : Int) ∧ (List.length a0 : Int) = (List.length a0 : Int) ∧ (List.length a0 : Int) ≤ Lim]) := by kernel_rfl
theorem c32_3 {N : Nat} : ∀ n x0 x3 x4 r, xF2 N n x0 x3 x4 = some r → Reach Try.prog Try.f32 I32 (stkAt 3 I32.body) (S32_3 x0 x3 x4) (xFp r) := by
 intro n
 induction n with
 | zero => intro x0 x3 x4 r h; have h' : (none : Option ((List Rowd))) = some r := h; cases h'
 | succ n ih =>
  intro x0 x3 x4 r h
  rw [xF2] at h
  rcases cond_inv h with ⟨h0, h⟩ | ⟨h0, h⟩
  ·obtain ⟨h1, h⟩ := ite_inv h
   obtain ⟨r1, h2, h⟩ := bind_inv h
   obtain ⟨h3, h⟩ := ite_inv h
   exact Reach.stop ttok mix fk32 (p32_3_0 x0 x3 x4 r1) (obs_cons h0 (obs_cons h1 (obs_cons (laws_toRow_ok h2) (obs_cons h3 obs_nil)))) (ih _ _ _ _ h)
  ·obtain rfl := Option.some.inj h
   exact Reach.done ttok mix fk32 (p32_3_1 x0 x3 x4) (obs_cons h0 obs_nil)
theorem c32_e {N : Nat} : ∀ a0 r, xGv N a0 = some r → Reach Try.prog Try.f32 I32 [.code I32.body] (zBi 0 (xGH a0)) (xFp r) := by
 intro a0 r h
 unfold xGv at h
 obtain ⟨h0, h⟩ := ite_inv h
 exact Reach.stop ttok mix fk32 (p32_e_2 a0) (obs_cons h0 obs_nil) (c32_3   _ _ _ _ _ h)
theorem laws_toRowS_ok {N : Nat} {a0 : List Rowd} {r : (List Rowd)} (h : xGv N  a0 = some r) : AbC 32 (xGH a0) (xFp r) :=
 AbsCalls.of_reach fk32 rfl rfl (Nat.le_of_ble_eq_true rfl) (c32_e a0 r h)
noncomputable def I10 : Info := { body := (Try.f10.body).getD .skip, nt := 29, results := [.cell 2 31], keep := [0, 2, 4, 6, 3, 5, 7], live := [], modes := [(9, [(0, .take, false)])], ext := [], lnt := [], casts := [], fcast := [] }
theorem fk10 : FnOk Try.prog 10 Try.f10 I10 := ⟨Try.func10, by kernel_rfl, by kernel_rfl, by kernel_rfl, by kernel_rfl⟩
theorem p10_e_0 (a0 : Val) (r1 : (List Val)) (r2 : (List Str)) (r3 : (List Rowd)) : run tt (AbsCalls Try.prog) I10 3000 false [.code I10.body] ⟨(zBi 0 (xAc a0)), [], [xBP r1, xDY r2, xFp r3], []⟩ = some (.done (xAa (Val.mk (Val.kind a0) (Val.n a0) (Val.step a0) (Val.text a0) r1 r2 r3)) [AbC 30 (xCh (Val.list a0)) (xBP r1), AbC 31 (xFM (Val.columns a0)) (xDY r2), AbC 32 (xGH (Val.rows a0)) (xFp r3)]) := by kernel_rfl
theorem c10_e {N : Nat} {rc_laws_toValue : Val → Option (Val)} (hrc_laws_toValue : ∀ a0 r, rc_laws_toValue a0 = some r → AbC 10 (xAc a0) (xAa r)) {rc_laws_toValueS : (List Val) → Option ((List Val))} (hrc_laws_toValueS : ∀ a0 r, rc_laws_toValueS a0 = some r → AbC 30 (xCh a0) (xBP r)) : ∀ a0 r, xDZ N rc_laws_toValue rc_laws_toValueS a0 = some r → Reach Try.prog Try.f10 I10 [.code I10.body] (zBi 0 (xAc a0)) (xAa r) := by
 intro a0 r h
 unfold xDZ at h
 obtain ⟨r1, h0, h⟩ := bind_inv h
 obtain ⟨r2, h1, h⟩ := bind_inv h
 obtain ⟨r3, h2, h⟩ := bind_inv h
 obtain rfl := Option.some.inj h
 exact Reach.done ttok mix fk10 (p10_e_0 a0 r1 r2 r3) (obs_cons (hrc_laws_toValueS _ _ h0) (obs_cons (laws_toStringS_ok h1) (obs_cons (laws_toRowS_ok h2) obs_nil)))
theorem xId {N : Nat} {rc_laws_toValue : Val → Option (Val)} (hrc_laws_toValue : ∀ a0 r, rc_laws_toValue a0 = some r → AbC 10 (xAc a0) (xAa r)) {rc_laws_toValueS : (List Val) → Option ((List Val))} (hrc_laws_toValueS : ∀ a0 r, rc_laws_toValueS a0 = some r → AbC 30 (xCh a0) (xBP r)) {a0 : Val} {r : Val} (h : xDZ N rc_laws_toValue rc_laws_toValueS a0 = some r) : AbC 10 (xAc a0) (xAa r) :=
 AbsCalls.of_reach fk10 rfl rfl (Nat.le_of_ble_eq_true rfl) (c10_e hrc_laws_toValue hrc_laws_toValueS a0 r h)
noncomputable def I30 : Info := { body := (Try.f30.body).getD .skip, nt := 23, results := [.tmp 2], keep := [0, 4, 6, 8, 22], live := [(3, [0, 6, 8])], modes := [(5, [(0, .ref, false)]), (6, [(0, .take, false)])], ext := [], lnt := [], casts := [], fcast := [] }
theorem fk30 : FnOk Try.prog 30 Try.f30 I30 := ⟨Try.func30, by kernel_rfl, by kernel_rfl, by kernel_rfl, by kernel_rfl⟩
def S30_3 (x0 x3 : List Val) (x4 : Int) : St := [(0, .v false [.sl .ro .val x0]), (6, .v false [.sl .own .val x3]), (8, .v false [.int .i64 x4])]
theorem p30_3_0 (x0 x3 : List Val) (x4 : Int) (r1 : Val) : run tt (AbsCalls Try.prog) I30 3000 true (stkAt 3 I30.body) ⟨(S30_3 x0 x3 x4), [true], [xAa r1], []⟩ = some (.stop (stkAt 3 I30.body) (S30_3 x0 (List.set x3 (Int.toNat x4) (Val.re r1)) (IntKind.i64.wrap (x4 + 1))) [(decide ((x4 : Int) < (List.length x0 : Int))) = true, (0 : Int) ≤ x4 ∧ x4 < (List.length x0), AbC 10 (xAc (List.getD x0 (Int.toNat x4) Ty.val.dflt)) (xAa r1), (0 : Int) ≤ x4 ∧ x4 < (List.length x3)]) := by kernel_rfl
theorem p30_3_1 (x0 x3 : List Val) (x4 : Int) : run tt (AbsCalls Try.prog) I30 3000 true (stkAt 3 I30.body) ⟨(S30_3 x0 x3 x4), [false], [], []⟩ = some (.done (xBP x3) [(decide ((x4 : Int) < (List.length x0 : Int))) = false]) := by kernel_rfl
theorem p30_e_2 (a0 : List Val) : run tt (AbsCalls Try.prog) I30 3000 false [.code I30.body] ⟨(zBi 0 (xCh a0)), [], [], []⟩ = some (.stop (stkAt 3 I30.body) (S30_3 a0 (List.replicate (Int.toNat (List.length a0 : Int)) Ty.val.dflt) 0) [(0 : Int) ≤ (List.length a0 : Int) ∧ (List.length a0 : Int) = (List.length a0 : Int) ∧ (List.length a0 : Int) ≤ Lim]) := by kernel_rfl
theorem c30_3 {N : Nat} {rc_laws_toValue : Val → Option (Val)} (hrc_laws_toValue : ∀ a0 r, rc_laws_toValue a0 = some r → AbC 10 (xAc a0) (xAa r)) {rc_laws_toValueS : (List Val) → Option ((List Val))} (hrc_laws_toValueS : ∀ a0 r, rc_laws_toValueS a0 = some r → AbC 30 (xCh a0) (xBP r)) : ∀ n x0 x3 x4 r, xFc N rc_laws_toValue rc_laws_toValueS n x0 x3 x4 = some r → Reach Try.prog Try.f30 I30 (stkAt 3 I30.body) (S30_3 x0 x3 x4) (xBP r) := by
 intro n
 induction n with
 | zero => intro x0 x3 x4 r h; have h' : (none : Option ((List Val))) = some r := h; cases h'
 | succ n ih =>
  intro x0 x3 x4 r h
  rw [xFc] at h
  rcases cond_inv h with ⟨h0, h⟩ | ⟨h0, h⟩
  ·obtain ⟨h1, h⟩ := ite_inv h
   obtain ⟨r1, h2, h⟩ := bind_inv h
   obtain ⟨h3, h⟩ := ite_inv h
   exact Reach.stop ttok mix fk30 (p30_3_0 x0 x3 x4 r1) (obs_cons h0 (obs_cons h1 (obs_cons (hrc_laws_toValue _ _ h2) (obs_cons h3 obs_nil)))) (ih _ _ _ _ h)
  ·obtain rfl := Option.some.inj h
   exact Reach.done ttok mix fk30 (p30_3_1 x0 x3 x4) (obs_cons h0 obs_nil)
theorem c30_e {N : Nat} {rc_laws_toValue : Val → Option (Val)} (hrc_laws_toValue : ∀ a0 r, rc_laws_toValue a0 = some r → AbC 10 (xAc a0) (xAa r)) {rc_laws_toValueS : (List Val) → Option ((List Val))} (hrc_laws_toValueS : ∀ a0 r, rc_laws_toValueS a0 = some r → AbC 30 (xCh a0) (xBP r)) : ∀ a0 r, xDB N rc_laws_toValue rc_laws_toValueS a0 = some r → Reach Try.prog Try.f30 I30 [.code I30.body] (zBi 0 (xCh a0)) (xBP r) := by
 intro a0 r h
 unfold xDB at h
 obtain ⟨h0, h⟩ := ite_inv h
 exact Reach.stop ttok mix fk30 (p30_e_2 a0) (obs_cons h0 obs_nil) (c30_3 hrc_laws_toValue hrc_laws_toValueS  _ _ _ _ _ h)
theorem xH2 {N : Nat} {rc_laws_toValue : Val → Option (Val)} (hrc_laws_toValue : ∀ a0 r, rc_laws_toValue a0 = some r → AbC 10 (xAc a0) (xAa r)) {rc_laws_toValueS : (List Val) → Option ((List Val))} (hrc_laws_toValueS : ∀ a0 r, rc_laws_toValueS a0 = some r → AbC 30 (xCh a0) (xBP r)) {a0 : List Val} {r : (List Val)} (h : xDB N rc_laws_toValue rc_laws_toValueS a0 = some r) : AbC 30 (xCh a0) (xBP r) :=
 AbsCalls.of_reach fk30 rfl rfl (Nat.le_of_ble_eq_true rfl) (c30_e hrc_laws_toValue hrc_laws_toValueS a0 r h)
theorem xIw {N : Nat} : ∀ d, (∀ a0 r, (xBf N d).c_laws_toValue a0 = some r → AbC 10 (xAc a0) (xAa r)) ∧ (∀ a0 r, (xBf N d).c_laws_toValueS a0 = some r → AbC 30 (xCh a0) (xBP r)) := by
 intro d
 induction d with
 | zero =>
  refine ⟨?_, ?_⟩ <;> (intros; rename_i h; cases h)
 | succ d ih =>
  obtain ⟨ih0, ih1⟩ := ih
  refine ⟨?_, ?_⟩
  ·intro _ r h; exact xId (N := N) ih0 ih1 h
  ·intro _ r h; exact xH2 (N := N) ih0 ih1 h
theorem xAd {N : Nat} {a0 : Val} {r : Val} (h : xAM N a0 = some r) : AbC 10 (xAc a0) (xAa r) := (xIw N).1 _ r h
noncomputable def I54 : Info := { body := (Try.f54.body).getD .skip, nt := 15, results := [.tmp 6], keep := [0, 2, 4, 12], live := [], modes := [(1, [(3, .take, false)])], ext := [], lnt := [], casts := [], fcast := [] }
theorem fk54 : FnOk Try.prog 54 Try.f54 I54 := ⟨Try.func54, by kernel_rfl, by kernel_rfl, by kernel_rfl, by kernel_rfl⟩
theorem p54_e_0 (a0 a1 a2 : Int) : run tt (AbsCalls Try.prog) I54 3000 false [.code I54.body] ⟨(zBi 0 (xEQ a0 a1 a2)), [true], [], []⟩ = some (.done (xC6 (decide ((a0 : Int) ≤ a2))) [(decide ((a0 : Int) ≥ a1)) = true]) := by kernel_rfl
theorem p54_e_1 (a0 a1 a2 : Int) : run tt (AbsCalls Try.prog) I54 3000 false [.code I54.body] ⟨(zBi 0 (xEQ a0 a1 a2)), [false], [], []⟩ = some (.done (xC6 false) [(decide ((a0 : Int) ≥ a1)) = false]) := by kernel_rfl
theorem c54_e {N : Nat} : ∀ a0 a1 a2 r, xGN N a0 a1 a2 = some r → Reach Try.prog Try.f54 I54 [.code I54.body] (zBi 0 (xEQ a0 a1 a2)) (xC6 r) := by
 intro a0 a1 a2 r h
 unfold xGN at h
 rcases cond_inv h with ⟨h0, h⟩ | ⟨h0, h⟩
 ·obtain rfl := Option.some.inj h
  exact Reach.done ttok mix fk54 (p54_e_0 a0 a1 a2) (obs_cons h0 obs_nil)
 ·obtain rfl := Option.some.inj h
  exact Reach.done ttok mix fk54 (p54_e_1 a0 a1 a2) (obs_cons h0 obs_nil)
theorem xHm {N : Nat} {a0 : Int} {a1 : Int} {a2 : Int} {r : Bool} (h : xGN N  a0 a1 a2 = some r) : AbC 54 (xEQ a0 a1 a2) (xC6 r) :=
 AbsCalls.of_reach fk54 rfl rfl (Nat.le_of_ble_eq_true rfl) (c54_e a0 a1 a2 r h)
noncomputable def I49 : Info := { body := (Try.f49.body).getD .skip, nt := 5, results := [.tmp 2], keep := [0, 4], live := [], modes := [], ext := [], lnt := [], casts := [], fcast := [] }
theorem fk49 : FnOk Try.prog 49 Try.f49 I49 := ⟨Try.func49, by kernel_rfl, by kernel_rfl, by kernel_rfl, by kernel_rfl⟩
theorem p49_e_0 (a0 : Int) (r1 : Bool) : run tt (AbsCalls Try.prog) I49 3000 false [.code I49.body] ⟨(zBi 0 (xB7 a0)), [], [xC6 r1], []⟩ = some (.done (xA4 r1) [AbC 54 (xEQ a0 (-1000000000) 1000000000) (xC6 r1)]) := by kernel_rfl
theorem c49_e {N : Nat} : ∀ a0 r, xDr N a0 = some r → Reach Try.prog Try.f49 I49 [.code I49.body] (zBi 0 (xB7 a0)) (xA4 r) := by
 intro a0 r h
 unfold xDr at h
 obtain ⟨r1, h0, h⟩ := bind_inv h
 obtain rfl := Option.some.inj h
 exact Reach.done ttok mix fk49 (p49_e_0 a0 r1) (obs_cons (xHm h0) obs_nil)
theorem xC7 {N : Nat} {a0 : Int} {r : Bool} (h : xDr N  a0 = some r) : AbC 49 (xB7 a0) (xA4 r) :=
 AbsCalls.of_reach fk49 rfl rfl (Nat.le_of_ble_eq_true rfl) (c49_e a0 r h)
noncomputable def I103 : Info := { body := (Try.f103.body).getD .skip, nt := 29, results := [.tmp 2], keep := [0, 4, 6, 14, 50], live := [(2, [0, 6])], modes := [(4, [(4, .take, false), (10, .take, false)])], ext := [], lnt := [], casts := [], fcast := [] }
theorem fk103 : FnOk Try.prog 103 Try.f103 I103 := ⟨Try.func103, by kernel_rfl, by kernel_rfl, by kernel_rfl, by kernel_rfl⟩
def S103_2 (x0 : Str) (x3 : Int) : St := [(0, .v false [.str x0]), (6, .v false [.int .i64 x3])]
theorem p103_2_0 (x0 : Str) (x3 : Int) : run tt (AbsCalls Try.prog) I103 3000 true (stkAt 2 I103.body) ⟨(S103_2 x0 x3), [true, true, true, true], [], []⟩ = some (.done (xB2 false) [(decide ((x3 : Int) < (List.length x0 : Int))) = true, (0 : Int) ≤ x3 ∧ x3 < (List.length x0), (decide ((((List.getD x0 (Int.toNat x3) 0).toNat : Int) : Int) < 32)) = true, true = true, true = true]) := by kernel_rfl
theorem p103_2_1 (x0 : Str) (x3 : Int) : run tt (AbsCalls Try.prog) I103 3000 true (stkAt 2 I103.body) ⟨(S103_2 x0 x3), [true, false, true, true], [], []⟩ = some (.done (xB2 false) [(decide ((x3 : Int) < (List.length x0 : Int))) = true, (0 : Int) ≤ x3 ∧ x3 < (List.length x0), (decide ((((List.getD x0 (Int.toNat x3) 0).toNat : Int) : Int) < 32)) = false, (0 : Int) ≤ x3 ∧ x3 < (List.length x0), (decide ((((List.getD x0 (Int.toNat x3) 0).toNat : Int) : Int) > 126)) = true, true = true]) := by kernel_rfl
theorem p103_2_2 (x0 : Str) (x3 : Int) : run tt (AbsCalls Try.prog) I103 3000 true (stkAt 2 I103.body) ⟨(S103_2 x0 x3), [true, false, false, true], [], []⟩ = some (.done (xB2 false) [(decide ((x3 : Int) < (List.length x0 : Int))) = true, (0 : Int) ≤ x3 ∧ x3 < (List.length x0), (decide ((((List.getD x0 (Int.toNat x3) 0).toNat : Int) : Int) < 32)) = false, (0 : Int) ≤ x3 ∧ x3 < (List.length x0), (decide ((((List.getD x0 (Int.toNat x3) 0).toNat : Int) : Int) > 126)) = false, (0 : Int) ≤ x3 ∧ x3 < (List.length x0), ((((List.getD x0 (Int.toNat x3) 0).toNat : Int) : Int) == 34) = true]) := by kernel_rfl
theorem p103_2_3 (x0 : Str) (x3 : Int) : run tt (AbsCalls Try.prog) I103 3000 true (stkAt 2 I103.body) ⟨(S103_2 x0 x3), [true, false, false, false], [], []⟩ = some (.stop (stkAt 2 I103.body) (S103_2 x0 (IntKind.i64.wrap (x3 + 1))) [(decide ((x3 : Int) < (List.length x0 : Int))) = true, (0 : Int) ≤ x3 ∧ x3 < (List.length x0), (decide ((((List.getD x0 (Int.toNat x3) 0).toNat : Int) : Int) < 32)) = false, (0 : Int) ≤ x3 ∧ x3 < (List.length x0), (decide ((((List.getD x0 (Int.toNat x3) 0).toNat : Int) : Int) > 126)) = false, (0 : Int) ≤ x3 ∧ x3 < (List.length x0), ((((List.getD x0 (Int.toNat x3) 0).toNat : Int) : Int) == 34) = false]) := by kernel_rfl
theorem p103_2_4 (x0 : Str) (x3 : Int) : run tt (AbsCalls Try.prog) I103 3000 true (stkAt 2 I103.body) ⟨(S103_2 x0 x3), [false], [], []⟩ = some (.done (xB2 (decide (((List.length x0 : Int) : Int) ≤ 20))) [(decide ((x3 : Int) < (List.length x0 : Int))) = false]) := by kernel_rfl
theorem p103_e_5 (a0 : Str) : run tt (AbsCalls Try.prog) I103 3000 false [.code I103.body] ⟨(zBi 0 (xE1 a0)), [], [], []⟩ = some (.stop (stkAt 2 I103.body) (S103_2 a0 0) []) := by kernel_rfl
theorem c103_2 {N : Nat} : ∀ n x0 x3 r, xB1 N n x0 x3 = some r → Reach Try.prog Try.f103 I103 (stkAt 2 I103.body) (S103_2 x0 x3) (xB2 r) := by
 intro n
 induction n with
 | zero => intro x0 x3 r h; have h' : (none : Option (Bool)) = some r := h; cases h'
 | succ n ih =>
  intro x0 x3 r h
  rw [xB1] at h
  rcases cond_inv h with ⟨h0, h⟩ | ⟨h0, h⟩
  ·obtain ⟨h1, h⟩ := ite_inv h
   rcases cond_inv h with ⟨h2, h⟩ | ⟨h2, h⟩
   ·obtain rfl := Option.some.inj h
    exact Reach.done ttok mix fk103 (p103_2_0 x0 x3) (obs_cons h0 (obs_cons h1 (obs_cons h2 (obs_cons rfl (obs_cons rfl obs_nil)))))
   ·rcases cond_inv h with ⟨h4, h⟩ | ⟨h4, h⟩
    ·obtain rfl := Option.some.inj h
     exact Reach.done ttok mix fk103 (p103_2_1 x0 x3) (obs_cons h0 (obs_cons h1 (obs_cons h2 (obs_cons h1 (obs_cons h4 (obs_cons rfl obs_nil))))))
    ·rcases cond_inv h with ⟨h6, h⟩ | ⟨h6, h⟩
     ·obtain rfl := Option.some.inj h
      exact Reach.done ttok mix fk103 (p103_2_2 x0 x3) (obs_cons h0 (obs_cons h1 (obs_cons h2 (obs_cons h1 (obs_cons h4 (obs_cons h1 (obs_cons h6 obs_nil)))))))
     ·exact Reach.stop ttok mix fk103 (p103_2_3 x0 x3) (obs_cons h0 (obs_cons h1 (obs_cons h2 (obs_cons h1 (obs_cons h4 (obs_cons h1 (obs_cons h6 obs_nil))))))) (ih _ _ _ h)
  ·obtain rfl := Option.some.inj h
   exact Reach.done ttok mix fk103 (p103_2_4 x0 x3) (obs_cons h0 obs_nil)
theorem c103_e {N : Nat} : ∀ a0 r, xFe N a0 = some r → Reach Try.prog Try.f103 I103 [.code I103.body] (zBi 0 (xE1 a0)) (xB2 r) := by
 intro a0 r h
 unfold xFe at h
 exact Reach.stop ttok mix fk103 (p103_e_5 a0) obs_nil (c103_2   _ _ _ _ h)
theorem xIC {N : Nat} {a0 : Str} {r : Bool} (h : xFe N  a0 = some r) : AbC 103 (xE1 a0) (xB2 r) :=
 AbsCalls.of_reach fk103 rfl rfl (Nat.le_of_ble_eq_true rfl) (c103_e a0 r h)
noncomputable def I117 : Info := { body := (Try.f117.body).getD .skip, nt := 16, results := [.tmp 2], keep := [0, 2, 4, 3], live := [], modes := [(1, [(3, .take, false), (8, .take, false)])], ext := [], lnt := [], casts := [], fcast := [] }
theorem fk117 : FnOk Try.prog 117 Try.f117 I117 := ⟨Try.func117, by kernel_rfl, by kernel_rfl, by kernel_rfl, by kernel_rfl⟩
theorem p117_e_0 (a0 : Val) : run tt (AbsCalls Try.prog) I117 3000 false [.code I117.body] ⟨(zBi 0 (xCG a0)), [true, true], [], []⟩ = some (.done (xBS true) [(((Val.kind a0) : Int) == 1) = true, true = true]) := by kernel_rfl
theorem p117_e_1 (a0 : Val) : run tt (AbsCalls Try.prog) I117 3000 false [.code I117.body] ⟨(zBi 0 (xCG a0)), [false, true], [], []⟩ = some (.done (xBS true) [(((Val.kind a0) : Int) == 1) = false, (((Val.kind a0) : Int) == 2) = true]) := by kernel_rfl
theorem p117_e_2 (a0 : Val) : run tt (AbsCalls Try.prog) I117 3000 false [.code I117.body] ⟨(zBi 0 (xCG a0)), [false, false], [], []⟩ = some (.done (xBS (((Val.kind a0) : Int) == 3)) [(((Val.kind a0) : Int) == 1) = false, (((Val.kind a0) : Int) == 2) = false]) := by kernel_rfl
theorem c117_e {N : Nat} : ∀ a0 r, xF5 N a0 = some r → Reach Try.prog Try.f117 I117 [.code I117.body] (zBi 0 (xCG a0)) (xBS r) := by
 intro a0 r h
 unfold xF5 at h
 rcases cond_inv h with ⟨h0, h⟩ | ⟨h0, h⟩
 ·obtain rfl := Option.some.inj h
  exact Reach.done ttok mix fk117 (p117_e_0 a0) (obs_cons h0 (obs_cons rfl obs_nil))
 ·rcases cond_inv h with ⟨h1, h⟩ | ⟨h1, h⟩
  ·obtain rfl := Option.some.inj h
   exact Reach.done ttok mix fk117 (p117_e_1 a0) (obs_cons h0 (obs_cons h1 obs_nil))
  ·obtain rfl := Option.some.inj h
   exact Reach.done ttok mix fk117 (p117_e_2 a0) (obs_cons h0 (obs_cons h1 obs_nil))
theorem xGy {N : Nat} {a0 : Val} {r : Bool} (h : xF5 N  a0 = some r) : AbC 117 (xCG a0) (xBS r) :=
 AbsCalls.of_reach fk117 rfl rfl (Nat.le_of_ble_eq_true rfl) (c117_e a0 r h)
noncomputable def I123 : Info := { body := (Try.f123.body).getD .skip, nt := 10, results := [.tmp 4], keep := [0, 2, 8, 14], live := [], modes := [], ext := [], lnt := [], casts := [], fcast := [] }
theorem fk123 : FnOk Try.prog 123 Try.f123 I123 := ⟨Try.func123, by kernel_rfl, by kernel_rfl, by kernel_rfl, by kernel_rfl⟩
theorem p123_e_0 (a0 a1 : Int) : run tt (AbsCalls Try.prog) I123 3000 false [.code I123.body] ⟨(zBi 0 (xGj a0 a1)), [true], [], []⟩ = some (.done (xFQ a0) [(decide ((a0 : Int) > a1)) = true]) := by kernel_rfl
theorem p123_e_1 (a0 a1 : Int) : run tt (AbsCalls Try.prog) I123 3000 false [.code I123.body] ⟨(zBi 0 (xGj a0 a1)), [false], [], []⟩ = some (.done (xFQ a1) [(decide ((a0 : Int) > a1)) = false]) := by kernel_rfl
theorem c123_e {N : Nat} : ∀ a0 a1 r, xG0 N a0 a1 = some r → Reach Try.prog Try.f123 I123 [.code I123.body] (zBi 0 (xGj a0 a1)) (xFQ r) := by
 intro a0 a1 r h
 unfold xG0 at h
 rcases cond_inv h with ⟨h0, h⟩ | ⟨h0, h⟩
 ·obtain rfl := Option.some.inj h
  exact Reach.done ttok mix fk123 (p123_e_0 a0 a1) (obs_cons h0 obs_nil)
 ·obtain rfl := Option.some.inj h
  exact Reach.done ttok mix fk123 (p123_e_1 a0 a1) (obs_cons h0 obs_nil)
theorem spec_l1Max_ok {N : Nat} {a0 : Int} {a1 : Int} {r : Int} (h : xG0 N  a0 a1 = some r) : AbC 123 (xGj a0 a1) (xFQ r) :=
 AbsCalls.of_reach fk123 rfl rfl (Nat.le_of_ble_eq_true rfl) (c123_e a0 a1 r h)
noncomputable def I118 : Info := { body := (Try.f118.body).getD .skip, nt := 22, results := [.tmp 2], keep := [0, 2, 4, 6, 8, 18, 3], live := [(3, [2, 6, 8, 3])], modes := [], ext := [], lnt := [], casts := [], fcast := [] }
theorem fk118 : FnOk Try.prog 118 Try.f118 I118 := ⟨Try.func118, by kernel_rfl, by kernel_rfl, by kernel_rfl, by kernel_rfl⟩
def S118_3 (x3 x4 : Int) (b1 : Val) : St := [(2, .v false [.ptr 1 0]), (6, .v false [.int .i64 x3]), (8, .v false [.int .i64 x4]), (3, .v true [.int .i64 (Val.kind b1), .int .i64 (Val.n b1), .int .i64 (Val.step b1), .str (Val.text b1), .sl .ro .val (Val.list b1), .sl .ro .str (Val.columns b1), .sl .ro .row (Val.rows b1)])]
theorem p118_3_0 (x3 x4 : Int) (b1 : Val) (r1 r2 : Int) : run tt (AbsCalls Try.prog) I118 3000 true (stkAt 3 I118.body) ⟨(S118_3 x3 x4 b1), [true], [xBR r1, xFQ r2], []⟩ = some (.stop (stkAt 3 I118.body) (S118_3 r2 (IntKind.i64.wrap (x4 + 1)) b1) [(decide ((x4 : Int) < (List.length (Val.list b1) : Int))) = true, (0 : Int) ≤ x4 ∧ x4 < (List.length (Val.list b1)), AbC 118 (xCp (List.getD (Val.list b1) (Int.toNat x4) Ty.val.dflt)) (xBR r1), AbC 123 (xGj x3 r1) (xFQ r2)]) := by kernel_rfl
theorem p118_3_1 (x3 x4 : Int) (b1 : Val) : run tt (AbsCalls Try.prog) I118 3000 true (stkAt 3 I118.body) ⟨(S118_3 x3 x4 b1), [false], [], []⟩ = some (.done (xBR (IntKind.i64.wrap (x3 + 1))) [(decide ((x4 : Int) < (List.length (Val.list b1) : Int))) = false]) := by kernel_rfl
theorem p118_e_2 (a0 : Val) : run tt (AbsCalls Try.prog) I118 3000 false [.code I118.body] ⟨(zBi 0 (xCp a0)), [], [], []⟩ = some (.stop (stkAt 3 I118.body) (S118_3 0 0 a0) []) := by kernel_rfl
theorem c118_3 {N : Nat} {rc_spec_DepthOf : Val → Option (Int)} (hrc_spec_DepthOf : ∀ a0 r, rc_spec_DepthOf a0 = some r → AbC 118 (xCp a0) (xBR r)) : ∀ n x3 x4 b1 r, xD8 N rc_spec_DepthOf n x3 x4 b1 = some r → Reach Try.prog Try.f118 I118 (stkAt 3 I118.body) (S118_3 x3 x4 b1) (xBR r) := by
 intro n
 induction n with
 | zero => intro x3 x4 b1 r h; have h' : (none : Option (Int)) = some r := h; cases h'
 | succ n ih =>
  intro x3 x4 b1 r h
  rw [xD8] at h
  rcases cond_inv h with ⟨h0, h⟩ | ⟨h0, h⟩
  ·obtain ⟨h1, h⟩ := ite_inv h
   obtain ⟨r1, h2, h⟩ := bind_inv h
   obtain ⟨r2, h3, h⟩ := bind_inv h
   exact Reach.stop ttok mix fk118 (p118_3_0 x3 x4 b1 r1 r2) (obs_cons h0 (obs_cons h1 (obs_cons (hrc_spec_DepthOf _ _ h2) (obs_cons (spec_l1Max_ok h3) obs_nil)))) (ih _ _ _ _ h)
  ·obtain rfl := Option.some.inj h
   exact Reach.done ttok mix fk118 (p118_3_1 x3 x4 b1) (obs_cons h0 obs_nil)
theorem c118_e {N : Nat} {rc_spec_DepthOf : Val → Option (Int)} (hrc_spec_DepthOf : ∀ a0 r, rc_spec_DepthOf a0 = some r → AbC 118 (xCp a0) (xBR r)) : ∀ a0 r, xFN N rc_spec_DepthOf a0 = some r → Reach Try.prog Try.f118 I118 [.code I118.body] (zBi 0 (xCp a0)) (xBR r) := by
 intro a0 r h
 unfold xFN at h
 exact Reach.stop ttok mix fk118 (p118_e_2 a0) obs_nil (c118_3 hrc_spec_DepthOf  _ _ _ _ _ h)
theorem xIe {N : Nat} {rc_spec_DepthOf : Val → Option (Int)} (hrc_spec_DepthOf : ∀ a0 r, rc_spec_DepthOf a0 = some r → AbC 118 (xCp a0) (xBR r)) {a0 : Val} {r : Int} (h : xFN N rc_spec_DepthOf a0 = some r) : AbC 118 (xCp a0) (xBR r) :=
 AbsCalls.of_reach fk118 rfl rfl (Nat.le_of_ble_eq_true rfl) (c118_e hrc_spec_DepthOf a0 r h)
theorem xIA {N : Nat} : ∀ d, (∀ a0 r, xDN N d a0 = some r → AbC 118 (xCp a0) (xBR r)) := by
 intro d
 induction d with
 | zero => intro _ r h; have h' : (none : Option (Int)) = some r := h; cases h'
 | succ d ih => intro _ r h; exact xIe (N := N) ih h
theorem spec_DepthOf_ok {N : Nat} {a0 : Val} {r : Int} (h : xHl N a0 = some r) : AbC 118 (xCp a0) (xBR r) := xIA N _ r h
noncomputable def I84 : Info := { body := (Try.f84.body).getD .skip, nt := 45, results := [.tmp 2], keep := [0, 4, 6, 8, 10, 18, 82], live := [(2, [0, 6])], modes := [(4, [(4, .take, false)]), (5, [(4, .take, false)]), (6, [(0, .take, false), (2, .take, false), (5, .take, false), (6, .take, false)])], ext := [], lnt := [], casts := [], fcast := [] }
theorem fk84 : FnOk Try.prog 84 Try.f84 I84 := ⟨Try.func84, by kernel_rfl, by kernel_rfl, by kernel_rfl, by kernel_rfl⟩
def xHB (x0 : Str) (x3 : Int) : St := [(0, .v false [.str x0]), (6, .v false [.int .i64 x3])]
theorem p84_2_0 (x0 : Str) (x3 : Int) : run tt (AbsCalls Try.prog) I84 3000 true (stkAt 2 I84.body) ⟨(xHB x0 x3), [true, true, true, true, true, true], [], []⟩ = some (.done (xBg false) [(decide ((x3 : Int) < (List.length x0 : Int))) = true, (0 : Int) ≤ x3 ∧ x3 < (List.length x0), (decide ((((List.getD x0 (Int.toNat x3) 0).toNat : Int) : Int) ≥ 97)) = true, (0 : Int) ≤ x3 ∧ x3 < (List.length x0), (0 : Int) ≤ x3 ∧ x3 < (List.length x0), (decide ((((List.getD x0 (Int.toNat x3) 0).toNat : Int) : Int) ≥ 48)) = true, (0 : Int) ≤ x3 ∧ x3 < (List.length x0), (!(decide ((((List.getD x0 (Int.toNat x3) 0).toNat : Int) : Int) ≤ 122))) = true, ((x3 : Int) == 0) = true, true = true]) := by kernel_rfl
theorem p84_2_1 (x0 : Str) (x3 : Int) : run tt (AbsCalls Try.prog) I84 3000 true (stkAt 2 I84.body) ⟨(xHB x0 x3), [true, true, true, true, false, true], [], []⟩ = some (.done (xBg false) [(decide ((x3 : Int) < (List.length x0 : Int))) = true, (0 : Int) ≤ x3 ∧ x3 < (List.length x0), (decide ((((List.getD x0 (Int.toNat x3) 0).toNat : Int) : Int) ≥ 97)) = true, (0 : Int) ≤ x3 ∧ x3 < (List.length x0), (0 : Int) ≤ x3 ∧ x3 < (List.length x0), (decide ((((List.getD x0 (Int.toNat x3) 0).toNat : Int) : Int) ≥ 48)) = true, (0 : Int) ≤ x3 ∧ x3 < (List.length x0), (!(decide ((((List.getD x0 (Int.toNat x3) 0).toNat : Int) : Int) ≤ 122))) = true, ((x3 : Int) == 0) = false, (!(decide ((((List.getD x0 (Int.toNat x3) 0).toNat : Int) : Int) ≤ 57))) = true]) := by kernel_rfl
theorem p84_2_2 (x0 : Str) (x3 : Int) : run tt (AbsCalls Try.prog) I84 3000 true (stkAt 2 I84.body) ⟨(xHB x0 x3), [true, true, true, true, false, false], [], []⟩ = some (.stop (stkAt 2 I84.body) (xHB x0 (IntKind.i64.wrap (x3 + 1))) [(decide ((x3 : Int) < (List.length x0 : Int))) = true, (0 : Int) ≤ x3 ∧ x3 < (List.length x0), (decide ((((List.getD x0 (Int.toNat x3) 0).toNat : Int) : Int) ≥ 97)) = true, (0 : Int) ≤ x3 ∧ x3 < (List.length x0), (0 : Int) ≤ x3 ∧ x3 < (List.length x0), (decide ((((List.getD x0 (Int.toNat x3) 0).toNat : Int) : Int) ≥ 48)) = true, (0 : Int) ≤ x3 ∧ x3 < (List.length x0), (!(decide ((((List.getD x0 (Int.toNat x3) 0).toNat : Int) : Int) ≤ 122))) = true, ((x3 : Int) == 0) = false, (!(decide ((((List.getD x0 (Int.toNat x3) 0).toNat : Int) : Int) ≤ 57))) = false]) := by kernel_rfl
theorem p84_2_3 (x0 : Str) (x3 : Int) : run tt (AbsCalls Try.prog) I84 3000 true (stkAt 2 I84.body) ⟨(xHB x0 x3), [true, true, true, false, false], [], []⟩ = some (.stop (stkAt 2 I84.body) (xHB x0 (IntKind.i64.wrap (x3 + 1))) [(decide ((x3 : Int) < (List.length x0 : Int))) = true, (0 : Int) ≤ x3 ∧ x3 < (List.length x0), (decide ((((List.getD x0 (Int.toNat x3) 0).toNat : Int) : Int) ≥ 97)) = true, (0 : Int) ≤ x3 ∧ x3 < (List.length x0), (0 : Int) ≤ x3 ∧ x3 < (List.length x0), (decide ((((List.getD x0 (Int.toNat x3) 0).toNat : Int) : Int) ≥ 48)) = true, (0 : Int) ≤ x3 ∧ x3 < (List.length x0), (!(decide ((((List.getD x0 (Int.toNat x3) 0).toNat : Int) : Int) ≤ 122))) = false, false = false]) := by kernel_rfl
theorem p84_2_4 (x0 : Str) (x3 : Int) : run tt (AbsCalls Try.prog) I84 3000 true (stkAt 2 I84.body) ⟨(xHB x0 x3), [true, true, false, true, true, true], [], []⟩ = some (.done (xBg false) [(decide ((x3 : Int) < (List.length x0 : Int))) = true, (0 : Int) ≤ x3 ∧ x3 < (List.length x0), (decide ((((List.getD x0 (Int.toNat x3) 0).toNat : Int) : Int) ≥ 97)) = true, (0 : Int) ≤ x3 ∧ x3 < (List.length x0), (0 : Int) ≤ x3 ∧ x3 < (List.length x0), (decide ((((List.getD x0 (Int.toNat x3) 0).toNat : Int) : Int) ≥ 48)) = false, (!(decide ((((List.getD x0 (Int.toNat x3) 0).toNat : Int) : Int) ≤ 122))) = true, ((x3 : Int) == 0) = true, true = true]) := by kernel_rfl
theorem p84_2_5 (x0 : Str) (x3 : Int) : run tt (AbsCalls Try.prog) I84 3000 true (stkAt 2 I84.body) ⟨(xHB x0 x3), [true, true, false, true, false, true], [], []⟩ = some (.done (xBg false) [(decide ((x3 : Int) < (List.length x0 : Int))) = true, (0 : Int) ≤ x3 ∧ x3 < (List.length x0), (decide ((((List.getD x0 (Int.toNat x3) 0).toNat : Int) : Int) ≥ 97)) = true, (0 : Int) ≤ x3 ∧ x3 < (List.length x0), (0 : Int) ≤ x3 ∧ x3 < (List.length x0), (decide ((((List.getD x0 (Int.toNat x3) 0).toNat : Int) : Int) ≥ 48)) = false, (!(decide ((((List.getD x0 (Int.toNat x3) 0).toNat : Int) : Int) ≤ 122))) = true, ((x3 : Int) == 0) = false, (!false) = true]) := by kernel_rfl
theorem p84_2_6 (x0 : Str) (x3 : Int) : run tt (AbsCalls Try.prog) I84 3000 true (stkAt 2 I84.body) ⟨(xHB x0 x3), [true, true, false, false, false], [], []⟩ = some (.stop (stkAt 2 I84.body) (xHB x0 (IntKind.i64.wrap (x3 + 1))) [(decide ((x3 : Int) < (List.length x0 : Int))) = true, (0 : Int) ≤ x3 ∧ x3 < (List.length x0), (decide ((((List.getD x0 (Int.toNat x3) 0).toNat : Int) : Int) ≥ 97)) = true, (0 : Int) ≤ x3 ∧ x3 < (List.length x0), (0 : Int) ≤ x3 ∧ x3 < (List.length x0), (decide ((((List.getD x0 (Int.toNat x3) 0).toNat : Int) : Int) ≥ 48)) = false, (!(decide ((((List.getD x0 (Int.toNat x3) 0).toNat : Int) : Int) ≤ 122))) = false, false = false]) := by kernel_rfl
theorem p84_2_7 (x0 : Str) (x3 : Int) : run tt (AbsCalls Try.prog) I84 3000 true (stkAt 2 I84.body) ⟨(xHB x0 x3), [true, false, true, true, true, true], [], []⟩ = some (.done (xBg false) [(decide ((x3 : Int) < (List.length x0 : Int))) = true, (0 : Int) ≤ x3 ∧ x3 < (List.length x0), (decide ((((List.getD x0 (Int.toNat x3) 0).toNat : Int) : Int) ≥ 97)) = false, (0 : Int) ≤ x3 ∧ x3 < (List.length x0), (decide ((((List.getD x0 (Int.toNat x3) 0).toNat : Int) : Int) ≥ 48)) = true, (0 : Int) ≤ x3 ∧ x3 < (List.length x0), (!false) = true, ((x3 : Int) == 0) = true, true = true]) := by kernel_rfl
theorem p84_2_8 (x0 : Str) (x3 : Int) : run tt (AbsCalls Try.prog) I84 3000 true (stkAt 2 I84.body) ⟨(xHB x0 x3), [true, false, true, true, false, true], [], []⟩ = some (.done (xBg false) [(decide ((x3 : Int) < (List.length x0 : Int))) = true, (0 : Int) ≤ x3 ∧ x3 < (List.length x0), (decide ((((List.getD x0 (Int.toNat x3) 0).toNat : Int) : Int) ≥ 97)) = false, (0 : Int) ≤ x3 ∧ x3 < (List.length x0), (decide ((((List.getD x0 (Int.toNat x3) 0).toNat : Int) : Int) ≥ 48)) = true, (0 : Int) ≤ x3 ∧ x3 < (List.length x0), (!false) = true, ((x3 : Int) == 0) = false, (!(decide ((((List.getD x0 (Int.toNat x3) 0).toNat : Int) : Int) ≤ 57))) = true]) := by kernel_rfl
theorem p84_2_9 (x0 : Str) (x3 : Int) : run tt (AbsCalls Try.prog) I84 3000 true (stkAt 2 I84.body) ⟨(xHB x0 x3), [true, false, true, true, false, false], [], []⟩ = some (.stop (stkAt 2 I84.body) (xHB x0 (IntKind.i64.wrap (x3 + 1))) [(decide ((x3 : Int) < (List.length x0 : Int))) = true, (0 : Int) ≤ x3 ∧ x3 < (List.length x0), (decide ((((List.getD x0 (Int.toNat x3) 0).toNat : Int) : Int) ≥ 97)) = false, (0 : Int) ≤ x3 ∧ x3 < (List.length x0), (decide ((((List.getD x0 (Int.toNat x3) 0).toNat : Int) : Int) ≥ 48)) = true, (0 : Int) ≤ x3 ∧ x3 < (List.length x0), (!false) = true, ((x3 : Int) == 0) = false, (!(decide ((((List.getD x0 (Int.toNat x3) 0).toNat : Int) : Int) ≤ 57))) = false]) := by kernel_rfl
theorem p84_2_10 (x0 : Str) (x3 : Int) : run tt (AbsCalls Try.prog) I84 3000 true (stkAt 2 I84.body) ⟨(xHB x0 x3), [true, false, false, true, true, true], [], []⟩ = some (.done (xBg false) [(decide ((x3 : Int) < (List.length x0 : Int))) = true, (0 : Int) ≤ x3 ∧ x3 < (List.length x0), (decide ((((List.getD x0 (Int.toNat x3) 0).toNat : Int) : Int) ≥ 97)) = false, (0 : Int) ≤ x3 ∧ x3 < (List.length x0), (decide ((((List.getD x0 (Int.toNat x3) 0).toNat : Int) : Int) ≥ 48)) = false, (!false) = true, ((x3 : Int) == 0) = true, true = true]) := by kernel_rfl
theorem p84_2_11 (x0 : Str) (x3 : Int) : run tt (AbsCalls Try.prog) I84 3000 true (stkAt 2 I84.body) ⟨(xHB x0 x3), [true, false, false, true, false, true], [], []⟩ = some (.done (xBg false) [(decide ((x3 : Int) < (List.length x0 : Int))) = true, (0 : Int) ≤ x3 ∧ x3 < (List.length x0), (decide ((((List.getD x0 (Int.toNat x3) 0).toNat : Int) : Int) ≥ 97)) = false, (0 : Int) ≤ x3 ∧ x3 < (List.length x0), (decide ((((List.getD x0 (Int.toNat x3) 0).toNat : Int) : Int) ≥ 48)) = false, (!false) = true, ((x3 : Int) == 0) = false, (!false) = true]) := by kernel_rfl
theorem p84_2_12 (x0 : Str) (x3 : Int) : run tt (AbsCalls Try.prog) I84 3000 true (stkAt 2 I84.body) ⟨(xHB x0 x3), [false], [], []⟩ = some (.done (xBg (decide (((List.length x0 : Int) : Int) > 0))) [(decide ((x3 : Int) < (List.length x0 : Int))) = false]) := by kernel_rfl
theorem p84_e_13 (a0 : Str) : run tt (AbsCalls Try.prog) I84 3000 false [.code I84.body] ⟨(zBi 0 (xEM a0)), [], [], []⟩ = some (.stop (stkAt 2 I84.body) (xHB a0 0) []) := by kernel_rfl
theorem c84_2 {N : Nat} : ∀ n x0 x3 r, xCf N n x0 x3 = some r → Reach Try.prog Try.f84 I84 (stkAt 2 I84.body) (xHB x0 x3) (xBg r) := by
 intro n
 induction n with
 | zero => intro x0 x3 r h; have h' : (none : Option (Bool)) = some r := h; cases h'
 | succ n ih =>
  intro x0 x3 r h
  rw [xCf] at h
  rcases cond_inv h with ⟨h0, h⟩ | ⟨h0, h⟩
  ·obtain ⟨h1, h⟩ := ite_inv h
   rcases cond_inv h with ⟨h2, h⟩ | ⟨h2, h⟩
   ·rcases cond_inv h with ⟨h5, h⟩ | ⟨h5, h⟩
    ·rcases cond_inv h with ⟨h7, h⟩ | ⟨h7, h⟩
     ·rcases cond_inv h with ⟨h8, h⟩ | ⟨h8, h⟩
      ·obtain rfl := Option.some.inj h
       exact Reach.done ttok mix fk84 (p84_2_0 x0 x3) (obs_cons h0 (obs_cons h1 (obs_cons h2 (obs_cons h1 (obs_cons h1 (obs_cons h5 (obs_cons h1 (obs_cons h7 (obs_cons h8 (obs_cons rfl obs_nil))))))))))
      ·rcases cond_inv h with ⟨h9, h⟩ | ⟨h9, h⟩
       ·obtain rfl := Option.some.inj h
        exact Reach.done ttok mix fk84 (p84_2_1 x0 x3) (obs_cons h0 (obs_cons h1 (obs_cons h2 (obs_cons h1 (obs_cons h1 (obs_cons h5 (obs_cons h1 (obs_cons h7 (obs_cons h8 (obs_cons h9 obs_nil))))))))))
       ·exact Reach.stop ttok mix fk84 (p84_2_2 x0 x3) (obs_cons h0 (obs_cons h1 (obs_cons h2 (obs_cons h1 (obs_cons h1 (obs_cons h5 (obs_cons h1 (obs_cons h7 (obs_cons h8 (obs_cons h9 obs_nil)))))))))) (ih _ _ _ h)
     ·exact Reach.stop ttok mix fk84 (p84_2_3 x0 x3) (obs_cons h0 (obs_cons h1 (obs_cons h2 (obs_cons h1 (obs_cons h1 (obs_cons h5 (obs_cons h1 (obs_cons h7 (obs_cons rfl obs_nil))))))))) (ih _ _ _ h)
    ·rcases cond_inv h with ⟨h6, h⟩ | ⟨h6, h⟩
     ·rcases cond_inv h with ⟨h7, h⟩ | ⟨h7, h⟩
      ·obtain rfl := Option.some.inj h
       exact Reach.done ttok mix fk84 (p84_2_4 x0 x3) (obs_cons h0 (obs_cons h1 (obs_cons h2 (obs_cons h1 (obs_cons h1 (obs_cons h5 (obs_cons h6 (obs_cons h7 (obs_cons rfl obs_nil)))))))))
      ·obtain rfl := Option.some.inj h
       exact Reach.done ttok mix fk84 (p84_2_5 x0 x3) (obs_cons h0 (obs_cons h1 (obs_cons h2 (obs_cons h1 (obs_cons h1 (obs_cons h5 (obs_cons h6 (obs_cons h7 (obs_cons rfl obs_nil)))))))))
     ·exact Reach.stop ttok mix fk84 (p84_2_6 x0 x3) (obs_cons h0 (obs_cons h1 (obs_cons h2 (obs_cons h1 (obs_cons h1 (obs_cons h5 (obs_cons h6 (obs_cons rfl obs_nil)))))))) (ih _ _ _ h)
   ·rcases cond_inv h with ⟨h4, h⟩ | ⟨h4, h⟩
    ·rcases cond_inv h with ⟨h7, h⟩ | ⟨h7, h⟩
     ·obtain rfl := Option.some.inj h
      exact Reach.done ttok mix fk84 (p84_2_7 x0 x3) (obs_cons h0 (obs_cons h1 (obs_cons h2 (obs_cons h1 (obs_cons h4 (obs_cons h1 (obs_cons rfl (obs_cons h7 (obs_cons rfl obs_nil)))))))))
     ·rcases cond_inv h with ⟨h8, h⟩ | ⟨h8, h⟩
      ·obtain rfl := Option.some.inj h
       exact Reach.done ttok mix fk84 (p84_2_8 x0 x3) (obs_cons h0 (obs_cons h1 (obs_cons h2 (obs_cons h1 (obs_cons h4 (obs_cons h1 (obs_cons rfl (obs_cons h7 (obs_cons h8 obs_nil)))))))))
      ·exact Reach.stop ttok mix fk84 (p84_2_9 x0 x3) (obs_cons h0 (obs_cons h1 (obs_cons h2 (obs_cons h1 (obs_cons h4 (obs_cons h1 (obs_cons rfl (obs_cons h7 (obs_cons h8 obs_nil))))))))) (ih _ _ _ h)
    ·rcases cond_inv h with ⟨h6, h⟩ | ⟨h6, h⟩
     ·obtain rfl := Option.some.inj h
      exact Reach.done ttok mix fk84 (p84_2_10 x0 x3) (obs_cons h0 (obs_cons h1 (obs_cons h2 (obs_cons h1 (obs_cons h4 (obs_cons rfl (obs_cons h6 (obs_cons rfl obs_nil))))))))
     ·obtain rfl := Option.some.inj h
      exact Reach.done ttok mix fk84 (p84_2_11 x0 x3) (obs_cons h0 (obs_cons h1 (obs_cons h2 (obs_cons h1 (obs_cons h4 (obs_cons rfl (obs_cons h6 (obs_cons rfl obs_nil))))))))
  ·obtain rfl := Option.some.inj h
   exact Reach.done ttok mix fk84 (p84_2_12 x0 x3) (obs_cons h0 obs_nil)
theorem c84_e {N : Nat} : ∀ a0 r, xGO N a0 = some r → Reach Try.prog Try.f84 I84 [.code I84.body] (zBi 0 (xEM a0)) (xBg r) := by
 intro a0 r h
 unfold xGO at h
 exact Reach.stop ttok mix fk84 (p84_e_13 a0) obs_nil (c84_2   _ _ _ _ h)
theorem xHf {N : Nat} {a0 : Str} {r : Bool} (h : xGO N  a0 = some r) : AbC 84 (xEM a0) (xBg r) :=
 AbsCalls.of_reach fk84 rfl rfl (Nat.le_of_ble_eq_true rfl) (c84_e a0 r h)
noncomputable def I101 : Info := { body := (Try.f101.body).getD .skip, nt := 2, results := [.tmp 0], keep := [0], live := [], modes := [], ext := [], lnt := [], casts := [], fcast := [] }
theorem fk101 : FnOk Try.prog 101 Try.f101 I101 := ⟨Try.func101, by kernel_rfl, by kernel_rfl, by kernel_rfl, by kernel_rfl⟩
theorem p101_e_0 : run tt (AbsCalls Try.prog) I101 3000 false [.code I101.body] ⟨(zBi 0 (xFx )), [], [], []⟩ = some (.done (xEt [[108, 101, 116], [105, 110], [105, 102], [116, 104, 101, 110], [101, 108, 115, 101], [102, 111, 114], [100, 111], [108, 101, 110], [115, 117, 109], [116, 97, 107, 101], [115, 107, 105, 112], [114, 97, 110, 103, 101], [110, 116, 104], [119, 104, 101, 114, 101], [107, 101, 101, 112], [97, 100, 100], [103, 114, 111, 117, 112], [106, 111, 105, 110], [99, 111, 108, 117, 109, 110], [114, 111, 119, 115], [99, 108, 111, 99, 107], [99, 104, 97, 110, 99, 101], [102, 105, 108, 101], [116, 97, 98, 108, 101]]) []) := by kernel_rfl
theorem c101_e {N : Nat} : ∀ r, xFF N = some r → Reach Try.prog Try.f101 I101 [.code I101.body] (zBi 0 (xFx )) (xEt r) := by
 intro r h
 unfold xFF at h
 obtain rfl := Option.some.inj h
 exact Reach.done ttok mix fk101 (p101_e_0) obs_nil
theorem spec_l2Reserved_ok {N : Nat} {r : (List Str)} (h : xFF N   = some r) : AbC 101 (xFx ) (xEt r) :=
 AbsCalls.of_reach fk101 rfl rfl (Nat.le_of_ble_eq_true rfl) (c101_e  r h)
noncomputable def I100 : Info := { body := (Try.f100.body).getD .skip, nt := 18, results := [.tmp 4], keep := [0, 2, 8, 10, 18, 34], live := [(2, [0, 2, 10])], modes := [], ext := [], lnt := [], casts := [], fcast := [] }
theorem fk100 : FnOk Try.prog 100 Try.f100 I100 := ⟨Try.func100, by kernel_rfl, by kernel_rfl, by kernel_rfl, by kernel_rfl⟩
def S100_2 (x0 : List Str) (x1 : Str) (x5 : Int) : St := [(0, .v false [.sl .ro .str x0]), (2, .v false [.str x1]), (10, .v false [.int .i64 x5])]
theorem p100_2_0 (x0 : List Str) (x1 : Str) (x5 : Int) : run tt (AbsCalls Try.prog) I100 3000 true (stkAt 2 I100.body) ⟨(S100_2 x0 x1 x5), [true, true], [], []⟩ = some (.done (xCW true) [(decide ((x5 : Int) < (List.length x0 : Int))) = true, (0 : Int) ≤ x5 ∧ x5 < (List.length x0), (((List.getD x0 (Int.toNat x5) Ty.str.dflt) : Str) == x1) = true]) := by kernel_rfl
theorem p100_2_1 (x0 : List Str) (x1 : Str) (x5 : Int) : run tt (AbsCalls Try.prog) I100 3000 true (stkAt 2 I100.body) ⟨(S100_2 x0 x1 x5), [true, false], [], []⟩ = some (.stop (stkAt 2 I100.body) (S100_2 x0 x1 (IntKind.i64.wrap (x5 + 1))) [(decide ((x5 : Int) < (List.length x0 : Int))) = true, (0 : Int) ≤ x5 ∧ x5 < (List.length x0), (((List.getD x0 (Int.toNat x5) Ty.str.dflt) : Str) == x1) = false]) := by kernel_rfl
theorem p100_2_2 (x0 : List Str) (x1 : Str) (x5 : Int) : run tt (AbsCalls Try.prog) I100 3000 true (stkAt 2 I100.body) ⟨(S100_2 x0 x1 x5), [false], [], []⟩ = some (.done (xCW false) [(decide ((x5 : Int) < (List.length x0 : Int))) = false]) := by kernel_rfl
theorem p100_e_3 (a0 : List Str) (a1 : Str) : run tt (AbsCalls Try.prog) I100 3000 false [.code I100.body] ⟨(zBi 0 (xFP a0 a1)), [], [], []⟩ = some (.stop (stkAt 2 I100.body) (S100_2 a0 a1 0) []) := by kernel_rfl
theorem c100_2 {N : Nat} : ∀ n x0 x1 x5 r, xEs N n x0 x1 x5 = some r → Reach Try.prog Try.f100 I100 (stkAt 2 I100.body) (S100_2 x0 x1 x5) (xCW r) := by
 intro n
 induction n with
 | zero => intro x0 x1 x5 r h; have h' : (none : Option (Bool)) = some r := h; cases h'
 | succ n ih =>
  intro x0 x1 x5 r h
  rw [xEs] at h
  rcases cond_inv h with ⟨h0, h⟩ | ⟨h0, h⟩
  ·obtain ⟨h1, h⟩ := ite_inv h
   rcases cond_inv h with ⟨h2, h⟩ | ⟨h2, h⟩
   ·obtain rfl := Option.some.inj h
    exact Reach.done ttok mix fk100 (p100_2_0 x0 x1 x5) (obs_cons h0 (obs_cons h1 (obs_cons h2 obs_nil)))
   ·exact Reach.stop ttok mix fk100 (p100_2_1 x0 x1 x5) (obs_cons h0 (obs_cons h1 (obs_cons h2 obs_nil))) (ih _ _ _ _ h)
  ·obtain rfl := Option.some.inj h
   exact Reach.done ttok mix fk100 (p100_2_2 x0 x1 x5) (obs_cons h0 obs_nil)
theorem c100_e {N : Nat} : ∀ a0 a1 r, xGZ N a0 a1 = some r → Reach Try.prog Try.f100 I100 [.code I100.body] (zBi 0 (xFP a0 a1)) (xCW r) := by
 intro a0 a1 r h
 unfold xGZ at h
 exact Reach.stop ttok mix fk100 (p100_e_3 a0 a1) obs_nil (c100_2   _ _ _ _ _ h)
theorem xHI {N : Nat} {a0 : List Str} {a1 : Str} {r : Bool} (h : xGZ N  a0 a1 = some r) : AbC 100 (xFP a0 a1) (xCW r) :=
 AbsCalls.of_reach fk100 rfl rfl (Nat.le_of_ble_eq_true rfl) (c100_e a0 a1 r h)
noncomputable def I85 : Info := { body := (Try.f85.body).getD .skip, nt := 6, results := [.tmp 2], keep := [0, 4], live := [], modes := [], ext := [], lnt := [], casts := [], fcast := [] }
theorem fk85 : FnOk Try.prog 85 Try.f85 I85 := ⟨Try.func85, by kernel_rfl, by kernel_rfl, by kernel_rfl, by kernel_rfl⟩
theorem p85_e_0 (a0 : Str) (r1 : (List Str)) (r2 : Bool) : run tt (AbsCalls Try.prog) I85 3000 false [.code I85.body] ⟨(zBi 0 (xFw a0)), [], [xEt r1, xCW r2], []⟩ = some (.done (xEr r2) [AbC 101 xFx (xEt r1), AbC 100 (xFP r1 a0) (xCW r2)]) := by kernel_rfl
theorem c85_e {N : Nat} : ∀ a0 r, xEL N a0 = some r → Reach Try.prog Try.f85 I85 [.code I85.body] (zBi 0 (xFw a0)) (xEr r) := by
 intro a0 r h
 unfold xEL at h
 obtain ⟨r1, h0, h⟩ := bind_inv h
 obtain ⟨r2, h1, h⟩ := bind_inv h
 obtain rfl := Option.some.inj h
 exact Reach.done ttok mix fk85 (p85_e_0 a0 r1 r2) (obs_cons (spec_l2Reserved_ok h0) (obs_cons (xHI h1) obs_nil))
theorem spec_IsReserved_ok {N : Nat} {a0 : Str} {r : Bool} (h : xEL N  a0 = some r) : AbC 85 (xFw a0) (xEr r) :=
 AbsCalls.of_reach fk85 rfl rfl (Nat.le_of_ble_eq_true rfl) (c85_e a0 r h)
noncomputable def I48 : Info := { body := (Try.f48.body).getD .skip, nt := 15, results := [.tmp 2], keep := [0, 4], live := [], modes := [(1, [(2, .take, false), (7, .take, false)])], ext := [], lnt := [], casts := [], fcast := [] }
theorem fk48 : FnOk Try.prog 48 Try.f48 I48 := ⟨Try.func48, by kernel_rfl, by kernel_rfl, by kernel_rfl, by kernel_rfl⟩
theorem p48_e_0 (a0 : Str) (r1 r2 : Bool) : run tt (AbsCalls Try.prog) I48 3000 false [.code I48.body] ⟨(zBi 0 (xCA a0)), [true, true], [xBg r1, xEr r2], []⟩ = some (.done (xB0 (!r2)) [AbC 84 (xEM a0) (xBg r1), r1 = true, (decide (((List.length a0 : Int) : Int) ≤ 8)) = true, AbC 85 (xFw a0) (xEr r2)]) := by kernel_rfl
theorem p48_e_1 (a0 : Str) (r1 : Bool) : run tt (AbsCalls Try.prog) I48 3000 false [.code I48.body] ⟨(zBi 0 (xCA a0)), [true, false], [xBg r1], []⟩ = some (.done (xB0 false) [AbC 84 (xEM a0) (xBg r1), r1 = true, (decide (((List.length a0 : Int) : Int) ≤ 8)) = false]) := by kernel_rfl
theorem p48_e_2 (a0 : Str) (r1 : Bool) : run tt (AbsCalls Try.prog) I48 3000 false [.code I48.body] ⟨(zBi 0 (xCA a0)), [false, false], [xBg r1], []⟩ = some (.done (xB0 false) [AbC 84 (xEM a0) (xBg r1), r1 = false, false = false]) := by kernel_rfl
theorem c48_e {N : Nat} : ∀ a0 r, xEh N a0 = some r → Reach Try.prog Try.f48 I48 [.code I48.body] (zBi 0 (xCA a0)) (xB0 r) := by
 intro a0 r h
 unfold xEh at h
 obtain ⟨r1, h0, h⟩ := bind_inv h
 rcases cond_inv h with ⟨h1, h⟩ | ⟨h1, h⟩
 ·rcases cond_inv h with ⟨h2, h⟩ | ⟨h2, h⟩
  ·obtain ⟨r2, h3, h⟩ := bind_inv h
   obtain rfl := Option.some.inj h
   exact Reach.done ttok mix fk48 (p48_e_0 a0 r1 r2) (obs_cons (xHf h0) (obs_cons h1 (obs_cons h2 (obs_cons (spec_IsReserved_ok h3) obs_nil))))
  ·obtain rfl := Option.some.inj h
   exact Reach.done ttok mix fk48 (p48_e_1 a0 r1) (obs_cons (xHf h0) (obs_cons h1 (obs_cons h2 obs_nil)))
 ·obtain rfl := Option.some.inj h
  exact Reach.done ttok mix fk48 (p48_e_2 a0 r1) (obs_cons (xHf h0) (obs_cons h1 (obs_cons rfl obs_nil)))
theorem xHd {N : Nat} {a0 : Str} {r : Bool} (h : xEh N  a0 = some r) : AbC 48 (xCA a0) (xB0 r) :=
 AbsCalls.of_reach fk48 rfl rfl (Nat.le_of_ble_eq_true rfl) (c48_e a0 r h)
noncomputable def I124 : Info := { body := (Try.f124.body).getD .skip, nt := 18, results := [.tmp 2], keep := [0, 4, 6, 14, 34], live := [(2, [0, 6])], modes := [], ext := [], lnt := [], casts := [], fcast := [] }
theorem fk124 : FnOk Try.prog 124 Try.f124 I124 := ⟨Try.func124, by kernel_rfl, by kernel_rfl, by kernel_rfl, by kernel_rfl⟩
def S124_2 (x0 : List Str) (x3 : Int) : St := [(0, .v false [.sl .ro .str x0]), (6, .v false [.int .i64 x3])]
theorem p124_2_0 (x0 : List Str) (x3 : Int) (r1 : Bool) : run tt (AbsCalls Try.prog) I124 3000 true (stkAt 2 I124.body) ⟨(S124_2 x0 x3), [true, true], [xCW r1], []⟩ = some (.done (xCz false) [(decide ((x3 : Int) < (List.length x0 : Int))) = true, (0 : Int) ≤ x3 ∧ x3 ≤ (List.length x0), (0 : Int) ≤ x3 ∧ x3 < (List.length x0), AbC 100 (xFP (List.take (Int.toNat x3) x0) (List.getD x0 (Int.toNat x3) Ty.str.dflt)) (xCW r1), r1 = true]) := by kernel_rfl
theorem p124_2_1 (x0 : List Str) (x3 : Int) (r1 : Bool) : run tt (AbsCalls Try.prog) I124 3000 true (stkAt 2 I124.body) ⟨(S124_2 x0 x3), [true, false], [xCW r1], []⟩ = some (.stop (stkAt 2 I124.body) (S124_2 x0 (IntKind.i64.wrap (x3 + 1))) [(decide ((x3 : Int) < (List.length x0 : Int))) = true, (0 : Int) ≤ x3 ∧ x3 ≤ (List.length x0), (0 : Int) ≤ x3 ∧ x3 < (List.length x0), AbC 100 (xFP (List.take (Int.toNat x3) x0) (List.getD x0 (Int.toNat x3) Ty.str.dflt)) (xCW r1), r1 = false]) := by kernel_rfl
theorem p124_2_2 (x0 : List Str) (x3 : Int) : run tt (AbsCalls Try.prog) I124 3000 true (stkAt 2 I124.body) ⟨(S124_2 x0 x3), [false], [], []⟩ = some (.done (xCz true) [(decide ((x3 : Int) < (List.length x0 : Int))) = false]) := by kernel_rfl
theorem p124_e_3 (a0 : List Str) : run tt (AbsCalls Try.prog) I124 3000 false [.code I124.body] ⟨(zBi 0 (xE0 a0)), [], [], []⟩ = some (.stop (stkAt 2 I124.body) (S124_2 a0 0) []) := by kernel_rfl
theorem c124_2 {N : Nat} : ∀ n x0 x3 r, xCe N n x0 x3 = some r → Reach Try.prog Try.f124 I124 (stkAt 2 I124.body) (S124_2 x0 x3) (xCz r) := by
 intro n
 induction n with
 | zero => intro x0 x3 r h; have h' : (none : Option (Bool)) = some r := h; cases h'
 | succ n ih =>
  intro x0 x3 r h
  rw [xCe] at h
  rcases cond_inv h with ⟨h0, h⟩ | ⟨h0, h⟩
  ·obtain ⟨h1, h⟩ := ite_inv h
   obtain ⟨h2, h⟩ := ite_inv h
   obtain ⟨r1, h3, h⟩ := bind_inv h
   rcases cond_inv h with ⟨h4, h⟩ | ⟨h4, h⟩
   ·obtain rfl := Option.some.inj h
    exact Reach.done ttok mix fk124 (p124_2_0 x0 x3 r1) (obs_cons h0 (obs_cons h1 (obs_cons h2 (obs_cons (xHI h3) (obs_cons h4 obs_nil)))))
   ·exact Reach.stop ttok mix fk124 (p124_2_1 x0 x3 r1) (obs_cons h0 (obs_cons h1 (obs_cons h2 (obs_cons (xHI h3) (obs_cons h4 obs_nil))))) (ih _ _ _ h)
  ·obtain rfl := Option.some.inj h
   exact Reach.done ttok mix fk124 (p124_2_2 x0 x3) (obs_cons h0 obs_nil)
theorem c124_e {N : Nat} : ∀ a0 r, xFd N a0 = some r → Reach Try.prog Try.f124 I124 [.code I124.body] (zBi 0 (xE0 a0)) (xCz r) := by
 intro a0 r h
 unfold xFd at h
 exact Reach.stop ttok mix fk124 (p124_e_3 a0) obs_nil (c124_2   _ _ _ _ h)
theorem xIz {N : Nat} {a0 : List Str} {r : Bool} (h : xFd N  a0 = some r) : AbC 124 (xE0 a0) (xCz r) :=
 AbsCalls.of_reach fk124 rfl rfl (Nat.le_of_ble_eq_true rfl) (c124_e a0 r h)
noncomputable def I119 : Info := { body := (Try.f119.body).getD .skip, nt := 23, results := [.tmp 2], keep := [0, 4, 6, 14, 30], live := [(2, [0, 6])], modes := [(6, [(3, .take, false)])], ext := [], lnt := [], casts := [], fcast := [] }
theorem fk119 : FnOk Try.prog 119 Try.f119 I119 := ⟨Try.func119, by kernel_rfl, by kernel_rfl, by kernel_rfl, by kernel_rfl⟩
def S119_2 (x0 : List Str) (x3 : Int) : St := [(0, .v false [.sl .ro .str x0]), (6, .v false [.int .i64 x3])]
theorem p119_2_0 (x0 : List Str) (x3 : Int) (r1 : Bool) : run tt (AbsCalls Try.prog) I119 3000 true (stkAt 2 I119.body) ⟨(S119_2 x0 x3), [true, true], [xB0 r1], []⟩ = some (.done (xBF false) [(decide ((x3 : Int) < (List.length x0 : Int))) = true, (0 : Int) ≤ x3 ∧ x3 < (List.length x0), AbC 48 (xCA (List.getD x0 (Int.toNat x3) Ty.str.dflt)) (xB0 r1), (!r1) = true]) := by kernel_rfl
theorem p119_2_1 (x0 : List Str) (x3 : Int) (r1 : Bool) : run tt (AbsCalls Try.prog) I119 3000 true (stkAt 2 I119.body) ⟨(S119_2 x0 x3), [true, false], [xB0 r1], []⟩ = some (.stop (stkAt 2 I119.body) (S119_2 x0 (IntKind.i64.wrap (x3 + 1))) [(decide ((x3 : Int) < (List.length x0 : Int))) = true, (0 : Int) ≤ x3 ∧ x3 < (List.length x0), AbC 48 (xCA (List.getD x0 (Int.toNat x3) Ty.str.dflt)) (xB0 r1), (!r1) = false]) := by kernel_rfl
theorem p119_2_2 (x0 : List Str) (x3 : Int) (r1 r2 : Bool) : run tt (AbsCalls Try.prog) I119 3000 true (stkAt 2 I119.body) ⟨(S119_2 x0 x3), [false, true], [xC6 r1, xCz r2], []⟩ = some (.done (xBF r2) [(decide ((x3 : Int) < (List.length x0 : Int))) = false, AbC 54 (xEQ (List.length x0 : Int) 1 4) (xC6 r1), r1 = true, AbC 124 (xE0 x0) (xCz r2)]) := by kernel_rfl
theorem p119_2_3 (x0 : List Str) (x3 : Int) (r1 : Bool) : run tt (AbsCalls Try.prog) I119 3000 true (stkAt 2 I119.body) ⟨(S119_2 x0 x3), [false, false], [xC6 r1], []⟩ = some (.done (xBF false) [(decide ((x3 : Int) < (List.length x0 : Int))) = false, AbC 54 (xEQ (List.length x0 : Int) 1 4) (xC6 r1), r1 = false]) := by kernel_rfl
theorem p119_e_4 (a0 : List Str) : run tt (AbsCalls Try.prog) I119 3000 false [.code I119.body] ⟨(zBi 0 (xD1 a0)), [], [], []⟩ = some (.stop (stkAt 2 I119.body) (S119_2 a0 0) []) := by kernel_rfl
theorem c119_2 {N : Nat} : ∀ n x0 x3 r, xDm N n x0 x3 = some r → Reach Try.prog Try.f119 I119 (stkAt 2 I119.body) (S119_2 x0 x3) (xBF r) := by
 intro n
 induction n with
 | zero => intro x0 x3 r h; have h' : (none : Option (Bool)) = some r := h; cases h'
 | succ n ih =>
  intro x0 x3 r h
  rw [xDm] at h
  rcases cond_inv h with ⟨h0, h⟩ | ⟨h0, h⟩
  ·obtain ⟨h1, h⟩ := ite_inv h
   obtain ⟨r1, h2, h⟩ := bind_inv h
   rcases cond_inv h with ⟨h3, h⟩ | ⟨h3, h⟩
   ·obtain rfl := Option.some.inj h
    exact Reach.done ttok mix fk119 (p119_2_0 x0 x3 r1) (obs_cons h0 (obs_cons h1 (obs_cons (xHd h2) (obs_cons h3 obs_nil))))
   ·exact Reach.stop ttok mix fk119 (p119_2_1 x0 x3 r1) (obs_cons h0 (obs_cons h1 (obs_cons (xHd h2) (obs_cons h3 obs_nil)))) (ih _ _ _ h)
  ·obtain ⟨r1, h1, h⟩ := bind_inv h
   rcases cond_inv h with ⟨h2, h⟩ | ⟨h2, h⟩
   ·obtain ⟨r2, h3, h⟩ := bind_inv h
    obtain rfl := Option.some.inj h
    exact Reach.done ttok mix fk119 (p119_2_2 x0 x3 r1 r2) (obs_cons h0 (obs_cons (xHm h1) (obs_cons h2 (obs_cons (xIz h3) obs_nil))))
   ·obtain rfl := Option.some.inj h
    exact Reach.done ttok mix fk119 (p119_2_3 x0 x3 r1) (obs_cons h0 (obs_cons (xHm h1) (obs_cons h2 obs_nil)))
theorem c119_e {N : Nat} : ∀ a0 r, xF4 N a0 = some r → Reach Try.prog Try.f119 I119 [.code I119.body] (zBi 0 (xD1 a0)) (xBF r) := by
 intro a0 r h
 unfold xF4 at h
 exact Reach.stop ttok mix fk119 (p119_e_4 a0) obs_nil (c119_2   _ _ _ _ h)
theorem xGx {N : Nat} {a0 : List Str} {r : Bool} (h : xF4 N  a0 = some r) : AbC 119 (xD1 a0) (xBF r) :=
 AbsCalls.of_reach fk119 rfl rfl (Nat.le_of_ble_eq_true rfl) (c119_e a0 r h)
noncomputable def I125 : Info := { body := (Try.f125.body).getD .skip, nt := 24, results := [.tmp 4], keep := [0, 2, 4, 6, 8, 5, 7], live := [], modes := [(1, [(5, .take, false), (11, .take, false)])], ext := [], lnt := [], casts := [], fcast := [] }
theorem fk125 : FnOk Try.prog 125 Try.f125 I125 := ⟨Try.func125, by kernel_rfl, by kernel_rfl, by kernel_rfl, by kernel_rfl⟩
theorem p125_e_0 (a0 a1 : Org) : run tt (AbsCalls Try.prog) I125 3000 false [.code I125.body] ⟨(zBi 0 (xDO a0 a1)), [true], [], []⟩ = some (.done (xCt true) [(decide (((Org.cell a0) : Int) < (Org.cell a1))) = true]) := by kernel_rfl
theorem p125_e_1 (a0 a1 : Org) : run tt (AbsCalls Try.prog) I125 3000 false [.code I125.body] ⟨(zBi 0 (xDO a0 a1)), [false, true], [], []⟩ = some (.done (xCt (decide (((Org.row a0) : Int) < (Org.row a1)))) [(decide (((Org.cell a0) : Int) < (Org.cell a1))) = false, (((Org.cell a0) : Int) == (Org.cell a1)) = true]) := by kernel_rfl
theorem p125_e_2 (a0 a1 : Org) : run tt (AbsCalls Try.prog) I125 3000 false [.code I125.body] ⟨(zBi 0 (xDO a0 a1)), [false, false], [], []⟩ = some (.done (xCt false) [(decide (((Org.cell a0) : Int) < (Org.cell a1))) = false, (((Org.cell a0) : Int) == (Org.cell a1)) = false]) := by kernel_rfl
theorem c125_e {N : Nat} : ∀ a0 a1 r, xFS N a0 a1 = some r → Reach Try.prog Try.f125 I125 [.code I125.body] (zBi 0 (xDO a0 a1)) (xCt r) := by
 intro a0 a1 r h
 unfold xFS at h
 rcases cond_inv h with ⟨h0, h⟩ | ⟨h0, h⟩
 ·obtain rfl := Option.some.inj h
  exact Reach.done ttok mix fk125 (p125_e_0 a0 a1) (obs_cons h0 obs_nil)
 ·rcases cond_inv h with ⟨h1, h⟩ | ⟨h1, h⟩
  ·obtain rfl := Option.some.inj h
   exact Reach.done ttok mix fk125 (p125_e_1 a0 a1) (obs_cons h0 (obs_cons h1 obs_nil))
  ·obtain rfl := Option.some.inj h
   exact Reach.done ttok mix fk125 (p125_e_2 a0 a1) (obs_cons h0 (obs_cons h1 obs_nil))
theorem xHO {N : Nat} {a0 : Org} {a1 : Org} {r : Bool} (h : xFS N  a0 a1 = some r) : AbC 125 (xDO a0 a1) (xCt r) :=
 AbsCalls.of_reach fk125 rfl rfl (Nat.le_of_ble_eq_true rfl) (c125_e a0 a1 r h)
noncomputable def I120 : Info := { body := (Try.f120.body).getD .skip, nt := 41, results := [.tmp 2], keep := [0, 4, 6, 14, 80], live := [(2, [0, 6])], modes := [(4, [(6, .take, false), (14, .take, false), (17, .take, false)])], ext := [], lnt := [], casts := [], fcast := [] }
theorem fk120 : FnOk Try.prog 120 Try.f120 I120 := ⟨Try.func120, by kernel_rfl, by kernel_rfl, by kernel_rfl, by kernel_rfl⟩
def xIf (x0 : List Org) (x3 : Int) : St := [(0, .v false [.sl .ro .org x0]), (6, .v false [.int .i64 x3])]
theorem p120_2_0 (x0 : List Org) (x3 : Int) : run tt (AbsCalls Try.prog) I120 3000 true (stkAt 2 I120.body) ⟨(xIf x0 x3), [true, true, true, true], [], []⟩ = some (.done (xBB false) [(decide ((x3 : Int) < (List.length x0 : Int))) = true, (0 : Int) ≤ x3 ∧ x3 < (List.length x0), (decide (((Org.cell (List.getD x0 (Int.toNat x3) Ty.org.dflt)) : Int) < 0)) = true, true = true, true = true]) := by kernel_rfl
theorem p120_2_1 (x0 : List Org) (x3 : Int) : run tt (AbsCalls Try.prog) I120 3000 true (stkAt 2 I120.body) ⟨(xIf x0 x3), [true, false, true, true], [], []⟩ = some (.done (xBB false) [(decide ((x3 : Int) < (List.length x0 : Int))) = true, (0 : Int) ≤ x3 ∧ x3 < (List.length x0), (decide (((Org.cell (List.getD x0 (Int.toNat x3) Ty.org.dflt)) : Int) < 0)) = false, (0 : Int) ≤ x3 ∧ x3 < (List.length x0), (decide (((Org.row (List.getD x0 (Int.toNat x3) Ty.org.dflt)) : Int) < 0)) = true, true = true]) := by kernel_rfl
theorem p120_2_2 (x0 : List Org) (x3 : Int) (r1 : Bool) : run tt (AbsCalls Try.prog) I120 3000 true (stkAt 2 I120.body) ⟨(xIf x0 x3), [true, false, false, true, true], [xCt r1], []⟩ = some (.done (xBB false) [(decide ((x3 : Int) < (List.length x0 : Int))) = true, (0 : Int) ≤ x3 ∧ x3 < (List.length x0), (decide (((Org.cell (List.getD x0 (Int.toNat x3) Ty.org.dflt)) : Int) < 0)) = false, (0 : Int) ≤ x3 ∧ x3 < (List.length x0), (decide (((Org.row (List.getD x0 (Int.toNat x3) Ty.org.dflt)) : Int) < 0)) = false, (decide ((x3 : Int) > 0)) = true, (0 : Int) ≤ (IntKind.i64.wrap (x3 - 1)) ∧ (IntKind.i64.wrap (x3 - 1)) < (List.length x0), (0 : Int) ≤ x3 ∧ x3 < (List.length x0), AbC 125 (xDO (List.getD x0 (Int.toNat (IntKind.i64.wrap (x3 - 1))) Ty.org.dflt) (List.getD x0 (Int.toNat x3) Ty.org.dflt)) (xCt r1), (!r1) = true]) := by kernel_rfl
theorem p120_2_3 (x0 : List Org) (x3 : Int) (r1 : Bool) : run tt (AbsCalls Try.prog) I120 3000 true (stkAt 2 I120.body) ⟨(xIf x0 x3), [true, false, false, true, false], [xCt r1], []⟩ = some (.stop (stkAt 2 I120.body) (xIf x0 (IntKind.i64.wrap (x3 + 1))) [(decide ((x3 : Int) < (List.length x0 : Int))) = true, (0 : Int) ≤ x3 ∧ x3 < (List.length x0), (decide (((Org.cell (List.getD x0 (Int.toNat x3) Ty.org.dflt)) : Int) < 0)) = false, (0 : Int) ≤ x3 ∧ x3 < (List.length x0), (decide (((Org.row (List.getD x0 (Int.toNat x3) Ty.org.dflt)) : Int) < 0)) = false, (decide ((x3 : Int) > 0)) = true, (0 : Int) ≤ (IntKind.i64.wrap (x3 - 1)) ∧ (IntKind.i64.wrap (x3 - 1)) < (List.length x0), (0 : Int) ≤ x3 ∧ x3 < (List.length x0), AbC 125 (xDO (List.getD x0 (Int.toNat (IntKind.i64.wrap (x3 - 1))) Ty.org.dflt) (List.getD x0 (Int.toNat x3) Ty.org.dflt)) (xCt r1), (!r1) = false]) := by kernel_rfl
theorem p120_2_4 (x0 : List Org) (x3 : Int) : run tt (AbsCalls Try.prog) I120 3000 true (stkAt 2 I120.body) ⟨(xIf x0 x3), [true, false, false, false, false], [], []⟩ = some (.stop (stkAt 2 I120.body) (xIf x0 (IntKind.i64.wrap (x3 + 1))) [(decide ((x3 : Int) < (List.length x0 : Int))) = true, (0 : Int) ≤ x3 ∧ x3 < (List.length x0), (decide (((Org.cell (List.getD x0 (Int.toNat x3) Ty.org.dflt)) : Int) < 0)) = false, (0 : Int) ≤ x3 ∧ x3 < (List.length x0), (decide (((Org.row (List.getD x0 (Int.toNat x3) Ty.org.dflt)) : Int) < 0)) = false, (decide ((x3 : Int) > 0)) = false, false = false]) := by kernel_rfl
theorem p120_2_5 (x0 : List Org) (x3 : Int) : run tt (AbsCalls Try.prog) I120 3000 true (stkAt 2 I120.body) ⟨(xIf x0 x3), [false], [], []⟩ = some (.done (xBB true) [(decide ((x3 : Int) < (List.length x0 : Int))) = false]) := by kernel_rfl
theorem p120_e_6 (a0 : List Org) : run tt (AbsCalls Try.prog) I120 3000 false [.code I120.body] ⟨(zBi 0 (xEb a0)), [], [], []⟩ = some (.stop (stkAt 2 I120.body) (xIf a0 0) []) := by kernel_rfl
theorem c120_2 {N : Nat} : ∀ n x0 x3 r, xB3 N n x0 x3 = some r → Reach Try.prog Try.f120 I120 (stkAt 2 I120.body) (xIf x0 x3) (xBB r) := by
 intro n
 induction n with
 | zero => intro x0 x3 r h; have h' : (none : Option (Bool)) = some r := h; cases h'
 | succ n ih =>
  intro x0 x3 r h
  rw [xB3] at h
  rcases cond_inv h with ⟨h0, h⟩ | ⟨h0, h⟩
  ·obtain ⟨h1, h⟩ := ite_inv h
   rcases cond_inv h with ⟨h2, h⟩ | ⟨h2, h⟩
   ·obtain rfl := Option.some.inj h
    exact Reach.done ttok mix fk120 (p120_2_0 x0 x3) (obs_cons h0 (obs_cons h1 (obs_cons h2 (obs_cons rfl (obs_cons rfl obs_nil)))))
   ·rcases cond_inv h with ⟨h4, h⟩ | ⟨h4, h⟩
    ·obtain rfl := Option.some.inj h
     exact Reach.done ttok mix fk120 (p120_2_1 x0 x3) (obs_cons h0 (obs_cons h1 (obs_cons h2 (obs_cons h1 (obs_cons h4 (obs_cons rfl obs_nil))))))
    ·rcases cond_inv h with ⟨h5, h⟩ | ⟨h5, h⟩
     ·obtain ⟨h6, h⟩ := ite_inv h
      obtain ⟨r1, h8, h⟩ := bind_inv h
      rcases cond_inv h with ⟨h9, h⟩ | ⟨h9, h⟩
      ·obtain rfl := Option.some.inj h
       exact Reach.done ttok mix fk120 (p120_2_2 x0 x3 r1) (obs_cons h0 (obs_cons h1 (obs_cons h2 (obs_cons h1 (obs_cons h4 (obs_cons h5 (obs_cons h6 (obs_cons h1 (obs_cons (xHO h8) (obs_cons h9 obs_nil))))))))))
      ·exact Reach.stop ttok mix fk120 (p120_2_3 x0 x3 r1) (obs_cons h0 (obs_cons h1 (obs_cons h2 (obs_cons h1 (obs_cons h4 (obs_cons h5 (obs_cons h6 (obs_cons h1 (obs_cons (xHO h8) (obs_cons h9 obs_nil)))))))))) (ih _ _ _ h)
     ·exact Reach.stop ttok mix fk120 (p120_2_4 x0 x3) (obs_cons h0 (obs_cons h1 (obs_cons h2 (obs_cons h1 (obs_cons h4 (obs_cons h5 (obs_cons rfl obs_nil))))))) (ih _ _ _ h)
  ·obtain rfl := Option.some.inj h
   exact Reach.done ttok mix fk120 (p120_2_5 x0 x3) (obs_cons h0 obs_nil)
theorem c120_e {N : Nat} : ∀ a0 r, xFh N a0 = some r → Reach Try.prog Try.f120 I120 [.code I120.body] (zBi 0 (xEb a0)) (xBB r) := by
 intro a0 r h
 unfold xFh at h
 exact Reach.stop ttok mix fk120 (p120_e_6 a0) obs_nil (c120_2   _ _ _ _ h)
theorem xHg {N : Nat} {a0 : List Org} {r : Bool} (h : xFh N  a0 = some r) : AbC 120 (xEb a0) (xBB r) :=
 AbsCalls.of_reach fk120 rfl rfl (Nat.le_of_ble_eq_true rfl) (c120_e a0 r h)
noncomputable def I105 : Info := { body := (Try.f105.body).getD .skip, nt := 55, results := [.tmp 2], keep := [0, 2, 4, 6, 8, 10, 30, 40, 80, 90, 108, 3, 9], live := [(4, [2, 6, 3]), (10, [2, 6, 8, 10, 3, 9])], modes := [(1, [(4, .take, false)]), (7, [(7, .take, false)])], ext := [], lnt := [], casts := [], fcast := [] }
theorem fk105 : FnOk Try.prog 105 Try.f105 I105 := ⟨Try.func105, by kernel_rfl, by kernel_rfl, by kernel_rfl, by kernel_rfl⟩
def S105_4 (x3 : Int) (b1 : Val) : St := [(2, .v false [.ptr 1 0]), (6, .v false [.int .i64 x3]), (3, .v true [.int .i64 (Val.kind b1), .int .i64 (Val.n b1), .int .i64 (Val.step b1), .str (Val.text b1), .sl .ro .val (Val.list b1), .sl .ro .str (Val.columns b1), .sl .ro .row (Val.rows b1)])]
def S105_10 (x3 x5 : Int) (b1 : Val) (b4 : Rowd) : St := [(2, .v false [.ptr 1 0]), (6, .v false [.int .i64 x3]), (8, .v false [.ptr 4 0]), (10, .v false [.int .i64 x5]), (3, .v true [.int .i64 (Val.kind b1), .int .i64 (Val.n b1), .int .i64 (Val.step b1), .str (Val.text b1), .sl .ro .val (Val.list b1), .sl .ro .str (Val.columns b1), .sl .ro .row (Val.rows b1)]), (9, .v true [.sl .ro .int (Rowd.cells b4), .sl .ro .org (Rowd.frm b4)])]
theorem p105_10_0 (x3 x5 : Int) (b1 : Val) (b4 : Rowd) (r1 : Bool) : run tt (AbsCalls Try.prog) I105 3000 true (stkAt 10 I105.body) ⟨(S105_10 x3 x5 b1 b4), [true, true], [xA4 r1], []⟩ = some (.done (xBT false) [(decide ((x5 : Int) < (List.length (Rowd.cells b4) : Int))) = true, (0 : Int) ≤ x5 ∧ x5 < (List.length (Rowd.cells b4)), AbC 49 (xB7 (List.getD (Rowd.cells b4) (Int.toNat x5) Ty.int.dflt)) (xA4 r1), (!r1) = true]) := by kernel_rfl
theorem p105_10_1 (x3 x5 : Int) (b1 : Val) (b4 : Rowd) (r1 : Bool) : run tt (AbsCalls Try.prog) I105 3000 true (stkAt 10 I105.body) ⟨(S105_10 x3 x5 b1 b4), [true, false], [xA4 r1], []⟩ = some (.stop (stkAt 10 I105.body) (S105_10 x3 (IntKind.i64.wrap (x5 + 1)) b1 b4) [(decide ((x5 : Int) < (List.length (Rowd.cells b4) : Int))) = true, (0 : Int) ≤ x5 ∧ x5 < (List.length (Rowd.cells b4)), AbC 49 (xB7 (List.getD (Rowd.cells b4) (Int.toNat x5) Ty.int.dflt)) (xA4 r1), (!r1) = false]) := by kernel_rfl
theorem p105_10_2 (x3 x5 : Int) (b1 : Val) (b4 : Rowd) : run tt (AbsCalls Try.prog) I105 3000 true (stkAt 10 I105.body) ⟨(S105_10 x3 x5 b1 b4), [false], [], []⟩ = some (.stop (stkAt 4 I105.body) (S105_4 (IntKind.i64.wrap (x3 + 1)) b1) [(decide ((x5 : Int) < (List.length (Rowd.cells b4) : Int))) = false]) := by kernel_rfl
theorem p105_4_3 (x3 : Int) (b1 : Val) : run tt (AbsCalls Try.prog) I105 3000 true (stkAt 4 I105.body) ⟨(S105_4 x3 b1), [true, true, true], [], []⟩ = some (.done (xBT false) [(decide ((x3 : Int) < (List.length (Val.rows b1) : Int))) = true, (0 : Int) ≤ x3 ∧ x3 < (List.length (Val.rows b1)), (((List.length (Rowd.cells (List.getD (Val.rows b1) (Int.toNat x3) Ty.row.dflt)) : Int) : Int) != (List.length (Val.columns b1) : Int)) = true, true = true]) := by kernel_rfl
theorem p105_4_4 (x3 : Int) (b1 : Val) (r1 : Bool) : run tt (AbsCalls Try.prog) I105 3000 true (stkAt 4 I105.body) ⟨(S105_4 x3 b1), [true, false, true], [xBB r1], []⟩ = some (.done (xBT false) [(decide ((x3 : Int) < (List.length (Val.rows b1) : Int))) = true, (0 : Int) ≤ x3 ∧ x3 < (List.length (Val.rows b1)), (((List.length (Rowd.cells (List.getD (Val.rows b1) (Int.toNat x3) Ty.row.dflt)) : Int) : Int) != (List.length (Val.columns b1) : Int)) = false, AbC 120 (xEb (Rowd.frm (List.getD (Val.rows b1) (Int.toNat x3) Ty.row.dflt))) (xBB r1), (!r1) = true]) := by kernel_rfl
theorem p105_4_5 (x3 : Int) (b1 : Val) (r1 : Bool) : run tt (AbsCalls Try.prog) I105 3000 true (stkAt 4 I105.body) ⟨(S105_4 x3 b1), [true, false, false], [xBB r1], []⟩ = some (.stop (stkAt 10 I105.body) (S105_10 x3 0 b1 (List.getD (Val.rows b1) (Int.toNat x3) Ty.row.dflt)) [(decide ((x3 : Int) < (List.length (Val.rows b1) : Int))) = true, (0 : Int) ≤ x3 ∧ x3 < (List.length (Val.rows b1)), (((List.length (Rowd.cells (List.getD (Val.rows b1) (Int.toNat x3) Ty.row.dflt)) : Int) : Int) != (List.length (Val.columns b1) : Int)) = false, AbC 120 (xEb (Rowd.frm (List.getD (Val.rows b1) (Int.toNat x3) Ty.row.dflt))) (xBB r1), (!r1) = false]) := by kernel_rfl
theorem p105_4_6 (x3 : Int) (b1 : Val) : run tt (AbsCalls Try.prog) I105 3000 true (stkAt 4 I105.body) ⟨(S105_4 x3 b1), [false], [], []⟩ = some (.done (xBT true) [(decide ((x3 : Int) < (List.length (Val.rows b1) : Int))) = false]) := by kernel_rfl
theorem p105_e_7 (a0 : Val) (r1 : Bool) : run tt (AbsCalls Try.prog) I105 3000 false [.code I105.body] ⟨(zBi 0 (xEN a0)), [true, true], [xBF r1], []⟩ = some (.done (xBT false) [AbC 119 (xD1 (Val.columns a0)) (xBF r1), (!r1) = true, true = true]) := by kernel_rfl
theorem p105_e_8 (a0 : Val) (r1 : Bool) : run tt (AbsCalls Try.prog) I105 3000 false [.code I105.body] ⟨(zBi 0 (xEN a0)), [false, true], [xBF r1], []⟩ = some (.done (xBT false) [AbC 119 (xD1 (Val.columns a0)) (xBF r1), (!r1) = false, (decide (((List.length (Val.rows a0) : Int) : Int) > 12)) = true]) := by kernel_rfl
theorem p105_e_9 (a0 : Val) (r1 : Bool) : run tt (AbsCalls Try.prog) I105 3000 false [.code I105.body] ⟨(zBi 0 (xEN a0)), [false, false], [xBF r1], []⟩ = some (.stop (stkAt 4 I105.body) (S105_4 0 a0) [AbC 119 (xD1 (Val.columns a0)) (xBF r1), (!r1) = false, (decide (((List.length (Val.rows a0) : Int) : Int) > 12)) = false]) := by kernel_rfl
theorem c105_10 {N : Nat} {k4 : Int → Val → Option (Bool)} (hk4 : ∀ z0 z1 r, k4 z0 z1 = some r → Reach Try.prog Try.f105 I105 (stkAt 4 I105.body) (S105_4 z0 z1) (xBT r)) : ∀ n x3 x5 b1 b4 r, xC8 N k4 n x3 x5 b1 b4 = some r → Reach Try.prog Try.f105 I105 (stkAt 10 I105.body) (S105_10 x3 x5 b1 b4) (xBT r) := by
 intro n
 induction n with
 | zero => intro x3 x5 b1 b4 r h; have h' : (none : Option (Bool)) = some r := h; cases h'
 | succ n ih =>
  intro x3 x5 b1 b4 r h
  rw [xC8] at h
  rcases cond_inv h with ⟨h0, h⟩ | ⟨h0, h⟩
  ·obtain ⟨h1, h⟩ := ite_inv h
   obtain ⟨r1, h2, h⟩ := bind_inv h
   rcases cond_inv h with ⟨h3, h⟩ | ⟨h3, h⟩
   ·obtain rfl := Option.some.inj h
    exact Reach.done ttok mix fk105 (p105_10_0 x3 x5 b1 b4 r1) (obs_cons h0 (obs_cons h1 (obs_cons (xC7 h2) (obs_cons h3 obs_nil))))
   ·exact Reach.stop ttok mix fk105 (p105_10_1 x3 x5 b1 b4 r1) (obs_cons h0 (obs_cons h1 (obs_cons (xC7 h2) (obs_cons h3 obs_nil)))) (ih _ _ _ _ _ h)
  ·exact Reach.stop ttok mix fk105 (p105_10_2 x3 x5 b1 b4) (obs_cons h0 obs_nil) (hk4 _ _ _ h)
theorem c105_4 {N : Nat} : ∀ n x3 b1 r, xDw N n x3 b1 = some r → Reach Try.prog Try.f105 I105 (stkAt 4 I105.body) (S105_4 x3 b1) (xBT r) := by
 intro n
 induction n with
 | zero => intro x3 b1 r h; have h' : (none : Option (Bool)) = some r := h; cases h'
 | succ n ih =>
  intro x3 b1 r h
  rw [xDw] at h
  rcases cond_inv h with ⟨h0, h⟩ | ⟨h0, h⟩
  ·obtain ⟨h1, h⟩ := ite_inv h
   rcases cond_inv h with ⟨h2, h⟩ | ⟨h2, h⟩
   ·obtain rfl := Option.some.inj h
    exact Reach.done ttok mix fk105 (p105_4_3 x3 b1) (obs_cons h0 (obs_cons h1 (obs_cons h2 (obs_cons rfl obs_nil))))
   ·obtain ⟨r1, h3, h⟩ := bind_inv h
    rcases cond_inv h with ⟨h4, h⟩ | ⟨h4, h⟩
    ·obtain rfl := Option.some.inj h
     exact Reach.done ttok mix fk105 (p105_4_4 x3 b1 r1) (obs_cons h0 (obs_cons h1 (obs_cons h2 (obs_cons (xHg h3) (obs_cons h4 obs_nil)))))
    ·exact Reach.stop ttok mix fk105 (p105_4_5 x3 b1 r1) (obs_cons h0 (obs_cons h1 (obs_cons h2 (obs_cons (xHg h3) (obs_cons h4 obs_nil))))) (c105_10  ih _ _ _ _ _ _ h)
  ·obtain rfl := Option.some.inj h
   exact Reach.done ttok mix fk105 (p105_4_6 x3 b1) (obs_cons h0 obs_nil)
theorem c105_e {N : Nat} : ∀ a0 r, xGb N a0 = some r → Reach Try.prog Try.f105 I105 [.code I105.body] (zBi 0 (xEN a0)) (xBT r) := by
 intro a0 r h
 unfold xGb at h
 obtain ⟨r1, h0, h⟩ := bind_inv h
 rcases cond_inv h with ⟨h1, h⟩ | ⟨h1, h⟩
 ·obtain rfl := Option.some.inj h
  exact Reach.done ttok mix fk105 (p105_e_7 a0 r1) (obs_cons (xGx h0) (obs_cons h1 (obs_cons rfl obs_nil)))
 ·rcases cond_inv h with ⟨h2, h⟩ | ⟨h2, h⟩
  ·obtain rfl := Option.some.inj h
   exact Reach.done ttok mix fk105 (p105_e_8 a0 r1) (obs_cons (xGx h0) (obs_cons h1 (obs_cons h2 obs_nil)))
  ·exact Reach.stop ttok mix fk105 (p105_e_9 a0 r1) (obs_cons (xGx h0) (obs_cons h1 (obs_cons h2 obs_nil))) (c105_4   _ _ _ _ h)
theorem spec_l3Table_ok {N : Nat} {a0 : Val} {r : Bool} (h : xGb N  a0 = some r) : AbC 105 (xEN a0) (xBT r) :=
 AbsCalls.of_reach fk105 rfl rfl (Nat.le_of_ble_eq_true rfl) (c105_e a0 r h)
end Go.Ab.T
end
