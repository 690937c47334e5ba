/- The statement FnExactTakeOf holds: plain functions, certificates, laws. Conditions: none. -/
import Derived.Test.YtnfikhfcblcmpaaChecked
import Derived.Test.YtnfikhfcblcmpaaProg
import Derived.Test.YtnfikhfcblcmpaaRows
import Derived.Test.YtnfikhfcblcmpaaL2
set_option linter.all false
section
namespace Go.Ab
set_option linter.unusedVariables false
def xED (a0 : List Val) (a1 : Int) : List Arg := [.val (.v false [.sl .ro .val []]), .val (.v false [.int .i64 a1])]
def xC5 (r : Int) : CallO := ⟨.v false [.int .i64 r], [], []⟩
def xEE (N : Nat) : Nat → Int → Int → Option (Int)
  | 0, _, _ => none
  | n + 1, x1, x5 =>
    bif (decide ((x5 : Int) < (0 : Int))) then (
      if (0 : Int) ≤ x5 ∧ x5 < (0) then
      none
      else none
    ) else (
      some x1
    )
def xEK (N : Nat) (a0 : List Val) (a1 : Int) : Option (Int) :=
  (xEE N N a1 0)
def xDl (a0 : List Str) (a1 : Int) : List Arg := [.val (.v false [.sl .ro .str a0]), .val (.v false [.int .i64 a1])]
def xBC (r : Int) : CallO := ⟨.v false [.int .i64 r], [], []⟩
def xEL (N : Nat) : Nat → (List Str) → Int → Int → Option (Int)
  | 0, _, _, _ => none
  | n + 1, x0, x1, x5 =>
    bif (decide ((x5 : Int) < (List.length x0 : Int))) then (
      if (0 : Int) ≤ x5 ∧ x5 < (List.length x0) then
      bif (decide (((IntKind.i64.wrap (x1 - (List.length (List.getD x0 (Int.toNat x5) Ty.str.dflt) : Int))) : Int) < 0)) then (
        some (-1)
      ) else (
        (xEL N n x0 (IntKind.i64.wrap (x1 - (List.length (List.getD x0 (Int.toNat x5) Ty.str.dflt) : Int))) (IntKind.i64.wrap (x5 + 1)))
      )
      else none
    ) else (
      some x1
    )
def xFR (N : Nat) (a0 : List Str) (a1 : Int) : Option (Int) :=
  bif (decide (((IntKind.i64.wrap (a1 - (List.length a0 : Int))) : Int) < 0)) then (
    some (-1)
  ) else (
    (xEL N N a0 (IntKind.i64.wrap (a1 - (List.length a0 : Int))) 0)
  )
def xEz (a0 : List Int) (a1 : Int) : List Arg := [.val (.v false [.sl .ro .int a0]), .val (.v false [.int .i64 a1])]
def xCS (r : Int) : CallO := ⟨.v false [.int .i64 r], [], []⟩
def xG0 (N : Nat) (a0 : List Int) (a1 : Int) : Option (Int) :=
  bif (decide (((IntKind.i64.wrap (a1 - (List.length a0 : Int))) : Int) < 0)) then (
    some (-1)
  ) else (
    some (IntKind.i64.wrap (a1 - (List.length a0 : Int)))
  )
def xD0 (a0 : List Org) (a1 : Int) : List Arg := [.val (.v false [.sl .ro .org a0]), .val (.v false [.int .i64 a1])]
def xCM (r : Int) : CallO := ⟨.v false [.int .i64 r], [], []⟩
def xFP (N : Nat) (a0 : List Org) (a1 : Int) : Option (Int) :=
  bif (decide (((IntKind.i64.wrap (a1 - (List.length a0 : Int))) : Int) < 0)) then (
    some (-1)
  ) else (
    some (IntKind.i64.wrap (a1 - (List.length a0 : Int)))
  )
def xEX (a0 : Rowd) (a1 : Int) : List Arg := [.val (.v true [.sl .ro .int (Rowd.cells a0), .sl .ro .org (Rowd.frm a0)]), .val (.v false [.int .i64 a1])]
def xDT (r : Int) : CallO := ⟨.v false [.int .i64 r], [], []⟩
def xGO (N : Nat) (a0 : Rowd) (a1 : Int) : Option (Int) :=
  Option.bind (xG0 N (Rowd.cells a0) a1) fun r1 =>
  bif (decide ((r1 : Int) < 0)) then (
    some (-1)
  ) else (
    Option.bind (xFP N (Rowd.frm a0) r1) fun r2 =>
    bif (decide ((r2 : Int) < 0)) then (
      some (-1)
    ) else (
      some r2
    )
  )
def xFg (a0 : List Rowd) (a1 : Int) : List Arg := [.val (.v false [.sl .ro .row a0]), .val (.v false [.int .i64 a1])]
def xCT (r : Int) : CallO := ⟨.v false [.int .i64 r], [], []⟩
def xFQ (N : Nat) : Nat → (List Rowd) → Int → Int → Option (Int)
  | 0, _, _, _ => none
  | n + 1, x0, x1, x5 =>
    bif (decide ((x5 : Int) < (List.length x0 : Int))) then (
      if (0 : Int) ≤ x5 ∧ x5 < (List.length x0) then
      Option.bind (xGO N (List.getD x0 (Int.toNat x5) Ty.row.dflt) x1) fun r1 =>
      bif (decide ((r1 : Int) < 0)) then (
        some (-1)
      ) else (
        (xFQ N n x0 r1 (IntKind.i64.wrap (x5 + 1)))
      )
      else none
    ) else (
      some x1
    )
def xG1 (N : Nat) (a0 : List Rowd) (a1 : Int) : Option (Int) :=
  bif (decide (((IntKind.i64.wrap (a1 - (List.length a0 : Int))) : Int) < 0)) then (
    some (-1)
  ) else (
    (xFQ N N a0 (IntKind.i64.wrap (a1 - (List.length a0 : Int))) 0)
  )
def xAl (a0 : Val) (a1 : Int) : List Arg := [.val (.v true [.int .i64 (Val.kind a0), .int .i64 (Val.n a0), .int .i64 (Val.step a0), .str (Val.text a0), .sl .ro .val (Val.list a0), .sl .ro .str (Val.columns a0), .sl .ro .row (Val.rows a0)]), .val (.v false [.int .i64 a1])]
def xAe (r : Int) : CallO := ⟨.v false [.int .i64 r], [], []⟩
def xFD (N : Nat) (rc_laws_szValue : Val → Int → Option (Int)) (rc_laws_szValueS : (List Val) → Int → Option (Int)) (a0 : Val) (a1 : Int) : Option (Int) :=
  bif (decide (((IntKind.i64.wrap (a1 - (List.length (Val.text a0) : Int))) : Int) < 0)) then (
    some (-1)
  ) else (
    Option.bind (rc_laws_szValueS (Val.list a0) (IntKind.i64.wrap (a1 - (List.length (Val.text a0) : Int)))) fun r1 =>
    bif (decide ((r1 : Int) < 0)) then (
      some (-1)
    ) else (
      Option.bind (xFR N (Val.columns a0) r1) fun r2 =>
      bif (decide ((r2 : Int) < 0)) then (
        some (-1)
      ) else (
        Option.bind (xG1 N (Val.rows a0) r2) fun r3 =>
        bif (decide ((r3 : Int) < 0)) then (
          some (-1)
        ) else (
          some r3
        )
      )
    )
  )
def xBv (a0 : List Val) (a1 : Int) : List Arg := [.val (.v false [.sl .ro .val a0]), .val (.v false [.int .i64 a1])]
def xAV (r : Int) : CallO := ⟨.v false [.int .i64 r], [], []⟩
def xE5 (N : Nat) (rc_laws_szValue : Val → Int → Option (Int)) (rc_laws_szValueS : (List Val) → Int → Option (Int)) : Nat → (List Val) → Int → Int → Option (Int)
  | 0, _, _, _ => none
  | n + 1, x0, x1, x5 =>
    bif (decide ((x5 : Int) < (List.length x0 : Int))) then (
      if (0 : Int) ≤ x5 ∧ x5 < (List.length x0) then
      Option.bind (rc_laws_szValue (List.getD x0 (Int.toNat x5) Ty.val.dflt) x1) fun r1 =>
      bif (decide ((r1 : Int) < 0)) then (
        some (-1)
      ) else (
        (xE5 N rc_laws_szValue rc_laws_szValueS n x0 r1 (IntKind.i64.wrap (x5 + 1)))
      )
      else none
    ) else (
      some x1
    )
def xFp (N : Nat) (rc_laws_szValue : Val → Int → Option (Int)) (rc_laws_szValueS : (List Val) → Int → Option (Int)) (a0 : List Val) (a1 : Int) : Option (Int) :=
  bif (decide (((IntKind.i64.wrap (a1 - (List.length a0 : Int))) : Int) < 0)) then (
    some (-1)
  ) else (
    (xE5 N rc_laws_szValue rc_laws_szValueS N a0 (IntKind.i64.wrap (a1 - (List.length a0 : Int))) 0)
  )
structure laws_szValue_rec where
  c_laws_szValue : Val → Int → Option (Int)
  c_laws_szValueS : (List Val) → Int → Option (Int)
def xB9 (N : Nat) : Nat → laws_szValue_rec
  | 0 => ⟨fun _ _ => none, fun _ _ => none⟩
  | d + 1 => ⟨xFD N (xB9 N d).c_laws_szValue (xB9 N d).c_laws_szValueS, xFp N (xB9 N d).c_laws_szValue (xB9 N d).c_laws_szValueS⟩
def xF1 (N : Nat) (a0 : Val) (a1 : Int) : Option (Int) := (xB9 N N).c_laws_szValue a0 a1
def xFF (a0 : List Str) : List Arg := [.val (.v false [.sl .ro .str a0])]
def xD2 (r : (List Str)) : CallO := ⟨.v false [.sl .own .str r], [], []⟩
def xEN (N : Nat) : Nat → (List Str) → (List Str) → Int → Option ((List Str))
  | 0, _, _, _ => none
  | n + 1, x0, x3, x4 =>
    bif (decide ((x4 : Int) < (List.length x0 : Int))) then (
      if (0 : Int) ≤ x4 ∧ x4 < (List.length x0) then
      if (0 : Int) ≤ x4 ∧ x4 < (List.length x3) then
      (xEN N n x0 (List.set x3 (Int.toNat x4) (List.getD x0 (Int.toNat x4) Ty.str.dflt)) (IntKind.i64.wrap (x4 + 1)))
      else none
      else none
    ) else (
      some x3
    )
def xFk (N : Nat) (a0 : List Str) : Option ((List Str)) :=
  if (0 : Int) ≤ (List.length a0 : Int) ∧ (List.length a0 : Int) = (List.length a0 : Int) ∧ (List.length a0 : Int) ≤ Lim then
  (xEN N N a0 (List.replicate (Int.toNat (List.length a0 : Int)) Ty.str.dflt) 0)
  else none
def xGw (a0 : List Int) : List Arg := [.val (.v false [.sl .ro .int a0])]
def xFh (r : (List Int)) : CallO := ⟨.v false [.sl .own .int r], [], []⟩
def xFS (N : Nat) : Nat → (List Int) → (List Int) → Int → Option ((List Int))
  | 0, _, _, _ => none
  | n + 1, x0, x3, x4 =>
    bif (decide ((x4 : Int) < (List.length x0 : Int))) then (
      if (0 : Int) ≤ x4 ∧ x4 < (List.length x0) then
      if (0 : Int) ≤ x4 ∧ x4 < (List.length x3) then
      (xFS N n x0 (List.set x3 (Int.toNat x4) (List.getD x0 (Int.toNat x4) Ty.int.dflt)) (IntKind.i64.wrap (x4 + 1)))
      else none
      else none
    ) else (
      some x3
    )
def xGl (N : Nat) (a0 : List Int) : Option ((List Int)) :=
  if (0 : Int) ≤ (List.length a0 : Int) ∧ (List.length a0 : Int) = (List.length a0 : Int) ∧ (List.length a0 : Int) ≤ Lim then
  (xFS N N a0 (List.replicate (Int.toNat (List.length a0 : Int)) Ty.int.dflt) 0)
  else none
def xFY (a0 : Org) : List Arg := [.val (.v true [.int .i64 (Org.cell a0), .int .i64 (Org.row a0)])]
def xE6 (r : Org) : CallO := ⟨.v true [.int .i64 (Org.cell r), .int .i64 (Org.row r)], [], []⟩
def xGa (N : Nat) (a0 : Org) : Option (Org) :=
  some a0
def xFE (a0 : List Org) : List Arg := [.val (.v false [.sl .ro .org a0])]
def xD1 (r : (List Org)) : CallO := ⟨.v false [.sl .own .org r], [], []⟩
def xEM (N : Nat) : Nat → (List Org) → (List Org) → Int → Option ((List Org))
  | 0, _, _, _ => none
  | n + 1, x0, x3, x4 =>
    bif (decide ((x4 : Int) < (List.length x0 : Int))) then (
      if (0 : Int) ≤ x4 ∧ x4 < (List.length x0) then
      Option.bind (xGa N (List.getD x0 (Int.toNat x4) Ty.org.dflt)) fun r1 =>
      if (0 : Int) ≤ x4 ∧ x4 < (List.length x3) then
      (xEM N n x0 (List.set x3 (Int.toNat x4) r1) (IntKind.i64.wrap (x4 + 1)))
      else none
      else none
    ) else (
      some x3
    )
def xFi (N : Nat) (a0 : List Org) : Option ((List Org)) :=
  if (0 : Int) ≤ (List.length a0 : Int) ∧ (List.length a0 : Int) = (List.length a0 : Int) ∧ (List.length a0 : Int) ≤ Lim then
  (xEM N N a0 (List.replicate (Int.toNat (List.length a0 : Int)) Ty.org.dflt) 0)
  else none
def xGK (a0 : Rowd) : List Arg := [.val (.v true [.sl .ro .int (Rowd.cells a0), .sl .ro .org (Rowd.frm a0)])]
def xGb (r : Rowd) : CallO := ⟨.v true [.sl .own .int (Rowd.cells r), .sl .own .org (Rowd.frm r)], [], []⟩
def xGm (N : Nat) (a0 : Rowd) : Option (Rowd) :=
  Option.bind (xGl N (Rowd.cells a0)) fun r1 =>
  Option.bind (xFi N (Rowd.frm a0)) fun r2 =>
  some (Rowd.mk r1 r2)
def xGx (a0 : List Rowd) : List Arg := [.val (.v false [.sl .ro .row a0])]
def xFj (r : (List Rowd)) : CallO := ⟨.v false [.sl .own .row r], [], []⟩
def xFT (N : Nat) : Nat → (List Rowd) → (List Rowd) → Int → Option ((List Rowd))
  | 0, _, _, _ => none
  | n + 1, x0, x3, x4 =>
    bif (decide ((x4 : Int) < (List.length x0 : Int))) then (
      if (0 : Int) ≤ x4 ∧ x4 < (List.length x0) then
      Option.bind (xGm N (List.getD x0 (Int.toNat x4) Ty.row.dflt)) fun r1 =>
      if (0 : Int) ≤ x4 ∧ x4 < (List.length x3) then
      (xFT N n x0 (List.set x3 (Int.toNat x4) r1) (IntKind.i64.wrap (x4 + 1)))
      else none
      else none
    ) else (
      some x3
    )
def xGn (N : Nat) (a0 : List Rowd) : Option ((List Rowd)) :=
  if (0 : Int) ≤ (List.length a0 : Int) ∧ (List.length a0 : Int) = (List.length a0 : Int) ∧ (List.length a0 : Int) ≤ Lim then
  (xFT N N a0 (List.replicate (Int.toNat (List.length a0 : Int)) Ty.row.dflt) 0)
  else none
def xAc (a0 : Val) : List Arg := [.val (.v true [.int .i64 (Val.kind a0), .int .i64 (Val.n a0), .int .i64 (Val.step a0), .str (Val.text a0), .sl .ro .val (Val.list a0), .sl .ro .str (Val.columns a0), .sl .ro .row (Val.rows a0)])]
def xAa (r : Val) : CallO := ⟨.v true [.int .i64 (Val.kind r), .int .i64 (Val.n r), .int .i64 (Val.step r), .str (Val.text r), .sl .own .val (Val.list r), .sl .own .str (Val.columns r), .sl .own .row (Val.rows r)], [], []⟩
def xD3 (N : Nat) (rc_laws_toValue : Val → Option (Val)) (rc_laws_toValueS : (List Val) → Option ((List Val))) (a0 : Val) : Option (Val) :=
  Option.bind (rc_laws_toValueS (Val.list a0)) fun r1 =>
  Option.bind (xFk N (Val.columns a0)) fun r2 =>
  Option.bind (xGn N (Val.rows a0)) fun r3 =>
  some (Val.mk (Val.kind a0) (Val.n a0) (Val.step a0) (Val.text a0) r1 r2 r3)
def xCm (a0 : List Val) : List Arg := [.val (.v false [.sl .ro .val a0])]
def xBQ (r : (List Val)) : CallO := ⟨.v false [.sl .own .val r], [], []⟩
def xE7 (N : Nat) (rc_laws_toValue : Val → Option (Val)) (rc_laws_toValueS : (List Val) → Option ((List Val))) : Nat → (List Val) → (List Val) → Int → Option ((List Val))
  | 0, _, _, _ => none
  | n + 1, x0, x3, x4 =>
    bif (decide ((x4 : Int) < (List.length x0 : Int))) then (
      if (0 : Int) ≤ x4 ∧ x4 < (List.length x0) then
      Option.bind (rc_laws_toValue (List.getD x0 (Int.toNat x4) Ty.val.dflt)) fun r1 =>
      if (0 : Int) ≤ x4 ∧ x4 < (List.length x3) then
      (xE7 N rc_laws_toValue rc_laws_toValueS n x0 (List.set x3 (Int.toNat x4) (Val.re r1)) (IntKind.i64.wrap (x4 + 1)))
      else none
      else none
    ) else (
      some x3
    )
def xDB (N : Nat) (rc_laws_toValue : Val → Option (Val)) (rc_laws_toValueS : (List Val) → Option ((List Val))) (a0 : List Val) : Option ((List Val)) :=
  if (0 : Int) ≤ (List.length a0 : Int) ∧ (List.length a0 : Int) = (List.length a0 : Int) ∧ (List.length a0 : Int) ≤ Lim then
  (xE7 N rc_laws_toValue rc_laws_toValueS N a0 (List.replicate (Int.toNat (List.length a0 : Int)) Ty.val.dflt) 0)
  else none
structure laws_toValue_rec where
  c_laws_toValue : Val → Option (Val)
  c_laws_toValueS : (List Val) → Option ((List Val))
def xBc (N : Nat) : Nat → laws_toValue_rec
  | 0 => ⟨fun _ => none, fun _ => none⟩
  | d + 1 => ⟨xD3 N (xBc N d).c_laws_toValue (xBc N d).c_laws_toValueS, xDB N (xBc N d).c_laws_toValue (xBc N d).c_laws_toValueS⟩
def xA8 (N : Nat) (a0 : Val) : Option (Val) := (xBc N N).c_laws_toValue a0
def xDU (a0 : Int) (a1 : Int) (a2 : Int) : List Arg := [.val (.v false [.int .i64 a0]), .val (.v false [.int .i64 a1]), .val (.v false [.int .i64 a2])]
def xCd (r : Bool) : CallO := ⟨.v false [.bool r], [], []⟩
def xGc (N : Nat) (a0 : Int) (a1 : Int) (a2 : Int) : Option (Bool) :=
  bif (decide ((a0 : Int) ≥ a1)) then (
    some (decide ((a0 : Int) ≤ a2))
  ) else (
    some false
  )
def xCa (a0 : Int) : List Arg := [.val (.v false [.int .i64 a0])]
def xA2 (r : Bool) : CallO := ⟨.v false [.bool r], [], []⟩
def xDr (N : Nat) (a0 : Int) : Option (Bool) :=
  Option.bind (xGc N a0 (-1000000000) 1000000000) fun r1 =>
  some r1
def xEZ (a0 : Str) : List Arg := [.val (.v false [.str a0])]
def xB4 (r : Bool) : CallO := ⟨.v false [.bool r], [], []⟩
def xB3 (N : Nat) : Nat → Str → Int → Option (Bool)
  | 0, _, _ => none
  | n + 1, x0, x3 =>
    bif (decide ((x3 : Int) < (List.length x0 : Int))) then (
      if (0 : Int) ≤ x3 ∧ x3 < (List.length x0) then
      bif (decide ((((List.getD x0 (Int.toNat x3) 0).toNat : Int) : Int) < 32)) then (
        some false
      ) else (
        bif (decide ((((List.getD x0 (Int.toNat x3) 0).toNat : Int) : Int) > 126)) then (
          some false
        ) else (
          bif ((((List.getD x0 (Int.toNat x3) 0).toNat : Int) : Int) == 34) then (
            some false
          ) else (
            (xB3 N n x0 (IntKind.i64.wrap (x3 + 1)))
          )
        )
      )
      else none
    ) else (
      some (decide (((List.length x0 : Int) : Int) ≤ 20))
    )
def xE9 (N : Nat) (a0 : Str) : Option (Bool) :=
  (xB3 N N a0 0)
def xCO (a0 : Val) : List Arg := [.val (.v true [.int .i64 (Val.kind a0), .int .i64 (Val.n a0), .int .i64 (Val.step a0), .str (Val.text a0), .sl .ro .val (Val.list a0), .sl .ro .str (Val.columns a0), .sl .ro .row (Val.rows a0)])]
def xBT (r : Bool) : CallO := ⟨.v false [.bool r], [], []⟩
def xFV (N : Nat) (a0 : Val) : Option (Bool) :=
  bif (((Val.kind a0) : Int) == 1) then (
    some true
  ) else (
    bif (((Val.kind a0) : Int) == 2) then (
      some true
    ) else (
      some (((Val.kind a0) : Int) == 3)
    )
  )
def xGd (a0 : Int) (a1 : Int) : List Arg := [.val (.v false [.int .i64 a0]), .val (.v false [.int .i64 a1])]
def xFI (r : Int) : CallO := ⟨.v false [.int .i64 r], [], []⟩
def xGQ (N : Nat) (a0 : Int) (a1 : Int) : Option (Int) :=
  bif (decide ((a0 : Int) > a1)) then (
    some a0
  ) else (
    some a1
  )
def xCv (a0 : Val) : List Arg := [.val (.v true [.int .i64 (Val.kind a0), .int .i64 (Val.n a0), .int .i64 (Val.step a0), .str (Val.text a0), .sl .ro .val (Val.list a0), .sl .ro .str (Val.columns a0), .sl .ro .row (Val.rows a0)])]
def xBS (r : Int) : CallO := ⟨.v false [.int .i64 r], [], []⟩
def xEc (N : Nat) (rc_spec_DepthOf : Val → Option (Int)) : Nat → Int → Int → Val → Option (Int)
  | 0, _, _, _ => none
  | n + 1, x3, x4, b1 =>
    bif (decide ((x4 : Int) < (List.length (Val.list b1) : Int))) then (
      if (0 : Int) ≤ x4 ∧ x4 < (List.length (Val.list b1)) then
      Option.bind (rc_spec_DepthOf (List.getD (Val.list b1) (Int.toNat x4) Ty.val.dflt)) fun r1 =>
      Option.bind (xGQ N x3 r1) fun r2 =>
      (xEc N rc_spec_DepthOf n r2 (IntKind.i64.wrap (x4 + 1)) b1)
      else none
    ) else (
      some (IntKind.i64.wrap (x3 + 1))
    )
def xFG (N : Nat) (rc_spec_DepthOf : Val → Option (Int)) (a0 : Val) : Option (Int) :=
  (xEc N rc_spec_DepthOf N 0 0 a0)
def xDP (N : Nat) : Nat → Val → Option (Int)
  | 0, _ => none
  | d + 1, a0 => xFG N (xDP N d) a0
def xG9 (N : Nat) (a0 : Val) : Option (Int) := xDP N N a0
def xEP (a0 : Str) : List Arg := [.val (.v false [.str a0])]
def xBd (r : Bool) : CallO := ⟨.v false [.bool r], [], []⟩
def xCk (N : Nat) : Nat → Str → Int → Option (Bool)
  | 0, _, _ => none
  | n + 1, x0, x3 =>
    bif (decide ((x3 : Int) < (List.length x0 : Int))) then (
      if (0 : Int) ≤ x3 ∧ x3 < (List.length x0) then
      bif (decide ((((List.getD x0 (Int.toNat x3) 0).toNat : Int) : Int) ≥ 97)) then (
        bif (decide ((((List.getD x0 (Int.toNat x3) 0).toNat : Int) : Int) ≥ 48)) then (
          bif (!(decide ((((List.getD x0 (Int.toNat x3) 0).toNat : Int) : Int) ≤ 122))) then (
            bif ((x3 : Int) == 0) then (
              some false
            ) else (
              bif (!(decide ((((List.getD x0 (Int.toNat x3) 0).toNat : Int) : Int) ≤ 57))) then (
                some false
              ) else (
                (xCk N n x0 (IntKind.i64.wrap (x3 + 1)))
              )
            )
          ) else (
            (xCk N n x0 (IntKind.i64.wrap (x3 + 1)))
          )
        ) else (
          bif (!(decide ((((List.getD x0 (Int.toNat x3) 0).toNat : Int) : Int) ≤ 122))) then (
            bif ((x3 : Int) == 0) then (
              some false
            ) else (
              some false
            )
          ) else (
            (xCk N n x0 (IntKind.i64.wrap (x3 + 1)))
          )
        )
      ) else (
        bif (decide ((((List.getD x0 (Int.toNat x3) 0).toNat : Int) : Int) ≥ 48)) then (
          bif ((x3 : Int) == 0) then (
            some false
          ) else (
            bif (!(decide ((((List.getD x0 (Int.toNat x3) 0).toNat : Int) : Int) ≤ 57))) then (
              some false
            ) else (
              (xCk N n x0 (IntKind.i64.wrap (x3 + 1)))
            )
          )
        ) else (
          bif ((x3 : Int) == 0) then (
            some false
          ) else (
            some false
          )
        )
      )
      else none
    ) else (
      some (decide (((List.length x0 : Int) : Int) > 0))
    )
def xGE (N : Nat) (a0 : Str) : Option (Bool) :=
  (xCk N N a0 0)
def xFr : List Arg := []
def xEu (r : (List Str)) : CallO := ⟨.v false [.sl .own .str r], [], []⟩
def xFy (N : Nat) : Option ((List Str)) :=
  some [[108, 101, 116], [105, 110], [105, 102], [116, 104, 101, 110], [101, 108, 115, 101], [102, 111, 114], [100, 111], [108, 101, 110], [115, 117, 109], [116, 97, 107, 101], [115, 107, 105, 112], [114, 97, 110, 103, 101], [110, 116, 104], [119, 104, 101, 114, 101], [107, 101, 101, 112], [97, 100, 100], [103, 114, 111, 117, 112], [106, 111, 105, 110], [99, 111, 108, 117, 109, 110], [114, 111, 119, 115], [99, 108, 111, 99, 107], [99, 104, 97, 110, 99, 101], [102, 105, 108, 101], [116, 97, 98, 108, 101]]
def xFH (a0 : List Str) (a1 : Str) : List Arg := [.val (.v false [.sl .ro .str a0]), .val (.v false [.str a1])]
def xC2 (r : Bool) : CallO := ⟨.v false [.bool r], [], []⟩
def xEt (N : Nat) : Nat → (List Str) → Str → Int → Option (Bool)
  | 0, _, _, _ => none
  | n + 1, x0, x1, x5 =>
    bif (decide ((x5 : Int) < (List.length x0 : Int))) then (
      if (0 : Int) ≤ x5 ∧ x5 < (List.length x0) then
      bif (((List.getD x0 (Int.toNat x5) Ty.str.dflt) : Str) == x1) then (
        some true
      ) else (
        (xEt N n x0 x1 (IntKind.i64.wrap (x5 + 1)))
      )
      else none
    ) else (
      some false
    )
def xGP (N : Nat) (a0 : List Str) (a1 : Str) : Option (Bool) :=
  (xEt N N a0 a1 0)
def xFq (a0 : Str) : List Arg := [.val (.v false [.str a0])]
def xEs (r : Bool) : CallO := ⟨.v false [.bool r], [], []⟩
def xEO (N : Nat) (a0 : Str) : Option (Bool) :=
  Option.bind (xFy N) fun r1 =>
  Option.bind (xGP N r1 a0) fun r2 =>
  some r2
def xCI (a0 : Str) : List Arg := [.val (.v false [.str a0])]
def xB2 (r : Bool) : CallO := ⟨.v false [.bool r], [], []⟩
def xEk (N : Nat) (a0 : Str) : Option (Bool) :=
  Option.bind (xGE N a0) fun r1 =>
  bif r1 then (
    bif (decide (((List.length a0 : Int) : Int) ≤ 8)) then (
      Option.bind (xEO N a0) fun r2 =>
      some (!r2)
    ) else (
      some false
    )
  ) else (
    some false
  )
def xEY (a0 : List Str) : List Arg := [.val (.v false [.sl .ro .str a0])]
def xCH (r : Bool) : CallO := ⟨.v false [.bool r], [], []⟩
def xCi (N : Nat) : Nat → (List Str) → Int → Option (Bool)
  | 0, _, _ => none
  | n + 1, x0, x3 =>
    bif (decide ((x3 : Int) < (List.length x0 : Int))) then (
      if (0 : Int) ≤ x3 ∧ x3 ≤ (List.length x0) then
      if (0 : Int) ≤ x3 ∧ x3 < (List.length x0) then
      Option.bind (xGP N (List.take (Int.toNat x3) x0) (List.getD x0 (Int.toNat x3) Ty.str.dflt)) fun r1 =>
      bif r1 then (
        some false
      ) else (
        (xCi N n x0 (IntKind.i64.wrap (x3 + 1)))
      )
      else none
      else none
    ) else (
      some true
    )
def xE8 (N : Nat) (a0 : List Str) : Option (Bool) :=
  (xCi N N a0 0)
def xD4 (a0 : List Str) : List Arg := [.val (.v false [.sl .ro .str a0])]
def xBD (r : Bool) : CallO := ⟨.v false [.bool r], [], []⟩
def xDn (N : Nat) : Nat → (List Str) → Int → Option (Bool)
  | 0, _, _ => none
  | n + 1, x0, x3 =>
    bif (decide ((x3 : Int) < (List.length x0 : Int))) then (
      if (0 : Int) ≤ x3 ∧ x3 < (List.length x0) then
      Option.bind (xEk N (List.getD x0 (Int.toNat x3) Ty.str.dflt)) fun r1 =>
      bif (!r1) then (
        some false
      ) else (
        (xDn N n x0 (IntKind.i64.wrap (x3 + 1)))
      )
      else none
    ) else (
      Option.bind (xGc N (List.length x0 : Int) 1 4) fun r1 =>
      bif r1 then (
        Option.bind (xE8 N x0) fun r2 =>
        some r2
      ) else (
        some false
      )
    )
def xFU (N : Nat) (a0 : List Str) : Option (Bool) :=
  (xDn N N a0 0)
def xDQ (a0 : Org) (a1 : Org) : List Arg := [.val (.v true [.int .i64 (Org.cell a0), .int .i64 (Org.row a0)]), .val (.v true [.int .i64 (Org.cell a1), .int .i64 (Org.row a1)])]
def xCB (r : Bool) : CallO := ⟨.v false [.bool r], [], []⟩
def xFJ (N : Nat) (a0 : Org) (a1 : Org) : Option (Bool) :=
  bif (decide (((Org.cell a0) : Int) < (Org.cell a1))) then (
    some true
  ) else (
    bif (((Org.cell a0) : Int) == (Org.cell a1)) then (
      some (decide (((Org.row a0) : Int) < (Org.row a1)))
    ) else (
      some false
    )
  )
def xEe (a0 : List Org) : List Arg := [.val (.v false [.sl .ro .org a0])]
def xBx (r : Bool) : CallO := ⟨.v false [.bool r], [], []⟩
def xB6 (N : Nat) : Nat → (List Org) → Int → Option (Bool)
  | 0, _, _ => none
  | n + 1, x0, x3 =>
    bif (decide ((x3 : Int) < (List.length x0 : Int))) then (
      if (0 : Int) ≤ x3 ∧ x3 < (List.length x0) then
      bif (decide (((Org.cell (List.getD x0 (Int.toNat x3) Ty.org.dflt)) : Int) < 0)) then (
        some false
      ) else (
        bif (decide (((Org.row (List.getD x0 (Int.toNat x3) Ty.org.dflt)) : Int) < 0)) then (
          some false
        ) else (
          bif (decide ((x3 : Int) > 0)) then (
            if (0 : Int) ≤ (IntKind.i64.wrap (x3 - 1)) ∧ (IntKind.i64.wrap (x3 - 1)) < (List.length x0) then
            Option.bind (xFJ N (List.getD x0 (Int.toNat (IntKind.i64.wrap (x3 - 1))) Ty.org.dflt) (List.getD x0 (Int.toNat x3) Ty.org.dflt)) fun r1 =>
            bif (!r1) then (
              some false
            ) else (
              (xB6 N n x0 (IntKind.i64.wrap (x3 + 1)))
            )
            else none
          ) else (
            (xB6 N n x0 (IntKind.i64.wrap (x3 + 1)))
          )
        )
      )
      else none
    ) else (
      some true
    )
def xFa (N : Nat) (a0 : List Org) : Option (Bool) :=
  (xB6 N N a0 0)
def xEQ (a0 : Val) : List Arg := [.val (.v true [.int .i64 (Val.kind a0), .int .i64 (Val.n a0), .int .i64 (Val.step a0), .str (Val.text a0), .sl .ro .val (Val.list a0), .sl .ro .str (Val.columns a0), .sl .ro .row (Val.rows a0)])]
def xBU (r : Bool) : CallO := ⟨.v false [.bool r], [], []⟩
def xDa (N : Nat) (k4 : Int → Val → Option (Bool)) : Nat → Int → Int → Val → Rowd → Option (Bool)
  | 0, _, _, _, _ => none
  | n + 1, x3, x5, b1, b4 =>
    bif (decide ((x5 : Int) < (List.length (Rowd.cells b4) : Int))) then (
      if (0 : Int) ≤ x5 ∧ x5 < (List.length (Rowd.cells b4)) then
      Option.bind (xDr N (List.getD (Rowd.cells b4) (Int.toNat x5) Ty.int.dflt)) fun r1 =>
      bif (!r1) then (
        some false
      ) else (
        (xDa N k4 n x3 (IntKind.i64.wrap (x5 + 1)) b1 b4)
      )
      else none
    ) else (
      (k4 (IntKind.i64.wrap (x3 + 1)) b1)
    )
def xDw (N : Nat) : Nat → Int → Val → Option (Bool)
  | 0, _, _ => none
  | n + 1, x3, b1 =>
    bif (decide ((x3 : Int) < (List.length (Val.rows b1) : Int))) then (
      if (0 : Int) ≤ x3 ∧ x3 < (List.length (Val.rows b1)) then
      bif (((List.length (Rowd.cells (List.getD (Val.rows b1) (Int.toNat x3) Ty.row.dflt)) : Int) : Int) != (List.length (Val.columns b1) : Int)) then (
        some false
      ) else (
        Option.bind (xFa N (Rowd.frm (List.getD (Val.rows b1) (Int.toNat x3) Ty.row.dflt))) fun r1 =>
        bif (!r1) then (
          some false
        ) else (
          (xDa N (fun z0 z1 => (xDw N n z0 z1)) N x3 0 b1 (List.getD (Val.rows b1) (Int.toNat x3) Ty.row.dflt))
        )
      )
      else none
    ) else (
      some true
    )
def xF4 (N : Nat) (a0 : Val) : Option (Bool) :=
  Option.bind (xFU N (Val.columns a0)) fun r1 =>
  bif (!r1) then (
    some false
  ) else (
    bif (decide (((List.length (Val.rows a0) : Int) : Int) > 12)) then (
      some false
    ) else (
      (xDw N N 0 a0)
    )
  )
def xAu (a0 : Val) : List Arg := [.val (.v true [.int .i64 (Val.kind a0), .int .i64 (Val.n a0), .int .i64 (Val.step a0), .str (Val.text a0), .sl .ro .val (Val.list a0), .sl .ro .str (Val.columns a0), .sl .ro .row (Val.rows a0)])]
def xAq (r : Bool) : CallO := ⟨.v false [.bool r], [], []⟩
def xCt (N : Nat) (rc_spec_IsValidValue : Val → Option (Bool)) (rc_spec_l3List : Val → Option (Bool)) (a0 : Val) : Option (Bool) :=
  bif (((Val.kind a0) : Int) != 3) then (
    bif (decide (((List.length (Val.list a0) : Int) : Int) > 0)) then (
      some false
    ) else (
      bif (((Val.kind a0) : Int) != 5) then (
        bif (decide (((IntKind.i64.wrap ((List.length (Val.columns a0) : Int) + (List.length (Val.rows a0) : Int))) : Int) > 0)) then (
          some false
        ) else (
          bif (((Val.kind a0) : Int) != 2) then (
            bif (!(((Val.text a0) : Str) == [])) then (
              some false
            ) else (
              bif (((Val.kind a0) : Int) != 4) then (
                bif (((Val.step a0) : Int) != 0) then (
                  some false
                ) else (
                  bif (((Val.kind a0) : Int) == 1) then (
                    Option.bind (xDr N (Val.n a0)) fun r1 =>
                    some r1
                  ) else (
                    bif (((Val.kind a0) : Int) == 6) then (
                      Option.bind (xGc N (Val.n a0) 1 8) fun r1 =>
                      some r1
                    ) else (
                      some false
                    )
                  )
                )
              ) else (
                Option.bind (xDr N (Val.n a0)) fun r1 =>
                bif r1 then (
                  Option.bind (xDr N (Val.step a0)) fun r2 =>
                  some r2
                ) else (
                  some false
                )
              )
            )
          ) else (
            bif (((Val.step a0) : Int) != 0) then (
              some false
            ) else (
              bif (((Val.n a0) : Int) == 0) then (
                Option.bind (xE9 N (Val.text a0)) fun r1 =>
                some r1
              ) else (
                some false
              )
            )
          )
        )
      ) else (
        bif (!(((Val.text a0) : Str) == [])) then (
          some false
        ) else (
          bif (((Val.step a0) : Int) != 0) then (
            some false
          ) else (
            bif (((Val.n a0) : Int) == 0) then (
              Option.bind (xF4 N a0) fun r1 =>
              some r1
            ) else (
              some false
            )
          )
        )
      )
    )
  ) else (
    bif (decide (((IntKind.i64.wrap ((List.length (Val.columns a0) : Int) + (List.length (Val.rows a0) : Int))) : Int) > 0)) then (
      some false
    ) else (
      bif (!(((Val.text a0) : Str) == [])) then (
        some false
      ) else (
        bif (((Val.step a0) : Int) != 0) then (
          some false
        ) else (
          bif (((Val.n a0) : Int) == 0) then (
            Option.bind (rc_spec_l3List a0) fun r1 =>
            some r1
          ) else (
            some false
          )
        )
      )
    )
  )
def xCU (a0 : Val) : List Arg := [.val (.v true [.int .i64 (Val.kind a0), .int .i64 (Val.n a0), .int .i64 (Val.step a0), .str (Val.text a0), .sl .ro .val (Val.list a0), .sl .ro .str (Val.columns a0), .sl .ro .row (Val.rows a0)])]
def xBL (r : Bool) : CallO := ⟨.v false [.bool r], [], []⟩
def xDq (N : Nat) (rc_spec_IsValidValue : Val → Option (Bool)) (rc_spec_l3List : Val → Option (Bool)) : Nat → Int → Val → Option (Bool)
  | 0, _, _ => none
  | n + 1, x3, b1 =>
    bif (decide ((x3 : Int) < (List.length (Val.list b1) : Int))) then (
      if (0 : Int) ≤ x3 ∧ x3 < (List.length (Val.list b1)) then
      Option.bind (xFV N (List.getD (Val.list b1) (Int.toNat x3) Ty.val.dflt)) fun r1 =>
      bif (!r1) then (
        some false
      ) else (
        Option.bind (rc_spec_IsValidValue (List.getD (Val.list b1) (Int.toNat x3) Ty.val.dflt)) fun r2 =>
        bif (!r2) then (
          some false
        ) else (
          (xDq N rc_spec_IsValidValue rc_spec_l3List n (IntKind.i64.wrap (x3 + 1)) b1)
        )
      )
      else none
    ) else (
      bif (decide (((List.length (Val.list b1) : Int) : Int) ≤ 8)) then (
        Option.bind (xG9 N b1) fun r1 =>
        some (decide ((r1 : Int) ≤ 3))
      ) else (
        some false
      )
    )
def xFZ (N : Nat) (rc_spec_IsValidValue : Val → Option (Bool)) (rc_spec_l3List : Val → Option (Bool)) (a0 : Val) : Option (Bool) :=
  (xDq N rc_spec_IsValidValue rc_spec_l3List N 0 a0)
structure spec_IsValidValue_rec where
  c_spec_IsValidValue : Val → Option (Bool)
  c_spec_l3List : Val → Option (Bool)
def xAG (N : Nat) : Nat → spec_IsValidValue_rec
  | 0 => ⟨fun _ => none, fun _ => none⟩
  | d + 1 => ⟨xCt N (xAG N d).c_spec_IsValidValue (xAG N d).c_spec_l3List, xFZ N (xAG N d).c_spec_IsValidValue (xAG N d).c_spec_l3List⟩
def xGp (N : Nat) (a0 : Val) : Option (Bool) := (xAG N N).c_spec_IsValidValue a0
def xBH (a0 : Int) : List Arg := [.val (.v false [.int .i64 a0])]
def xAO (r : Val) : CallO := ⟨.v true [.int .i64 (Val.kind r), .int .i64 (Val.n r), .int .i64 (Val.step r), .str (Val.text r), .sl .own .val (Val.list r), .sl .own .str (Val.columns r), .sl .own .row (Val.rows r)], [], []⟩
def xA6 (N : Nat) (a0 : Int) : Option (Val) :=
  some (Val.mk 6 a0 0 [] [] [] [])
def xDx (a0 : List Val) : List Arg := [.val (.v false [.sl .ro .val a0])]
def xBo (r : Val × Bool) : CallO := ⟨.tup [(true, [.int .i64 (Val.kind r.1), .int .i64 (Val.n r.1), .int .i64 (Val.step r.1), .str (Val.text r.1), .sl .own .val (Val.list r.1), .sl .own .str (Val.columns r.1), .sl .own .row (Val.rows r.1)]), (false, [.bool r.2])], [], []⟩
def xC3 (N : Nat) : Nat → (List Val) → Int → Val → Option (Val × Bool)
  | 0, _, _, _ => none
  | n + 1, x0, x4, b2 =>
    bif (decide ((x4 : Int) < (List.length x0 : Int))) then (
      if (0 : Int) ≤ x4 ∧ x4 < (List.length x0) then
      Option.bind (xGp N (List.getD x0 (Int.toNat x4) Ty.val.dflt)) fun r1 =>
      bif (!r1) then (
        Option.bind (xA6 N 4) fun r2 =>
        some (r2, true)
      ) else (
        bif (((Val.kind (List.getD x0 (Int.toNat x4) Ty.val.dflt)) : Int) == 6) then (
          Option.bind (xA6 N (Val.n (List.getD x0 (Int.toNat x4) Ty.val.dflt))) fun r2 =>
          some (r2, true)
        ) else (
          (xC3 N n x0 (IntKind.i64.wrap (x4 + 1)) b2)
        )
      )
      else none
    ) else (
      some ((Val.mk 0 0 0 [] [] [] []), false)
    )
def xGF (N : Nat) (a0 : List Val) : Option (Val × Bool) :=
  (xC3 N N a0 0 (Val.mk 0 0 0 [] [] [] []))
def xBM (a0 : Val) (a1 : Val) : List Arg := [.val (.v true [.int .i64 (Val.kind a0), .int .i64 (Val.n a0), .int .i64 (Val.step a0), .str (Val.text a0), .sl .ro .val (Val.list a0), .sl .ro .str (Val.columns a0), .sl .ro .row (Val.rows a0)]), .val (.v true [.int .i64 (Val.kind a1), .int .i64 (Val.n a1), .int .i64 (Val.step a1), .str (Val.text a1), .sl .ro .val (Val.list a1), .sl .ro .str (Val.columns a1), .sl .ro .row (Val.rows a1)])]
def xA0 (r : Val × Bool) : CallO := ⟨.tup [(true, [.int .i64 (Val.kind r.1), .int .i64 (Val.n r.1), .int .i64 (Val.step r.1), .str (Val.text r.1), .sl .own .val (Val.list r.1), .sl .own .str (Val.columns r.1), .sl .own .row (Val.rows r.1)]), (false, [.bool r.2])], [], []⟩
def xF0 (N : Nat) (a0 : Val) (a1 : Val) : Option (Val × Bool) :=
  Option.bind (xGF N [(Val.re a0), (Val.re a1)]) fun r1 =>
  bif r1.2 then (
    some (r1.1, true)
  ) else (
    bif (((Val.kind a0) : Int) != 1) then (
      Option.bind (xA6 N 4) fun r2 =>
      some (r2, true)
    ) else (
      bif (((Val.kind a1) : Int) != 3) then (
        bif (((Val.kind a1) : Int) != 4) then (
          Option.bind (xA6 N 4) fun r2 =>
          some (r2, true)
        ) else (
          some ((Val.mk 0 0 0 [] [] [] []), false)
        )
      ) else (
        some ((Val.mk 0 0 0 [] [] [] []), false)
      )
    )
  )
def xGM (a0 : Rowd) : List Arg := [.val (.v true [.sl .ro .int (Rowd.cells a0), .sl .ro .org (Rowd.frm a0)])]
def xGe (r : Rowd) : CallO := ⟨.v true [.sl .own .int (Rowd.cells r), .sl .own .org (Rowd.frm r)], [], []⟩
def xGR (N : Nat) (a0 : Rowd) : Option (Rowd) :=
  if 0 + List.length (Rowd.cells a0) ≤ Lim then
  if 0 + List.length (Rowd.frm a0) ≤ Lim then
  some (Rowd.mk ([] ++ (Rowd.cells a0)) ([] ++ (Rowd.frm a0)))
  else none
  else none
def xCw (a0 : Val) : List Arg := [.val (.v true [.int .i64 (Val.kind a0), .int .i64 (Val.n a0), .int .i64 (Val.step a0), .str (Val.text a0), .sl .ro .val (Val.list a0), .sl .ro .str (Val.columns a0), .sl .ro .row (Val.rows a0)])]
def xBK (r : Val) : CallO := ⟨.v true [.int .i64 (Val.kind r), .int .i64 (Val.n r), .int .i64 (Val.step r), .str (Val.text r), .sl .own .val (Val.list r), .sl .own .str (Val.columns r), .sl .own .row (Val.rows r)], [], []⟩
def xDV (N : Nat) (rc_spec_l3Copy : Val → Option (Val)) : Nat → Int → Val → Val → Val → Option (Val)
  | 0, _, _, _, _ => none
  | n + 1, x5, b1, b2, b3 =>
    bif (decide ((x5 : Int) < (List.length (Val.rows b1) : Int))) then (
      if (0 : Int) ≤ x5 ∧ x5 < (List.length (Val.rows b1)) then
      Option.bind (xGR N (List.getD (Val.rows b1) (Int.toNat x5) Ty.row.dflt)) fun r1 =>
      if List.length (Val.rows b3) + List.length [r1] ≤ Lim then
      (xDV N rc_spec_l3Copy n (IntKind.i64.wrap (x5 + 1)) b1 b2 (Val.mk (Val.kind b3) (Val.n b3) (Val.step b3) (Val.text b3) (Val.list b3) (Val.columns b3) ((Val.rows b3) ++ [r1])))
      else none
      else none
    ) else (
      some b3
    )
def xEB (N : Nat) (rc_spec_l3Copy : Val → Option (Val)) : Nat → Int → Val → Val → Val → Option (Val)
  | 0, _, _, _, _ => none
  | n + 1, x4, b1, b2, b3 =>
    bif (decide ((x4 : Int) < (List.length (Val.list b1) : Int))) then (
      if (0 : Int) ≤ x4 ∧ x4 < (List.length (Val.list b1)) then
      Option.bind (rc_spec_l3Copy (List.getD (Val.list b1) (Int.toNat x4) Ty.val.dflt)) fun r1 =>
      if List.length (Val.list b3) + List.length [(Val.re r1)] ≤ Lim then
      (xEB N rc_spec_l3Copy n (IntKind.i64.wrap (x4 + 1)) b1 b2 (Val.mk (Val.kind b3) (Val.n b3) (Val.step b3) (Val.text b3) ((Val.list b3) ++ [(Val.re r1)]) (Val.columns b3) (Val.rows b3)))
      else none
      else none
    ) else (
      (xDV N rc_spec_l3Copy N 0 b1 b2 b3)
    )
def xEl (N : Nat) (rc_spec_l3Copy : Val → Option (Val)) (a0 : Val) : Option (Val) :=
  if 0 + List.length (Val.columns a0) ≤ Lim then
  (xEB N rc_spec_l3Copy N 0 a0 (Val.mk 0 0 0 [] [] [] []) (Val.mk (Val.kind a0) (Val.n a0) (Val.step a0) (Val.text a0) [] ([] ++ (Val.columns a0)) []))
  else none
def xEf (N : Nat) : Nat → Val → Option (Val)
  | 0, _ => none
  | d + 1, a0 => xEl N (xEf N d) a0
def xIs (N : Nat) (a0 : Val) : Option (Val) := xEf N N a0
def xCj (a0 : Int) : List Arg := [.val (.v false [.int .i64 a0])]
def xBg (r : Val) : CallO := ⟨.v true [.int .i64 (Val.kind r), .int .i64 (Val.n r), .int .i64 (Val.step r), .str (Val.text r), .sl .own .val (Val.list r), .sl .own .str (Val.columns r), .sl .own .row (Val.rows r)], [], []⟩
def xCA (N : Nat) (a0 : Int) : Option (Val) :=
  some (Val.mk 1 a0 0 [] [] [] [])
def xDv (a0 : Int) : List Arg := [.val (.v false [.int .i64 a0])]
def xCN (r : Val) : CallO := ⟨.v true [.int .i64 (Val.kind r), .int .i64 (Val.n r), .int .i64 (Val.step r), .str (Val.text r), .sl .own .val (Val.list r), .sl .own .str (Val.columns r), .sl .own .row (Val.rows r)], [], []⟩
def xDC (N : Nat) (a0 : Int) : Option (Val) :=
  Option.bind (xDr N a0) fun r1 =>
  bif (!r1) then (
    Option.bind (xA6 N 5) fun r2 =>
    some r2
  ) else (
    Option.bind (xCA N a0) fun r2 =>
    some r2
  )
def xC1 (a0 : Val) (a1 : Val) : List Arg := [.val (.v true [.int .i64 (Val.kind a0), .int .i64 (Val.n a0), .int .i64 (Val.step a0), .str (Val.text a0), .sl .ro .val (Val.list a0), .sl .ro .str (Val.columns a0), .sl .ro .row (Val.rows a0)]), .val (.v true [.int .i64 (Val.kind a1), .int .i64 (Val.n a1), .int .i64 (Val.step a1), .str (Val.text a1), .sl .ro .val (Val.list a1), .sl .ro .str (Val.columns a1), .sl .ro .row (Val.rows a1)])]
def xB5 (r : Val) : CallO := ⟨.v true [.int .i64 (Val.kind r), .int .i64 (Val.n r), .int .i64 (Val.step r), .str (Val.text r), .sl .own .val (Val.list r), .sl .own .str (Val.columns r), .sl .own .row (Val.rows r)], [], []⟩
def xDm (N : Nat) (a0 : Val) (a1 : Val) : Option (Val) :=
  Option.bind (xF0 N a0 a1) fun r1 =>
  bif r1.2 then (
    some r1.1
  ) else (
    bif (decide (((Val.n a0) : Int) < 0)) then (
      Option.bind (xA6 N 5) fun r2 =>
      some r2
    ) else (
      bif (((Val.kind a1) : Int) == 3) then (
        bif (decide (((Val.n a0) : Int) ≥ (List.length (Val.list a1) : Int))) then (
          Option.bind (xA6 N 5) fun r2 =>
          some r2
        ) else (
          if (0 : Int) ≤ (Val.n a0) ∧ (Val.n a0) < (List.length (Val.list a1)) then
          Option.bind (xIs N (List.getD (Val.list a1) (Int.toNat (Val.n a0)) Ty.val.dflt)) fun r2 =>
          some r2
          else none
        )
      ) else (
        Option.bind (xDC N (IntKind.i64.wrap ((Val.n a1) + (IntKind.i64.wrap ((Val.n a0) * (Val.step a1)))))) fun r2 =>
        some r2
      )
    )
  )
def xBW (a0 : Int) (a1 : Int) (a2 : Int) : List Arg := [.val (.v false [.int .i64 a0]), .val (.v false [.int .i64 a1]), .val (.v false [.int .i64 a2])]
def xAT (r : Bool) : CallO := ⟨.v false [.bool r], [], []⟩
def xD8 (N : Nat) (a0 : Int) (a1 : Int) (a2 : Int) : Option (Bool) :=
  bif (decide ((a1 : Int) ≤ a0)) then (
    some (decide ((a0 : Int) ≤ a2))
  ) else (
    some false
  )
def xB7 (a0 : Int) : List Arg := [.val (.v false [.int .i64 a0])]
def xA1 (r : Bool) : CallO := ⟨.v false [.bool r], [], []⟩
def xDo (N : Nat) (a0 : Int) : Option (Bool) :=
  Option.bind (xD8 N a0 (-1000000000) 1000000000) fun r1 =>
  some r1
def xES (a0 : Str) : List Arg := [.val (.v false [.str a0])]
def xBZ (r : Bool) : CallO := ⟨.v false [.bool r], [], []⟩
def xDc (N : Nat) : Nat → Str → Int → Option (Bool)
  | 0, _, _ => none
  | n + 1, x0, x3 =>
    bif (decide ((x3 : Int) < (List.length x0 : Int))) then (
      if (0 : Int) ≤ x3 ∧ x3 < (List.length x0) then
      bif (decide ((((List.getD x0 (Int.toNat x3) 0).toNat : Int) : Int) < 32)) then (
        some false
      ) else (
        bif (decide ((((List.getD x0 (Int.toNat x3) 0).toNat : Int) : Int) > 126)) then (
          some false
        ) else (
          bif ((((List.getD x0 (Int.toNat x3) 0).toNat : Int) : Int) == 34) then (
            some false
          ) else (
            (xDc N n x0 (IntKind.i64.wrap (x3 + 1)))
          )
        )
      )
      else none
    ) else (
      some (decide (((List.length x0 : Int) : Int) ≤ 20))
    )
def xE1 (N : Nat) (a0 : Str) : Option (Bool) :=
  (xDc N N a0 0)
def xFO (a0 : Str) : List Arg := [.val (.v false [.str a0])]
def xBV (r : Bool) : CallO := ⟨.v false [.bool r], [], []⟩
def xCP (N : Nat) : Nat → Str → Int → Option (Bool)
  | 0, _, _ => none
  | n + 1, x0, x3 =>
    bif (decide ((x3 : Int) < (List.length x0 : Int))) then (
      if (0 : Int) ≤ x3 ∧ x3 < (List.length x0) then
      bif (decide ((((List.getD x0 (Int.toNat x3) 0).toNat : Int) : Int) ≥ 97)) then (
        bif (!(decide ((((List.getD x0 (Int.toNat x3) 0).toNat : Int) : Int) ≤ 122))) then (
          bif ((x3 : Int) == 0) then (
            some false
          ) else (
            bif (decide ((((List.getD x0 (Int.toNat x3) 0).toNat : Int) : Int) < 48)) then (
              some false
            ) else (
              bif (decide ((((List.getD x0 (Int.toNat x3) 0).toNat : Int) : Int) > 57)) then (
                some false
              ) else (
                (xCP N n x0 (IntKind.i64.wrap (x3 + 1)))
              )
            )
          )
        ) else (
          (xCP N n x0 (IntKind.i64.wrap (x3 + 1)))
        )
      ) else (
        bif ((x3 : Int) == 0) then (
          some false
        ) else (
          bif (decide ((((List.getD x0 (Int.toNat x3) 0).toNat : Int) : Int) < 48)) then (
            some false
          ) else (
            bif (decide ((((List.getD x0 (Int.toNat x3) 0).toNat : Int) : Int) > 57)) then (
              some false
            ) else (
              (xCP N n x0 (IntKind.i64.wrap (x3 + 1)))
            )
          )
        )
      )
      else none
    ) else (
      Option.bind (xD8 N (List.length x0 : Int) 1 8) fun r1 =>
      some r1
    )
def xGW (N : Nat) (a0 : Str) : Option (Bool) :=
  (xCP N N a0 0)
def xAF (a0 : Str) : List Arg := [.val (.v false [.str a0])]
def xAD (r : Int) : CallO := ⟨.v false [.int .i64 r], [], []⟩
def xEm (N : Nat) (a0 : Str) : Option (Int) :=
  bif ((a0 : Str) == [99, 108, 111, 99, 107]) then (
    some 0
  ) else (
    bif ((a0 : Str) == [108, 101, 110]) then (
      some 1
    ) else (
      bif ((a0 : Str) == [115, 117, 109]) then (
        some 1
      ) else (
        bif ((a0 : Str) == [114, 111, 119, 115]) then (
          some 1
        ) else (
          bif ((a0 : Str) == [99, 104, 97, 110, 99, 101]) then (
            some 1
          ) else (
            bif ((a0 : Str) == [102, 105, 108, 101]) then (
              some 1
            ) else (
              bif ((a0 : Str) == [116, 97, 107, 101]) then (
                some 2
              ) else (
                bif ((a0 : Str) == [115, 107, 105, 112]) then (
                  some 2
                ) else (
                  bif ((a0 : Str) == [114, 97, 110, 103, 101]) then (
                    some 2
                  ) else (
                    bif ((a0 : Str) == [110, 116, 104]) then (
                      some 2
                    ) else (
                      bif ((a0 : Str) == [107, 101, 101, 112]) then (
                        some 2
                      ) else (
                        bif ((a0 : Str) == [99, 111, 108, 117, 109, 110]) then (
                          some 2
                        ) else (
                          bif ((a0 : Str) == [116, 97, 98, 108, 101]) then (
                            some 2
                          ) else (
                            bif ((a0 : Str) == [119, 104, 101, 114, 101]) then (
                              some 3
                            ) else (
                              bif ((a0 : Str) == [103, 114, 111, 117, 112]) then (
                                some 3
                              ) else (
                                bif ((a0 : Str) == [106, 111, 105, 110]) then (
                                  some 3
                                ) else (
                                  bif ((a0 : Str) == [97, 100, 100]) then (
                                    some 4
                                  ) else (
                                    some (-1)
                                  )
                                )
                              )
                            )
                          )
                        )
                      )
                    )
                  )
                )
              )
            )
          )
        )
      )
    )
  )
def xBE (a0 : Str) : List Arg := [.val (.v false [.str a0])]
def xBr (r : Bool) : CallO := ⟨.v false [.bool r], [], []⟩
def xEG (N : Nat) (a0 : Str) : Option (Bool) :=
  bif ((a0 : Str) == [108, 101, 116]) then (
    some true
  ) else (
    bif ((a0 : Str) == [105, 110]) then (
      some true
    ) else (
      bif ((a0 : Str) == [105, 102]) then (
        some true
      ) else (
        bif ((a0 : Str) == [116, 104, 101, 110]) then (
          some true
        ) else (
          bif ((a0 : Str) == [101, 108, 115, 101]) then (
            some true
          ) else (
            bif ((a0 : Str) == [102, 111, 114]) then (
              some true
            ) else (
              bif ((a0 : Str) == [100, 111]) then (
                some true
              ) else (
                Option.bind (xEm N a0) fun r1 =>
                some (decide ((r1 : Int) ≥ 0))
              )
            )
          )
        )
      )
    )
  )
def xDb (a0 : Str) : List Arg := [.val (.v false [.str a0])]
def xCf (r : Bool) : CallO := ⟨.v false [.bool r], [], []⟩
def xEg (N : Nat) (a0 : Str) : Option (Bool) :=
  Option.bind (xGW N a0) fun r1 =>
  bif r1 then (
    Option.bind (xEG N a0) fun r2 =>
    some (!r2)
  ) else (
    some false
  )
def xFs (a0 : List Str) (a1 : Str) : List Arg := [.val (.v false [.sl .ro .str a0]), .val (.v false [.str a1])]
def xCW (r : Int) : CallO := ⟨.v false [.int .i64 r], [], []⟩
def xDs (N : Nat) : Nat → Str → (List Str) → Int → Int → Option (Int)
  | 0, _, _, _, _ => none
  | n + 1, x1, x7, x8, x9 =>
    bif (decide ((x9 : Int) < x8)) then (
      if (0 : Int) ≤ x9 ∧ x9 < (List.length x7) then
      bif (((List.getD x7 (Int.toNat x9) Ty.str.dflt) : Str) == x1) then (
        some x9
      ) else (
        (xDs N n x1 x7 x8 (IntKind.i64.wrap (x9 + 1)))
      )
      else none
    ) else (
      some (-1)
    )
def xGB (N : Nat) (a0 : List Str) (a1 : Str) : Option (Int) :=
  (xDs N N a1 a0 (List.length a0 : Int) 0)
def xER (a0 : List Str) : List Arg := [.val (.v false [.sl .ro .str a0])]
def xCC (r : Bool) : CallO := ⟨.v false [.bool r], [], []⟩
def xCe (N : Nat) : Nat → (List Str) → (List Str) → Int → Int → Option (Bool)
  | 0, _, _, _, _ => none
  | n + 1, x0, x5, x6, x7 =>
    bif (decide ((x7 : Int) < x6)) then (
      if (0 : Int) ≤ x7 ∧ x7 < (List.length x5) then
      Option.bind (xGB N x0 (List.getD x5 (Int.toNat x7) Ty.str.dflt)) fun r1 =>
      bif ((r1 : Int) != x7) then (
        some false
      ) else (
        (xCe N n x0 x5 x6 (IntKind.i64.wrap (x7 + 1)))
      )
      else none
    ) else (
      some true
    )
def xE0 (N : Nat) (a0 : List Str) : Option (Bool) :=
  (xCe N N a0 a0 (List.length a0 : Int) 0)
def xDy (a0 : List Str) : List Arg := [.val (.v false [.sl .ro .str a0])]
def xBs (r : Bool) : CallO := ⟨.v false [.bool r], [], []⟩
def xCX (N : Nat) : Nat → (List Str) → (List Str) → Int → Int → Option (Bool)
  | 0, _, _, _, _ => none
  | n + 1, x0, x5, x6, x7 =>
    bif (decide ((x7 : Int) < x6)) then (
      if (0 : Int) ≤ x7 ∧ x7 < (List.length x5) then
      Option.bind (xEg N (List.getD x5 (Int.toNat x7) Ty.str.dflt)) fun r1 =>
      bif (!r1) then (
        some false
      ) else (
        (xCX N n x0 x5 x6 (IntKind.i64.wrap (x7 + 1)))
      )
      else none
    ) else (
      Option.bind (xD8 N (List.length x0 : Int) 1 4) fun r1 =>
      bif r1 then (
        Option.bind (xE0 N x0) fun r2 =>
        some r2
      ) else (
        some false
      )
    )
def xFt (N : Nat) (a0 : List Str) : Option (Bool) :=
  (xCX N N a0 a0 (List.length a0 : Int) 0)
def xCo (a0 : Org) (a1 : Org) : List Arg := [.val (.v true [.int .i64 (Org.cell a0), .int .i64 (Org.row a0)]), .val (.v true [.int .i64 (Org.cell a1), .int .i64 (Org.row a1)])]
def xBP (r : Bool) : CallO := ⟨.v false [.bool r], [], []⟩
def xEJ (N : Nat) (a0 : Org) (a1 : Org) : Option (Bool) :=
  bif (decide (((Org.cell a0) : Int) < (Org.cell a1))) then (
    some true
  ) else (
    bif (((Org.cell a0) : Int) == (Org.cell a1)) then (
      some (decide (((Org.row a0) : Int) < (Org.row a1)))
    ) else (
      some false
    )
  )
def xD7 (a0 : Val) : List Arg := [.val (.v true [.int .i64 (Val.kind a0), .int .i64 (Val.n a0), .int .i64 (Val.step a0), .str (Val.text a0), .sl .ro .val (Val.list a0), .sl .ro .str (Val.columns a0), .sl .ro .row (Val.rows a0)])]
def xBa (r : Bool) : CallO := ⟨.v false [.bool r], [], []⟩
def xCx (N : Nat) (k4 : (List Rowd) → Int → Int → Val → Option (Bool)) : Nat → (List Rowd) → Int → Int → (List Org) → Int → Int → Val → Rowd → Option (Bool)
  | 0, _, _, _, _, _, _, _, _ => none
  | n + 1, x20, x21, x22, x45, x46, x47, b1, b4 =>
    bif (decide ((x47 : Int) < x46)) then (
      if (0 : Int) ≤ x47 ∧ x47 < (List.length x45) then
      bif (decide (((Org.cell (List.getD x45 (Int.toNat x47) Ty.org.dflt)) : Int) < 0)) then (
        some false
      ) else (
        bif (decide (((Org.row (List.getD x45 (Int.toNat x47) Ty.org.dflt)) : Int) < 0)) then (
          some false
        ) else (
          bif (decide ((x47 : Int) > 0)) then (
            if (0 : Int) ≤ (IntKind.i64.wrap (x47 - 1)) ∧ (IntKind.i64.wrap (x47 - 1)) < (List.length (Rowd.frm b4)) then
            Option.bind (xEJ N (List.getD (Rowd.frm b4) (Int.toNat (IntKind.i64.wrap (x47 - 1))) Ty.org.dflt) (List.getD x45 (Int.toNat x47) Ty.org.dflt)) fun r1 =>
            bif (!r1) then (
              some false
            ) else (
              (xCx N k4 n x20 x21 x22 x45 x46 (IntKind.i64.wrap (x47 + 1)) b1 b4)
            )
            else none
          ) else (
            (xCx N k4 n x20 x21 x22 x45 x46 (IntKind.i64.wrap (x47 + 1)) b1 b4)
          )
        )
      )
      else none
    ) else (
      (k4 x20 x21 (IntKind.i64.wrap (x22 + 1)) b1)
    )
def xDu (N : Nat) (k4 : (List Rowd) → Int → Int → Val → Option (Bool)) : Nat → (List Rowd) → Int → Int → (List Int) → Int → Int → Val → Rowd → Option (Bool)
  | 0, _, _, _, _, _, _, _, _ => none
  | n + 1, x20, x21, x22, x34, x35, x36, b1, b4 =>
    bif (decide ((x36 : Int) < x35)) then (
      if (0 : Int) ≤ x36 ∧ x36 < (List.length x34) then
      Option.bind (xDo N (List.getD x34 (Int.toNat x36) Ty.int.dflt)) fun r1 =>
      bif (!r1) then (
        some false
      ) else (
        (xDu N k4 n x20 x21 x22 x34 x35 (IntKind.i64.wrap (x36 + 1)) b1 b4)
      )
      else none
    ) else (
      (xCx N k4 N x20 x21 x22 (Rowd.frm b4) (List.length (Rowd.frm b4) : Int) 0 b1 b4)
    )
def xDt (N : Nat) : Nat → (List Rowd) → Int → Int → Val → Option (Bool)
  | 0, _, _, _, _ => none
  | n + 1, x20, x21, x22, b1 =>
    bif (decide ((x22 : Int) < x21)) then (
      if (0 : Int) ≤ x22 ∧ x22 < (List.length x20) then
      bif (((List.length (Rowd.cells (List.getD x20 (Int.toNat x22) Ty.row.dflt)) : Int) : Int) != (List.length (Val.columns b1) : Int)) then (
        some false
      ) else (
        (xDu N (fun z0 z1 z2 z3 => (xDt N n z0 z1 z2 z3)) N x20 x21 x22 (Rowd.cells (List.getD x20 (Int.toNat x22) Ty.row.dflt)) (List.length (Rowd.cells (List.getD x20 (Int.toNat x22) Ty.row.dflt)) : Int) 0 b1 (List.getD x20 (Int.toNat x22) Ty.row.dflt))
      )
      else none
    ) else (
      some true
    )
def xFv (N : Nat) (a0 : Val) : Option (Bool) :=
  Option.bind (xFt N (Val.columns a0)) fun r1 =>
  bif (!r1) then (
    some false
  ) else (
    bif (decide (((List.length (Val.rows a0) : Int) : Int) > 12)) then (
      some false
    ) else (
      (xDt N N (Val.rows a0) (List.length (Val.rows a0) : Int) 0 a0)
    )
  )
def xCu (a0 : Val) : List Arg := [.val (.v true [.int .i64 (Val.kind a0), .int .i64 (Val.n a0), .int .i64 (Val.step a0), .str (Val.text a0), .sl .ro .val (Val.list a0), .sl .ro .str (Val.columns a0), .sl .ro .row (Val.rows a0)])]
def xBR (r : Int) : CallO := ⟨.v false [.int .i64 r], [], []⟩
def xD5 (N : Nat) (rc_impl_DepthOf : Val → Option (Int)) : Nat → Int → (List Val) → Int → Int → Option (Int)
  | 0, _, _, _, _ => none
  | n + 1, x3, x7, x8, x9 =>
    bif (decide ((x9 : Int) < x8)) then (
      if (0 : Int) ≤ x9 ∧ x9 < (List.length x7) then
      Option.bind (rc_impl_DepthOf (List.getD x7 (Int.toNat x9) Ty.val.dflt)) fun r1 =>
      (xD5 N rc_impl_DepthOf n (if (r1 : Int) > x3 then r1 else x3) x7 x8 (IntKind.i64.wrap (x9 + 1)))
      else none
    ) else (
      some (IntKind.i64.wrap (x3 + 1))
    )
def xFA (N : Nat) (rc_impl_DepthOf : Val → Option (Int)) (a0 : Val) : Option (Int) :=
  (xD5 N rc_impl_DepthOf N 0 (Val.list a0) (List.length (Val.list a0) : Int) 0)
def xDD (N : Nat) : Nat → Val → Option (Int)
  | 0, _ => none
  | d + 1, a0 => xFA N (xDD N d) a0
def xGA (N : Nat) (a0 : Val) : Option (Int) := xDD N N a0
def xAj (a0 : Val) : List Arg := [.val (.v true [.int .i64 (Val.kind a0), .int .i64 (Val.n a0), .int .i64 (Val.step a0), .str (Val.text a0), .sl .ro .val (Val.list a0), .sl .ro .str (Val.columns a0), .sl .ro .row (Val.rows a0)])]
def xAi (r : Bool) : CallO := ⟨.v false [.bool r], [], []⟩
def xA5 (N : Nat) (rc_impl_IsValidValue : Val → Option (Bool)) : Nat → (List Val) → Int → Int → Val → Option (Bool)
  | 0, _, _, _, _ => none
  | n + 1, x124, x125, x126, b1 =>
    bif (decide ((x126 : Int) < x125)) then (
      if (0 : Int) ≤ x126 ∧ x126 < (List.length x124) then
      bif (((Val.kind (List.getD x124 (Int.toNat x126) Ty.val.dflt)) : Int) != 1) then (
        bif (((Val.kind (List.getD x124 (Int.toNat x126) Ty.val.dflt)) : Int) != 2) then (
          bif (((Val.kind (List.getD x124 (Int.toNat x126) Ty.val.dflt)) : Int) != 3) then (
            some false
          ) else (
            Option.bind (rc_impl_IsValidValue (List.getD x124 (Int.toNat x126) Ty.val.dflt)) fun r1 =>
            bif (!r1) then (
              some false
            ) else (
              (xA5 N rc_impl_IsValidValue n x124 x125 (IntKind.i64.wrap (x126 + 1)) b1)
            )
          )
        ) else (
          Option.bind (rc_impl_IsValidValue (List.getD x124 (Int.toNat x126) Ty.val.dflt)) fun r1 =>
          bif (!r1) then (
            some false
          ) else (
            (xA5 N rc_impl_IsValidValue n x124 x125 (IntKind.i64.wrap (x126 + 1)) b1)
          )
        )
      ) else (
        Option.bind (rc_impl_IsValidValue (List.getD x124 (Int.toNat x126) Ty.val.dflt)) fun r1 =>
        bif (!r1) then (
          some false
        ) else (
          (xA5 N rc_impl_IsValidValue n x124 x125 (IntKind.i64.wrap (x126 + 1)) b1)
        )
      )
      else none
    ) else (
      bif (((Val.n b1) : Int) == 0) then (
        bif (((Val.step b1) : Int) == 0) then (
          bif (((Val.text b1) : Str) == []) then (
            bif (((List.length (Val.columns b1) : Int) : Int) == 0) then (
              bif (((List.length (Val.rows b1) : Int) : Int) == 0) then (
                bif (decide (((List.length (Val.list b1) : Int) : Int) ≤ 8)) then (
                  Option.bind (xGA N b1) fun r1 =>
                  some (decide ((r1 : Int) ≤ 3))
                ) else (
                  some false
                )
              ) else (
                some false
              )
            ) else (
              some false
            )
          ) else (
            some false
          )
        ) else (
          some false
        )
      ) else (
        some false
      )
    )
def xCs (N : Nat) (rc_impl_IsValidValue : Val → Option (Bool)) (a0 : Val) : Option (Bool) :=
  bif (((List.length (Val.list a0) : Int) : Int) == 0) then (
    bif (((List.length (Val.columns a0) : Int) : Int) == 0) then (
      bif (((Val.kind a0) : Int) == 1) then (
        bif (((List.length (Val.rows a0) : Int) : Int) == 0) then (
          bif (((Val.step a0) : Int) == 0) then (
            bif (((Val.text a0) : Str) == []) then (
              Option.bind (xDo N (Val.n a0)) fun r1 =>
              some r1
            ) else (
              some false
            )
          ) else (
            some false
          )
        ) else (
          some false
        )
      ) else (
        bif (((Val.kind a0) : Int) == 2) then (
          bif (((List.length (Val.rows a0) : Int) : Int) == 0) then (
            bif (((Val.n a0) : Int) == 0) then (
              bif (((Val.step a0) : Int) == 0) then (
                Option.bind (xE1 N (Val.text a0)) fun r1 =>
                some r1
              ) else (
                some false
              )
            ) else (
              some false
            )
          ) else (
            some false
          )
        ) else (
          bif (((Val.kind a0) : Int) == 4) then (
            bif (((List.length (Val.rows a0) : Int) : Int) == 0) then (
              bif (((Val.text a0) : Str) == []) then (
                Option.bind (xDo N (Val.n a0)) fun r1 =>
                bif r1 then (
                  Option.bind (xDo N (Val.step a0)) fun r2 =>
                  some r2
                ) else (
                  some false
                )
              ) else (
                some false
              )
            ) else (
              some false
            )
          ) else (
            bif (((Val.kind a0) : Int) == 6) then (
              bif (((List.length (Val.rows a0) : Int) : Int) == 0) then (
                bif (((Val.step a0) : Int) == 0) then (
                  bif (((Val.text a0) : Str) == []) then (
                    Option.bind (xD8 N (Val.n a0) 1 8) fun r1 =>
                    some r1
                  ) else (
                    some false
                  )
                ) else (
                  some false
                )
              ) else (
                some false
              )
            ) else (
              bif (((Val.kind a0) : Int) == 5) then (
                bif (((Val.n a0) : Int) == 0) then (
                  bif (((Val.step a0) : Int) == 0) then (
                    bif (((Val.text a0) : Str) == []) then (
                      Option.bind (xFv N a0) fun r1 =>
                      some r1
                    ) else (
                      some false
                    )
                  ) else (
                    some false
                  )
                ) else (
                  some false
                )
              ) else (
                bif (((Val.kind a0) : Int) == 3) then (
                  (xA5 N rc_impl_IsValidValue N (Val.list a0) (List.length (Val.list a0) : Int) 0 a0)
                ) else (
                  some false
                )
              )
            )
          )
        )
      )
    ) else (
      bif (((Val.kind a0) : Int) == 1) then (
        some false
      ) else (
        bif (((Val.kind a0) : Int) == 2) then (
          some false
        ) else (
          bif (((Val.kind a0) : Int) == 4) then (
            some false
          ) else (
            bif (((Val.kind a0) : Int) == 6) then (
              some false
            ) else (
              bif (((Val.kind a0) : Int) == 5) then (
                bif (((Val.n a0) : Int) == 0) then (
                  bif (((Val.step a0) : Int) == 0) then (
                    bif (((Val.text a0) : Str) == []) then (
                      Option.bind (xFv N a0) fun r1 =>
                      some r1
                    ) else (
                      some false
                    )
                  ) else (
                    some false
                  )
                ) else (
                  some false
                )
              ) else (
                bif (((Val.kind a0) : Int) == 3) then (
                  (xA5 N rc_impl_IsValidValue N (Val.list a0) (List.length (Val.list a0) : Int) 0 a0)
                ) else (
                  some false
                )
              )
            )
          )
        )
      )
    )
  ) else (
    bif (((Val.kind a0) : Int) == 1) then (
      some false
    ) else (
      bif (((Val.kind a0) : Int) == 2) then (
        some false
      ) else (
        bif (((Val.kind a0) : Int) == 4) then (
          some false
        ) else (
          bif (((Val.kind a0) : Int) == 6) then (
            some false
          ) else (
            bif (((Val.kind a0) : Int) == 5) then (
              bif (((Val.n a0) : Int) == 0) then (
                bif (((Val.step a0) : Int) == 0) then (
                  bif (((Val.text a0) : Str) == []) then (
                    some false
                  ) else (
                    some false
                  )
                ) else (
                  some false
                )
              ) else (
                some false
              )
            ) else (
              bif (((Val.kind a0) : Int) == 3) then (
                (xA5 N rc_impl_IsValidValue N (Val.list a0) (List.length (Val.list a0) : Int) 0 a0)
              ) else (
                some false
              )
            )
          )
        )
      )
    )
  )
def xBb (N : Nat) : Nat → Val → Option (Bool)
  | 0, _ => none
  | d + 1, a0 => xCs N (xBb N d) a0
def xGg (N : Nat) (a0 : Val) : Option (Bool) := xBb N N a0
def xAW (a0 : Int) : List Arg := [.val (.v false [.int .i64 a0])]
def xAB (r : Val) : CallO := ⟨.v true [.int .i64 (Val.kind r), .int .i64 (Val.n r), .int .i64 (Val.step r), .str (Val.text r), .sl .own .val (Val.list r), .sl .own .str (Val.columns r), .sl .own .row (Val.rows r)], [], []⟩
def xAZ (N : Nat) (a0 : Int) : Option (Val) :=
  some (Val.mk 6 a0 0 [] [] [] [])
def xBm (a0 : List Val) : List Arg := [.val (.v false [.sl .ro .val a0])]
def xFw (r : Val × Bool × Bool) : CallO := ⟨.tup [(true, [.int .i64 (Val.kind r.1), .int .i64 (Val.n r.1), .int .i64 (Val.step r.1), .str (Val.text r.1), .sl .ro .val (Val.list r.1), .sl .ro .str (Val.columns r.1), .sl .ro .row (Val.rows r.1)]), (false, [.bool r.2.1])], [], []⟩
def xBq (r : Val × Bool × Bool) : CallO := ⟨.tup [(true, [.int .i64 (Val.kind r.1), .int .i64 (Val.n r.1), .int .i64 (Val.step r.1), .str (Val.text r.1), .sl .own .val (Val.list r.1), .sl .own .str (Val.columns r.1), .sl .own .row (Val.rows r.1)]), (false, [.bool r.2.1])], [], []⟩
def xBG (r : Val × Bool × Bool) : CallO := ⟨.tup [(true, [.int .i64 (Val.kind r.1), .int .i64 (Val.n r.1), .int .i64 (Val.step r.1), .str (Val.text r.1), .sl .ro .val [], .sl .ro .str [], .sl .ro .row []]), (false, [.bool r.2.1])], [], []⟩
def xBn (r : Val × Bool × Bool) : CallO := bif r.2.2 then xFw r else xBq r
def xBO (N : Nat) : Nat → (List Val) → Int → Int → Val → Option (Val × Bool × Bool)
  | 0, _, _, _, _ => none
  | n + 1, x6, x7, x8, b2 =>
    bif (decide ((x8 : Int) < x7)) then (
      if (0 : Int) ≤ x8 ∧ x8 < (List.length x6) then
      Option.bind (xGg N (List.getD x6 (Int.toNat x8) Ty.val.dflt)) fun r1 =>
      bif (!r1) then (
        Option.bind (xAZ N 4) fun r2 =>
        some (r2, true, false)
      ) else (
        bif (((Val.kind (List.getD x6 (Int.toNat x8) Ty.val.dflt)) : Int) == 6) then (
          some ((List.getD x6 (Int.toNat x8) Ty.val.dflt), true, true)
        ) else (
          (xBO N n x6 x7 (IntKind.i64.wrap (x8 + 1)) b2)
        )
      )
      else none
    ) else (
      some ((Val.mk 0 0 0 [] [] [] []), false, false)
    )
def xEI (N : Nat) (a0 : List Val) : Option (Val × Bool × Bool) :=
  (xBO N N a0 (List.length a0 : Int) 0 (Val.mk 0 0 0 [] [] [] []))
def xAz (a0 : Val) (a1 : Val) : List Arg := [.val (.v true [.int .i64 (Val.kind a0), .int .i64 (Val.n a0), .int .i64 (Val.step a0), .str (Val.text a0), .sl .ro .val (Val.list a0), .sl .ro .str (Val.columns a0), .sl .ro .row (Val.rows a0)]), .val (.v true [.int .i64 (Val.kind a1), .int .i64 (Val.n a1), .int .i64 (Val.step a1), .str (Val.text a1), .sl .ro .val (Val.list a1), .sl .ro .str (Val.columns a1), .sl .ro .row (Val.rows a1)])]
def xAJ (r : Val × Bool × Bool) : CallO := ⟨.tup [(true, [.int .i64 (Val.kind r.1), .int .i64 (Val.n r.1), .int .i64 (Val.step r.1), .str (Val.text r.1), .sl .ro .val (Val.list r.1), .sl .ro .str (Val.columns r.1), .sl .ro .row (Val.rows r.1)]), (false, [.bool r.2.1])], [], []⟩
def xAE (r : Val × Bool × Bool) : CallO := ⟨.tup [(true, [.int .i64 (Val.kind r.1), .int .i64 (Val.n r.1), .int .i64 (Val.step r.1), .str (Val.text r.1), .sl .own .val (Val.list r.1), .sl .own .str (Val.columns r.1), .sl .own .row (Val.rows r.1)]), (false, [.bool r.2.1])], [], []⟩
def xAX (r : Val × Bool × Bool) : CallO := bif r.2.2 then xAJ r else xAE r
def xCZ (N : Nat) (a0 : Val) (a1 : Val) : Option (Val × Bool × Bool) :=
  Option.bind (xEI N [(Val.re a0), (Val.re a1)]) fun r1 =>
  bif r1.2.2 then (
    if List.isEmpty (Val.list r1.1) = true then
    if List.isEmpty (Val.columns r1.1) = true then
    if List.isEmpty (Val.rows r1.1) = true then
    bif r1.2.1 then (
      some ((Val.mk (Val.kind r1.1) (Val.n r1.1) (Val.step r1.1) (Val.text r1.1) [] [] []), true, true)
    ) else (
      Option.bind (xAZ N 4) fun r2 =>
      bif (((Val.kind a0) : Int) != 1) then (
        some (r2, true, false)
      ) else (
        bif (((Val.kind a1) : Int) != 3) then (
          some (r2, (((Val.kind a1) : Int) != 4), false)
        ) else (
          some (r2, false, false)
        )
      )
    )
    else none
    else none
    else none
  ) else (
    bif r1.2.1 then (
      some (r1.1, true, false)
    ) else (
      Option.bind (xAZ N 4) fun r2 =>
      bif (((Val.kind a0) : Int) != 1) then (
        some (r2, true, false)
      ) else (
        bif (((Val.kind a1) : Int) != 3) then (
          some (r2, (((Val.kind a1) : Int) != 4), false)
        ) else (
          some (r2, false, false)
        )
      )
    )
  )
def xF6 (a0 : Rowd) : List Arg := [.val (.v true [.sl .ro .int (Rowd.cells a0), .sl .ro .org (Rowd.frm a0)])]
def xFu (r : Rowd) : CallO := ⟨.v true [.sl .own .int (Rowd.cells r), .sl .own .org (Rowd.frm r)], [], []⟩
def xGC (N : Nat) (a0 : Rowd) : Option (Rowd) :=
  if 0 + List.length (Rowd.cells a0) ≤ Lim then
  if 0 + List.length (Rowd.frm a0) ≤ Lim then
  some (Rowd.mk ([] ++ (Rowd.cells a0)) ([] ++ (Rowd.frm a0)))
  else none
  else none
def xBi (a0 : Val) : List Arg := [.val (.v true [.int .i64 (Val.kind a0), .int .i64 (Val.n a0), .int .i64 (Val.step a0), .str (Val.text a0), .sl .ro .val (Val.list a0), .sl .ro .str (Val.columns a0), .sl .ro .row (Val.rows a0)])]
def xAY (r : Val) : CallO := ⟨.v true [.int .i64 (Val.kind r), .int .i64 (Val.n r), .int .i64 (Val.step r), .str (Val.text r), .sl .own .val (Val.list r), .sl .own .str (Val.columns r), .sl .own .row (Val.rows r)], [], []⟩
def xCK (N : Nat) (rc_impl_copyValue : Val → Option (Val)) (rc_impl_copyValues : (List Val) → Option ((List Val))) : Nat → (List Rowd) → Int → Int → Val → Val → Option (Val)
  | 0, _, _, _, _, _ => none
  | n + 1, x18, x19, x20, b2, b3 =>
    bif (decide ((x20 : Int) < x19)) then (
      if (0 : Int) ≤ x20 ∧ x20 < (List.length x18) then
      Option.bind (xGC N (List.getD x18 (Int.toNat x20) Ty.row.dflt)) fun r1 =>
      if List.length (Val.rows b3) + List.length [r1] ≤ Lim then
      (xCK N rc_impl_copyValue rc_impl_copyValues n x18 x19 (IntKind.i64.wrap (x20 + 1)) b2 (Val.mk (Val.kind b3) (Val.n b3) (Val.step b3) (Val.text b3) (Val.list b3) (Val.columns b3) ((Val.rows b3) ++ [r1])))
      else none
      else none
    ) else (
      some b3
    )
def xDe (N : Nat) (rc_impl_copyValue : Val → Option (Val)) (rc_impl_copyValues : (List Val) → Option ((List Val))) (a0 : Val) : Option (Val) :=
  Option.bind (rc_impl_copyValues (Val.list a0)) fun r1 =>
  if 0 + List.length (Val.columns a0) ≤ Lim then
  (xCK N rc_impl_copyValue rc_impl_copyValues N (Val.rows a0) (List.length (Val.rows a0) : Int) 0 (Val.mk 0 0 0 [] [] [] []) (Val.mk (Val.kind a0) (Val.n a0) (Val.step a0) (Val.text a0) r1 ([] ++ (Val.columns a0)) []))
  else none
def xBj (a0 : List Val) : List Arg := [.val (.v false [.sl .ro .val a0])]
def xA3 (r : (List Val)) : CallO := ⟨.v false [.sl .own .val r], [], []⟩
def xCY (N : Nat) (rc_impl_copyValue : Val → Option (Val)) (rc_impl_copyValues : (List Val) → Option ((List Val))) : Nat → (List Val) → (List Val) → Int → Int → Option ((List Val))
  | 0, _, _, _, _ => none
  | n + 1, x3, x7, x8, x9 =>
    bif (decide ((x9 : Int) < x8)) then (
      if (0 : Int) ≤ x9 ∧ x9 < (List.length x7) then
      Option.bind (rc_impl_copyValue (List.getD x7 (Int.toNat x9) Ty.val.dflt)) fun r1 =>
      if List.length x3 + List.length [(Val.re r1)] ≤ Lim then
      (xCY N rc_impl_copyValue rc_impl_copyValues n (x3 ++ [(Val.re r1)]) x7 x8 (IntKind.i64.wrap (x9 + 1)))
      else none
      else none
    ) else (
      some x3
    )
def xC4 (N : Nat) (rc_impl_copyValue : Val → Option (Val)) (rc_impl_copyValues : (List Val) → Option ((List Val))) (a0 : List Val) : Option ((List Val)) :=
  (xCY N rc_impl_copyValue rc_impl_copyValues N [] a0 (List.length a0 : Int) 0)
structure impl_copyValue_rec where
  c_impl_copyValue : Val → Option (Val)
  c_impl_copyValues : (List Val) → Option ((List Val))
def xAM (N : Nat) : Nat → impl_copyValue_rec
  | 0 => ⟨fun _ => none, fun _ => none⟩
  | d + 1 => ⟨xDe N (xAM N d).c_impl_copyValue (xAM N d).c_impl_copyValues, xC4 N (xAM N d).c_impl_copyValue (xAM N d).c_impl_copyValues⟩
def xGv (N : Nat) (a0 : Val) : Option (Val) := (xAM N N).c_impl_copyValue a0
def xGV (N : Nat) (a0 : List Val) : Option ((List Val)) := (xAM N N).c_impl_copyValues a0
def xCD (a0 : Int) : List Arg := [.val (.v false [.int .i64 a0])]
def xBw (r : Val) : CallO := ⟨.v true [.int .i64 (Val.kind r), .int .i64 (Val.n r), .int .i64 (Val.step r), .str (Val.text r), .sl .own .val (Val.list r), .sl .own .str (Val.columns r), .sl .own .row (Val.rows r)], [], []⟩
def xDE (N : Nat) (a0 : Int) : Option (Val) :=
  some (Val.mk 1 a0 0 [] [] [] [])
def xCJ (a0 : Int) : List Arg := [.val (.v false [.int .i64 a0])]
def xBY (r : Val) : CallO := ⟨.v true [.int .i64 (Val.kind r), .int .i64 (Val.n r), .int .i64 (Val.step r), .str (Val.text r), .sl .own .val (Val.list r), .sl .own .str (Val.columns r), .sl .own .row (Val.rows r)], [], []⟩
def xCV (N : Nat) (a0 : Int) : Option (Val) :=
  Option.bind (xDo N a0) fun r1 =>
  bif (!r1) then (
    Option.bind (xAZ N 5) fun r2 =>
    some r2
  ) else (
    Option.bind (xDE N a0) fun r2 =>
    some r2
  )
def xB0 (a0 : Val) (a1 : Val) : List Arg := [.val (.v true [.int .i64 (Val.kind a0), .int .i64 (Val.n a0), .int .i64 (Val.step a0), .str (Val.text a0), .sl .ro .val (Val.list a0), .sl .ro .str (Val.columns a0), .sl .ro .row (Val.rows a0)]), .val (.v true [.int .i64 (Val.kind a1), .int .i64 (Val.n a1), .int .i64 (Val.step a1), .str (Val.text a1), .sl .ro .val (Val.list a1), .sl .ro .str (Val.columns a1), .sl .ro .row (Val.rows a1)])]
def xHe (r : Val × Bool) : CallO := ⟨.v true [.int .i64 (Val.kind r.1), .int .i64 (Val.n r.1), .int .i64 (Val.step r.1), .str (Val.text r.1), .sl .ro .val (Val.list r.1), .sl .ro .str (Val.columns r.1), .sl .ro .row (Val.rows r.1)], [], []⟩
def xFc (r : Val × Bool) : CallO := ⟨.v true [.int .i64 (Val.kind r.1), .int .i64 (Val.n r.1), .int .i64 (Val.step r.1), .str (Val.text r.1), .sl .own .val (Val.list r.1), .sl .own .str (Val.columns r.1), .sl .own .row (Val.rows r.1)], [], []⟩
def xHd (r : Val × Bool) : CallO := ⟨.v true [.int .i64 (Val.kind r.1), .int .i64 (Val.n r.1), .int .i64 (Val.step r.1), .str (Val.text r.1), .sl .ro .val [], .sl .ro .str [], .sl .ro .row []], [], []⟩
def xBF (r : Val × Bool) : CallO := bif r.2 then xHe r else xFc r
def xDX (N : Nat) (a0 : Val) (a1 : Val) : Option (Val × Bool) :=
  Option.bind (xCZ N a0 a1) fun r1 =>
  bif r1.2.2 then (
    bif r1.2.1 then (
      some (r1.1, true)
    ) else (
      bif (decide (((Val.n a0) : Int) < 0)) then (
        Option.bind (xAZ N 5) fun r2 =>
        some (r2, false)
      ) else (
        bif (((Val.kind a1) : Int) == 3) then (
          bif (decide (((Val.n a0) : Int) ≥ (List.length (Val.list a1) : Int))) then (
            Option.bind (xAZ N 5) fun r2 =>
            some (r2, false)
          ) else (
            if (0 : Int) ≤ (Val.n a0) ∧ (Val.n a0) < (List.length (Val.list a1)) then
            Option.bind (xGv N (List.getD (Val.list a1) (Int.toNat (Val.n a0)) Ty.val.dflt)) fun r2 =>
            some (r2, false)
            else none
          )
        ) else (
          Option.bind (xCV N (IntKind.i64.wrap ((Val.n a1) + (IntKind.i64.wrap ((Val.n a0) * (Val.step a1)))))) fun r2 =>
          some (r2, false)
        )
      )
    )
  ) else (
    bif r1.2.1 then (
      some (r1.1, false)
    ) else (
      bif (decide (((Val.n a0) : Int) < 0)) then (
        Option.bind (xAZ N 5) fun r2 =>
        some (r2, false)
      ) else (
        bif (((Val.kind a1) : Int) == 3) then (
          bif (decide (((Val.n a0) : Int) ≥ (List.length (Val.list a1) : Int))) then (
            Option.bind (xAZ N 5) fun r2 =>
            some (r2, false)
          ) else (
            if (0 : Int) ≤ (Val.n a0) ∧ (Val.n a0) < (List.length (Val.list a1)) then
            Option.bind (xGv N (List.getD (Val.list a1) (Int.toNat (Val.n a0)) Ty.val.dflt)) fun r2 =>
            some (r2, false)
            else none
          )
        ) else (
          Option.bind (xCV N (IntKind.i64.wrap ((Val.n a1) + (IntKind.i64.wrap ((Val.n a0) * (Val.step a1)))))) fun r2 =>
          some (r2, false)
        )
      )
    )
  )
def xDg (a0 : List Str) (a1 : List Str) : List Arg := [.val (.v false [.sl .ro .str a0]), .val (.v false [.sl .ro .str a1])]
def xBA (r : Bool) : CallO := ⟨.v false [.bool r], [], []⟩
def xDh (N : Nat) : Nat → (List Str) → (List Str) → Int → Option (Bool)
  | 0, _, _, _ => none
  | n + 1, x0, x1, x5 =>
    bif (decide ((x5 : Int) < (List.length x0 : Int))) then (
      if (0 : Int) ≤ x5 ∧ x5 < (List.length x0) then
      if (0 : Int) ≤ x5 ∧ x5 < (List.length x1) then
      bif (!(((List.getD x0 (Int.toNat x5) Ty.str.dflt) : Str) == (List.getD x1 (Int.toNat x5) Ty.str.dflt))) then (
        some false
      ) else (
        (xDh N n x0 x1 (IntKind.i64.wrap (x5 + 1)))
      )
      else none
      else none
    ) else (
      some true
    )
def xFf (N : Nat) (a0 : List Str) (a1 : List Str) : Option (Bool) :=
  bif (((List.length a0 : Int) : Int) != (List.length a1 : Int)) then (
    some false
  ) else (
    (xDh N N a0 a1 0)
  )
def xEw (a0 : List Int) (a1 : List Int) : List Arg := [.val (.v false [.sl .ro .int a0]), .val (.v false [.sl .ro .int a1])]
def xCl (r : Bool) : CallO := ⟨.v false [.bool r], [], []⟩
def xEx (N : Nat) : Nat → (List Int) → (List Int) → Int → Option (Bool)
  | 0, _, _, _ => none
  | n + 1, x0, x1, x5 =>
    bif (decide ((x5 : Int) < (List.length x0 : Int))) then (
      if (0 : Int) ≤ x5 ∧ x5 < (List.length x0) then
      if (0 : Int) ≤ x5 ∧ x5 < (List.length x1) then
      bif (((List.getD x0 (Int.toNat x5) Ty.int.dflt) : Int) != (List.getD x1 (Int.toNat x5) Ty.int.dflt)) then (
        some false
      ) else (
        (xEx N n x0 x1 (IntKind.i64.wrap (x5 + 1)))
      )
      else none
      else none
    ) else (
      some true
    )
def xGh (N : Nat) (a0 : List Int) (a1 : List Int) : Option (Bool) :=
  bif (((List.length a0 : Int) : Int) != (List.length a1 : Int)) then (
    some false
  ) else (
    (xEx N N a0 a1 0)
  )
def xDG (a0 : Org) (a1 : Org) : List Arg := [.val (.v true [.int .i64 (Org.cell a0), .int .i64 (Org.row a0)]), .val (.v true [.int .i64 (Org.cell a1), .int .i64 (Org.row a1)])]
def xCy (r : Bool) : CallO := ⟨.v false [.bool r], [], []⟩
def xFB (N : Nat) (a0 : Org) (a1 : Org) : Option (Bool) :=
  bif (((Org.cell a0) : Int) != (Org.cell a1)) then (
    some false
  ) else (
    bif (((Org.row a0) : Int) != (Org.row a1)) then (
      some false
    ) else (
      some true
    )
  )
def xDY (a0 : List Org) (a1 : List Org) : List Arg := [.val (.v false [.sl .ro .org a0]), .val (.v false [.sl .ro .org a1])]
def xCb (r : Bool) : CallO := ⟨.v false [.bool r], [], []⟩
def xDf (N : Nat) : Nat → (List Org) → (List Org) → Int → Option (Bool)
  | 0, _, _, _ => none
  | n + 1, x0, x1, x5 =>
    bif (decide ((x5 : Int) < (List.length x0 : Int))) then (
      if (0 : Int) ≤ x5 ∧ x5 < (List.length x0) then
      if (0 : Int) ≤ x5 ∧ x5 < (List.length x1) then
      Option.bind (xFB N (List.getD x0 (Int.toNat x5) Ty.org.dflt) (List.getD x1 (Int.toNat x5) Ty.org.dflt)) fun r1 =>
      bif (!r1) then (
        some false
      ) else (
        (xDf N n x0 x1 (IntKind.i64.wrap (x5 + 1)))
      )
      else none
      else none
    ) else (
      some true
    )
def xFd (N : Nat) (a0 : List Org) (a1 : List Org) : Option (Bool) :=
  bif (((List.length a0 : Int) : Int) != (List.length a1 : Int)) then (
    some false
  ) else (
    (xDf N N a0 a1 0)
  )
def xEU (a0 : Rowd) (a1 : Rowd) : List Arg := [.val (.v true [.sl .ro .int (Rowd.cells a0), .sl .ro .org (Rowd.frm a0)]), .val (.v true [.sl .ro .int (Rowd.cells a1), .sl .ro .org (Rowd.frm a1)])]
def xDS (r : Bool) : CallO := ⟨.v false [.bool r], [], []⟩
def xGN (N : Nat) (a0 : Rowd) (a1 : Rowd) : Option (Bool) :=
  Option.bind (xGh N (Rowd.cells a0) (Rowd.cells a1)) fun r1 =>
  bif (!r1) then (
    some false
  ) else (
    Option.bind (xFd N (Rowd.frm a0) (Rowd.frm a1)) fun r2 =>
    bif (!r2) then (
      some false
    ) else (
      some true
    )
  )
def xFe (a0 : List Rowd) (a1 : List Rowd) : List Arg := [.val (.v false [.sl .ro .row a0]), .val (.v false [.sl .ro .row a1])]
def xCR (r : Bool) : CallO := ⟨.v false [.bool r], [], []⟩
def xEy (N : Nat) : Nat → (List Rowd) → (List Rowd) → Int → Option (Bool)
  | 0, _, _, _ => none
  | n + 1, x0, x1, x5 =>
    bif (decide ((x5 : Int) < (List.length x0 : Int))) then (
      if (0 : Int) ≤ x5 ∧ x5 < (List.length x0) then
      if (0 : Int) ≤ x5 ∧ x5 < (List.length x1) then
      Option.bind (xGN N (List.getD x0 (Int.toNat x5) Ty.row.dflt) (List.getD x1 (Int.toNat x5) Ty.row.dflt)) fun r1 =>
      bif (!r1) then (
        some false
      ) else (
        (xEy N n x0 x1 (IntKind.i64.wrap (x5 + 1)))
      )
      else none
      else none
    ) else (
      some true
    )
def xGi (N : Nat) (a0 : List Rowd) (a1 : List Rowd) : Option (Bool) :=
  bif (((List.length a0 : Int) : Int) != (List.length a1 : Int)) then (
    some false
  ) else (
    (xEy N N a0 a1 0)
  )
def xAf (a0 : Val) (a1 : Val) : List Arg := [.val (.v true [.int .i64 (Val.kind a0), .int .i64 (Val.n a0), .int .i64 (Val.step a0), .str (Val.text a0), .sl .ro .val (Val.list a0), .sl .ro .str (Val.columns a0), .sl .ro .row (Val.rows a0)]), .val (.v true [.int .i64 (Val.kind a1), .int .i64 (Val.n a1), .int .i64 (Val.step a1), .str (Val.text a1), .sl .ro .val (Val.list a1), .sl .ro .str (Val.columns a1), .sl .ro .row (Val.rows a1)])]
def xAb (r : Bool) : CallO := ⟨.v false [.bool r], [], []⟩
def xDZ (N : Nat) (rc_laws_eqValue : Val → Val → Option (Bool)) (rc_laws_eqValueS : (List Val) → (List Val) → Option (Bool)) (a0 : Val) (a1 : Val) : Option (Bool) :=
  bif (((Val.kind a0) : Int) != (Val.kind a1)) then (
    some false
  ) else (
    bif (((Val.n a0) : Int) != (Val.n a1)) then (
      some false
    ) else (
      bif (((Val.step a0) : Int) != (Val.step a1)) then (
        some false
      ) else (
        bif (!(((Val.text a0) : Str) == (Val.text a1))) then (
          some false
        ) else (
          Option.bind (rc_laws_eqValueS (Val.list a0) (Val.list a1)) fun r1 =>
          bif (!r1) then (
            some false
          ) else (
            Option.bind (xFf N (Val.columns a0) (Val.columns a1)) fun r2 =>
            bif (!r2) then (
              some false
            ) else (
              Option.bind (xGi N (Val.rows a0) (Val.rows a1)) fun r3 =>
              bif (!r3) then (
                some false
              ) else (
                some true
              )
            )
          )
        )
      )
    )
  )
def xBt (a0 : List Val) (a1 : List Val) : List Arg := [.val (.v false [.sl .ro .val a0]), .val (.v false [.sl .ro .val a1])]
def xAU (r : Bool) : CallO := ⟨.v false [.bool r], [], []⟩
def xDH (N : Nat) (rc_laws_eqValue : Val → Val → Option (Bool)) (rc_laws_eqValueS : (List Val) → (List Val) → Option (Bool)) : Nat → (List Val) → (List Val) → Int → Option (Bool)
  | 0, _, _, _ => none
  | n + 1, x0, x1, x5 =>
    bif (decide ((x5 : Int) < (List.length x0 : Int))) then (
      if (0 : Int) ≤ x5 ∧ x5 < (List.length x0) then
      if (0 : Int) ≤ x5 ∧ x5 < (List.length x1) then
      Option.bind (rc_laws_eqValue (List.getD x0 (Int.toNat x5) Ty.val.dflt) (List.getD x1 (Int.toNat x5) Ty.val.dflt)) fun r1 =>
      bif (!r1) then (
        some false
      ) else (
        (xDH N rc_laws_eqValue rc_laws_eqValueS n x0 x1 (IntKind.i64.wrap (x5 + 1)))
      )
      else none
      else none
    ) else (
      some true
    )
def xDz (N : Nat) (rc_laws_eqValue : Val → Val → Option (Bool)) (rc_laws_eqValueS : (List Val) → (List Val) → Option (Bool)) (a0 : List Val) (a1 : List Val) : Option (Bool) :=
  bif (((List.length a0 : Int) : Int) != (List.length a1 : Int)) then (
    some false
  ) else (
    (xDH N rc_laws_eqValue rc_laws_eqValueS N a0 a1 0)
  )
structure laws_eqValue_rec where
  c_laws_eqValue : Val → Val → Option (Bool)
  c_laws_eqValueS : (List Val) → (List Val) → Option (Bool)
def xBh (N : Nat) : Nat → laws_eqValue_rec
  | 0 => ⟨fun _ _ => none, fun _ _ => none⟩
  | d + 1 => ⟨xDZ N (xBh N d).c_laws_eqValue (xBh N d).c_laws_eqValueS, xDz N (xBh N d).c_laws_eqValue (xBh N d).c_laws_eqValueS⟩
def xA7 (N : Nat) (a0 : Val) (a1 : Val) : Option (Bool) := (xBh N N).c_laws_eqValue a0 a1
def xBB (a0 : Int) : List Arg := [.val (.v false [.int .i64 a0])]
def xAN (r : Str) : CallO := ⟨.v false [.str r], [], []⟩
def xDN (N : Nat) : Nat → Int → Str → Option (Str)
  | 0, _, _ => none
  | n + 1, x0, x3 =>
    bif (decide ((x0 : Int) > 0)) then (
      if List.length (List.map (fun n => UInt8.ofNat (Int.toNat n)) [(IntKind.u8.wrap ((IntKind.i64.wrap (48 + (Int.tmod x0 10)))))]) + List.length x3 ≤ Lim then
      (xDN N n (IntKind.i64.wrap (Int.tdiv x0 10)) ((List.map (fun n => UInt8.ofNat (Int.toNat n)) [(IntKind.u8.wrap ((IntKind.i64.wrap (48 + (Int.tmod x0 10)))))]) ++ x3))
      else none
    ) else (
      if List.length [109] + List.length x3 ≤ Lim then
      some ([109] ++ x3)
      else none
    )
def xDp (N : Nat) (a0 : Int) : Option (Str) :=
  bif (decide ((a0 : Int) ≤ 0)) then (
    some [109, 48]
  ) else (
    (xDN N N a0 [])
  )
def xEq (a0 : List Str) (a1 : Int) : List Arg := [.val (.v false [.sl .ro .str []]), .val (.v false [.int .i64 a1])]
def xCL (r : Int) : CallO := ⟨.v false [.int .i64 r], [], []⟩
def xEr (N : Nat) : Nat → Int → Int → Option (Int)
  | 0, _, _ => none
  | n + 1, x1, x5 =>
    bif (decide ((x5 : Int) < (0 : Int))) then (
      Option.bind (xDp N x1) fun r1 =>
      if (0 : Int) ≤ x5 ∧ x5 < (0) then
      none
      else none
    ) else (
      some x1
    )
def xEp (N : Nat) (a0 : List Str) (a1 : Int) : Option (Int) :=
  (xEr N N a1 0)
def xEa (a0 : List Str) (a1 : Int) : List Arg := [.val (.v false [.sl (.lnt 0) .str a0]), .val (.v false [.int .i64 a1])]
def xCh (r : Int × (List Str)) : CallO := ⟨.v false [.int .i64 r.1], [], [.sl (.lnt 0) .str r.2]⟩
def xCG (N : Nat) : Nat → (List Str) → Int → Int → Option (Int × (List Str))
  | 0, _, _, _ => none
  | n + 1, x0, x1, x5 =>
    bif (decide ((x5 : Int) < (List.length x0 : Int))) then (
      Option.bind (xDp N x1) fun r1 =>
      if (0 : Int) ≤ x5 ∧ x5 < (List.length x0) then
      (xCG N n (List.set x0 (Int.toNat x5) r1) (IntKind.i64.wrap (x1 + 1)) (IntKind.i64.wrap (x5 + 1)))
      else none
    ) else (
      some (x1, x0)
    )
def xEj (N : Nat) (a0 : List Str) (a1 : Int) : Option (Int × (List Str)) :=
  (xCG N N a0 a1 0)
def xFX (a0 : List Int) (a1 : Int) : List Arg := [.val (.v false [.sl (.lnt 0) .int a0]), .val (.v false [.int .i64 a1])]
def xEi (r : Int × (List Int)) : CallO := ⟨.v false [.int .i64 r.1], [], [.sl (.lnt 0) .int r.2]⟩
def xDL (N : Nat) : Nat → (List Int) → Int → Int → Option (Int × (List Int))
  | 0, _, _, _ => none
  | n + 1, x0, x1, x5 =>
    bif (decide ((x5 : Int) < (List.length x0 : Int))) then (
      if (0 : Int) ≤ x5 ∧ x5 < (List.length x0) then
      (xDL N n (List.set x0 (Int.toNat x5) x1) (IntKind.i64.wrap (x1 + 1)) (IntKind.i64.wrap (x5 + 1)))
      else none
    ) else (
      some (x1, x0)
    )
def xF9 (N : Nat) (a0 : List Int) (a1 : Int) : Option (Int × (List Int)) :=
  (xDL N N a0 a1 0)
def xFn (a0 : List Rowd) (a1 : Int) : List Arg := [.val (.v false [.sl .ro .row []]), .val (.v false [.int .i64 a1])]
def xDA (r : Int) : CallO := ⟨.v false [.int .i64 r], [], []⟩
def xFo (N : Nat) : Nat → Int → Int → Option (Int)
  | 0, _, _ => none
  | n + 1, x1, x5 =>
    bif (decide ((x5 : Int) < (0 : Int))) then (
      if (0 : Int) ≤ x5 ∧ x5 < (0) then
      none
      else none
    ) else (
      some x1
    )
def xFx (N : Nat) (a0 : List Rowd) (a1 : Int) : Option (Int) :=
  (xFo N N a1 0)
def xBf (a0 : Val) (a1 : Int) : List Arg := [.val (.v true [.int .i64 (Val.kind a0), .int .i64 (Val.n a0), .int .i64 (Val.step a0), .str (Val.text a0), .sl .ro .val [], .sl .ro .str [], .sl .ro .row []]), .val (.v false [.int .i64 a1])]
def xAI (r : Int) : CallO := ⟨.v false [.int .i64 r], [], []⟩
def xDO (N : Nat) (a0 : Val) (a1 : Int) : Option (Int) :=
  Option.bind (xEK N [] a1) fun r1 =>
  Option.bind (xEp N [] r1) fun r2 =>
  Option.bind (xFx N [] r2) fun r3 =>
  some r3
def xEW (a0 : List Org) (a1 : Int) : List Arg := [.val (.v false [.sl (.lnt 0) .org a0]), .val (.v false [.int .i64 a1])]
def xDk (r : Int × (List Org)) : CallO := ⟨.v false [.int .i64 r.1], [], [.sl (.lnt 0) .org r.2]⟩
def xCF (N : Nat) : Nat → (List Org) → Int → Int → Option (Int × (List Org))
  | 0, _, _, _ => none
  | n + 1, x0, x1, x5 =>
    bif (decide ((x5 : Int) < (List.length x0 : Int))) then (
      if (0 : Int) ≤ x5 ∧ x5 < (List.length x0) then
      if (0 : Int) ≤ x5 ∧ x5 < (List.length (List.set x0 (Int.toNat x5) (Org.mk x1 (Org.row (List.getD x0 (Int.toNat x5) Ty.org.dflt))))) then
      (xCF N n ((fun (z1 : List Org) => List.set z1 (Int.toNat x5) (Org.mk (Org.cell (List.getD z1 (Int.toNat x5) Ty.org.dflt)) (IntKind.i64.wrap (x1 + 1)))) (List.set x0 (Int.toNat x5) (Org.mk x1 (Org.row (List.getD x0 (Int.toNat x5) Ty.org.dflt))))) (IntKind.i64.wrap ((IntKind.i64.wrap (x1 + 1)) + 1)) (IntKind.i64.wrap (x5 + 1)))
      else none
      else none
    ) else (
      some (x1, x0)
    )
def xE3 (N : Nat) (a0 : List Org) (a1 : Int) : Option (Int × (List Org)) :=
  (xCF N N a0 a1 0)
def xE4 (a0 : List Rowd) (a1 : Int) : List Arg := [.val (.v false [.sl (.lnt 0) .row a0]), .val (.v false [.int .i64 a1])]
def xC8 (r : Int × (List Rowd)) : CallO := ⟨.v false [.int .i64 r.1], [], [.sl (.lnt 0) .row r.2]⟩
def xDM (N : Nat) : Nat → (List Rowd) → Int → Int → Option (Int × (List Rowd))
  | 0, _, _, _ => none
  | n + 1, x0, x1, x5 =>
    bif (decide ((x5 : Int) < (List.length x0 : Int))) then (
      if (0 : Int) ≤ x5 ∧ x5 < (List.length x0) then
      Option.bind (xF9 N (Rowd.cells (List.getD x0 (Int.toNat x5) Ty.row.dflt)) x1) fun r1 =>
      if List.length r1.2 = List.length (Rowd.cells (List.getD x0 (Int.toNat x5) Ty.row.dflt)) then
      if (0 : Int) ≤ x5 ∧ x5 < (List.length (List.set x0 (Int.toNat x5) (Rowd.mk r1.2 (Rowd.frm (List.getD x0 (Int.toNat x5) Ty.row.dflt))))) then
      Option.bind (xE3 N (Rowd.frm (List.getD (List.set x0 (Int.toNat x5) (Rowd.mk r1.2 (Rowd.frm (List.getD x0 (Int.toNat x5) Ty.row.dflt)))) (Int.toNat x5) Ty.row.dflt)) r1.1) fun r2 =>
      if List.length r2.2 = List.length (Rowd.frm (List.getD (List.set x0 (Int.toNat x5) (Rowd.mk r1.2 (Rowd.frm (List.getD x0 (Int.toNat x5) Ty.row.dflt)))) (Int.toNat x5) Ty.row.dflt)) then
      (xDM N n ((fun (z1 : List Rowd) => List.set z1 (Int.toNat x5) (Rowd.mk (Rowd.cells (List.getD z1 (Int.toNat x5) Ty.row.dflt)) r2.2)) (List.set x0 (Int.toNat x5) (Rowd.mk r1.2 (Rowd.frm (List.getD x0 (Int.toNat x5) Ty.row.dflt))))) r2.1 (IntKind.i64.wrap (x5 + 1)))
      else none
      else none
      else none
      else none
    ) else (
      some (x1, x0)
    )
def xFC (N : Nat) (a0 : List Rowd) (a1 : Int) : Option (Int × (List Rowd)) :=
  (xDM N N a0 a1 0)
def xBX (a0 : List Val) (a1 : Int) : List Arg := [.val (.v false [.sl (.lnt 0) .val a0]), .val (.v false [.int .i64 a1])]
def xBk (r : Int × (List Val)) : CallO := ⟨.v false [.int .i64 r.1], [], [.sl (.lnt 0) .val r.2]⟩
def xC0 (N : Nat) (rc_laws_markValueS : (List Val) → Int → Option (Int × (List Val))) : Nat → (List Val) → Int → Int → Option (Int × (List Val))
  | 0, _, _, _ => none
  | n + 1, x0, x1, x5 =>
    bif (decide ((x5 : Int) < (List.length x0 : Int))) then (
      if (0 : Int) ≤ x5 ∧ x5 < (List.length x0) then
      if (0 : Int) ≤ x5 ∧ x5 < (List.length (List.set x0 (Int.toNat x5) (Val.mk x1 (Val.n (List.getD x0 (Int.toNat x5) Ty.val.dflt)) (Val.step (List.getD x0 (Int.toNat x5) Ty.val.dflt)) (Val.text (List.getD x0 (Int.toNat x5) Ty.val.dflt)) (Val.list (List.getD x0 (Int.toNat x5) Ty.val.dflt)) (Val.columns (List.getD x0 (Int.toNat x5) Ty.val.dflt)) (Val.rows (List.getD x0 (Int.toNat x5) Ty.val.dflt))))) then
      if (0 : Int) ≤ x5 ∧ x5 < (List.length ((fun (z40 : List Val) => List.set z40 (Int.toNat x5) (Val.mk (Val.kind (List.getD z40 (Int.toNat x5) Ty.val.dflt)) (IntKind.i64.wrap (x1 + 1)) (Val.step (List.getD z40 (Int.toNat x5) Ty.val.dflt)) (Val.text (List.getD z40 (Int.toNat x5) Ty.val.dflt)) (Val.list (List.getD z40 (Int.toNat x5) Ty.val.dflt)) (Val.columns (List.getD z40 (Int.toNat x5) Ty.val.dflt)) (Val.rows (List.getD z40 (Int.toNat x5) Ty.val.dflt)))) (List.set x0 (Int.toNat x5) (Val.mk x1 (Val.n (List.getD x0 (Int.toNat x5) Ty.val.dflt)) (Val.step (List.getD x0 (Int.toNat x5) Ty.val.dflt)) (Val.text (List.getD x0 (Int.toNat x5) Ty.val.dflt)) (Val.list (List.getD x0 (Int.toNat x5) Ty.val.dflt)) (Val.columns (List.getD x0 (Int.toNat x5) Ty.val.dflt)) (Val.rows (List.getD x0 (Int.toNat x5) Ty.val.dflt)))))) then
      Option.bind (xDp N (IntKind.i64.wrap ((IntKind.i64.wrap ((IntKind.i64.wrap (x1 + 1)) + 1)) + 1))) fun r1 =>
      if (0 : Int) ≤ x5 ∧ x5 < (List.length ((fun (z41 : List Val) => List.set z41 (Int.toNat x5) (Val.mk (Val.kind (List.getD z41 (Int.toNat x5) Ty.val.dflt)) (Val.n (List.getD z41 (Int.toNat x5) Ty.val.dflt)) (IntKind.i64.wrap ((IntKind.i64.wrap (x1 + 1)) + 1)) (Val.text (List.getD z41 (Int.toNat x5) Ty.val.dflt)) (Val.list (List.getD z41 (Int.toNat x5) Ty.val.dflt)) (Val.columns (List.getD z41 (Int.toNat x5) Ty.val.dflt)) (Val.rows (List.getD z41 (Int.toNat x5) Ty.val.dflt)))) ((fun (z40 : List Val) => List.set z40 (Int.toNat x5) (Val.mk (Val.kind (List.getD z40 (Int.toNat x5) Ty.val.dflt)) (IntKind.i64.wrap (x1 + 1)) (Val.step (List.getD z40 (Int.toNat x5) Ty.val.dflt)) (Val.text (List.getD z40 (Int.toNat x5) Ty.val.dflt)) (Val.list (List.getD z40 (Int.toNat x5) Ty.val.dflt)) (Val.columns (List.getD z40 (Int.toNat x5) Ty.val.dflt)) (Val.rows (List.getD z40 (Int.toNat x5) Ty.val.dflt)))) (List.set x0 (Int.toNat x5) (Val.mk x1 (Val.n (List.getD x0 (Int.toNat x5) Ty.val.dflt)) (Val.step (List.getD x0 (Int.toNat x5) Ty.val.dflt)) (Val.text (List.getD x0 (Int.toNat x5) Ty.val.dflt)) (Val.list (List.getD x0 (Int.toNat x5) Ty.val.dflt)) (Val.columns (List.getD x0 (Int.toNat x5) Ty.val.dflt)) (Val.rows (List.getD x0 (Int.toNat x5) Ty.val.dflt))))))) then
      if (0 : Int) ≤ x5 ∧ x5 < (List.length ((fun (z42 : List Val) => List.set z42 (Int.toNat x5) (Val.mk (Val.kind (List.getD z42 (Int.toNat x5) Ty.val.dflt)) (Val.n (List.getD z42 (Int.toNat x5) Ty.val.dflt)) (Val.step (List.getD z42 (Int.toNat x5) Ty.val.dflt)) r1 (Val.list (List.getD z42 (Int.toNat x5) Ty.val.dflt)) (Val.columns (List.getD z42 (Int.toNat x5) Ty.val.dflt)) (Val.rows (List.getD z42 (Int.toNat x5) Ty.val.dflt)))) ((fun (z41 : List Val) => List.set z41 (Int.toNat x5) (Val.mk (Val.kind (List.getD z41 (Int.toNat x5) Ty.val.dflt)) (Val.n (List.getD z41 (Int.toNat x5) Ty.val.dflt)) (IntKind.i64.wrap ((IntKind.i64.wrap (x1 + 1)) + 1)) (Val.text (List.getD z41 (Int.toNat x5) Ty.val.dflt)) (Val.list (List.getD z41 (Int.toNat x5) Ty.val.dflt)) (Val.columns (List.getD z41 (Int.toNat x5) Ty.val.dflt)) (Val.rows (List.getD z41 (Int.toNat x5) Ty.val.dflt)))) ((fun (z40 : List Val) => List.set z40 (Int.toNat x5) (Val.mk (Val.kind (List.getD z40 (Int.toNat x5) Ty.val.dflt)) (IntKind.i64.wrap (x1 + 1)) (Val.step (List.getD z40 (Int.toNat x5) Ty.val.dflt)) (Val.text (List.getD z40 (Int.toNat x5) Ty.val.dflt)) (Val.list (List.getD z40 (Int.toNat x5) Ty.val.dflt)) (Val.columns (List.getD z40 (Int.toNat x5) Ty.val.dflt)) (Val.rows (List.getD z40 (Int.toNat x5) Ty.val.dflt)))) (List.set x0 (Int.toNat x5) (Val.mk x1 (Val.n (List.getD x0 (Int.toNat x5) Ty.val.dflt)) (Val.step (List.getD x0 (Int.toNat x5) Ty.val.dflt)) (Val.text (List.getD x0 (Int.toNat x5) Ty.val.dflt)) (Val.list (List.getD x0 (Int.toNat x5) Ty.val.dflt)) (Val.columns (List.getD x0 (Int.toNat x5) Ty.val.dflt)) (Val.rows (List.getD x0 (Int.toNat x5) Ty.val.dflt)))))))) then
      Option.bind (rc_laws_markValueS (Val.list (List.getD ((fun (z42 : List Val) => List.set z42 (Int.toNat x5) (Val.mk (Val.kind (List.getD z42 (Int.toNat x5) Ty.val.dflt)) (Val.n (List.getD z42 (Int.toNat x5) Ty.val.dflt)) (Val.step (List.getD z42 (Int.toNat x5) Ty.val.dflt)) r1 (Val.list (List.getD z42 (Int.toNat x5) Ty.val.dflt)) (Val.columns (List.getD z42 (Int.toNat x5) Ty.val.dflt)) (Val.rows (List.getD z42 (Int.toNat x5) Ty.val.dflt)))) ((fun (z41 : List Val) => List.set z41 (Int.toNat x5) (Val.mk (Val.kind (List.getD z41 (Int.toNat x5) Ty.val.dflt)) (Val.n (List.getD z41 (Int.toNat x5) Ty.val.dflt)) (IntKind.i64.wrap ((IntKind.i64.wrap (x1 + 1)) + 1)) (Val.text (List.getD z41 (Int.toNat x5) Ty.val.dflt)) (Val.list (List.getD z41 (Int.toNat x5) Ty.val.dflt)) (Val.columns (List.getD z41 (Int.toNat x5) Ty.val.dflt)) (Val.rows (List.getD z41 (Int.toNat x5) Ty.val.dflt)))) ((fun (z40 : List Val) => List.set z40 (Int.toNat x5) (Val.mk (Val.kind (List.getD z40 (Int.toNat x5) Ty.val.dflt)) (IntKind.i64.wrap (x1 + 1)) (Val.step (List.getD z40 (Int.toNat x5) Ty.val.dflt)) (Val.text (List.getD z40 (Int.toNat x5) Ty.val.dflt)) (Val.list (List.getD z40 (Int.toNat x5) Ty.val.dflt)) (Val.columns (List.getD z40 (Int.toNat x5) Ty.val.dflt)) (Val.rows (List.getD z40 (Int.toNat x5) Ty.val.dflt)))) (List.set x0 (Int.toNat x5) (Val.mk x1 (Val.n (List.getD x0 (Int.toNat x5) Ty.val.dflt)) (Val.step (List.getD x0 (Int.toNat x5) Ty.val.dflt)) (Val.text (List.getD x0 (Int.toNat x5) Ty.val.dflt)) (Val.list (List.getD x0 (Int.toNat x5) Ty.val.dflt)) (Val.columns (List.getD x0 (Int.toNat x5) Ty.val.dflt)) (Val.rows (List.getD x0 (Int.toNat x5) Ty.val.dflt))))))) (Int.toNat x5) Ty.val.dflt)) (IntKind.i64.wrap ((IntKind.i64.wrap ((IntKind.i64.wrap ((IntKind.i64.wrap (x1 + 1)) + 1)) + 1)) + 1))) fun r2 =>
      if List.length r2.2 = List.length (Val.list (List.getD ((fun (z42 : List Val) => List.set z42 (Int.toNat x5) (Val.mk (Val.kind (List.getD z42 (Int.toNat x5) Ty.val.dflt)) (Val.n (List.getD z42 (Int.toNat x5) Ty.val.dflt)) (Val.step (List.getD z42 (Int.toNat x5) Ty.val.dflt)) r1 (Val.list (List.getD z42 (Int.toNat x5) Ty.val.dflt)) (Val.columns (List.getD z42 (Int.toNat x5) Ty.val.dflt)) (Val.rows (List.getD z42 (Int.toNat x5) Ty.val.dflt)))) ((fun (z41 : List Val) => List.set z41 (Int.toNat x5) (Val.mk (Val.kind (List.getD z41 (Int.toNat x5) Ty.val.dflt)) (Val.n (List.getD z41 (Int.toNat x5) Ty.val.dflt)) (IntKind.i64.wrap ((IntKind.i64.wrap (x1 + 1)) + 1)) (Val.text (List.getD z41 (Int.toNat x5) Ty.val.dflt)) (Val.list (List.getD z41 (Int.toNat x5) Ty.val.dflt)) (Val.columns (List.getD z41 (Int.toNat x5) Ty.val.dflt)) (Val.rows (List.getD z41 (Int.toNat x5) Ty.val.dflt)))) ((fun (z40 : List Val) => List.set z40 (Int.toNat x5) (Val.mk (Val.kind (List.getD z40 (Int.toNat x5) Ty.val.dflt)) (IntKind.i64.wrap (x1 + 1)) (Val.step (List.getD z40 (Int.toNat x5) Ty.val.dflt)) (Val.text (List.getD z40 (Int.toNat x5) Ty.val.dflt)) (Val.list (List.getD z40 (Int.toNat x5) Ty.val.dflt)) (Val.columns (List.getD z40 (Int.toNat x5) Ty.val.dflt)) (Val.rows (List.getD z40 (Int.toNat x5) Ty.val.dflt)))) (List.set x0 (Int.toNat x5) (Val.mk x1 (Val.n (List.getD x0 (Int.toNat x5) Ty.val.dflt)) (Val.step (List.getD x0 (Int.toNat x5) Ty.val.dflt)) (Val.text (List.getD x0 (Int.toNat x5) Ty.val.dflt)) (Val.list (List.getD x0 (Int.toNat x5) Ty.val.dflt)) (Val.columns (List.getD x0 (Int.toNat x5) Ty.val.dflt)) (Val.rows (List.getD x0 (Int.toNat x5) Ty.val.dflt))))))) (Int.toNat x5) Ty.val.dflt)) then
      if (0 : Int) ≤ x5 ∧ x5 < (List.length ((fun (z43 : List Val) => List.set z43 (Int.toNat x5) (Val.mk (Val.kind (List.getD z43 (Int.toNat x5) Ty.val.dflt)) (Val.n (List.getD z43 (Int.toNat x5) Ty.val.dflt)) (Val.step (List.getD z43 (Int.toNat x5) Ty.val.dflt)) (Val.text (List.getD z43 (Int.toNat x5) Ty.val.dflt)) r2.2 (Val.columns (List.getD z43 (Int.toNat x5) Ty.val.dflt)) (Val.rows (List.getD z43 (Int.toNat x5) Ty.val.dflt)))) ((fun (z42 : List Val) => List.set z42 (Int.toNat x5) (Val.mk (Val.kind (List.getD z42 (Int.toNat x5) Ty.val.dflt)) (Val.n (List.getD z42 (Int.toNat x5) Ty.val.dflt)) (Val.step (List.getD z42 (Int.toNat x5) Ty.val.dflt)) r1 (Val.list (List.getD z42 (Int.toNat x5) Ty.val.dflt)) (Val.columns (List.getD z42 (Int.toNat x5) Ty.val.dflt)) (Val.rows (List.getD z42 (Int.toNat x5) Ty.val.dflt)))) ((fun (z41 : List Val) => List.set z41 (Int.toNat x5) (Val.mk (Val.kind (List.getD z41 (Int.toNat x5) Ty.val.dflt)) (Val.n (List.getD z41 (Int.toNat x5) Ty.val.dflt)) (IntKind.i64.wrap ((IntKind.i64.wrap (x1 + 1)) + 1)) (Val.text (List.getD z41 (Int.toNat x5) Ty.val.dflt)) (Val.list (List.getD z41 (Int.toNat x5) Ty.val.dflt)) (Val.columns (List.getD z41 (Int.toNat x5) Ty.val.dflt)) (Val.rows (List.getD z41 (Int.toNat x5) Ty.val.dflt)))) ((fun (z40 : List Val) => List.set z40 (Int.toNat x5) (Val.mk (Val.kind (List.getD z40 (Int.toNat x5) Ty.val.dflt)) (IntKind.i64.wrap (x1 + 1)) (Val.step (List.getD z40 (Int.toNat x5) Ty.val.dflt)) (Val.text (List.getD z40 (Int.toNat x5) Ty.val.dflt)) (Val.list (List.getD z40 (Int.toNat x5) Ty.val.dflt)) (Val.columns (List.getD z40 (Int.toNat x5) Ty.val.dflt)) (Val.rows (List.getD z40 (Int.toNat x5) Ty.val.dflt)))) (List.set x0 (Int.toNat x5) (Val.mk x1 (Val.n (List.getD x0 (Int.toNat x5) Ty.val.dflt)) (Val.step (List.getD x0 (Int.toNat x5) Ty.val.dflt)) (Val.text (List.getD x0 (Int.toNat x5) Ty.val.dflt)) (Val.list (List.getD x0 (Int.toNat x5) Ty.val.dflt)) (Val.columns (List.getD x0 (Int.toNat x5) Ty.val.dflt)) (Val.rows (List.getD x0 (Int.toNat x5) Ty.val.dflt))))))))) then
      Option.bind (xEj N (Val.columns (List.getD ((fun (z43 : List Val) => List.set z43 (Int.toNat x5) (Val.mk (Val.kind (List.getD z43 (Int.toNat x5) Ty.val.dflt)) (Val.n (List.getD z43 (Int.toNat x5) Ty.val.dflt)) (Val.step (List.getD z43 (Int.toNat x5) Ty.val.dflt)) (Val.text (List.getD z43 (Int.toNat x5) Ty.val.dflt)) r2.2 (Val.columns (List.getD z43 (Int.toNat x5) Ty.val.dflt)) (Val.rows (List.getD z43 (Int.toNat x5) Ty.val.dflt)))) ((fun (z42 : List Val) => List.set z42 (Int.toNat x5) (Val.mk (Val.kind (List.getD z42 (Int.toNat x5) Ty.val.dflt)) (Val.n (List.getD z42 (Int.toNat x5) Ty.val.dflt)) (Val.step (List.getD z42 (Int.toNat x5) Ty.val.dflt)) r1 (Val.list (List.getD z42 (Int.toNat x5) Ty.val.dflt)) (Val.columns (List.getD z42 (Int.toNat x5) Ty.val.dflt)) (Val.rows (List.getD z42 (Int.toNat x5) Ty.val.dflt)))) ((fun (z41 : List Val) => List.set z41 (Int.toNat x5) (Val.mk (Val.kind (List.getD z41 (Int.toNat x5) Ty.val.dflt)) (Val.n (List.getD z41 (Int.toNat x5) Ty.val.dflt)) (IntKind.i64.wrap ((IntKind.i64.wrap (x1 + 1)) + 1)) (Val.text (List.getD z41 (Int.toNat x5) Ty.val.dflt)) (Val.list (List.getD z41 (Int.toNat x5) Ty.val.dflt)) (Val.columns (List.getD z41 (Int.toNat x5) Ty.val.dflt)) (Val.rows (List.getD z41 (Int.toNat x5) Ty.val.dflt)))) ((fun (z40 : List Val) => List.set z40 (Int.toNat x5) (Val.mk (Val.kind (List.getD z40 (Int.toNat x5) Ty.val.dflt)) (IntKind.i64.wrap (x1 + 1)) (Val.step (List.getD z40 (Int.toNat x5) Ty.val.dflt)) (Val.text (List.getD z40 (Int.toNat x5) Ty.val.dflt)) (Val.list (List.getD z40 (Int.toNat x5) Ty.val.dflt)) (Val.columns (List.getD z40 (Int.toNat x5) Ty.val.dflt)) (Val.rows (List.getD z40 (Int.toNat x5) Ty.val.dflt)))) (List.set x0 (Int.toNat x5) (Val.mk x1 (Val.n (List.getD x0 (Int.toNat x5) Ty.val.dflt)) (Val.step (List.getD x0 (Int.toNat x5) Ty.val.dflt)) (Val.text (List.getD x0 (Int.toNat x5) Ty.val.dflt)) (Val.list (List.getD x0 (Int.toNat x5) Ty.val.dflt)) (Val.columns (List.getD x0 (Int.toNat x5) Ty.val.dflt)) (Val.rows (List.getD x0 (Int.toNat x5) Ty.val.dflt)))))))) (Int.toNat x5) Ty.val.dflt)) r2.1) fun r3 =>
      if List.length r3.2 = List.length (Val.columns (List.getD ((fun (z43 : List Val) => List.set z43 (Int.toNat x5) (Val.mk (Val.kind (List.getD z43 (Int.toNat x5) Ty.val.dflt)) (Val.n (List.getD z43 (Int.toNat x5) Ty.val.dflt)) (Val.step (List.getD z43 (Int.toNat x5) Ty.val.dflt)) (Val.text (List.getD z43 (Int.toNat x5) Ty.val.dflt)) r2.2 (Val.columns (List.getD z43 (Int.toNat x5) Ty.val.dflt)) (Val.rows (List.getD z43 (Int.toNat x5) Ty.val.dflt)))) ((fun (z42 : List Val) => List.set z42 (Int.toNat x5) (Val.mk (Val.kind (List.getD z42 (Int.toNat x5) Ty.val.dflt)) (Val.n (List.getD z42 (Int.toNat x5) Ty.val.dflt)) (Val.step (List.getD z42 (Int.toNat x5) Ty.val.dflt)) r1 (Val.list (List.getD z42 (Int.toNat x5) Ty.val.dflt)) (Val.columns (List.getD z42 (Int.toNat x5) Ty.val.dflt)) (Val.rows (List.getD z42 (Int.toNat x5) Ty.val.dflt)))) ((fun (z41 : List Val) => List.set z41 (Int.toNat x5) (Val.mk (Val.kind (List.getD z41 (Int.toNat x5) Ty.val.dflt)) (Val.n (List.getD z41 (Int.toNat x5) Ty.val.dflt)) (IntKind.i64.wrap ((IntKind.i64.wrap (x1 + 1)) + 1)) (Val.text (List.getD z41 (Int.toNat x5) Ty.val.dflt)) (Val.list (List.getD z41 (Int.toNat x5) Ty.val.dflt)) (Val.columns (List.getD z41 (Int.toNat x5) Ty.val.dflt)) (Val.rows (List.getD z41 (Int.toNat x5) Ty.val.dflt)))) ((fun (z40 : List Val) => List.set z40 (Int.toNat x5) (Val.mk (Val.kind (List.getD z40 (Int.toNat x5) Ty.val.dflt)) (IntKind.i64.wrap (x1 + 1)) (Val.step (List.getD z40 (Int.toNat x5) Ty.val.dflt)) (Val.text (List.getD z40 (Int.toNat x5) Ty.val.dflt)) (Val.list (List.getD z40 (Int.toNat x5) Ty.val.dflt)) (Val.columns (List.getD z40 (Int.toNat x5) Ty.val.dflt)) (Val.rows (List.getD z40 (Int.toNat x5) Ty.val.dflt)))) (List.set x0 (Int.toNat x5) (Val.mk x1 (Val.n (List.getD x0 (Int.toNat x5) Ty.val.dflt)) (Val.step (List.getD x0 (Int.toNat x5) Ty.val.dflt)) (Val.text (List.getD x0 (Int.toNat x5) Ty.val.dflt)) (Val.list (List.getD x0 (Int.toNat x5) Ty.val.dflt)) (Val.columns (List.getD x0 (Int.toNat x5) Ty.val.dflt)) (Val.rows (List.getD x0 (Int.toNat x5) Ty.val.dflt)))))))) (Int.toNat x5) Ty.val.dflt)) then
      if (0 : Int) ≤ x5 ∧ x5 < (List.length ((fun (z44 : List Val) => List.set z44 (Int.toNat x5) (Val.mk (Val.kind (List.getD z44 (Int.toNat x5) Ty.val.dflt)) (Val.n (List.getD z44 (Int.toNat x5) Ty.val.dflt)) (Val.step (List.getD z44 (Int.toNat x5) Ty.val.dflt)) (Val.text (List.getD z44 (Int.toNat x5) Ty.val.dflt)) (Val.list (List.getD z44 (Int.toNat x5) Ty.val.dflt)) r3.2 (Val.rows (List.getD z44 (Int.toNat x5) Ty.val.dflt)))) ((fun (z43 : List Val) => List.set z43 (Int.toNat x5) (Val.mk (Val.kind (List.getD z43 (Int.toNat x5) Ty.val.dflt)) (Val.n (List.getD z43 (Int.toNat x5) Ty.val.dflt)) (Val.step (List.getD z43 (Int.toNat x5) Ty.val.dflt)) (Val.text (List.getD z43 (Int.toNat x5) Ty.val.dflt)) r2.2 (Val.columns (List.getD z43 (Int.toNat x5) Ty.val.dflt)) (Val.rows (List.getD z43 (Int.toNat x5) Ty.val.dflt)))) ((fun (z42 : List Val) => List.set z42 (Int.toNat x5) (Val.mk (Val.kind (List.getD z42 (Int.toNat x5) Ty.val.dflt)) (Val.n (List.getD z42 (Int.toNat x5) Ty.val.dflt)) (Val.step (List.getD z42 (Int.toNat x5) Ty.val.dflt)) r1 (Val.list (List.getD z42 (Int.toNat x5) Ty.val.dflt)) (Val.columns (List.getD z42 (Int.toNat x5) Ty.val.dflt)) (Val.rows (List.getD z42 (Int.toNat x5) Ty.val.dflt)))) ((fun (z41 : List Val) => List.set z41 (Int.toNat x5) (Val.mk (Val.kind (List.getD z41 (Int.toNat x5) Ty.val.dflt)) (Val.n (List.getD z41 (Int.toNat x5) Ty.val.dflt)) (IntKind.i64.wrap ((IntKind.i64.wrap (x1 + 1)) + 1)) (Val.text (List.getD z41 (Int.toNat x5) Ty.val.dflt)) (Val.list (List.getD z41 (Int.toNat x5) Ty.val.dflt)) (Val.columns (List.getD z41 (Int.toNat x5) Ty.val.dflt)) (Val.rows (List.getD z41 (Int.toNat x5) Ty.val.dflt)))) ((fun (z40 : List Val) => List.set z40 (Int.toNat x5) (Val.mk (Val.kind (List.getD z40 (Int.toNat x5) Ty.val.dflt)) (IntKind.i64.wrap (x1 + 1)) (Val.step (List.getD z40 (Int.toNat x5) Ty.val.dflt)) (Val.text (List.getD z40 (Int.toNat x5) Ty.val.dflt)) (Val.list (List.getD z40 (Int.toNat x5) Ty.val.dflt)) (Val.columns (List.getD z40 (Int.toNat x5) Ty.val.dflt)) (Val.rows (List.getD z40 (Int.toNat x5) Ty.val.dflt)))) (List.set x0 (Int.toNat x5) (Val.mk x1 (Val.n (List.getD x0 (Int.toNat x5) Ty.val.dflt)) (Val.step (List.getD x0 (Int.toNat x5) Ty.val.dflt)) (Val.text (List.getD x0 (Int.toNat x5) Ty.val.dflt)) (Val.list (List.getD x0 (Int.toNat x5) Ty.val.dflt)) (Val.columns (List.getD x0 (Int.toNat x5) Ty.val.dflt)) (Val.rows (List.getD x0 (Int.toNat x5) Ty.val.dflt)))))))))) then
      Option.bind (xFC N (Val.rows (List.getD ((fun (z44 : List Val) => List.set z44 (Int.toNat x5) (Val.mk (Val.kind (List.getD z44 (Int.toNat x5) Ty.val.dflt)) (Val.n (List.getD z44 (Int.toNat x5) Ty.val.dflt)) (Val.step (List.getD z44 (Int.toNat x5) Ty.val.dflt)) (Val.text (List.getD z44 (Int.toNat x5) Ty.val.dflt)) (Val.list (List.getD z44 (Int.toNat x5) Ty.val.dflt)) r3.2 (Val.rows (List.getD z44 (Int.toNat x5) Ty.val.dflt)))) ((fun (z43 : List Val) => List.set z43 (Int.toNat x5) (Val.mk (Val.kind (List.getD z43 (Int.toNat x5) Ty.val.dflt)) (Val.n (List.getD z43 (Int.toNat x5) Ty.val.dflt)) (Val.step (List.getD z43 (Int.toNat x5) Ty.val.dflt)) (Val.text (List.getD z43 (Int.toNat x5) Ty.val.dflt)) r2.2 (Val.columns (List.getD z43 (Int.toNat x5) Ty.val.dflt)) (Val.rows (List.getD z43 (Int.toNat x5) Ty.val.dflt)))) ((fun (z42 : List Val) => List.set z42 (Int.toNat x5) (Val.mk (Val.kind (List.getD z42 (Int.toNat x5) Ty.val.dflt)) (Val.n (List.getD z42 (Int.toNat x5) Ty.val.dflt)) (Val.step (List.getD z42 (Int.toNat x5) Ty.val.dflt)) r1 (Val.list (List.getD z42 (Int.toNat x5) Ty.val.dflt)) (Val.columns (List.getD z42 (Int.toNat x5) Ty.val.dflt)) (Val.rows (List.getD z42 (Int.toNat x5) Ty.val.dflt)))) ((fun (z41 : List Val) => List.set z41 (Int.toNat x5) (Val.mk (Val.kind (List.getD z41 (Int.toNat x5) Ty.val.dflt)) (Val.n (List.getD z41 (Int.toNat x5) Ty.val.dflt)) (IntKind.i64.wrap ((IntKind.i64.wrap (x1 + 1)) + 1)) (Val.text (List.getD z41 (Int.toNat x5) Ty.val.dflt)) (Val.list (List.getD z41 (Int.toNat x5) Ty.val.dflt)) (Val.columns (List.getD z41 (Int.toNat x5) Ty.val.dflt)) (Val.rows (List.getD z41 (Int.toNat x5) Ty.val.dflt)))) ((fun (z40 : List Val) => List.set z40 (Int.toNat x5) (Val.mk (Val.kind (List.getD z40 (Int.toNat x5) Ty.val.dflt)) (IntKind.i64.wrap (x1 + 1)) (Val.step (List.getD z40 (Int.toNat x5) Ty.val.dflt)) (Val.text (List.getD z40 (Int.toNat x5) Ty.val.dflt)) (Val.list (List.getD z40 (Int.toNat x5) Ty.val.dflt)) (Val.columns (List.getD z40 (Int.toNat x5) Ty.val.dflt)) (Val.rows (List.getD z40 (Int.toNat x5) Ty.val.dflt)))) (List.set x0 (Int.toNat x5) (Val.mk x1 (Val.n (List.getD x0 (Int.toNat x5) Ty.val.dflt)) (Val.step (List.getD x0 (Int.toNat x5) Ty.val.dflt)) (Val.text (List.getD x0 (Int.toNat x5) Ty.val.dflt)) (Val.list (List.getD x0 (Int.toNat x5) Ty.val.dflt)) (Val.columns (List.getD x0 (Int.toNat x5) Ty.val.dflt)) (Val.rows (List.getD x0 (Int.toNat x5) Ty.val.dflt))))))))) (Int.toNat x5) Ty.val.dflt)) r3.1) fun r4 =>
      if List.length r4.2 = List.length (Val.rows (List.getD ((fun (z44 : List Val) => List.set z44 (Int.toNat x5) (Val.mk (Val.kind (List.getD z44 (Int.toNat x5) Ty.val.dflt)) (Val.n (List.getD z44 (Int.toNat x5) Ty.val.dflt)) (Val.step (List.getD z44 (Int.toNat x5) Ty.val.dflt)) (Val.text (List.getD z44 (Int.toNat x5) Ty.val.dflt)) (Val.list (List.getD z44 (Int.toNat x5) Ty.val.dflt)) r3.2 (Val.rows (List.getD z44 (Int.toNat x5) Ty.val.dflt)))) ((fun (z43 : List Val) => List.set z43 (Int.toNat x5) (Val.mk (Val.kind (List.getD z43 (Int.toNat x5) Ty.val.dflt)) (Val.n (List.getD z43 (Int.toNat x5) Ty.val.dflt)) (Val.step (List.getD z43 (Int.toNat x5) Ty.val.dflt)) (Val.text (List.getD z43 (Int.toNat x5) Ty.val.dflt)) r2.2 (Val.columns (List.getD z43 (Int.toNat x5) Ty.val.dflt)) (Val.rows (List.getD z43 (Int.toNat x5) Ty.val.dflt)))) ((fun (z42 : List Val) => List.set z42 (Int.toNat x5) (Val.mk (Val.kind (List.getD z42 (Int.toNat x5) Ty.val.dflt)) (Val.n (List.getD z42 (Int.toNat x5) Ty.val.dflt)) (Val.step (List.getD z42 (Int.toNat x5) Ty.val.dflt)) r1 (Val.list (List.getD z42 (Int.toNat x5) Ty.val.dflt)) (Val.columns (List.getD z42 (Int.toNat x5) Ty.val.dflt)) (Val.rows (List.getD z42 (Int.toNat x5) Ty.val.dflt)))) ((fun (z41 : List Val) => List.set z41 (Int.toNat x5) (Val.mk (Val.kind (List.getD z41 (Int.toNat x5) Ty.val.dflt)) (Val.n (List.getD z41 (Int.toNat x5) Ty.val.dflt)) (IntKind.i64.wrap ((IntKind.i64.wrap (x1 + 1)) + 1)) (Val.text (List.getD z41 (Int.toNat x5) Ty.val.dflt)) (Val.list (List.getD z41 (Int.toNat x5) Ty.val.dflt)) (Val.columns (List.getD z41 (Int.toNat x5) Ty.val.dflt)) (Val.rows (List.getD z41 (Int.toNat x5) Ty.val.dflt)))) ((fun (z40 : List Val) => List.set z40 (Int.toNat x5) (Val.mk (Val.kind (List.getD z40 (Int.toNat x5) Ty.val.dflt)) (IntKind.i64.wrap (x1 + 1)) (Val.step (List.getD z40 (Int.toNat x5) Ty.val.dflt)) (Val.text (List.getD z40 (Int.toNat x5) Ty.val.dflt)) (Val.list (List.getD z40 (Int.toNat x5) Ty.val.dflt)) (Val.columns (List.getD z40 (Int.toNat x5) Ty.val.dflt)) (Val.rows (List.getD z40 (Int.toNat x5) Ty.val.dflt)))) (List.set x0 (Int.toNat x5) (Val.mk x1 (Val.n (List.getD x0 (Int.toNat x5) Ty.val.dflt)) (Val.step (List.getD x0 (Int.toNat x5) Ty.val.dflt)) (Val.text (List.getD x0 (Int.toNat x5) Ty.val.dflt)) (Val.list (List.getD x0 (Int.toNat x5) Ty.val.dflt)) (Val.columns (List.getD x0 (Int.toNat x5) Ty.val.dflt)) (Val.rows (List.getD x0 (Int.toNat x5) Ty.val.dflt))))))))) (Int.toNat x5) Ty.val.dflt)) then
      (xC0 N rc_laws_markValueS n ((fun (z45 : List Val) => List.set z45 (Int.toNat x5) (Val.mk (Val.kind (List.getD z45 (Int.toNat x5) Ty.val.dflt)) (Val.n (List.getD z45 (Int.toNat x5) Ty.val.dflt)) (Val.step (List.getD z45 (Int.toNat x5) Ty.val.dflt)) (Val.text (List.getD z45 (Int.toNat x5) Ty.val.dflt)) (Val.list (List.getD z45 (Int.toNat x5) Ty.val.dflt)) (Val.columns (List.getD z45 (Int.toNat x5) Ty.val.dflt)) r4.2)) ((fun (z44 : List Val) => List.set z44 (Int.toNat x5) (Val.mk (Val.kind (List.getD z44 (Int.toNat x5) Ty.val.dflt)) (Val.n (List.getD z44 (Int.toNat x5) Ty.val.dflt)) (Val.step (List.getD z44 (Int.toNat x5) Ty.val.dflt)) (Val.text (List.getD z44 (Int.toNat x5) Ty.val.dflt)) (Val.list (List.getD z44 (Int.toNat x5) Ty.val.dflt)) r3.2 (Val.rows (List.getD z44 (Int.toNat x5) Ty.val.dflt)))) ((fun (z43 : List Val) => List.set z43 (Int.toNat x5) (Val.mk (Val.kind (List.getD z43 (Int.toNat x5) Ty.val.dflt)) (Val.n (List.getD z43 (Int.toNat x5) Ty.val.dflt)) (Val.step (List.getD z43 (Int.toNat x5) Ty.val.dflt)) (Val.text (List.getD z43 (Int.toNat x5) Ty.val.dflt)) r2.2 (Val.columns (List.getD z43 (Int.toNat x5) Ty.val.dflt)) (Val.rows (List.getD z43 (Int.toNat x5) Ty.val.dflt)))) ((fun (z42 : List Val) => List.set z42 (Int.toNat x5) (Val.mk (Val.kind (List.getD z42 (Int.toNat x5) Ty.val.dflt)) (Val.n (List.getD z42 (Int.toNat x5) Ty.val.dflt)) (Val.step (List.getD z42 (Int.toNat x5) Ty.val.dflt)) r1 (Val.list (List.getD z42 (Int.toNat x5) Ty.val.dflt)) (Val.columns (List.getD z42 (Int.toNat x5) Ty.val.dflt)) (Val.rows (List.getD z42 (Int.toNat x5) Ty.val.dflt)))) ((fun (z41 : List Val) => List.set z41 (Int.toNat x5) (Val.mk (Val.kind (List.getD z41 (Int.toNat x5) Ty.val.dflt)) (Val.n (List.getD z41 (Int.toNat x5) Ty.val.dflt)) (IntKind.i64.wrap ((IntKind.i64.wrap (x1 + 1)) + 1)) (Val.text (List.getD z41 (Int.toNat x5) Ty.val.dflt)) (Val.list (List.getD z41 (Int.toNat x5) Ty.val.dflt)) (Val.columns (List.getD z41 (Int.toNat x5) Ty.val.dflt)) (Val.rows (List.getD z41 (Int.toNat x5) Ty.val.dflt)))) ((fun (z40 : List Val) => List.set z40 (Int.toNat x5) (Val.mk (Val.kind (List.getD z40 (Int.toNat x5) Ty.val.dflt)) (IntKind.i64.wrap (x1 + 1)) (Val.step (List.getD z40 (Int.toNat x5) Ty.val.dflt)) (Val.text (List.getD z40 (Int.toNat x5) Ty.val.dflt)) (Val.list (List.getD z40 (Int.toNat x5) Ty.val.dflt)) (Val.columns (List.getD z40 (Int.toNat x5) Ty.val.dflt)) (Val.rows (List.getD z40 (Int.toNat x5) Ty.val.dflt)))) (List.set x0 (Int.toNat x5) (Val.mk x1 (Val.n (List.getD x0 (Int.toNat x5) Ty.val.dflt)) (Val.step (List.getD x0 (Int.toNat x5) Ty.val.dflt)) (Val.text (List.getD x0 (Int.toNat x5) Ty.val.dflt)) (Val.list (List.getD x0 (Int.toNat x5) Ty.val.dflt)) (Val.columns (List.getD x0 (Int.toNat x5) Ty.val.dflt)) (Val.rows (List.getD x0 (Int.toNat x5) Ty.val.dflt)))))))))) r4.1 (IntKind.i64.wrap (x5 + 1)))
      else none
      else none
      else none
      else none
      else none
      else none
      else none
      else none
      else none
      else none
    ) else (
      some (x1, x0)
    )
def xEF (N : Nat) (rc_laws_markValueS : (List Val) → Int → Option (Int × (List Val))) (a0 : List Val) (a1 : Int) : Option (Int × (List Val)) :=
  (xC0 N rc_laws_markValueS N a0 a1 0)
def xEb (N : Nat) : Nat → (List Val) → Int → Option (Int × (List Val))
  | 0, _, _ => none
  | d + 1, a0, a1 => xEF N (xEb N d) a0 a1
def xGZ (N : Nat) (a0 : List Val) (a1 : Int) : Option (Int × (List Val)) := xEb N N a0 a1
def xAm (a0 : Val) (a1 : Int) : List Arg := [.val (.v true [.int .i64 (Val.kind a0), .int .i64 (Val.n a0), .int .i64 (Val.step a0), .str (Val.text a0), .sl (.lnt 0) .val (Val.list a0), .sl (.lnt 1) .str (Val.columns a0), .sl (.lnt 2) .row (Val.rows a0)]), .val (.v false [.int .i64 a1])]
def xAg (r : Int × (List Val) × (List Str) × (List Rowd)) : CallO := ⟨.v false [.int .i64 r.1], [], [.sl (.lnt 0) .val r.2.1, .sl (.lnt 1) .str r.2.2.1, .sl (.lnt 2) .row r.2.2.2]⟩
def xBz (N : Nat) (a0 : Val) (a1 : Int) : Option (Int × (List Val) × (List Str) × (List Rowd)) :=
  Option.bind (xGZ N (Val.list a0) a1) fun r1 =>
  if List.length r1.2 = List.length (Val.list a0) then
  Option.bind (xEj N (Val.columns a0) r1.1) fun r2 =>
  if List.length r2.2 = List.length (Val.columns a0) then
  Option.bind (xFC N (Val.rows a0) r2.1) fun r3 =>
  if List.length r3.2 = List.length (Val.rows a0) then
  some (r3.1, r1.2, r2.2, r3.2)
  else none
  else none
  else none
def xB1 (a0 : List Str) (a1 : Int) : List Arg := [.val (.v false [.sl .ro .str a0]), .val (.v false [.int .i64 a1])]
def xAR (r : Int) : CallO := ⟨.v false [.int .i64 r], [], []⟩
def xCg (N : Nat) : Nat → (List Str) → Int → Int → Option (Int)
  | 0, _, _, _ => none
  | n + 1, x0, x1, x5 =>
    bif (decide ((x5 : Int) < (List.length x0 : Int))) then (
      if (0 : Int) ≤ x5 ∧ x5 < (List.length x0) then
      Option.bind (xDp N x1) fun r1 =>
      bif (!(((List.getD x0 (Int.toNat x5) Ty.str.dflt) : Str) == r1)) then (
        some (-1)
      ) else (
        (xCg N n x0 (IntKind.i64.wrap (x1 + 1)) (IntKind.i64.wrap (x5 + 1)))
      )
      else none
    ) else (
      some x1
    )
def xDK (N : Nat) (a0 : List Str) (a1 : Int) : Option (Int) :=
  (xCg N N a0 a1 0)
def xEh (a0 : List Int) (a1 : Int) : List Arg := [.val (.v false [.sl .ro .int a0]), .val (.v false [.int .i64 a1])]
def xB8 (r : Int) : CallO := ⟨.v false [.int .i64 r], [], []⟩
def xDI (N : Nat) : Nat → (List Int) → Int → Int → Option (Int)
  | 0, _, _, _ => none
  | n + 1, x0, x1, x5 =>
    bif (decide ((x5 : Int) < (List.length x0 : Int))) then (
      if (0 : Int) ≤ x5 ∧ x5 < (List.length x0) then
      bif (((List.getD x0 (Int.toNat x5) Ty.int.dflt) : Int) != x1) then (
        some (-1)
      ) else (
        (xDI N n x0 (IntKind.i64.wrap (x1 + 1)) (IntKind.i64.wrap (x5 + 1)))
      )
      else none
    ) else (
      some x1
    )
def xF7 (N : Nat) (a0 : List Int) (a1 : Int) : Option (Int) :=
  (xDI N N a0 a1 0)
def xD9 (a0 : List Org) (a1 : Int) : List Arg := [.val (.v false [.sl .ro .org a0]), .val (.v false [.int .i64 a1])]
def xBI (r : Int) : CallO := ⟨.v false [.int .i64 r], [], []⟩
def xCE (N : Nat) : Nat → (List Org) → Int → Int → Option (Int)
  | 0, _, _, _ => none
  | n + 1, x0, x1, x5 =>
    bif (decide ((x5 : Int) < (List.length x0 : Int))) then (
      if (0 : Int) ≤ x5 ∧ x5 < (List.length x0) then
      bif (((Org.cell (List.getD x0 (Int.toNat x5) Ty.org.dflt)) : Int) != x1) then (
        some (-1)
      ) else (
        bif (((Org.row (List.getD x0 (Int.toNat x5) Ty.org.dflt)) : Int) != (IntKind.i64.wrap (x1 + 1))) then (
          some (-1)
        ) else (
          (xCE N n x0 (IntKind.i64.wrap ((IntKind.i64.wrap (x1 + 1)) + 1)) (IntKind.i64.wrap (x5 + 1)))
        )
      )
      else none
    ) else (
      some x1
    )
def xE2 (N : Nat) (a0 : List Org) (a1 : Int) : Option (Int) :=
  (xCE N N a0 a1 0)
def xDJ (a0 : List Rowd) (a1 : Int) : List Arg := [.val (.v false [.sl .ro .row a0]), .val (.v false [.int .i64 a1])]
def xBu (r : Int) : CallO := ⟨.v false [.int .i64 r], [], []⟩
def xC7 (N : Nat) : Nat → (List Rowd) → Int → Int → Option (Int)
  | 0, _, _, _ => none
  | n + 1, x0, x1, x5 =>
    bif (decide ((x5 : Int) < (List.length x0 : Int))) then (
      if (0 : Int) ≤ x5 ∧ x5 < (List.length x0) then
      Option.bind (xF7 N (Rowd.cells (List.getD x0 (Int.toNat x5) Ty.row.dflt)) x1) fun r1 =>
      bif (decide ((r1 : Int) < 0)) then (
        some (-1)
      ) else (
        Option.bind (xE2 N (Rowd.frm (List.getD x0 (Int.toNat x5) Ty.row.dflt)) r1) fun r2 =>
        bif (decide ((r2 : Int) < 0)) then (
          some (-1)
        ) else (
          (xC7 N n x0 r2 (IntKind.i64.wrap (x5 + 1)))
        )
      )
      else none
    ) else (
      some x1
    )
def xEV (N : Nat) (a0 : List Rowd) (a1 : Int) : Option (Int) :=
  (xC7 N N a0 a1 0)
def xA4 (a0 : List Val) (a1 : Int) : List Arg := [.val (.v false [.sl .ro .val a0]), .val (.v false [.int .i64 a1])]
def xAA (r : Int) : CallO := ⟨.v false [.int .i64 r], [], []⟩
def xCp (N : Nat) (rc_laws_heldValueS : (List Val) → Int → Option (Int)) : Nat → (List Val) → Int → Int → Option (Int)
  | 0, _, _, _ => none
  | n + 1, x0, x1, x5 =>
    bif (decide ((x5 : Int) < (List.length x0 : Int))) then (
      if (0 : Int) ≤ x5 ∧ x5 < (List.length x0) then
      bif (((Val.kind (List.getD x0 (Int.toNat x5) Ty.val.dflt)) : Int) != x1) then (
        some (-1)
      ) else (
        bif (((Val.n (List.getD x0 (Int.toNat x5) Ty.val.dflt)) : Int) != (IntKind.i64.wrap (x1 + 1))) then (
          some (-1)
        ) else (
          bif (((Val.step (List.getD x0 (Int.toNat x5) Ty.val.dflt)) : Int) != (IntKind.i64.wrap ((IntKind.i64.wrap (x1 + 1)) + 1))) then (
            some (-1)
          ) else (
            Option.bind (xDp N (IntKind.i64.wrap ((IntKind.i64.wrap ((IntKind.i64.wrap (x1 + 1)) + 1)) + 1))) fun r1 =>
            bif (!(((Val.text (List.getD x0 (Int.toNat x5) Ty.val.dflt)) : Str) == r1)) then (
              some (-1)
            ) else (
              Option.bind (rc_laws_heldValueS (Val.list (List.getD x0 (Int.toNat x5) Ty.val.dflt)) (IntKind.i64.wrap ((IntKind.i64.wrap ((IntKind.i64.wrap ((IntKind.i64.wrap (x1 + 1)) + 1)) + 1)) + 1))) fun r2 =>
              bif (decide ((r2 : Int) < 0)) then (
                some (-1)
              ) else (
                Option.bind (xDK N (Val.columns (List.getD x0 (Int.toNat x5) Ty.val.dflt)) r2) fun r3 =>
                bif (decide ((r3 : Int) < 0)) then (
                  some (-1)
                ) else (
                  Option.bind (xEV N (Val.rows (List.getD x0 (Int.toNat x5) Ty.val.dflt)) r3) fun r4 =>
                  bif (decide ((r4 : Int) < 0)) then (
                    some (-1)
                  ) else (
                    (xCp N rc_laws_heldValueS n x0 r4 (IntKind.i64.wrap (x5 + 1)))
                  )
                )
              )
            )
          )
        )
      )
      else none
    ) else (
      some x1
    )
def xDR (N : Nat) (rc_laws_heldValueS : (List Val) → Int → Option (Int)) (a0 : List Val) (a1 : Int) : Option (Int) :=
  (xCp N rc_laws_heldValueS N a0 a1 0)
def xDj (N : Nat) : Nat → (List Val) → Int → Option (Int)
  | 0, _, _ => none
  | d + 1, a0, a1 => xDR N (xDj N d) a0 a1
def xF8 (N : Nat) (a0 : List Val) (a1 : Int) : Option (Int) := xDj N N a0 a1
def xAx (a0 : Val) (a1 : Int) : List Arg := [.val (.v true [.int .i64 (Val.kind a0), .int .i64 (Val.n a0), .int .i64 (Val.step a0), .str (Val.text a0), .sl .ro .val (Val.list a0), .sl .ro .str (Val.columns a0), .sl .ro .row (Val.rows a0)]), .val (.v false [.int .i64 a1])]
def xAk (r : Int) : CallO := ⟨.v false [.int .i64 r], [], []⟩
def xA9 (N : Nat) (a0 : Val) (a1 : Int) : Option (Int) :=
  Option.bind (xF8 N (Val.list a0) a1) fun r1 =>
  bif (decide ((r1 : Int) < 0)) then (
    some (-1)
  ) else (
    Option.bind (xDK N (Val.columns a0) r1) fun r2 =>
    bif (decide ((r2 : Int) < 0)) then (
      some (-1)
    ) else (
      Option.bind (xEV N (Val.rows a0) r2) fun r3 =>
      bif (decide ((r3 : Int) < 0)) then (
        some (-1)
      ) else (
        some r3
      )
    )
  )
def xAH (a0 : Val) (a1 : Val) : List Arg := [.val (.v true [.int .i64 (Val.kind a0), .int .i64 (Val.n a0), .int .i64 (Val.step a0), .str (Val.text a0), .sl .ro .val (Val.list a0), .sl .ro .str (Val.columns a0), .sl .ro .row (Val.rows a0)]), .val (.v true [.int .i64 (Val.kind a1), .int .i64 (Val.n a1), .int .i64 (Val.step a1), .str (Val.text a1), .sl .ro .val (Val.list a1), .sl .ro .str (Val.columns a1), .sl .ro .row (Val.rows a1)])]
def xAo (r : Val) : CallO := ⟨.v true [.int .i64 (Val.kind r), .int .i64 (Val.n r), .int .i64 (Val.step r), .str (Val.text r), .sl .own .val (Val.list r), .sl .own .str (Val.columns r), .sl .own .row (Val.rows r)], [], []⟩
def xCn (N : Nat) : Nat → Int → Val → Val → Val → Val → Option (Val)
  | 0, _, _, _, _, _ => none
  | n + 1, x8, b2, b3, b4, b7 =>
    bif (decide ((x8 : Int) < (Val.n b2))) then (
      bif (((Val.kind b3) : Int) == 3) then (
        bif ((x8 : Int) == (List.length (Val.list b3) : Int)) then (
          some b7
        ) else (
          Option.bind (xCA N x8) fun r1 =>
          Option.bind (xDm N r1 b3) fun r2 =>
          bif (((Val.kind r2) : Int) == 6) then (
            some r2
          ) else (
            if List.length (Val.list b7) + List.length [(Val.re r2)] ≤ Lim then
            (xCn N n (IntKind.i64.wrap (x8 + 1)) b2 b3 b4 (Val.mk (Val.kind b7) (Val.n b7) (Val.step b7) (Val.text b7) ((Val.list b7) ++ [(Val.re r2)]) (Val.columns b7) (Val.rows b7)))
            else none
          )
        )
      ) else (
        Option.bind (xCA N x8) fun r1 =>
        Option.bind (xDm N r1 b3) fun r2 =>
        bif (((Val.kind r2) : Int) == 6) then (
          some r2
        ) else (
          if List.length (Val.list b7) + List.length [(Val.re r2)] ≤ Lim then
          (xCn N n (IntKind.i64.wrap (x8 + 1)) b2 b3 b4 (Val.mk (Val.kind b7) (Val.n b7) (Val.step b7) (Val.text b7) ((Val.list b7) ++ [(Val.re r2)]) (Val.columns b7) (Val.rows b7)))
          else none
        )
      )
    ) else (
      some b7
    )
def xEA (N : Nat) (a0 : Val) (a1 : Val) : Option (Val) :=
  Option.bind (xF0 N a0 a1) fun r1 =>
  bif r1.2 then (
    some r1.1
  ) else (
    Option.bind (xGc N (Val.n a0) 0 8) fun r2 =>
    bif (!r2) then (
      Option.bind (xA6 N 5) fun r3 =>
      some r3
    ) else (
      (xCn N N 0 a0 a1 (Val.mk 0 0 0 [] [] [] []) (Val.mk 3 0 0 [] [] [] []))
    )
  )
def xEH (a0 : List Val) : List Arg := [.val (.v false [.sl .ro .val a0])]
def xDd (r : Val) : CallO := ⟨.v true [.int .i64 (Val.kind r), .int .i64 (Val.n r), .int .i64 (Val.step r), .str (Val.text r), .sl .own .val (Val.list r), .sl .own .str (Val.columns r), .sl .own .row (Val.rows r)], [], []⟩
def xFb (N : Nat) (a0 : List Val) : Option (Val) :=
  Option.bind (xGV N a0) fun r1 =>
  some (Val.mk 3 0 0 [] r1 [] [])
def xAt (a0 : Val) (a1 : Val) : List Arg := [.val (.v true [.int .i64 (Val.kind a0), .int .i64 (Val.n a0), .int .i64 (Val.step a0), .str (Val.text a0), .sl .ro .val (Val.list a0), .sl .ro .str (Val.columns a0), .sl .ro .row (Val.rows a0)]), .val (.v true [.int .i64 (Val.kind a1), .int .i64 (Val.n a1), .int .i64 (Val.step a1), .str (Val.text a1), .sl .ro .val (Val.list a1), .sl .ro .str (Val.columns a1), .sl .ro .row (Val.rows a1)])]
def xGU (r : Val × Bool) : CallO := ⟨.v true [.int .i64 (Val.kind r.1), .int .i64 (Val.n r.1), .int .i64 (Val.step r.1), .str (Val.text r.1), .sl .ro .val (Val.list r.1), .sl .ro .str (Val.columns r.1), .sl .ro .row (Val.rows r.1)], [], []⟩
def xAv (r : Val × Bool) : CallO := ⟨.v true [.int .i64 (Val.kind r.1), .int .i64 (Val.n r.1), .int .i64 (Val.step r.1), .str (Val.text r.1), .sl .own .val (Val.list r.1), .sl .own .str (Val.columns r.1), .sl .own .row (Val.rows r.1)], [], []⟩
def xAw (r : Val × Bool) : CallO := ⟨.v true [.int .i64 (Val.kind r.1), .int .i64 (Val.n r.1), .int .i64 (Val.step r.1), .str (Val.text r.1), .sl .ro .val [], .sl .ro .str [], .sl .ro .row []], [], []⟩
def xBp (r : Val × Bool) : CallO := bif r.2 then xGU r else xAv r
def xD6 (N : Nat) : Nat → Int → Val → Val → Val → Val → Option (Val × Bool)
  | 0, _, _, _, _, _ => none
  | n + 1, x8, b2, b3, b4, b7 =>
    bif (decide ((x8 : Int) < (Val.n b2))) then (
      Option.bind (xDE N x8) fun r1 =>
      Option.bind (xDX N r1 b3) fun r2 =>
      bif r2.2 then (
        if List.isEmpty (Val.list r2.1) = true then
        if List.isEmpty (Val.columns r2.1) = true then
        if List.isEmpty (Val.rows r2.1) = true then
        bif (((Val.kind r2.1) : Int) == 6) then (
          some ((Val.mk (Val.kind r2.1) (Val.n r2.1) (Val.step r2.1) (Val.text r2.1) [] [] []), true)
        ) else (
          if List.length (Val.list b7) + List.length [(Val.mk (Val.kind r2.1) (Val.n r2.1) (Val.step r2.1) (Val.text r2.1) [] [] [])] ≤ Lim then
          none
          else none
        )
        else none
        else none
        else none
      ) else (
        bif (((Val.kind r2.1) : Int) == 6) then (
          some (r2.1, false)
        ) else (
          if List.length (Val.list b7) + List.length [(Val.re r2.1)] ≤ Lim then
          (xD6 N n (IntKind.i64.wrap (x8 + 1)) b2 b3 b4 (Val.mk (Val.kind b7) (Val.n b7) (Val.step b7) (Val.text b7) ((Val.list b7) ++ [(Val.re r2.1)]) (Val.columns b7) (Val.rows b7)))
          else none
        )
      )
    ) else (
      some (b7, false)
    )
def xDF (N : Nat) (a0 : Val) (a1 : Val) : Option (Val × Bool) :=
  Option.bind (xCZ N a0 a1) fun r1 =>
  bif r1.2.2 then (
    bif r1.2.1 then (
      some (r1.1, true)
    ) else (
      Option.bind (xD8 N (Val.n a0) 0 8) fun r2 =>
      bif (!r2) then (
        Option.bind (xAZ N 5) fun r3 =>
        some (r3, false)
      ) else (
        bif (((Val.kind a1) : Int) == 3) then (
          if (0 : Int) ≤ (if ((List.length (Val.list a1) : Int) : Int) < (Val.n a0) then (List.length (Val.list a1) : Int) else (Val.n a0)) ∧ (if ((List.length (Val.list a1) : Int) : Int) < (Val.n a0) then (List.length (Val.list a1) : Int) else (Val.n a0)) ≤ (List.length (Val.list a1)) then
          Option.bind (xFb N (List.take (Int.toNat (if ((List.length (Val.list a1) : Int) : Int) < (Val.n a0) then (List.length (Val.list a1) : Int) else (Val.n a0))) (Val.list a1))) fun r3 =>
          some (r3, false)
          else none
        ) else (
          none
        )
      )
    )
  ) else (
    bif r1.2.1 then (
      some (r1.1, false)
    ) else (
      Option.bind (xD8 N (Val.n a0) 0 8) fun r2 =>
      bif (!r2) then (
        Option.bind (xAZ N 5) fun r3 =>
        some (r3, false)
      ) else (
        bif (((Val.kind a1) : Int) == 3) then (
          if (0 : Int) ≤ (if ((List.length (Val.list a1) : Int) : Int) < (Val.n a0) then (List.length (Val.list a1) : Int) else (Val.n a0)) ∧ (if ((List.length (Val.list a1) : Int) : Int) < (Val.n a0) then (List.length (Val.list a1) : Int) else (Val.n a0)) ≤ (List.length (Val.list a1)) then
          Option.bind (xFb N (List.take (Int.toNat (if ((List.length (Val.list a1) : Int) : Int) < (Val.n a0) then (List.length (Val.list a1) : Int) else (Val.n a0))) (Val.list a1))) fun r3 =>
          some (r3, false)
          else none
        ) else (
          (xD6 N N 0 a0 a1 (Val.mk 0 0 0 [] [] [] []) (Val.mk 3 0 0 [] [] [] []))
        )
      )
    )
  )
def xAr (a0 : Val) (a1 : Val) : List Arg := [.val (.v true [.int .i64 (Val.kind a0), .int .i64 (Val.n a0), .int .i64 (Val.step a0), .str (Val.text a0), .sl .ro .val (Val.list a0), .sl .ro .str (Val.columns a0), .sl .ro .row (Val.rows a0)]), .val (.v true [.int .i64 (Val.kind a1), .int .i64 (Val.n a1), .int .i64 (Val.step a1), .str (Val.text a1), .sl .ro .val (Val.list a1), .sl .ro .str (Val.columns a1), .sl .ro .row (Val.rows a1)])]
def xAs (r : Bool) : CallO := ⟨.v false [.bool r], [], []⟩
def xFl (N : Nat) (a0 : Val) (a1 : Val) : Option (Bool) :=
  Option.bind (xF1 N a0 1048576) fun r1 =>
  bif (decide ((r1 : Int) < 0)) then (
    some true
  ) else (
    Option.bind (xF1 N a1 r1) fun r2 =>
    bif (decide ((r2 : Int) < 0)) then (
      some true
    ) else (
      Option.bind (xA8 N a0) fun r3 =>
      Option.bind (xA8 N a1) fun r4 =>
      Option.bind (xEA N r3 r4) fun r5 =>
      Option.bind (xA8 N a0) fun r6 =>
      Option.bind (xA8 N a1) fun r7 =>
      Option.bind (xDF N r6 r7) fun r8 =>
      bif r8.2 then (
        if List.isEmpty (Val.list r8.1) = true then
        if List.isEmpty (Val.columns r8.1) = true then
        if List.isEmpty (Val.rows r8.1) = true then
        Option.bind (xA7 N (Val.mk (Val.kind r8.1) (Val.n r8.1) (Val.step r8.1) (Val.text r8.1) [] [] []) r5) fun r9 =>
        bif (!r9) then (
          some false
        ) else (
          Option.bind (xA8 N a0) fun r10 =>
          Option.bind (xA7 N r6 r10) fun r11 =>
          bif (!r11) then (
            some false
          ) else (
            Option.bind (xA8 N a1) fun r12 =>
            Option.bind (xA7 N r7 r12) fun r13 =>
            bif (!r13) then (
              some false
            ) else (
              Option.bind (xBz N r6 1) fun r14 =>
              if List.length r14.2.1 = List.length (Val.list r6) then
              if List.length r14.2.2.1 = List.length (Val.columns r6) then
              if List.length r14.2.2.2 = List.length (Val.rows r6) then
              Option.bind (xBz N r7 r14.1) fun r15 =>
              if List.length r15.2.1 = List.length (Val.list r7) then
              if List.length r15.2.2.1 = List.length (Val.columns r7) then
              if List.length r15.2.2.2 = List.length (Val.rows r7) then
              bif (decide ((r15.1 : Int) < 0)) then (
                some false
              ) else (
                Option.bind (xA7 N (Val.mk (Val.kind r8.1) (Val.n r8.1) (Val.step r8.1) (Val.text r8.1) [] [] []) r5) fun r16 =>
                bif (!r16) then (
                  some false
                ) else (
                  Option.bind (xDO N (Val.mk (Val.kind r8.1) (Val.n r8.1) (Val.step r8.1) (Val.text r8.1) [] [] []) 1) fun r17 =>
                  Option.bind (xA9 N (Val.mk (Val.kind r8.1) (Val.n r8.1) (Val.step r8.1) (Val.text r8.1) [] [] []) 1) fun r18 =>
                  bif (decide ((r18 : Int) < 0)) then (
                    some false
                  ) else (
                    bif ((r18 : Int) != r17) then (
                      some false
                    ) else (
                      Option.bind (xA8 N a0) fun r19 =>
                      Option.bind (xA8 N a1) fun r20 =>
                      Option.bind (xDF N r19 r20) fun r21 =>
                      bif r21.2 then (
                        if List.isEmpty (Val.list r21.1) = true then
                        if List.isEmpty (Val.columns r21.1) = true then
                        if List.isEmpty (Val.rows r21.1) = true then
                        Option.bind (xA7 N (Val.mk (Val.kind r21.1) (Val.n r21.1) (Val.step r21.1) (Val.text r21.1) [] [] []) r5) fun r22 =>
                        bif (!r22) then (
                          some false
                        ) else (
                          Option.bind (xA9 N (Val.mk (Val.kind r8.1) (Val.n r8.1) (Val.step r8.1) (Val.text r8.1) [] [] []) 1) fun r23 =>
                          bif (decide ((r23 : Int) < 0)) then (
                            some false
                          ) else (
                            bif ((r23 : Int) != r17) then (
                              some false
                            ) else (
                              some true
                            )
                          )
                        )
                        else none
                        else none
                        else none
                      ) else (
                        Option.bind (xA7 N r21.1 r5) fun r22 =>
                        bif (!r22) then (
                          some false
                        ) else (
                          Option.bind (xA9 N (Val.mk (Val.kind r8.1) (Val.n r8.1) (Val.step r8.1) (Val.text r8.1) [] [] []) 1) fun r23 =>
                          bif (decide ((r23 : Int) < 0)) then (
                            some false
                          ) else (
                            bif ((r23 : Int) != r17) then (
                              some false
                            ) else (
                              some true
                            )
                          )
                        )
                      )
                    )
                  )
                )
              )
              else none
              else none
              else none
              else none
              else none
              else none
            )
          )
        )
        else none
        else none
        else none
      ) else (
        Option.bind (xA7 N r8.1 r5) fun r9 =>
        bif (!r9) then (
          some false
        ) else (
          Option.bind (xA8 N a0) fun r10 =>
          Option.bind (xA7 N r6 r10) fun r11 =>
          bif (!r11) then (
            some false
          ) else (
            Option.bind (xA8 N a1) fun r12 =>
            Option.bind (xA7 N r7 r12) fun r13 =>
            bif (!r13) then (
              some false
            ) else (
              Option.bind (xBz N r6 1) fun r14 =>
              if List.length r14.2.1 = List.length (Val.list r6) then
              if List.length r14.2.2.1 = List.length (Val.columns r6) then
              if List.length r14.2.2.2 = List.length (Val.rows r6) then
              Option.bind (xBz N r7 r14.1) fun r15 =>
              if List.length r15.2.1 = List.length (Val.list r7) then
              if List.length r15.2.2.1 = List.length (Val.columns r7) then
              if List.length r15.2.2.2 = List.length (Val.rows r7) then
              bif (decide ((r15.1 : Int) < 0)) then (
                some false
              ) else (
                Option.bind (xA7 N r8.1 r5) fun r16 =>
                bif (!r16) then (
                  some false
                ) else (
                  Option.bind (xBz N r8.1 1) fun r17 =>
                  if List.length r17.2.1 = List.length (Val.list r8.1) then
                  if List.length r17.2.2.1 = List.length (Val.columns r8.1) then
                  if List.length r17.2.2.2 = List.length (Val.rows r8.1) then
                  Option.bind (xA9 N (Val.mk (Val.kind r8.1) (Val.n r8.1) (Val.step r8.1) (Val.text r8.1) r17.2.1 r17.2.2.1 r17.2.2.2) 1) fun r18 =>
                  bif (decide ((r18 : Int) < 0)) then (
                    some false
                  ) else (
                    bif ((r18 : Int) != r17.1) then (
                      some false
                    ) else (
                      Option.bind (xA8 N a0) fun r19 =>
                      Option.bind (xA8 N a1) fun r20 =>
                      Option.bind (xDF N r19 r20) fun r21 =>
                      bif r21.2 then (
                        if List.isEmpty (Val.list r21.1) = true then
                        if List.isEmpty (Val.columns r21.1) = true then
                        if List.isEmpty (Val.rows r21.1) = true then
                        Option.bind (xA7 N (Val.mk (Val.kind r21.1) (Val.n r21.1) (Val.step r21.1) (Val.text r21.1) [] [] []) r5) fun r22 =>
                        bif (!r22) then (
                          some false
                        ) else (
                          Option.bind (xA9 N (Val.mk (Val.kind r8.1) (Val.n r8.1) (Val.step r8.1) (Val.text r8.1) r17.2.1 r17.2.2.1 r17.2.2.2) 1) fun r23 =>
                          bif (decide ((r23 : Int) < 0)) then (
                            some false
                          ) else (
                            bif ((r23 : Int) != r17.1) then (
                              some false
                            ) else (
                              some true
                            )
                          )
                        )
                        else none
                        else none
                        else none
                      ) else (
                        Option.bind (xA7 N r21.1 r5) fun r22 =>
                        bif (!r22) then (
                          some false
                        ) else (
                          Option.bind (xA9 N (Val.mk (Val.kind r8.1) (Val.n r8.1) (Val.step r8.1) (Val.text r8.1) r17.2.1 r17.2.2.1 r17.2.2.2) 1) fun r23 =>
                          bif (decide ((r23 : Int) < 0)) then (
                            some false
                          ) else (
                            bif ((r23 : Int) != r17.1) then (
                              some false
                            ) else (
                              some true
                            )
                          )
                        )
                      )
                    )
                  )
                  else none
                  else none
                  else none
                )
              )
              else none
              else none
              else none
              else none
              else none
              else none
            )
          )
        )
      )
    )
  )
end Go.Ab
end
section
open Go.Proofs
namespace Go.Ab.T
abbrev AbC (f : FuncId) (a : List Arg) (r : CallO) : Prop := AbsCalls Try.prog f a r
end Go.Ab.T
end
section
open Go.Proofs
namespace Go.Ab.T
set_option linter.unusedVariables false
set_option maxRecDepth 100000
def tt : TT := [(3, { zero := some [.int .i64 0], ik := some .i64 }),
 (4, { zero := some [.bool false], isBool := true }),
 (5, { zero := some [.int .u8 0], ik := some .u8 }),
 (9, { zero := some [.str []], isStr := true }),
 (22, { zero := some [.sl .own .val []], elem := some (26, .val) }),
 (23, { zero := some [.sl .own .str []], elem := some (9, .str) }),
 (24, { zero := some [.sl .own .row []], elem := some (77, .row) }),
 (26, { sz := 7, agg := true, zero := some [.int .i64 0, .int .i64 0, .int .i64 0, .str [], .sl .own .val [], .sl .own .str [], .sl .own .row []], offs := [0, 1, 2, 3, 4, 5, 6], fsz := [1, 1, 1, 1, 1, 1, 1] }),
 (28, { zero := some [.sl .own .val []], elem := some (31, .val) }),
 (29, { zero := some [.sl .own .row []], elem := some (62, .row) }),
 (31, { sz := 7, agg := true, zero := some [.int .i64 0, .int .i64 0, .int .i64 0, .str [], .sl .own .val [], .sl .own .str [], .sl .own .row []], offs := [0, 1, 2, 3, 4, 5, 6], fsz := [1, 1, 1, 1, 1, 1, 1] }),
 (57, { zero := some [.sl .own .int []], elem := some (3, .int) }),
 (60, { zero := some [.sl .own .org []], elem := some (94, .org) }),
 (62, { sz := 2, agg := true, zero := some [.sl .own .int [], .sl .own .org []], offs := [0, 1], fsz := [1, 1] }),
 (75, { zero := some [.sl .own .org []], elem := some (100, .org) }),
 (77, { sz := 2, agg := true, zero := some [.sl .own .int [], .sl .own .org []], offs := [0, 1], fsz := [1, 1] }),
 (92, { zero := some [.sl .own .byte []], elem := some (5, .byte) }),
 (94, { sz := 2, agg := true, zero := some [.int .i64 0, .int .i64 0], offs := [0, 1], fsz := [1, 1], same := true }),
 (100, { sz := 2, agg := true, zero := some [.int .i64 0, .int .i64 0], offs := [0, 1], fsz := [1, 1], same := true })]
theorem ttok : TTok Try.prog tt := ttChk_ok (by kernel_rfl)
theorem mix : Try.prog.follows .mixedOrders = true := by kernel_rfl
noncomputable def xGs : Info := { body := (Try.f40.body).getD .skip, nt := 63, results := [.tmp 4], keep := [0, 2, 8, 10, 18], live := [(2, [0, 2, 10])], modes := [], ext := [], lnt := [], casts := [], fcast := [] }
theorem fk1000040 : FnOk Try.prog 40 Try.f40 xGs := ⟨Try.func40, by kernel_rfl, by kernel_rfl, by kernel_rfl, by kernel_rfl⟩
def S1000040_2 (x1 x5 : Int) : St := [(0, .v false [.sl .ro .val []]), (2, .v false [.int .i64 x1]), (10, .v false [.int .i64 x5])]
theorem p1000040_2_0 (x1 x5 : Int) : run tt (AbsCalls Try.prog) xGs 3000 true (stkAt 2 xGs.body) ⟨(S1000040_2 x1 x5), [false], [], []⟩ = some (.done (xC5 x1) [(decide ((x5 : Int) < (0 : Int))) = false]) := by kernel_rfl
theorem p1000040_e_1 (a0 : List Val) (a1 : Int) : run tt (AbsCalls Try.prog) xGs 3000 false [.code xGs.body] ⟨(zBi 0 (xED a0 a1)), [], [], []⟩ = some (.stop (stkAt 2 xGs.body) (S1000040_2 a1 0) []) := by kernel_rfl
theorem c1000040_2 {N : Nat} : ∀ n x1 x5 r, xEE N n x1 x5 = some r → Reach Try.prog Try.f40 xGs (stkAt 2 xGs.body) (S1000040_2 x1 x5) (xC5 r) := by
 intro n
 induction n with
 | zero => intro x1 x5 r h; have h' : (none : Option (Int)) = some r := h; cases h'
 | succ n ih =>
  intro x1 x5 r h
  rw [xEE] at h
  rcases cond_inv h with ⟨h0, h⟩ | ⟨h0, h⟩
  ·obtain ⟨h1, h⟩ := ite_inv h
   cases h
  ·obtain rfl := Option.some.inj h
   exact Reach.done ttok mix fk1000040 (p1000040_2_0 x1 x5) (obs_cons h0 obs_nil)
theorem c1000040_e {N : Nat} : ∀ a0 a1 r, xEK N a0 a1 = some r → Reach Try.prog Try.f40 xGs [.code xGs.body] (zBi 0 (xED a0 a1)) (xC5 r) := by
 intro a0 a1 r h
 unfold xEK at h
 exact Reach.stop ttok mix fk1000040 (p1000040_e_1 a0 a1) obs_nil (c1000040_2   _ _ _ _ h)
theorem xH0 {N : Nat} {a0 : List Val} {a1 : Int} {r : Int} (h : xEK N  a0 a1 = some r) : AbC 40 (xED a0 a1) (xC5 r) :=
 AbsCalls.of_reach fk1000040 rfl rfl (Nat.le_of_ble_eq_true rfl) (c1000040_e a0 a1 r h)
noncomputable def I24 : Info := { body := (Try.f24.body).getD .skip, nt := 28, results := [.tmp 4], keep := [0, 2, 8, 10, 22, 30, 52], live := [(5, [0, 2, 10])], modes := [], ext := [], lnt := [], casts := [], fcast := [] }
theorem fk24 : FnOk Try.prog 24 Try.f24 I24 := ⟨Try.func24, by kernel_rfl, by kernel_rfl, by kernel_rfl, by kernel_rfl⟩
def S24_5 (x0 : List Str) (x1 x5 : Int) : St := [(0, .v false [.sl .ro .str x0]), (2, .v false [.int .i64 x1]), (10, .v false [.int .i64 x5])]
theorem p24_5_0 (x0 : List Str) (x1 x5 : Int) : run tt (AbsCalls Try.prog) I24 3000 true (stkAt 5 I24.body) ⟨(S24_5 x0 x1 x5), [true, true], [], []⟩ = some (.done (xBC (-1)) [(decide ((x5 : Int) < (List.length x0 : Int))) = true, (0 : Int) ≤ x5 ∧ x5 < (List.length x0), (decide (((IntKind.i64.wrap (x1 - (List.length (List.getD x0 (Int.toNat x5) Ty.str.dflt) : Int))) : Int) < 0)) = true]) := by kernel_rfl
theorem p24_5_1 (x0 : List Str) (x1 x5 : Int) : run tt (AbsCalls Try.prog) I24 3000 true (stkAt 5 I24.body) ⟨(S24_5 x0 x1 x5), [true, false], [], []⟩ = some (.stop (stkAt 5 I24.body) (S24_5 x0 (IntKind.i64.wrap (x1 - (List.length (List.getD x0 (Int.toNat x5) Ty.str.dflt) : Int))) (IntKind.i64.wrap (x5 + 1))) [(decide ((x5 : Int) < (List.length x0 : Int))) = true, (0 : Int) ≤ x5 ∧ x5 < (List.length x0), (decide (((IntKind.i64.wrap (x1 - (List.length (List.getD x0 (Int.toNat x5) Ty.str.dflt) : Int))) : Int) < 0)) = false]) := by kernel_rfl
theorem p24_5_2 (x0 : List Str) (x1 x5 : Int) : run tt (AbsCalls Try.prog) I24 3000 true (stkAt 5 I24.body) ⟨(S24_5 x0 x1 x5), [false], [], []⟩ = some (.done (xBC x1) [(decide ((x5 : Int) < (List.length x0 : Int))) = false]) := by kernel_rfl
theorem p24_e_3 (a0 : List Str) (a1 : Int) : run tt (AbsCalls Try.prog) I24 3000 false [.code I24.body] ⟨(zBi 0 (xDl a0 a1)), [true], [], []⟩ = some (.done (xBC (-1)) [(decide (((IntKind.i64.wrap (a1 - (List.length a0 : Int))) : Int) < 0)) = true]) := by kernel_rfl
theorem p24_e_4 (a0 : List Str) (a1 : Int) : run tt (AbsCalls Try.prog) I24 3000 false [.code I24.body] ⟨(zBi 0 (xDl a0 a1)), [false], [], []⟩ = some (.stop (stkAt 5 I24.body) (S24_5 a0 (IntKind.i64.wrap (a1 - (List.length a0 : Int))) 0) [(decide (((IntKind.i64.wrap (a1 - (List.length a0 : Int))) : Int) < 0)) = false]) := by kernel_rfl
theorem c24_5 {N : Nat} : ∀ n x0 x1 x5 r, xEL N n x0 x1 x5 = some r → Reach Try.prog Try.f24 I24 (stkAt 5 I24.body) (S24_5 x0 x1 x5) (xBC r) := by
 intro n
 induction n with
 | zero => intro x0 x1 x5 r h; have h' : (none : Option (Int)) = some r := h; cases h'
 | succ n ih =>
  intro x0 x1 x5 r h
  rw [xEL] at h
  rcases cond_inv h with ⟨h0, h⟩ | ⟨h0, h⟩
  ·obtain ⟨h1, h⟩ := ite_inv h
   rcases cond_inv h with ⟨h2, h⟩ | ⟨h2, h⟩
   ·obtain rfl := Option.some.inj h
    exact Reach.done ttok mix fk24 (p24_5_0 x0 x1 x5) (obs_cons h0 (obs_cons h1 (obs_cons h2 obs_nil)))
   ·exact Reach.stop ttok mix fk24 (p24_5_1 x0 x1 x5) (obs_cons h0 (obs_cons h1 (obs_cons h2 obs_nil))) (ih _ _ _ _ h)
  ·obtain rfl := Option.some.inj h
   exact Reach.done ttok mix fk24 (p24_5_2 x0 x1 x5) (obs_cons h0 obs_nil)
theorem c24_e {N : Nat} : ∀ a0 a1 r, xFR N a0 a1 = some r → Reach Try.prog Try.f24 I24 [.code I24.body] (zBi 0 (xDl a0 a1)) (xBC r) := by
 intro a0 a1 r h
 unfold xFR at h
 rcases cond_inv h with ⟨h0, h⟩ | ⟨h0, h⟩
 ·obtain rfl := Option.some.inj h
  exact Reach.done ttok mix fk24 (p24_e_3 a0 a1) (obs_cons h0 obs_nil)
 ·exact Reach.stop ttok mix fk24 (p24_e_4 a0 a1) (obs_cons h0 obs_nil) (c24_5   _ _ _ _ _ h)
theorem xGk {N : Nat} {a0 : List Str} {a1 : Int} {r : Int} (h : xFR N  a0 a1 = some r) : AbC 24 (xDl a0 a1) (xBC r) :=
 AbsCalls.of_reach fk24 rfl rfl (Nat.le_of_ble_eq_true rfl) (c24_e a0 a1 r h)
noncomputable def I94 : Info := { body := (Try.f94.body).getD .skip, nt := 12, results := [.tmp 4], keep := [0, 2, 8, 20], live := [], modes := [], ext := [], lnt := [], casts := [], fcast := [] }
theorem fk94 : FnOk Try.prog 94 Try.f94 I94 := ⟨Try.func94, by kernel_rfl, by kernel_rfl, by kernel_rfl, by kernel_rfl⟩
theorem p94_e_0 (a0 : List Int) (a1 : Int) : run tt (AbsCalls Try.prog) I94 3000 false [.code I94.body] ⟨(zBi 0 (xEz a0 a1)), [true], [], []⟩ = some (.done (xCS (-1)) [(decide (((IntKind.i64.wrap (a1 - (List.length a0 : Int))) : Int) < 0)) = true]) := by kernel_rfl
theorem p94_e_1 (a0 : List Int) (a1 : Int) : run tt (AbsCalls Try.prog) I94 3000 false [.code I94.body] ⟨(zBi 0 (xEz a0 a1)), [false], [], []⟩ = some (.done (xCS (IntKind.i64.wrap (a1 - (List.length a0 : Int)))) [(decide (((IntKind.i64.wrap (a1 - (List.length a0 : Int))) : Int) < 0)) = false]) := by kernel_rfl
theorem c94_e {N : Nat} : ∀ a0 a1 r, xG0 N a0 a1 = some r → Reach Try.prog Try.f94 I94 [.code I94.body] (zBi 0 (xEz a0 a1)) (xCS r) := by
 intro a0 a1 r h
 unfold xG0 at h
 rcases cond_inv h with ⟨h0, h⟩ | ⟨h0, h⟩
 ·obtain rfl := Option.some.inj h
  exact Reach.done ttok mix fk94 (p94_e_0 a0 a1) (obs_cons h0 obs_nil)
 ·obtain rfl := Option.some.inj h
  exact Reach.done ttok mix fk94 (p94_e_1 a0 a1) (obs_cons h0 obs_nil)
theorem xHg {N : Nat} {a0 : List Int} {a1 : Int} {r : Int} (h : xG0 N  a0 a1 = some r) : AbC 94 (xEz a0 a1) (xCS r) :=
 AbsCalls.of_reach fk94 rfl rfl (Nat.le_of_ble_eq_true rfl) (c94_e a0 a1 r h)
noncomputable def I95 : Info := { body := (Try.f95.body).getD .skip, nt := 12, results := [.tmp 4], keep := [0, 2, 8, 20], live := [], modes := [], ext := [], lnt := [], casts := [], fcast := [] }
theorem fk95 : FnOk Try.prog 95 Try.f95 I95 := ⟨Try.func95, by kernel_rfl, by kernel_rfl, by kernel_rfl, by kernel_rfl⟩
theorem p95_e_0 (a0 : List Org) (a1 : Int) : run tt (AbsCalls Try.prog) I95 3000 false [.code I95.body] ⟨(zBi 0 (xD0 a0 a1)), [true], [], []⟩ = some (.done (xCM (-1)) [(decide (((IntKind.i64.wrap (a1 - (List.length a0 : Int))) : Int) < 0)) = true]) := by kernel_rfl
theorem p95_e_1 (a0 : List Org) (a1 : Int) : run tt (AbsCalls Try.prog) I95 3000 false [.code I95.body] ⟨(zBi 0 (xD0 a0 a1)), [false], [], []⟩ = some (.done (xCM (IntKind.i64.wrap (a1 - (List.length a0 : Int)))) [(decide (((IntKind.i64.wrap (a1 - (List.length a0 : Int))) : Int) < 0)) = false]) := by kernel_rfl
theorem c95_e {N : Nat} : ∀ a0 a1 r, xFP N a0 a1 = some r → Reach Try.prog Try.f95 I95 [.code I95.body] (zBi 0 (xD0 a0 a1)) (xCM r) := by
 intro a0 a1 r h
 unfold xFP at h
 rcases cond_inv h with ⟨h0, h⟩ | ⟨h0, h⟩
 ·obtain rfl := Option.some.inj h
  exact Reach.done ttok mix fk95 (p95_e_0 a0 a1) (obs_cons h0 obs_nil)
 ·obtain rfl := Option.some.inj h
  exact Reach.done ttok mix fk95 (p95_e_1 a0 a1) (obs_cons h0 obs_nil)
theorem xHm {N : Nat} {a0 : List Org} {a1 : Int} {r : Int} (h : xFP N  a0 a1 = some r) : AbC 95 (xD0 a0 a1) (xCM r) :=
 AbsCalls.of_reach fk95 rfl rfl (Nat.le_of_ble_eq_true rfl) (c95_e a0 a1 r h)
noncomputable def I73 : Info := { body := (Try.f73.body).getD .skip, nt := 18, results := [.tmp 4], keep := [0, 2, 4, 8, 20, 32, 5], live := [], modes := [], ext := [], lnt := [], casts := [], fcast := [] }
theorem fk73 : FnOk Try.prog 73 Try.f73 I73 := ⟨Try.func73, by kernel_rfl, by kernel_rfl, by kernel_rfl, by kernel_rfl⟩
theorem p73_e_0 (a0 : Rowd) (a1 r1 : Int) : run tt (AbsCalls Try.prog) I73 3000 false [.code I73.body] ⟨(zBi 0 (xEX a0 a1)), [true], [xCS r1], []⟩ = some (.done (xDT (-1)) [AbC 94 (xEz (Rowd.cells a0) a1) (xCS r1), (decide ((r1 : Int) < 0)) = true]) := by kernel_rfl
theorem p73_e_1 (a0 : Rowd) (a1 r1 r2 : Int) : run tt (AbsCalls Try.prog) I73 3000 false [.code I73.body] ⟨(zBi 0 (xEX a0 a1)), [false, true], [xCS r1, xCM r2], []⟩ = some (.done (xDT (-1)) [AbC 94 (xEz (Rowd.cells a0) a1) (xCS r1), (decide ((r1 : Int) < 0)) = false, AbC 95 (xD0 (Rowd.frm a0) r1) (xCM r2), (decide ((r2 : Int) < 0)) = true]) := by kernel_rfl
theorem p73_e_2 (a0 : Rowd) (a1 r1 r2 : Int) : run tt (AbsCalls Try.prog) I73 3000 false [.code I73.body] ⟨(zBi 0 (xEX a0 a1)), [false, false], [xCS r1, xCM r2], []⟩ = some (.done (xDT r2) [AbC 94 (xEz (Rowd.cells a0) a1) (xCS r1), (decide ((r1 : Int) < 0)) = false, AbC 95 (xD0 (Rowd.frm a0) r1) (xCM r2), (decide ((r2 : Int) < 0)) = false]) := by kernel_rfl
theorem c73_e {N : Nat} : ∀ a0 a1 r, xGO N a0 a1 = some r → Reach Try.prog Try.f73 I73 [.code I73.body] (zBi 0 (xEX a0 a1)) (xDT r) := by
 intro a0 a1 r h
 unfold xGO at h
 obtain ⟨r1, h0, h⟩ := bind_inv h
 rcases cond_inv h with ⟨h1, h⟩ | ⟨h1, h⟩
 ·obtain rfl := Option.some.inj h
  exact Reach.done ttok mix fk73 (p73_e_0 a0 a1 r1) (obs_cons (xHg h0) (obs_cons h1 obs_nil))
 ·obtain ⟨r2, h2, h⟩ := bind_inv h
  rcases cond_inv h with ⟨h3, h⟩ | ⟨h3, h⟩
  ·obtain rfl := Option.some.inj h
   exact Reach.done ttok mix fk73 (p73_e_1 a0 a1 r1 r2) (obs_cons (xHg h0) (obs_cons h1 (obs_cons (xHm h2) (obs_cons h3 obs_nil))))
  ·obtain rfl := Option.some.inj h
   exact Reach.done ttok mix fk73 (p73_e_2 a0 a1 r1 r2) (obs_cons (xHg h0) (obs_cons h1 (obs_cons (xHm h2) (obs_cons h3 obs_nil))))
theorem laws_szRow_ok {N : Nat} {a0 : Rowd} {a1 : Int} {r : Int} (h : xGO N  a0 a1 = some r) : AbC 73 (xEX a0 a1) (xDT r) :=
 AbsCalls.of_reach fk73 rfl rfl (Nat.le_of_ble_eq_true rfl) (c73_e a0 a1 r h)
noncomputable def I25 : Info := { body := (Try.f25.body).getD .skip, nt := 27, results := [.tmp 4], keep := [0, 2, 8, 10, 22, 30, 50], live := [(5, [0, 2, 10])], modes := [], ext := [], lnt := [], casts := [], fcast := [] }
theorem fk25 : FnOk Try.prog 25 Try.f25 I25 := ⟨Try.func25, by kernel_rfl, by kernel_rfl, by kernel_rfl, by kernel_rfl⟩
def S25_5 (x0 : List Rowd) (x1 x5 : Int) : St := [(0, .v false [.sl .ro .row x0]), (2, .v false [.int .i64 x1]), (10, .v false [.int .i64 x5])]
theorem p25_5_0 (x0 : List Rowd) (x1 x5 r1 : Int) : run tt (AbsCalls Try.prog) I25 3000 true (stkAt 5 I25.body) ⟨(S25_5 x0 x1 x5), [true, true], [xDT r1], []⟩ = some (.done (xCT (-1)) [(decide ((x5 : Int) < (List.length x0 : Int))) = true, (0 : Int) ≤ x5 ∧ x5 < (List.length x0), AbC 73 (xEX (List.getD x0 (Int.toNat x5) Ty.row.dflt) x1) (xDT r1), (decide ((r1 : Int) < 0)) = true]) := by kernel_rfl
theorem p25_5_1 (x0 : List Rowd) (x1 x5 r1 : Int) : run tt (AbsCalls Try.prog) I25 3000 true (stkAt 5 I25.body) ⟨(S25_5 x0 x1 x5), [true, false], [xDT r1], []⟩ = some (.stop (stkAt 5 I25.body) (S25_5 x0 r1 (IntKind.i64.wrap (x5 + 1))) [(decide ((x5 : Int) < (List.length x0 : Int))) = true, (0 : Int) ≤ x5 ∧ x5 < (List.length x0), AbC 73 (xEX (List.getD x0 (Int.toNat x5) Ty.row.dflt) x1) (xDT r1), (decide ((r1 : Int) < 0)) = false]) := by kernel_rfl
theorem p25_5_2 (x0 : List Rowd) (x1 x5 : Int) : run tt (AbsCalls Try.prog) I25 3000 true (stkAt 5 I25.body) ⟨(S25_5 x0 x1 x5), [false], [], []⟩ = some (.done (xCT x1) [(decide ((x5 : Int) < (List.length x0 : Int))) = false]) := by kernel_rfl
theorem p25_e_3 (a0 : List Rowd) (a1 : Int) : run tt (AbsCalls Try.prog) I25 3000 false [.code I25.body] ⟨(zBi 0 (xFg a0 a1)), [true], [], []⟩ = some (.done (xCT (-1)) [(decide (((IntKind.i64.wrap (a1 - (List.length a0 : Int))) : Int) < 0)) = true]) := by kernel_rfl
theorem p25_e_4 (a0 : List Rowd) (a1 : Int) : run tt (AbsCalls Try.prog) I25 3000 false [.code I25.body] ⟨(zBi 0 (xFg a0 a1)), [false], [], []⟩ = some (.stop (stkAt 5 I25.body) (S25_5 a0 (IntKind.i64.wrap (a1 - (List.length a0 : Int))) 0) [(decide (((IntKind.i64.wrap (a1 - (List.length a0 : Int))) : Int) < 0)) = false]) := by kernel_rfl
theorem c25_5 {N : Nat} : ∀ n x0 x1 x5 r, xFQ N n x0 x1 x5 = some r → Reach Try.prog Try.f25 I25 (stkAt 5 I25.body) (S25_5 x0 x1 x5) (xCT r) := by
 intro n
 induction n with
 | zero => intro x0 x1 x5 r h; have h' : (none : Option (Int)) = some r := h; cases h'
 | succ n ih =>
  intro x0 x1 x5 r h
  rw [xFQ] at h
  rcases cond_inv h with ⟨h0, h⟩ | ⟨h0, h⟩
  ·obtain ⟨h1, h⟩ := ite_inv h
   obtain ⟨r1, h2, h⟩ := bind_inv h
   rcases cond_inv h with ⟨h3, h⟩ | ⟨h3, h⟩
   ·obtain rfl := Option.some.inj h
    exact Reach.done ttok mix fk25 (p25_5_0 x0 x1 x5 r1) (obs_cons h0 (obs_cons h1 (obs_cons (laws_szRow_ok h2) (obs_cons h3 obs_nil))))
   ·exact Reach.stop ttok mix fk25 (p25_5_1 x0 x1 x5 r1) (obs_cons h0 (obs_cons h1 (obs_cons (laws_szRow_ok h2) (obs_cons h3 obs_nil)))) (ih _ _ _ _ h)
  ·obtain rfl := Option.some.inj h
   exact Reach.done ttok mix fk25 (p25_5_2 x0 x1 x5) (obs_cons h0 obs_nil)
theorem c25_e {N : Nat} : ∀ a0 a1 r, xG1 N a0 a1 = some r → Reach Try.prog Try.f25 I25 [.code I25.body] (zBi 0 (xFg a0 a1)) (xCT r) := by
 intro a0 a1 r h
 unfold xG1 at h
 rcases cond_inv h with ⟨h0, h⟩ | ⟨h0, h⟩
 ·obtain rfl := Option.some.inj h
  exact Reach.done ttok mix fk25 (p25_e_3 a0 a1) (obs_cons h0 obs_nil)
 ·exact Reach.stop ttok mix fk25 (p25_e_4 a0 a1) (obs_cons h0 obs_nil) (c25_5   _ _ _ _ _ h)
theorem xH8 {N : Nat} {a0 : List Rowd} {a1 : Int} {r : Int} (h : xG1 N  a0 a1 = some r) : AbC 25 (xFg a0 a1) (xCT r) :=
 AbsCalls.of_reach fk25 rfl rfl (Nat.le_of_ble_eq_true rfl) (c25_e a0 a1 r h)
noncomputable def I8 : Info := { body := (Try.f8.body).getD .skip, nt := 31, results := [.tmp 4], keep := [0, 2, 4, 8, 22, 34, 46, 58, 5], live := [], modes := [], ext := [], lnt := [], casts := [], fcast := [] }
theorem fk8 : FnOk Try.prog 8 Try.f8 I8 := ⟨Try.func8, by kernel_rfl, by kernel_rfl, by kernel_rfl, by kernel_rfl⟩
theorem p8_e_0 (a0 : Val) (a1 : Int) : run tt (AbsCalls Try.prog) I8 3000 false [.code I8.body] ⟨(zBi 0 (xAl a0 a1)), [true], [], []⟩ = some (.done (xAe (-1)) [(decide (((IntKind.i64.wrap (a1 - (List.length (Val.text a0) : Int))) : Int) < 0)) = true]) := by kernel_rfl
theorem p8_e_1 (a0 : Val) (a1 r1 : Int) : run tt (AbsCalls Try.prog) I8 3000 false [.code I8.body] ⟨(zBi 0 (xAl a0 a1)), [false, true], [xAV r1], []⟩ = some (.done (xAe (-1)) [(decide (((IntKind.i64.wrap (a1 - (List.length (Val.text a0) : Int))) : Int) < 0)) = false, AbC 23 (xBv (Val.list a0) (IntKind.i64.wrap (a1 - (List.length (Val.text a0) : Int)))) (xAV r1), (decide ((r1 : Int) < 0)) = true]) := by kernel_rfl
theorem p8_e_2 (a0 : Val) (a1 r1 r2 : Int) : run tt (AbsCalls Try.prog) I8 3000 false [.code I8.body] ⟨(zBi 0 (xAl a0 a1)), [false, false, true], [xAV r1, xBC r2], []⟩ = some (.done (xAe (-1)) [(decide (((IntKind.i64.wrap (a1 - (List.length (Val.text a0) : Int))) : Int) < 0)) = false, AbC 23 (xBv (Val.list a0) (IntKind.i64.wrap (a1 - (List.length (Val.text a0) : Int)))) (xAV r1), (decide ((r1 : Int) < 0)) = false, AbC 24 (xDl (Val.columns a0) r1) (xBC r2), (decide ((r2 : Int) < 0)) = true]) := by kernel_rfl
theorem p8_e_3 (a0 : Val) (a1 r1 r2 r3 : Int) : run tt (AbsCalls Try.prog) I8 3000 false [.code I8.body] ⟨(zBi 0 (xAl a0 a1)), [false, false, false, true], [xAV r1, xBC r2, xCT r3], []⟩ = some (.done (xAe (-1)) [(decide (((IntKind.i64.wrap (a1 - (List.length (Val.text a0) : Int))) : Int) < 0)) = false, AbC 23 (xBv (Val.list a0) (IntKind.i64.wrap (a1 - (List.length (Val.text a0) : Int)))) (xAV r1), (decide ((r1 : Int) < 0)) = false, AbC 24 (xDl (Val.columns a0) r1) (xBC r2), (decide ((r2 : Int) < 0)) = false, AbC 25 (xFg (Val.rows a0) r2) (xCT r3), (decide ((r3 : Int) < 0)) = true]) := by kernel_rfl
theorem p8_e_4 (a0 : Val) (a1 r1 r2 r3 : Int) : run tt (AbsCalls Try.prog) I8 3000 false [.code I8.body] ⟨(zBi 0 (xAl a0 a1)), [false, false, false, false], [xAV r1, xBC r2, xCT r3], []⟩ = some (.done (xAe r3) [(decide (((IntKind.i64.wrap (a1 - (List.length (Val.text a0) : Int))) : Int) < 0)) = false, AbC 23 (xBv (Val.list a0) (IntKind.i64.wrap (a1 - (List.length (Val.text a0) : Int)))) (xAV r1), (decide ((r1 : Int) < 0)) = false, AbC 24 (xDl (Val.columns a0) r1) (xBC r2), (decide ((r2 : Int) < 0)) = false, AbC 25 (xFg (Val.rows a0) r2) (xCT r3), (decide ((r3 : Int) < 0)) = false]) := by kernel_rfl
theorem c8_e {N : Nat} {rc_laws_szValue : Val → Int → Option (Int)} (hrc_laws_szValue : ∀ a0 a1 r, rc_laws_szValue a0 a1 = some r → AbC 8 (xAl a0 a1) (xAe r)) {rc_laws_szValueS : (List Val) → Int → Option (Int)} (hrc_laws_szValueS : ∀ a0 a1 r, rc_laws_szValueS a0 a1 = some r → AbC 23 (xBv a0 a1) (xAV r)) : ∀ a0 a1 r, xFD N rc_laws_szValue rc_laws_szValueS a0 a1 = some r → Reach Try.prog Try.f8 I8 [.code I8.body] (zBi 0 (xAl a0 a1)) (xAe r) := by
 intro a0 a1 r h
 unfold xFD at h
 rcases cond_inv h with ⟨h0, h⟩ | ⟨h0, h⟩
 ·obtain rfl := Option.some.inj h
  exact Reach.done ttok mix fk8 (p8_e_0 a0 a1) (obs_cons h0 obs_nil)
 ·obtain ⟨r1, h1, h⟩ := bind_inv h
  rcases cond_inv h with ⟨h2, h⟩ | ⟨h2, h⟩
  ·obtain rfl := Option.some.inj h
   exact Reach.done ttok mix fk8 (p8_e_1 a0 a1 r1) (obs_cons h0 (obs_cons (hrc_laws_szValueS _ _ _ h1) (obs_cons h2 obs_nil)))
  ·obtain ⟨r2, h3, h⟩ := bind_inv h
   rcases cond_inv h with ⟨h4, h⟩ | ⟨h4, h⟩
   ·obtain rfl := Option.some.inj h
    exact Reach.done ttok mix fk8 (p8_e_2 a0 a1 r1 r2) (obs_cons h0 (obs_cons (hrc_laws_szValueS _ _ _ h1) (obs_cons h2 (obs_cons (xGk h3) (obs_cons h4 obs_nil)))))
   ·obtain ⟨r3, h5, h⟩ := bind_inv h
    rcases cond_inv h with ⟨h6, h⟩ | ⟨h6, h⟩
    ·obtain rfl := Option.some.inj h
     exact Reach.done ttok mix fk8 (p8_e_3 a0 a1 r1 r2 r3) (obs_cons h0 (obs_cons (hrc_laws_szValueS _ _ _ h1) (obs_cons h2 (obs_cons (xGk h3) (obs_cons h4 (obs_cons (xH8 h5) (obs_cons h6 obs_nil)))))))
    ·obtain rfl := Option.some.inj h
     exact Reach.done ttok mix fk8 (p8_e_4 a0 a1 r1 r2 r3) (obs_cons h0 (obs_cons (hrc_laws_szValueS _ _ _ h1) (obs_cons h2 (obs_cons (xGk h3) (obs_cons h4 (obs_cons (xH8 h5) (obs_cons h6 obs_nil)))))))
theorem xH1 {N : Nat} {rc_laws_szValue : Val → Int → Option (Int)} (hrc_laws_szValue : ∀ a0 a1 r, rc_laws_szValue a0 a1 = some r → AbC 8 (xAl a0 a1) (xAe r)) {rc_laws_szValueS : (List Val) → Int → Option (Int)} (hrc_laws_szValueS : ∀ a0 a1 r, rc_laws_szValueS a0 a1 = some r → AbC 23 (xBv a0 a1) (xAV r)) {a0 : Val} {a1 : Int} {r : Int} (h : xFD N rc_laws_szValue rc_laws_szValueS a0 a1 = some r) : AbC 8 (xAl a0 a1) (xAe r) :=
 AbsCalls.of_reach fk8 rfl rfl (Nat.le_of_ble_eq_true rfl) (c8_e hrc_laws_szValue hrc_laws_szValueS a0 a1 r h)
noncomputable def I23 : Info := { body := (Try.f23.body).getD .skip, nt := 27, results := [.tmp 4], keep := [0, 2, 8, 10, 22, 30, 50], live := [(5, [0, 2, 10])], modes := [], ext := [], lnt := [], casts := [], fcast := [] }
theorem fk23 : FnOk Try.prog 23 Try.f23 I23 := ⟨Try.func23, by kernel_rfl, by kernel_rfl, by kernel_rfl, by kernel_rfl⟩
def S23_5 (x0 : List Val) (x1 x5 : Int) : St := [(0, .v false [.sl .ro .val x0]), (2, .v false [.int .i64 x1]), (10, .v false [.int .i64 x5])]
theorem p23_5_0 (x0 : List Val) (x1 x5 r1 : Int) : run tt (AbsCalls Try.prog) I23 3000 true (stkAt 5 I23.body) ⟨(S23_5 x0 x1 x5), [true, true], [xAe r1], []⟩ = some (.done (xAV (-1)) [(decide ((x5 : Int) < (List.length x0 : Int))) = true, (0 : Int) ≤ x5 ∧ x5 < (List.length x0), AbC 8 (xAl (List.getD x0 (Int.toNat x5) Ty.val.dflt) x1) (xAe r1), (decide ((r1 : Int) < 0)) = true]) := by kernel_rfl
theorem p23_5_1 (x0 : List Val) (x1 x5 r1 : Int) : run tt (AbsCalls Try.prog) I23 3000 true (stkAt 5 I23.body) ⟨(S23_5 x0 x1 x5), [true, false], [xAe r1], []⟩ = some (.stop (stkAt 5 I23.body) (S23_5 x0 r1 (IntKind.i64.wrap (x5 + 1))) [(decide ((x5 : Int) < (List.length x0 : Int))) = true, (0 : Int) ≤ x5 ∧ x5 < (List.length x0), AbC 8 (xAl (List.getD x0 (Int.toNat x5) Ty.val.dflt) x1) (xAe r1), (decide ((r1 : Int) < 0)) = false]) := by kernel_rfl
theorem p23_5_2 (x0 : List Val) (x1 x5 : Int) : run tt (AbsCalls Try.prog) I23 3000 true (stkAt 5 I23.body) ⟨(S23_5 x0 x1 x5), [false], [], []⟩ = some (.done (xAV x1) [(decide ((x5 : Int) < (List.length x0 : Int))) = false]) := by kernel_rfl
theorem p23_e_3 (a0 : List Val) (a1 : Int) : run tt (AbsCalls Try.prog) I23 3000 false [.code I23.body] ⟨(zBi 0 (xBv a0 a1)), [true], [], []⟩ = some (.done (xAV (-1)) [(decide (((IntKind.i64.wrap (a1 - (List.length a0 : Int))) : Int) < 0)) = true]) := by kernel_rfl
theorem p23_e_4 (a0 : List Val) (a1 : Int) : run tt (AbsCalls Try.prog) I23 3000 false [.code I23.body] ⟨(zBi 0 (xBv a0 a1)), [false], [], []⟩ = some (.stop (stkAt 5 I23.body) (S23_5 a0 (IntKind.i64.wrap (a1 - (List.length a0 : Int))) 0) [(decide (((IntKind.i64.wrap (a1 - (List.length a0 : Int))) : Int) < 0)) = false]) := by kernel_rfl
theorem c23_5 {N : Nat} {rc_laws_szValue : Val → Int → Option (Int)} (hrc_laws_szValue : ∀ a0 a1 r, rc_laws_szValue a0 a1 = some r → AbC 8 (xAl a0 a1) (xAe r)) {rc_laws_szValueS : (List Val) → Int → Option (Int)} (hrc_laws_szValueS : ∀ a0 a1 r, rc_laws_szValueS a0 a1 = some r → AbC 23 (xBv a0 a1) (xAV r)) : ∀ n x0 x1 x5 r, xE5 N rc_laws_szValue rc_laws_szValueS n x0 x1 x5 = some r → Reach Try.prog Try.f23 I23 (stkAt 5 I23.body) (S23_5 x0 x1 x5) (xAV r) := by
 intro n
 induction n with
 | zero => intro x0 x1 x5 r h; have h' : (none : Option (Int)) = some r := h; cases h'
 | succ n ih =>
  intro x0 x1 x5 r h
  rw [xE5] at h
  rcases cond_inv h with ⟨h0, h⟩ | ⟨h0, h⟩
  ·obtain ⟨h1, h⟩ := ite_inv h
   obtain ⟨r1, h2, h⟩ := bind_inv h
   rcases cond_inv h with ⟨h3, h⟩ | ⟨h3, h⟩
   ·obtain rfl := Option.some.inj h
    exact Reach.done ttok mix fk23 (p23_5_0 x0 x1 x5 r1) (obs_cons h0 (obs_cons h1 (obs_cons (hrc_laws_szValue _ _ _ h2) (obs_cons h3 obs_nil))))
   ·exact Reach.stop ttok mix fk23 (p23_5_1 x0 x1 x5 r1) (obs_cons h0 (obs_cons h1 (obs_cons (hrc_laws_szValue _ _ _ h2) (obs_cons h3 obs_nil)))) (ih _ _ _ _ h)
  ·obtain rfl := Option.some.inj h
   exact Reach.done ttok mix fk23 (p23_5_2 x0 x1 x5) (obs_cons h0 obs_nil)
theorem c23_e {N : Nat} {rc_laws_szValue : Val → Int → Option (Int)} (hrc_laws_szValue : ∀ a0 a1 r, rc_laws_szValue a0 a1 = some r → AbC 8 (xAl a0 a1) (xAe r)) {rc_laws_szValueS : (List Val) → Int → Option (Int)} (hrc_laws_szValueS : ∀ a0 a1 r, rc_laws_szValueS a0 a1 = some r → AbC 23 (xBv a0 a1) (xAV r)) : ∀ a0 a1 r, xFp N rc_laws_szValue rc_laws_szValueS a0 a1 = some r → Reach Try.prog Try.f23 I23 [.code I23.body] (zBi 0 (xBv a0 a1)) (xAV r) := by
 intro a0 a1 r h
 unfold xFp at h
 rcases cond_inv h with ⟨h0, h⟩ | ⟨h0, h⟩
 ·obtain rfl := Option.some.inj h
  exact Reach.done ttok mix fk23 (p23_e_3 a0 a1) (obs_cons h0 obs_nil)
 ·exact Reach.stop ttok mix fk23 (p23_e_4 a0 a1) (obs_cons h0 obs_nil) (c23_5 hrc_laws_szValue hrc_laws_szValueS  _ _ _ _ _ h)
theorem xHR {N : Nat} {rc_laws_szValue : Val → Int → Option (Int)} (hrc_laws_szValue : ∀ a0 a1 r, rc_laws_szValue a0 a1 = some r → AbC 8 (xAl a0 a1) (xAe r)) {rc_laws_szValueS : (List Val) → Int → Option (Int)} (hrc_laws_szValueS : ∀ a0 a1 r, rc_laws_szValueS a0 a1 = some r → AbC 23 (xBv a0 a1) (xAV r)) {a0 : List Val} {a1 : Int} {r : Int} (h : xFp N rc_laws_szValue rc_laws_szValueS a0 a1 = some r) : AbC 23 (xBv a0 a1) (xAV r) :=
 AbsCalls.of_reach fk23 rfl rfl (Nat.le_of_ble_eq_true rfl) (c23_e hrc_laws_szValue hrc_laws_szValueS a0 a1 r h)
theorem xIj {N : Nat} : ∀ d, (∀ a0 a1 r, (xB9 N d).c_laws_szValue a0 a1 = some r → AbC 8 (xAl a0 a1) (xAe r)) ∧ (∀ a0 a1 r, (xB9 N d).c_laws_szValueS a0 a1 = some r → AbC 23 (xBv a0 a1) (xAV r)) := by
 intro d
 induction d with
 | zero =>
  refine ⟨?_, ?_⟩ <;> (intros; rename_i h; cases h)
 | succ d ih =>
  obtain ⟨ih0, ih1⟩ := ih
  refine ⟨?_, ?_⟩
  ·intro _ _ r h; exact xH1 (N := N) ih0 ih1 h
  ·intro _ _ r h; exact xHR (N := N) ih0 ih1 h
theorem xAp {N : Nat} {a0 : Val} {a1 : Int} {r : Int} (h : xF1 N a0 a1 = some r) : AbC 8 (xAl a0 a1) (xAe r) := (xIj N).1 _ _ r h
noncomputable def I31 : Info := { body := (Try.f31.body).getD .skip, nt := 22, results := [.tmp 2], keep := [0, 4, 6, 8, 22], live := [(3, [0, 6, 8])], modes := [(5, [(0, .ref, false)]), (6, [(0, .take, false)])], ext := [], lnt := [], casts := [], fcast := [] }
theorem fk31 : FnOk Try.prog 31 Try.f31 I31 := ⟨Try.func31, by kernel_rfl, by kernel_rfl, by kernel_rfl, by kernel_rfl⟩
def S31_3 (x0 x3 : List Str) (x4 : Int) : St := [(0, .v false [.sl .ro .str x0]), (6, .v false [.sl .own .str x3]), (8, .v false [.int .i64 x4])]
theorem p31_3_0 (x0 x3 : List Str) (x4 : Int) : run tt (AbsCalls Try.prog) I31 3000 true (stkAt 3 I31.body) ⟨(S31_3 x0 x3 x4), [true], [], []⟩ = some (.stop (stkAt 3 I31.body) (S31_3 x0 (List.set x3 (Int.toNat x4) (List.getD x0 (Int.toNat x4) Ty.str.dflt)) (IntKind.i64.wrap (x4 + 1))) [(decide ((x4 : Int) < (List.length x0 : Int))) = true, (0 : Int) ≤ x4 ∧ x4 < (List.length x0), (0 : Int) ≤ x4 ∧ x4 < (List.length x3)]) := by kernel_rfl
theorem p31_3_1 (x0 x3 : List Str) (x4 : Int) : run tt (AbsCalls Try.prog) I31 3000 true (stkAt 3 I31.body) ⟨(S31_3 x0 x3 x4), [false], [], []⟩ = some (.done (xD2 x3) [(decide ((x4 : Int) < (List.length x0 : Int))) = false]) := by kernel_rfl
theorem p31_e_2 (a0 : List Str) : run tt (AbsCalls Try.prog) I31 3000 false [.code I31.body] ⟨(zBi 0 (xFF a0)), [], [], []⟩ = some (.stop (stkAt 3 I31.body) (S31_3 a0 (List.replicate (Int.toNat (List.length a0 : Int)) Ty.str.dflt) 0) [(0 : Int) ≤ (List.length a0 : Int) ∧ (List.length a0 : Int) = (List.length a0 : Int) ∧ (List.length a0 : Int) ≤ Lim]) := by kernel_rfl
theorem c31_3 {N : Nat} : ∀ n x0 x3 x4 r, xEN N n x0 x3 x4 = some r → Reach Try.prog Try.f31 I31 (stkAt 3 I31.body) (S31_3 x0 x3 x4) (xD2 r) := by
 intro n
 induction n with
 | zero => intro x0 x3 x4 r h; have h' : (none : Option ((List Str))) = some r := h; cases h'
 | succ n ih =>
  intro x0 x3 x4 r h
  rw [xEN] at h
  rcases cond_inv h with ⟨h0, h⟩ | ⟨h0, h⟩
  ·obtain ⟨h1, h⟩ := ite_inv h
   obtain ⟨h2, h⟩ := ite_inv h
   exact Reach.stop ttok mix fk31 (p31_3_0 x0 x3 x4) (obs_cons h0 (obs_cons h1 (obs_cons h2 obs_nil))) (ih _ _ _ _ h)
  ·obtain rfl := Option.some.inj h
   exact Reach.done ttok mix fk31 (p31_3_1 x0 x3 x4) (obs_cons h0 obs_nil)
theorem c31_e {N : Nat} : ∀ a0 r, xFk N a0 = some r → Reach Try.prog Try.f31 I31 [.code I31.body] (zBi 0 (xFF a0)) (xD2 r) := by
 intro a0 r h
 unfold xFk at h
 obtain ⟨h0, h⟩ := ite_inv h
 exact Reach.stop ttok mix fk31 (p31_e_2 a0) (obs_cons h0 obs_nil) (c31_3   _ _ _ _ _ h)
theorem laws_toStringS_ok {N : Nat} {a0 : List Str} {r : (List Str)} (h : xFk N  a0 = some r) : AbC 31 (xFF a0) (xD2 r) :=
 AbsCalls.of_reach fk31 rfl rfl (Nat.le_of_ble_eq_true rfl) (c31_e a0 r h)
noncomputable def I96 : Info := { body := (Try.f96.body).getD .skip, nt := 22, results := [.tmp 2], keep := [0, 4, 6, 8, 22], live := [(3, [0, 6, 8])], modes := [(5, [(0, .ref, false)]), (6, [(0, .take, false)])], ext := [], lnt := [], casts := [], fcast := [] }
theorem fk96 : FnOk Try.prog 96 Try.f96 I96 := ⟨Try.func96, by kernel_rfl, by kernel_rfl, by kernel_rfl, by kernel_rfl⟩
def S96_3 (x0 x3 : List Int) (x4 : Int) : St := [(0, .v false [.sl .ro .int x0]), (6, .v false [.sl .own .int x3]), (8, .v false [.int .i64 x4])]
theorem p96_3_0 (x0 x3 : List Int) (x4 : Int) : run tt (AbsCalls Try.prog) I96 3000 true (stkAt 3 I96.body) ⟨(S96_3 x0 x3 x4), [true], [], []⟩ = some (.stop (stkAt 3 I96.body) (S96_3 x0 (List.set x3 (Int.toNat x4) (List.getD x0 (Int.toNat x4) Ty.int.dflt)) (IntKind.i64.wrap (x4 + 1))) [(decide ((x4 : Int) < (List.length x0 : Int))) = true, (0 : Int) ≤ x4 ∧ x4 < (List.length x0), (0 : Int) ≤ x4 ∧ x4 < (List.length x3)]) := by kernel_rfl
theorem p96_3_1 (x0 x3 : List Int) (x4 : Int) : run tt (AbsCalls Try.prog) I96 3000 true (stkAt 3 I96.body) ⟨(S96_3 x0 x3 x4), [false], [], []⟩ = some (.done (xFh x3) [(decide ((x4 : Int) < (List.length x0 : Int))) = false]) := by kernel_rfl
theorem p96_e_2 (a0 : List Int) : run tt (AbsCalls Try.prog) I96 3000 false [.code I96.body] ⟨(zBi 0 (xGw a0)), [], [], []⟩ = some (.stop (stkAt 3 I96.body) (S96_3 a0 (List.replicate (Int.toNat (List.length a0 : Int)) Ty.int.dflt) 0) [(0 : Int) ≤ (List.length a0 : Int) ∧ (List.length a0 : Int) = (List.length a0 : Int) ∧ (List.length a0 : Int) ≤ Lim]) := by kernel_rfl
theorem c96_3 {N : Nat} : ∀ n x0 x3 x4 r, xFS N n x0 x3 x4 = some r → Reach Try.prog Try.f96 I96 (stkAt 3 I96.body) (S96_3 x0 x3 x4) (xFh r) := by
 intro n
 induction n with
 | zero => intro x0 x3 x4 r h; have h' : (none : Option ((List Int))) = some r := h; cases h'
 | succ n ih =>
  intro x0 x3 x4 r h
  rw [xFS] at h
  rcases cond_inv h with ⟨h0, h⟩ | ⟨h0, h⟩
  ·obtain ⟨h1, h⟩ := ite_inv h
   obtain ⟨h2, h⟩ := ite_inv h
   exact Reach.stop ttok mix fk96 (p96_3_0 x0 x3 x4) (obs_cons h0 (obs_cons h1 (obs_cons h2 obs_nil))) (ih _ _ _ _ h)
  ·obtain rfl := Option.some.inj h
   exact Reach.done ttok mix fk96 (p96_3_1 x0 x3 x4) (obs_cons h0 obs_nil)
theorem c96_e {N : Nat} : ∀ a0 r, xGl N a0 = some r → Reach Try.prog Try.f96 I96 [.code I96.body] (zBi 0 (xGw a0)) (xFh r) := by
 intro a0 r h
 unfold xGl at h
 obtain ⟨h0, h⟩ := ite_inv h
 exact Reach.stop ttok mix fk96 (p96_e_2 a0) (obs_cons h0 obs_nil) (c96_3   _ _ _ _ _ h)
theorem laws_toIntS_ok {N : Nat} {a0 : List Int} {r : (List Int)} (h : xGl N  a0 = some r) : AbC 96 (xGw a0) (xFh r) :=
 AbsCalls.of_reach fk96 rfl rfl (Nat.le_of_ble_eq_true rfl) (c96_e a0 r h)
noncomputable def I115 : Info := { body := (Try.f115.body).getD .skip, nt := 11, results := [.cell 2 94], keep := [0, 2, 4, 6, 3, 5, 7], live := [], modes := [], ext := [], lnt := [], casts := [], fcast := [] }
theorem fk115 : FnOk Try.prog 115 Try.f115 I115 := ⟨Try.func115, by kernel_rfl, by kernel_rfl, by kernel_rfl, by kernel_rfl⟩
theorem p115_e_0 (a0 : Org) : run tt (AbsCalls Try.prog) I115 3000 false [.code I115.body] ⟨(zBi 0 (xFY a0)), [], [], []⟩ = some (.done (xE6 a0) []) := by kernel_rfl
theorem c115_e {N : Nat} : ∀ a0 r, xGa N a0 = some r → Reach Try.prog Try.f115 I115 [.code I115.body] (zBi 0 (xFY a0)) (xE6 r) := by
 intro a0 r h
 unfold xGa at h
 obtain rfl := Option.some.inj h
 exact Reach.done ttok mix fk115 (p115_e_0 a0) obs_nil
theorem laws_toOrigin_ok {N : Nat} {a0 : Org} {r : Org} (h : xGa N  a0 = some r) : AbC 115 (xFY a0) (xE6 r) :=
 AbsCalls.of_reach fk115 rfl rfl (Nat.le_of_ble_eq_true rfl) (c115_e a0 r h)
noncomputable def I97 : Info := { body := (Try.f97.body).getD .skip, nt := 23, results := [.tmp 2], keep := [0, 4, 6, 8, 22], live := [(3, [0, 6, 8])], modes := [(5, [(0, .ref, false)]), (6, [(0, .take, false)])], ext := [], lnt := [], casts := [], fcast := [] }
theorem fk97 : FnOk Try.prog 97 Try.f97 I97 := ⟨Try.func97, by kernel_rfl, by kernel_rfl, by kernel_rfl, by kernel_rfl⟩
def S97_3 (x0 x3 : List Org) (x4 : Int) : St := [(0, .v false [.sl .ro .org x0]), (6, .v false [.sl .own .org x3]), (8, .v false [.int .i64 x4])]
theorem p97_3_0 (x0 x3 : List Org) (x4 : Int) (r1 : Org) : run tt (AbsCalls Try.prog) I97 3000 true (stkAt 3 I97.body) ⟨(S97_3 x0 x3 x4), [true], [xE6 r1], []⟩ = some (.stop (stkAt 3 I97.body) (S97_3 x0 (List.set x3 (Int.toNat x4) r1) (IntKind.i64.wrap (x4 + 1))) [(decide ((x4 : Int) < (List.length x0 : Int))) = true, (0 : Int) ≤ x4 ∧ x4 < (List.length x0), AbC 115 (xFY (List.getD x0 (Int.toNat x4) Ty.org.dflt)) (xE6 r1), (0 : Int) ≤ x4 ∧ x4 < (List.length x3)]) := by kernel_rfl
theorem p97_3_1 (x0 x3 : List Org) (x4 : Int) : run tt (AbsCalls Try.prog) I97 3000 true (stkAt 3 I97.body) ⟨(S97_3 x0 x3 x4), [false], [], []⟩ = some (.done (xD1 x3) [(decide ((x4 : Int) < (List.length x0 : Int))) = false]) := by kernel_rfl
theorem p97_e_2 (a0 : List Org) : run tt (AbsCalls Try.prog) I97 3000 false [.code I97.body] ⟨(zBi 0 (xFE a0)), [], [], []⟩ = some (.stop (stkAt 3 I97.body) (S97_3 a0 (List.replicate (Int.toNat (List.length a0 : Int)) Ty.org.dflt) 0) [(0 : Int) ≤ (List.length a0 : Int) ∧ (List.length a0 : Int) = (List.length a0 : Int) ∧ (List.length a0 : Int) ≤ Lim]) := by kernel_rfl
theorem c97_3 {N : Nat} : ∀ n x0 x3 x4 r, xEM N n x0 x3 x4 = some r → Reach Try.prog Try.f97 I97 (stkAt 3 I97.body) (S97_3 x0 x3 x4) (xD1 r) := by
 intro n
 induction n with
 | zero => intro x0 x3 x4 r h; have h' : (none : Option ((List Org))) = some r := h; cases h'
 | succ n ih =>
  intro x0 x3 x4 r h
  rw [xEM] at h
  rcases cond_inv h with ⟨h0, h⟩ | ⟨h0, h⟩
  ·obtain ⟨h1, h⟩ := ite_inv h
   obtain ⟨r1, h2, h⟩ := bind_inv h
   obtain ⟨h3, h⟩ := ite_inv h
   exact Reach.stop ttok mix fk97 (p97_3_0 x0 x3 x4 r1) (obs_cons h0 (obs_cons h1 (obs_cons (laws_toOrigin_ok h2) (obs_cons h3 obs_nil)))) (ih _ _ _ _ h)
  ·obtain rfl := Option.some.inj h
   exact Reach.done ttok mix fk97 (p97_3_1 x0 x3 x4) (obs_cons h0 obs_nil)
theorem c97_e {N : Nat} : ∀ a0 r, xFi N a0 = some r → Reach Try.prog Try.f97 I97 [.code I97.body] (zBi 0 (xFE a0)) (xD1 r) := by
 intro a0 r h
 unfold xFi at h
 obtain ⟨h0, h⟩ := ite_inv h
 exact Reach.stop ttok mix fk97 (p97_e_2 a0) (obs_cons h0 obs_nil) (c97_3   _ _ _ _ _ h)
theorem laws_toOriginS_ok {N : Nat} {a0 : List Org} {r : (List Org)} (h : xFi N  a0 = some r) : AbC 97 (xFE a0) (xD1 r) :=
 AbsCalls.of_reach fk97 rfl rfl (Nat.le_of_ble_eq_true rfl) (c97_e a0 r h)
noncomputable def I75 : Info := { body := (Try.f75.body).getD .skip, nt := 13, results := [.cell 2 62], keep := [0, 2, 4, 6, 3, 5, 7], live := [], modes := [(4, [(0, .take, false)])], ext := [], lnt := [], casts := [], fcast := [] }
theorem fk75 : FnOk Try.prog 75 Try.f75 I75 := ⟨Try.func75, by kernel_rfl, by kernel_rfl, by kernel_rfl, by kernel_rfl⟩
theorem p75_e_0 (a0 : Rowd) (r1 : (List Int)) (r2 : (List Org)) : run tt (AbsCalls Try.prog) I75 3000 false [.code I75.body] ⟨(zBi 0 (xGK a0)), [], [xFh r1, xD1 r2], []⟩ = some (.done (xGb (Rowd.mk r1 r2)) [AbC 96 (xGw (Rowd.cells a0)) (xFh r1), AbC 97 (xFE (Rowd.frm a0)) (xD1 r2)]) := by kernel_rfl
theorem c75_e {N : Nat} : ∀ a0 r, xGm N a0 = some r → Reach Try.prog Try.f75 I75 [.code I75.body] (zBi 0 (xGK a0)) (xGb r) := by
 intro a0 r h
 unfold xGm at h
 obtain ⟨r1, h0, h⟩ := bind_inv h
 obtain ⟨r2, h1, h⟩ := bind_inv h
 obtain rfl := Option.some.inj h
 exact Reach.done ttok mix fk75 (p75_e_0 a0 r1 r2) (obs_cons (laws_toIntS_ok h0) (obs_cons (laws_toOriginS_ok h1) obs_nil))
theorem laws_toRow_ok {N : Nat} {a0 : Rowd} {r : Rowd} (h : xGm N  a0 = some r) : AbC 75 (xGK a0) (xGb r) :=
 AbsCalls.of_reach fk75 rfl rfl (Nat.le_of_ble_eq_true rfl) (c75_e a0 r h)
noncomputable def I32 : Info := { body := (Try.f32.body).getD .skip, nt := 23, results := [.tmp 2], keep := [0, 4, 6, 8, 22], live := [(3, [0, 6, 8])], modes := [(5, [(0, .ref, false)]), (6, [(0, .take, false)])], ext := [], lnt := [], casts := [], fcast := [] }
theorem fk32 : FnOk Try.prog 32 Try.f32 I32 := ⟨Try.func32, by kernel_rfl, by kernel_rfl, by kernel_rfl, by kernel_rfl⟩
def S32_3 (x0 x3 : List Rowd) (x4 : Int) : St := [(0, .v false [.sl .ro .row x0]), (6, .v false [.sl .own .row x3]), (8, .v false [.int .i64 x4])]
theorem p32_3_0 (x0 x3 : List Rowd) (x4 : Int) (r1 : Rowd) : run tt (AbsCalls Try.prog) I32 3000 true (stkAt 3 I32.body) ⟨(S32_3 x0 x3 x4), [true], [xGb r1], []⟩ = some (.stop (stkAt 3 I32.body) (S32_3 x0 (List.set x3 (Int.toNat x4) r1) (IntKind.i64.wrap (x4 + 1))) [(decide ((x4 : Int) < (List.length x0 : Int))) = true, (0 : Int) ≤ x4 ∧ x4 < (List.length x0), AbC 75 (xGK (List.getD x0 (Int.toNat x4) Ty.row.dflt)) (xGb r1), (0 : Int) ≤ x4 ∧ x4 < (List.length x3)]) := by kernel_rfl
theorem p32_3_1 (x0 x3 : List Rowd) (x4 : Int) : run tt (AbsCalls Try.prog) I32 3000 true (stkAt 3 I32.body) ⟨(S32_3 x0 x3 x4), [false], [], []⟩ = some (.done (xFj x3) [(decide ((x4 : Int) < (List.length x0 : Int))) = false]) := by kernel_rfl
theorem p32_e_2 (a0 : List Rowd) : run tt (AbsCalls Try.prog) I32 3000 false [.code I32.body] ⟨(zBi 0 (xGx a0)), [], [], []⟩ = some (.stop (stkAt 3 I32.body) (S32_3 a0 (List.replicate (Int.toNat (List.length a0 : Int)) Ty.row.dflt) 0) [(0 : Int) ≤ (List.length a0 : Int) ∧ (List.length a0 : Int) = (List.length a0 : Int) ∧ (List.length a0 : Int) ≤ Lim]) := by kernel_rfl
theorem c32_3 {N : Nat} : ∀ n x0 x3 x4 r, xFT N n x0 x3 x4 = some r → Reach Try.prog Try.f32 I32 (stkAt 3 I32.body) (S32_3 x0 x3 x4) (xFj r) := by
 intro n
 induction n with
 | zero => intro x0 x3 x4 r h; have h' : (none : Option ((List Rowd))) = some r := h; cases h'
 | succ n ih =>
  intro x0 x3 x4 r h
  rw [xFT] at h
  rcases cond_inv h with ⟨h0, h⟩ | ⟨h0, h⟩
  ·obtain ⟨h1, h⟩ := ite_inv h
   obtain ⟨r1, h2, h⟩ := bind_inv h
   obtain ⟨h3, h⟩ := ite_inv h
   exact Reach.stop ttok mix fk32 (p32_3_0 x0 x3 x4 r1) (obs_cons h0 (obs_cons h1 (obs_cons (laws_toRow_ok h2) (obs_cons h3 obs_nil)))) (ih _ _ _ _ h)
  ·obtain rfl := Option.some.inj h
   exact Reach.done ttok mix fk32 (p32_3_1 x0 x3 x4) (obs_cons h0 obs_nil)
theorem c32_e {N : Nat} : ∀ a0 r, xGn N a0 = some r → Reach Try.prog Try.f32 I32 [.code I32.body] (zBi 0 (xGx a0)) (xFj r) := by
 intro a0 r h
 unfold xGn at h
 obtain ⟨h0, h⟩ := ite_inv h
 exact Reach.stop ttok mix fk32 (p32_e_2 a0) (obs_cons h0 obs_nil) (c32_3   _ _ _ _ _ h)
theorem laws_toRowS_ok {N : Nat} {a0 : List Rowd} {r : (List Rowd)} (h : xGn N  a0 = some r) : AbC 32 (xGx a0) (xFj r) :=
 AbsCalls.of_reach fk32 rfl rfl (Nat.le_of_ble_eq_true rfl) (c32_e a0 r h)
noncomputable def I10 : Info := { body := (Try.f10.body).getD .skip, nt := 29, results := [.cell 2 31], keep := [0, 2, 4, 6, 3, 5, 7], live := [], modes := [(9, [(0, .take, false)])], ext := [], lnt := [], casts := [], fcast := [] }
theorem fk10 : FnOk Try.prog 10 Try.f10 I10 := ⟨Try.func10, by kernel_rfl, by kernel_rfl, by kernel_rfl, by kernel_rfl⟩
theorem p10_e_0 (a0 : Val) (r1 : (List Val)) (r2 : (List Str)) (r3 : (List Rowd)) : run tt (AbsCalls Try.prog) I10 3000 false [.code I10.body] ⟨(zBi 0 (xAc a0)), [], [xBQ r1, xD2 r2, xFj r3], []⟩ = some (.done (xAa (Val.mk (Val.kind a0) (Val.n a0) (Val.step a0) (Val.text a0) r1 r2 r3)) [AbC 30 (xCm (Val.list a0)) (xBQ r1), AbC 31 (xFF (Val.columns a0)) (xD2 r2), AbC 32 (xGx (Val.rows a0)) (xFj r3)]) := by kernel_rfl
theorem c10_e {N : Nat} {rc_laws_toValue : Val → Option (Val)} (hrc_laws_toValue : ∀ a0 r, rc_laws_toValue a0 = some r → AbC 10 (xAc a0) (xAa r)) {rc_laws_toValueS : (List Val) → Option ((List Val))} (hrc_laws_toValueS : ∀ a0 r, rc_laws_toValueS a0 = some r → AbC 30 (xCm a0) (xBQ r)) : ∀ a0 r, xD3 N rc_laws_toValue rc_laws_toValueS a0 = some r → Reach Try.prog Try.f10 I10 [.code I10.body] (zBi 0 (xAc a0)) (xAa r) := by
 intro a0 r h
 unfold xD3 at h
 obtain ⟨r1, h0, h⟩ := bind_inv h
 obtain ⟨r2, h1, h⟩ := bind_inv h
 obtain ⟨r3, h2, h⟩ := bind_inv h
 obtain rfl := Option.some.inj h
 exact Reach.done ttok mix fk10 (p10_e_0 a0 r1 r2 r3) (obs_cons (hrc_laws_toValueS _ _ h0) (obs_cons (laws_toStringS_ok h1) (obs_cons (laws_toRowS_ok h2) obs_nil)))
theorem xH2 {N : Nat} {rc_laws_toValue : Val → Option (Val)} (hrc_laws_toValue : ∀ a0 r, rc_laws_toValue a0 = some r → AbC 10 (xAc a0) (xAa r)) {rc_laws_toValueS : (List Val) → Option ((List Val))} (hrc_laws_toValueS : ∀ a0 r, rc_laws_toValueS a0 = some r → AbC 30 (xCm a0) (xBQ r)) {a0 : Val} {r : Val} (h : xD3 N rc_laws_toValue rc_laws_toValueS a0 = some r) : AbC 10 (xAc a0) (xAa r) :=
 AbsCalls.of_reach fk10 rfl rfl (Nat.le_of_ble_eq_true rfl) (c10_e hrc_laws_toValue hrc_laws_toValueS a0 r h)
noncomputable def I30 : Info := { body := (Try.f30.body).getD .skip, nt := 23, results := [.tmp 2], keep := [0, 4, 6, 8, 22], live := [(3, [0, 6, 8])], modes := [(5, [(0, .ref, false)]), (6, [(0, .take, false)])], ext := [], lnt := [], casts := [], fcast := [] }
theorem fk30 : FnOk Try.prog 30 Try.f30 I30 := ⟨Try.func30, by kernel_rfl, by kernel_rfl, by kernel_rfl, by kernel_rfl⟩
def S30_3 (x0 x3 : List Val) (x4 : Int) : St := [(0, .v false [.sl .ro .val x0]), (6, .v false [.sl .own .val x3]), (8, .v false [.int .i64 x4])]
theorem p30_3_0 (x0 x3 : List Val) (x4 : Int) (r1 : Val) : run tt (AbsCalls Try.prog) I30 3000 true (stkAt 3 I30.body) ⟨(S30_3 x0 x3 x4), [true], [xAa r1], []⟩ = some (.stop (stkAt 3 I30.body) (S30_3 x0 (List.set x3 (Int.toNat x4) (Val.re r1)) (IntKind.i64.wrap (x4 + 1))) [(decide ((x4 : Int) < (List.length x0 : Int))) = true, (0 : Int) ≤ x4 ∧ x4 < (List.length x0), AbC 10 (xAc (List.getD x0 (Int.toNat x4) Ty.val.dflt)) (xAa r1), (0 : Int) ≤ x4 ∧ x4 < (List.length x3)]) := by kernel_rfl
theorem p30_3_1 (x0 x3 : List Val) (x4 : Int) : run tt (AbsCalls Try.prog) I30 3000 true (stkAt 3 I30.body) ⟨(S30_3 x0 x3 x4), [false], [], []⟩ = some (.done (xBQ x3) [(decide ((x4 : Int) < (List.length x0 : Int))) = false]) := by kernel_rfl
theorem p30_e_2 (a0 : List Val) : run tt (AbsCalls Try.prog) I30 3000 false [.code I30.body] ⟨(zBi 0 (xCm a0)), [], [], []⟩ = some (.stop (stkAt 3 I30.body) (S30_3 a0 (List.replicate (Int.toNat (List.length a0 : Int)) Ty.val.dflt) 0) [(0 : Int) ≤ (List.length a0 : Int) ∧ (List.length a0 : Int) = (List.length a0 : Int) ∧ (List.length a0 : Int) ≤ Lim]) := by kernel_rfl
theorem c30_3 {N : Nat} {rc_laws_toValue : Val → Option (Val)} (hrc_laws_toValue : ∀ a0 r, rc_laws_toValue a0 = some r → AbC 10 (xAc a0) (xAa r)) {rc_laws_toValueS : (List Val) → Option ((List Val))} (hrc_laws_toValueS : ∀ a0 r, rc_laws_toValueS a0 = some r → AbC 30 (xCm a0) (xBQ r)) : ∀ n x0 x3 x4 r, xE7 N rc_laws_toValue rc_laws_toValueS n x0 x3 x4 = some r → Reach Try.prog Try.f30 I30 (stkAt 3 I30.body) (S30_3 x0 x3 x4) (xBQ r) := by
 intro n
 induction n with
 | zero => intro x0 x3 x4 r h; have h' : (none : Option ((List Val))) = some r := h; cases h'
 | succ n ih =>
  intro x0 x3 x4 r h
  rw [xE7] at h
  rcases cond_inv h with ⟨h0, h⟩ | ⟨h0, h⟩
  ·obtain ⟨h1, h⟩ := ite_inv h
   obtain ⟨r1, h2, h⟩ := bind_inv h
   obtain ⟨h3, h⟩ := ite_inv h
   exact Reach.stop ttok mix fk30 (p30_3_0 x0 x3 x4 r1) (obs_cons h0 (obs_cons h1 (obs_cons (hrc_laws_toValue _ _ h2) (obs_cons h3 obs_nil)))) (ih _ _ _ _ h)
  ·obtain rfl := Option.some.inj h
   exact Reach.done ttok mix fk30 (p30_3_1 x0 x3 x4) (obs_cons h0 obs_nil)
theorem c30_e {N : Nat} {rc_laws_toValue : Val → Option (Val)} (hrc_laws_toValue : ∀ a0 r, rc_laws_toValue a0 = some r → AbC 10 (xAc a0) (xAa r)) {rc_laws_toValueS : (List Val) → Option ((List Val))} (hrc_laws_toValueS : ∀ a0 r, rc_laws_toValueS a0 = some r → AbC 30 (xCm a0) (xBQ r)) : ∀ a0 r, xDB N rc_laws_toValue rc_laws_toValueS a0 = some r → Reach Try.prog Try.f30 I30 [.code I30.body] (zBi 0 (xCm a0)) (xBQ r) := by
 intro a0 r h
 unfold xDB at h
 obtain ⟨h0, h⟩ := ite_inv h
 exact Reach.stop ttok mix fk30 (p30_e_2 a0) (obs_cons h0 obs_nil) (c30_3 hrc_laws_toValue hrc_laws_toValueS  _ _ _ _ _ h)
theorem xHS {N : Nat} {rc_laws_toValue : Val → Option (Val)} (hrc_laws_toValue : ∀ a0 r, rc_laws_toValue a0 = some r → AbC 10 (xAc a0) (xAa r)) {rc_laws_toValueS : (List Val) → Option ((List Val))} (hrc_laws_toValueS : ∀ a0 r, rc_laws_toValueS a0 = some r → AbC 30 (xCm a0) (xBQ r)) {a0 : List Val} {r : (List Val)} (h : xDB N rc_laws_toValue rc_laws_toValueS a0 = some r) : AbC 30 (xCm a0) (xBQ r) :=
 AbsCalls.of_reach fk30 rfl rfl (Nat.le_of_ble_eq_true rfl) (c30_e hrc_laws_toValue hrc_laws_toValueS a0 r h)
theorem xIk {N : Nat} : ∀ d, (∀ a0 r, (xBc N d).c_laws_toValue a0 = some r → AbC 10 (xAc a0) (xAa r)) ∧ (∀ a0 r, (xBc N d).c_laws_toValueS a0 = some r → AbC 30 (xCm a0) (xBQ r)) := by
 intro d
 induction d with
 | zero =>
  refine ⟨?_, ?_⟩ <;> (intros; rename_i h; cases h)
 | succ d ih =>
  obtain ⟨ih0, ih1⟩ := ih
  refine ⟨?_, ?_⟩
  ·intro _ r h; exact xH2 (N := N) ih0 ih1 h
  ·intro _ r h; exact xHS (N := N) ih0 ih1 h
theorem xAd {N : Nat} {a0 : Val} {r : Val} (h : xA8 N a0 = some r) : AbC 10 (xAc a0) (xAa r) := (xIk N).1 _ r h
noncomputable def I54 : Info := { body := (Try.f54.body).getD .skip, nt := 15, results := [.tmp 6], keep := [0, 2, 4, 12], live := [], modes := [(1, [(3, .take, false)])], ext := [], lnt := [], casts := [], fcast := [] }
theorem fk54 : FnOk Try.prog 54 Try.f54 I54 := ⟨Try.func54, by kernel_rfl, by kernel_rfl, by kernel_rfl, by kernel_rfl⟩
theorem p54_e_0 (a0 a1 a2 : Int) : run tt (AbsCalls Try.prog) I54 3000 false [.code I54.body] ⟨(zBi 0 (xDU a0 a1 a2)), [true], [], []⟩ = some (.done (xCd (decide ((a0 : Int) ≤ a2))) [(decide ((a0 : Int) ≥ a1)) = true]) := by kernel_rfl
theorem p54_e_1 (a0 a1 a2 : Int) : run tt (AbsCalls Try.prog) I54 3000 false [.code I54.body] ⟨(zBi 0 (xDU a0 a1 a2)), [false], [], []⟩ = some (.done (xCd false) [(decide ((a0 : Int) ≥ a1)) = false]) := by kernel_rfl
theorem c54_e {N : Nat} : ∀ a0 a1 a2 r, xGc N a0 a1 a2 = some r → Reach Try.prog Try.f54 I54 [.code I54.body] (zBi 0 (xDU a0 a1 a2)) (xCd r) := by
 intro a0 a1 a2 r h
 unfold xGc at h
 rcases cond_inv h with ⟨h0, h⟩ | ⟨h0, h⟩
 ·obtain rfl := Option.some.inj h
  exact Reach.done ttok mix fk54 (p54_e_0 a0 a1 a2) (obs_cons h0 obs_nil)
 ·obtain rfl := Option.some.inj h
  exact Reach.done ttok mix fk54 (p54_e_1 a0 a1 a2) (obs_cons h0 obs_nil)
theorem xF3 {N : Nat} {a0 : Int} {a1 : Int} {a2 : Int} {r : Bool} (h : xGc N  a0 a1 a2 = some r) : AbC 54 (xDU a0 a1 a2) (xCd r) :=
 AbsCalls.of_reach fk54 rfl rfl (Nat.le_of_ble_eq_true rfl) (c54_e a0 a1 a2 r h)
noncomputable def I49 : Info := { body := (Try.f49.body).getD .skip, nt := 5, results := [.tmp 2], keep := [0, 4], live := [], modes := [], ext := [], lnt := [], casts := [], fcast := [] }
theorem fk49 : FnOk Try.prog 49 Try.f49 I49 := ⟨Try.func49, by kernel_rfl, by kernel_rfl, by kernel_rfl, by kernel_rfl⟩
theorem p49_e_0 (a0 : Int) (r1 : Bool) : run tt (AbsCalls Try.prog) I49 3000 false [.code I49.body] ⟨(zBi 0 (xCa a0)), [], [xCd r1], []⟩ = some (.done (xA2 r1) [AbC 54 (xDU a0 (-1000000000) 1000000000) (xCd r1)]) := by kernel_rfl
theorem c49_e {N : Nat} : ∀ a0 r, xDr N a0 = some r → Reach Try.prog Try.f49 I49 [.code I49.body] (zBi 0 (xCa a0)) (xA2 r) := by
 intro a0 r h
 unfold xDr at h
 obtain ⟨r1, h0, h⟩ := bind_inv h
 obtain rfl := Option.some.inj h
 exact Reach.done ttok mix fk49 (p49_e_0 a0 r1) (obs_cons (xF3 h0) obs_nil)
theorem xC9 {N : Nat} {a0 : Int} {r : Bool} (h : xDr N  a0 = some r) : AbC 49 (xCa a0) (xA2 r) :=
 AbsCalls.of_reach fk49 rfl rfl (Nat.le_of_ble_eq_true rfl) (c49_e a0 r h)
noncomputable def I103 : Info := { body := (Try.f103.body).getD .skip, nt := 29, results := [.tmp 2], keep := [0, 4, 6, 14, 50], live := [(2, [0, 6])], modes := [(4, [(4, .take, false), (10, .take, false)])], ext := [], lnt := [], casts := [], fcast := [] }
theorem fk103 : FnOk Try.prog 103 Try.f103 I103 := ⟨Try.func103, by kernel_rfl, by kernel_rfl, by kernel_rfl, by kernel_rfl⟩
def S103_2 (x0 : Str) (x3 : Int) : St := [(0, .v false [.str x0]), (6, .v false [.int .i64 x3])]
theorem p103_2_0 (x0 : Str) (x3 : Int) : run tt (AbsCalls Try.prog) I103 3000 true (stkAt 2 I103.body) ⟨(S103_2 x0 x3), [true, true, true, true], [], []⟩ = some (.done (xB4 false) [(decide ((x3 : Int) < (List.length x0 : Int))) = true, (0 : Int) ≤ x3 ∧ x3 < (List.length x0), (decide ((((List.getD x0 (Int.toNat x3) 0).toNat : Int) : Int) < 32)) = true, true = true, true = true]) := by kernel_rfl
theorem p103_2_1 (x0 : Str) (x3 : Int) : run tt (AbsCalls Try.prog) I103 3000 true (stkAt 2 I103.body) ⟨(S103_2 x0 x3), [true, false, true, true], [], []⟩ = some (.done (xB4 false) [(decide ((x3 : Int) < (List.length x0 : Int))) = true, (0 : Int) ≤ x3 ∧ x3 < (List.length x0), (decide ((((List.getD x0 (Int.toNat x3) 0).toNat : Int) : Int) < 32)) = false, (0 : Int) ≤ x3 ∧ x3 < (List.length x0), (decide ((((List.getD x0 (Int.toNat x3) 0).toNat : Int) : Int) > 126)) = true, true = true]) := by kernel_rfl
theorem p103_2_2 (x0 : Str) (x3 : Int) : run tt (AbsCalls Try.prog) I103 3000 true (stkAt 2 I103.body) ⟨(S103_2 x0 x3), [true, false, false, true], [], []⟩ = some (.done (xB4 false) [(decide ((x3 : Int) < (List.length x0 : Int))) = true, (0 : Int) ≤ x3 ∧ x3 < (List.length x0), (decide ((((List.getD x0 (Int.toNat x3) 0).toNat : Int) : Int) < 32)) = false, (0 : Int) ≤ x3 ∧ x3 < (List.length x0), (decide ((((List.getD x0 (Int.toNat x3) 0).toNat : Int) : Int) > 126)) = false, (0 : Int) ≤ x3 ∧ x3 < (List.length x0), ((((List.getD x0 (Int.toNat x3) 0).toNat : Int) : Int) == 34) = true]) := by kernel_rfl
theorem p103_2_3 (x0 : Str) (x3 : Int) : run tt (AbsCalls Try.prog) I103 3000 true (stkAt 2 I103.body) ⟨(S103_2 x0 x3), [true, false, false, false], [], []⟩ = some (.stop (stkAt 2 I103.body) (S103_2 x0 (IntKind.i64.wrap (x3 + 1))) [(decide ((x3 : Int) < (List.length x0 : Int))) = true, (0 : Int) ≤ x3 ∧ x3 < (List.length x0), (decide ((((List.getD x0 (Int.toNat x3) 0).toNat : Int) : Int) < 32)) = false, (0 : Int) ≤ x3 ∧ x3 < (List.length x0), (decide ((((List.getD x0 (Int.toNat x3) 0).toNat : Int) : Int) > 126)) = false, (0 : Int) ≤ x3 ∧ x3 < (List.length x0), ((((List.getD x0 (Int.toNat x3) 0).toNat : Int) : Int) == 34) = false]) := by kernel_rfl
theorem p103_2_4 (x0 : Str) (x3 : Int) : run tt (AbsCalls Try.prog) I103 3000 true (stkAt 2 I103.body) ⟨(S103_2 x0 x3), [false], [], []⟩ = some (.done (xB4 (decide (((List.length x0 : Int) : Int) ≤ 20))) [(decide ((x3 : Int) < (List.length x0 : Int))) = false]) := by kernel_rfl
theorem p103_e_5 (a0 : Str) : run tt (AbsCalls Try.prog) I103 3000 false [.code I103.body] ⟨(zBi 0 (xEZ a0)), [], [], []⟩ = some (.stop (stkAt 2 I103.body) (S103_2 a0 0) []) := by kernel_rfl
theorem c103_2 {N : Nat} : ∀ n x0 x3 r, xB3 N n x0 x3 = some r → Reach Try.prog Try.f103 I103 (stkAt 2 I103.body) (S103_2 x0 x3) (xB4 r) := by
 intro n
 induction n with
 | zero => intro x0 x3 r h; have h' : (none : Option (Bool)) = some r := h; cases h'
 | succ n ih =>
  intro x0 x3 r h
  rw [xB3] at h
  rcases cond_inv h with ⟨h0, h⟩ | ⟨h0, h⟩
  ·obtain ⟨h1, h⟩ := ite_inv h
   rcases cond_inv h with ⟨h2, h⟩ | ⟨h2, h⟩
   ·obtain rfl := Option.some.inj h
    exact Reach.done ttok mix fk103 (p103_2_0 x0 x3) (obs_cons h0 (obs_cons h1 (obs_cons h2 (obs_cons rfl (obs_cons rfl obs_nil)))))
   ·rcases cond_inv h with ⟨h4, h⟩ | ⟨h4, h⟩
    ·obtain rfl := Option.some.inj h
     exact Reach.done ttok mix fk103 (p103_2_1 x0 x3) (obs_cons h0 (obs_cons h1 (obs_cons h2 (obs_cons h1 (obs_cons h4 (obs_cons rfl obs_nil))))))
    ·rcases cond_inv h with ⟨h6, h⟩ | ⟨h6, h⟩
     ·obtain rfl := Option.some.inj h
      exact Reach.done ttok mix fk103 (p103_2_2 x0 x3) (obs_cons h0 (obs_cons h1 (obs_cons h2 (obs_cons h1 (obs_cons h4 (obs_cons h1 (obs_cons h6 obs_nil)))))))
     ·exact Reach.stop ttok mix fk103 (p103_2_3 x0 x3) (obs_cons h0 (obs_cons h1 (obs_cons h2 (obs_cons h1 (obs_cons h4 (obs_cons h1 (obs_cons h6 obs_nil))))))) (ih _ _ _ h)
  ·obtain rfl := Option.some.inj h
   exact Reach.done ttok mix fk103 (p103_2_4 x0 x3) (obs_cons h0 obs_nil)
theorem c103_e {N : Nat} : ∀ a0 r, xE9 N a0 = some r → Reach Try.prog Try.f103 I103 [.code I103.body] (zBi 0 (xEZ a0)) (xB4 r) := by
 intro a0 r h
 unfold xE9 at h
 exact Reach.stop ttok mix fk103 (p103_e_5 a0) obs_nil (c103_2   _ _ _ _ h)
theorem xIq {N : Nat} {a0 : Str} {r : Bool} (h : xE9 N  a0 = some r) : AbC 103 (xEZ a0) (xB4 r) :=
 AbsCalls.of_reach fk103 rfl rfl (Nat.le_of_ble_eq_true rfl) (c103_e a0 r h)
noncomputable def I117 : Info := { body := (Try.f117.body).getD .skip, nt := 16, results := [.tmp 2], keep := [0, 2, 4, 3], live := [], modes := [(1, [(3, .take, false), (8, .take, false)])], ext := [], lnt := [], casts := [], fcast := [] }
theorem fk117 : FnOk Try.prog 117 Try.f117 I117 := ⟨Try.func117, by kernel_rfl, by kernel_rfl, by kernel_rfl, by kernel_rfl⟩
theorem p117_e_0 (a0 : Val) : run tt (AbsCalls Try.prog) I117 3000 false [.code I117.body] ⟨(zBi 0 (xCO a0)), [true, true], [], []⟩ = some (.done (xBT true) [(((Val.kind a0) : Int) == 1) = true, true = true]) := by kernel_rfl
theorem p117_e_1 (a0 : Val) : run tt (AbsCalls Try.prog) I117 3000 false [.code I117.body] ⟨(zBi 0 (xCO a0)), [false, true], [], []⟩ = some (.done (xBT true) [(((Val.kind a0) : Int) == 1) = false, (((Val.kind a0) : Int) == 2) = true]) := by kernel_rfl
theorem p117_e_2 (a0 : Val) : run tt (AbsCalls Try.prog) I117 3000 false [.code I117.body] ⟨(zBi 0 (xCO a0)), [false, false], [], []⟩ = some (.done (xBT (((Val.kind a0) : Int) == 3)) [(((Val.kind a0) : Int) == 1) = false, (((Val.kind a0) : Int) == 2) = false]) := by kernel_rfl
theorem c117_e {N : Nat} : ∀ a0 r, xFV N a0 = some r → Reach Try.prog Try.f117 I117 [.code I117.body] (zBi 0 (xCO a0)) (xBT r) := by
 intro a0 r h
 unfold xFV at h
 rcases cond_inv h with ⟨h0, h⟩ | ⟨h0, h⟩
 ·obtain rfl := Option.some.inj h
  exact Reach.done ttok mix fk117 (p117_e_0 a0) (obs_cons h0 (obs_cons rfl obs_nil))
 ·rcases cond_inv h with ⟨h1, h⟩ | ⟨h1, h⟩
  ·obtain rfl := Option.some.inj h
   exact Reach.done ttok mix fk117 (p117_e_1 a0) (obs_cons h0 (obs_cons h1 obs_nil))
  ·obtain rfl := Option.some.inj h
   exact Reach.done ttok mix fk117 (p117_e_2 a0) (obs_cons h0 (obs_cons h1 obs_nil))
theorem xGr {N : Nat} {a0 : Val} {r : Bool} (h : xFV N  a0 = some r) : AbC 117 (xCO a0) (xBT r) :=
 AbsCalls.of_reach fk117 rfl rfl (Nat.le_of_ble_eq_true rfl) (c117_e a0 r h)
noncomputable def I123 : Info := { body := (Try.f123.body).getD .skip, nt := 10, results := [.tmp 4], keep := [0, 2, 8, 14], live := [], modes := [], ext := [], lnt := [], casts := [], fcast := [] }
theorem fk123 : FnOk Try.prog 123 Try.f123 I123 := ⟨Try.func123, by kernel_rfl, by kernel_rfl, by kernel_rfl, by kernel_rfl⟩
theorem p123_e_0 (a0 a1 : Int) : run tt (AbsCalls Try.prog) I123 3000 false [.code I123.body] ⟨(zBi 0 (xGd a0 a1)), [true], [], []⟩ = some (.done (xFI a0) [(decide ((a0 : Int) > a1)) = true]) := by kernel_rfl
theorem p123_e_1 (a0 a1 : Int) : run tt (AbsCalls Try.prog) I123 3000 false [.code I123.body] ⟨(zBi 0 (xGd a0 a1)), [false], [], []⟩ = some (.done (xFI a1) [(decide ((a0 : Int) > a1)) = false]) := by kernel_rfl
theorem c123_e {N : Nat} : ∀ a0 a1 r, xGQ N a0 a1 = some r → Reach Try.prog Try.f123 I123 [.code I123.body] (zBi 0 (xGd a0 a1)) (xFI r) := by
 intro a0 a1 r h
 unfold xGQ at h
 rcases cond_inv h with ⟨h0, h⟩ | ⟨h0, h⟩
 ·obtain rfl := Option.some.inj h
  exact Reach.done ttok mix fk123 (p123_e_0 a0 a1) (obs_cons h0 obs_nil)
 ·obtain rfl := Option.some.inj h
  exact Reach.done ttok mix fk123 (p123_e_1 a0 a1) (obs_cons h0 obs_nil)
theorem spec_l1Max_ok {N : Nat} {a0 : Int} {a1 : Int} {r : Int} (h : xGQ N  a0 a1 = some r) : AbC 123 (xGd a0 a1) (xFI r) :=
 AbsCalls.of_reach fk123 rfl rfl (Nat.le_of_ble_eq_true rfl) (c123_e a0 a1 r h)
noncomputable def I118 : Info := { body := (Try.f118.body).getD .skip, nt := 22, results := [.tmp 2], keep := [0, 2, 4, 6, 8, 18, 3], live := [(3, [2, 6, 8, 3])], modes := [], ext := [], lnt := [], casts := [], fcast := [] }
theorem fk118 : FnOk Try.prog 118 Try.f118 I118 := ⟨Try.func118, by kernel_rfl, by kernel_rfl, by kernel_rfl, by kernel_rfl⟩
def S118_3 (x3 x4 : Int) (b1 : Val) : St := [(2, .v false [.ptr 1 0]), (6, .v false [.int .i64 x3]), (8, .v false [.int .i64 x4]), (3, .v true [.int .i64 (Val.kind b1), .int .i64 (Val.n b1), .int .i64 (Val.step b1), .str (Val.text b1), .sl .ro .val (Val.list b1), .sl .ro .str (Val.columns b1), .sl .ro .row (Val.rows b1)])]
theorem p118_3_0 (x3 x4 : Int) (b1 : Val) (r1 r2 : Int) : run tt (AbsCalls Try.prog) I118 3000 true (stkAt 3 I118.body) ⟨(S118_3 x3 x4 b1), [true], [xBS r1, xFI r2], []⟩ = some (.stop (stkAt 3 I118.body) (S118_3 r2 (IntKind.i64.wrap (x4 + 1)) b1) [(decide ((x4 : Int) < (List.length (Val.list b1) : Int))) = true, (0 : Int) ≤ x4 ∧ x4 < (List.length (Val.list b1)), AbC 118 (xCv (List.getD (Val.list b1) (Int.toNat x4) Ty.val.dflt)) (xBS r1), AbC 123 (xGd x3 r1) (xFI r2)]) := by kernel_rfl
theorem p118_3_1 (x3 x4 : Int) (b1 : Val) : run tt (AbsCalls Try.prog) I118 3000 true (stkAt 3 I118.body) ⟨(S118_3 x3 x4 b1), [false], [], []⟩ = some (.done (xBS (IntKind.i64.wrap (x3 + 1))) [(decide ((x4 : Int) < (List.length (Val.list b1) : Int))) = false]) := by kernel_rfl
theorem p118_e_2 (a0 : Val) : run tt (AbsCalls Try.prog) I118 3000 false [.code I118.body] ⟨(zBi 0 (xCv a0)), [], [], []⟩ = some (.stop (stkAt 3 I118.body) (S118_3 0 0 a0) []) := by kernel_rfl
theorem c118_3 {N : Nat} {rc_spec_DepthOf : Val → Option (Int)} (hrc_spec_DepthOf : ∀ a0 r, rc_spec_DepthOf a0 = some r → AbC 118 (xCv a0) (xBS r)) : ∀ n x3 x4 b1 r, xEc N rc_spec_DepthOf n x3 x4 b1 = some r → Reach Try.prog Try.f118 I118 (stkAt 3 I118.body) (S118_3 x3 x4 b1) (xBS r) := by
 intro n
 induction n with
 | zero => intro x3 x4 b1 r h; have h' : (none : Option (Int)) = some r := h; cases h'
 | succ n ih =>
  intro x3 x4 b1 r h
  rw [xEc] at h
  rcases cond_inv h with ⟨h0, h⟩ | ⟨h0, h⟩
  ·obtain ⟨h1, h⟩ := ite_inv h
   obtain ⟨r1, h2, h⟩ := bind_inv h
   obtain ⟨r2, h3, h⟩ := bind_inv h
   exact Reach.stop ttok mix fk118 (p118_3_0 x3 x4 b1 r1 r2) (obs_cons h0 (obs_cons h1 (obs_cons (hrc_spec_DepthOf _ _ h2) (obs_cons (spec_l1Max_ok h3) obs_nil)))) (ih _ _ _ _ h)
  ·obtain rfl := Option.some.inj h
   exact Reach.done ttok mix fk118 (p118_3_1 x3 x4 b1) (obs_cons h0 obs_nil)
theorem c118_e {N : Nat} {rc_spec_DepthOf : Val → Option (Int)} (hrc_spec_DepthOf : ∀ a0 r, rc_spec_DepthOf a0 = some r → AbC 118 (xCv a0) (xBS r)) : ∀ a0 r, xFG N rc_spec_DepthOf a0 = some r → Reach Try.prog Try.f118 I118 [.code I118.body] (zBi 0 (xCv a0)) (xBS r) := by
 intro a0 r h
 unfold xFG at h
 exact Reach.stop ttok mix fk118 (p118_e_2 a0) obs_nil (c118_3 hrc_spec_DepthOf  _ _ _ _ _ h)
theorem xH3 {N : Nat} {rc_spec_DepthOf : Val → Option (Int)} (hrc_spec_DepthOf : ∀ a0 r, rc_spec_DepthOf a0 = some r → AbC 118 (xCv a0) (xBS r)) {a0 : Val} {r : Int} (h : xFG N rc_spec_DepthOf a0 = some r) : AbC 118 (xCv a0) (xBS r) :=
 AbsCalls.of_reach fk118 rfl rfl (Nat.le_of_ble_eq_true rfl) (c118_e hrc_spec_DepthOf a0 r h)
theorem xIo {N : Nat} : ∀ d, (∀ a0 r, xDP N d a0 = some r → AbC 118 (xCv a0) (xBS r)) := by
 intro d
 induction d with
 | zero => intro _ r h; have h' : (none : Option (Int)) = some r := h; cases h'
 | succ d ih => intro _ r h; exact xH3 (N := N) ih h
theorem spec_DepthOf_ok {N : Nat} {a0 : Val} {r : Int} (h : xG9 N a0 = some r) : AbC 118 (xCv a0) (xBS r) := xIo N _ r h
noncomputable def I84 : Info := { body := (Try.f84.body).getD .skip, nt := 45, results := [.tmp 2], keep := [0, 4, 6, 8, 10, 18, 82], live := [(2, [0, 6])], modes := [(4, [(4, .take, false)]), (5, [(4, .take, false)]), (6, [(0, .take, false), (2, .take, false), (5, .take, false), (6, .take, false)])], ext := [], lnt := [], casts := [], fcast := [] }
theorem fk84 : FnOk Try.prog 84 Try.f84 I84 := ⟨Try.func84, by kernel_rfl, by kernel_rfl, by kernel_rfl, by kernel_rfl⟩
def xHq (x0 : Str) (x3 : Int) : St := [(0, .v false [.str x0]), (6, .v false [.int .i64 x3])]
theorem p84_2_0 (x0 : Str) (x3 : Int) : run tt (AbsCalls Try.prog) I84 3000 true (stkAt 2 I84.body) ⟨(xHq x0 x3), [true, true, true, true, true, true], [], []⟩ = some (.done (xBd false) [(decide ((x3 : Int) < (List.length x0 : Int))) = true, (0 : Int) ≤ x3 ∧ x3 < (List.length x0), (decide ((((List.getD x0 (Int.toNat x3) 0).toNat : Int) : Int) ≥ 97)) = true, (0 : Int) ≤ x3 ∧ x3 < (List.length x0), (0 : Int) ≤ x3 ∧ x3 < (List.length x0), (decide ((((List.getD x0 (Int.toNat x3) 0).toNat : Int) : Int) ≥ 48)) = true, (0 : Int) ≤ x3 ∧ x3 < (List.length x0), (!(decide ((((List.getD x0 (Int.toNat x3) 0).toNat : Int) : Int) ≤ 122))) = true, ((x3 : Int) == 0) = true, true = true]) := by kernel_rfl
theorem p84_2_1 (x0 : Str) (x3 : Int) : run tt (AbsCalls Try.prog) I84 3000 true (stkAt 2 I84.body) ⟨(xHq x0 x3), [true, true, true, true, false, true], [], []⟩ = some (.done (xBd false) [(decide ((x3 : Int) < (List.length x0 : Int))) = true, (0 : Int) ≤ x3 ∧ x3 < (List.length x0), (decide ((((List.getD x0 (Int.toNat x3) 0).toNat : Int) : Int) ≥ 97)) = true, (0 : Int) ≤ x3 ∧ x3 < (List.length x0), (0 : Int) ≤ x3 ∧ x3 < (List.length x0), (decide ((((List.getD x0 (Int.toNat x3) 0).toNat : Int) : Int) ≥ 48)) = true, (0 : Int) ≤ x3 ∧ x3 < (List.length x0), (!(decide ((((List.getD x0 (Int.toNat x3) 0).toNat : Int) : Int) ≤ 122))) = true, ((x3 : Int) == 0) = false, (!(decide ((((List.getD x0 (Int.toNat x3) 0).toNat : Int) : Int) ≤ 57))) = true]) := by kernel_rfl
theorem p84_2_2 (x0 : Str) (x3 : Int) : run tt (AbsCalls Try.prog) I84 3000 true (stkAt 2 I84.body) ⟨(xHq x0 x3), [true, true, true, true, false, false], [], []⟩ = some (.stop (stkAt 2 I84.body) (xHq x0 (IntKind.i64.wrap (x3 + 1))) [(decide ((x3 : Int) < (List.length x0 : Int))) = true, (0 : Int) ≤ x3 ∧ x3 < (List.length x0), (decide ((((List.getD x0 (Int.toNat x3) 0).toNat : Int) : Int) ≥ 97)) = true, (0 : Int) ≤ x3 ∧ x3 < (List.length x0), (0 : Int) ≤ x3 ∧ x3 < (List.length x0), (decide ((((List.getD x0 (Int.toNat x3) 0).toNat : Int) : Int) ≥ 48)) = true, (0 : Int) ≤ x3 ∧ x3 < (List.length x0), (!(decide ((((List.getD x0 (Int.toNat x3) 0).toNat : Int) : Int) ≤ 122))) = true, ((x3 : Int) == 0) = false, (!(decide ((((List.getD x0 (Int.toNat x3) 0).toNat : Int) : Int) ≤ 57))) = false]) := by kernel_rfl
theorem p84_2_3 (x0 : Str) (x3 : Int) : run tt (AbsCalls Try.prog) I84 3000 true (stkAt 2 I84.body) ⟨(xHq x0 x3), [true, true, true, false, false], [], []⟩ = some (.stop (stkAt 2 I84.body) (xHq x0 (IntKind.i64.wrap (x3 + 1))) [(decide ((x3 : Int) < (List.length x0 : Int))) = true, (0 : Int) ≤ x3 ∧ x3 < (List.length x0), (decide ((((List.getD x0 (Int.toNat x3) 0).toNat : Int) : Int) ≥ 97)) = true, (0 : Int) ≤ x3 ∧ x3 < (List.length x0), (0 : Int) ≤ x3 ∧ x3 < (List.length x0), (decide ((((List.getD x0 (Int.toNat x3) 0).toNat : Int) : Int) ≥ 48)) = true, (0 : Int) ≤ x3 ∧ x3 < (List.length x0), (!(decide ((((List.getD x0 (Int.toNat x3) 0).toNat : Int) : Int) ≤ 122))) = false, false = false]) := by kernel_rfl
theorem p84_2_4 (x0 : Str) (x3 : Int) : run tt (AbsCalls Try.prog) I84 3000 true (stkAt 2 I84.body) ⟨(xHq x0 x3), [true, true, false, true, true, true], [], []⟩ = some (.done (xBd false) [(decide ((x3 : Int) < (List.length x0 : Int))) = true, (0 : Int) ≤ x3 ∧ x3 < (List.length x0), (decide ((((List.getD x0 (Int.toNat x3) 0).toNat : Int) : Int) ≥ 97)) = true, (0 : Int) ≤ x3 ∧ x3 < (List.length x0), (0 : Int) ≤ x3 ∧ x3 < (List.length x0), (decide ((((List.getD x0 (Int.toNat x3) 0).toNat : Int) : Int) ≥ 48)) = false, (!(decide ((((List.getD x0 (Int.toNat x3) 0).toNat : Int) : Int) ≤ 122))) = true, ((x3 : Int) == 0) = true, true = true]) := by kernel_rfl
theorem p84_2_5 (x0 : Str) (x3 : Int) : run tt (AbsCalls Try.prog) I84 3000 true (stkAt 2 I84.body) ⟨(xHq x0 x3), [true, true, false, true, false, true], [], []⟩ = some (.done (xBd false) [(decide ((x3 : Int) < (List.length x0 : Int))) = true, (0 : Int) ≤ x3 ∧ x3 < (List.length x0), (decide ((((List.getD x0 (Int.toNat x3) 0).toNat : Int) : Int) ≥ 97)) = true, (0 : Int) ≤ x3 ∧ x3 < (List.length x0), (0 : Int) ≤ x3 ∧ x3 < (List.length x0), (decide ((((List.getD x0 (Int.toNat x3) 0).toNat : Int) : Int) ≥ 48)) = false, (!(decide ((((List.getD x0 (Int.toNat x3) 0).toNat : Int) : Int) ≤ 122))) = true, ((x3 : Int) == 0) = false, (!false) = true]) := by kernel_rfl
theorem p84_2_6 (x0 : Str) (x3 : Int) : run tt (AbsCalls Try.prog) I84 3000 true (stkAt 2 I84.body) ⟨(xHq x0 x3), [true, true, false, false, false], [], []⟩ = some (.stop (stkAt 2 I84.body) (xHq x0 (IntKind.i64.wrap (x3 + 1))) [(decide ((x3 : Int) < (List.length x0 : Int))) = true, (0 : Int) ≤ x3 ∧ x3 < (List.length x0), (decide ((((List.getD x0 (Int.toNat x3) 0).toNat : Int) : Int) ≥ 97)) = true, (0 : Int) ≤ x3 ∧ x3 < (List.length x0), (0 : Int) ≤ x3 ∧ x3 < (List.length x0), (decide ((((List.getD x0 (Int.toNat x3) 0).toNat : Int) : Int) ≥ 48)) = false, (!(decide ((((List.getD x0 (Int.toNat x3) 0).toNat : Int) : Int) ≤ 122))) = false, false = false]) := by kernel_rfl
theorem p84_2_7 (x0 : Str) (x3 : Int) : run tt (AbsCalls Try.prog) I84 3000 true (stkAt 2 I84.body) ⟨(xHq x0 x3), [true, false, true, true, true, true], [], []⟩ = some (.done (xBd false) [(decide ((x3 : Int) < (List.length x0 : Int))) = true, (0 : Int) ≤ x3 ∧ x3 < (List.length x0), (decide ((((List.getD x0 (Int.toNat x3) 0).toNat : Int) : Int) ≥ 97)) = false, (0 : Int) ≤ x3 ∧ x3 < (List.length x0), (decide ((((List.getD x0 (Int.toNat x3) 0).toNat : Int) : Int) ≥ 48)) = true, (0 : Int) ≤ x3 ∧ x3 < (List.length x0), (!false) = true, ((x3 : Int) == 0) = true, true = true]) := by kernel_rfl
theorem p84_2_8 (x0 : Str) (x3 : Int) : run tt (AbsCalls Try.prog) I84 3000 true (stkAt 2 I84.body) ⟨(xHq x0 x3), [true, false, true, true, false, true], [], []⟩ = some (.done (xBd false) [(decide ((x3 : Int) < (List.length x0 : Int))) = true, (0 : Int) ≤ x3 ∧ x3 < (List.length x0), (decide ((((List.getD x0 (Int.toNat x3) 0).toNat : Int) : Int) ≥ 97)) = false, (0 : Int) ≤ x3 ∧ x3 < (List.length x0), (decide ((((List.getD x0 (Int.toNat x3) 0).toNat : Int) : Int) ≥ 48)) = true, (0 : Int) ≤ x3 ∧ x3 < (List.length x0), (!false) = true, ((x3 : Int) == 0) = false, (!(decide ((((List.getD x0 (Int.toNat x3) 0).toNat : Int) : Int) ≤ 57))) = true]) := by kernel_rfl
theorem p84_2_9 (x0 : Str) (x3 : Int) : run tt (AbsCalls Try.prog) I84 3000 true (stkAt 2 I84.body) ⟨(xHq x0 x3), [true, false, true, true, false, false], [], []⟩ = some (.stop (stkAt 2 I84.body) (xHq x0 (IntKind.i64.wrap (x3 + 1))) [(decide ((x3 : Int) < (List.length x0 : Int))) = true, (0 : Int) ≤ x3 ∧ x3 < (List.length x0), (decide ((((List.getD x0 (Int.toNat x3) 0).toNat : Int) : Int) ≥ 97)) = false, (0 : Int) ≤ x3 ∧ x3 < (List.length x0), (decide ((((List.getD x0 (Int.toNat x3) 0).toNat : Int) : Int) ≥ 48)) = true, (0 : Int) ≤ x3 ∧ x3 < (List.length x0), (!false) = true, ((x3 : Int) == 0) = false, (!(decide ((((List.getD x0 (Int.toNat x3) 0).toNat : Int) : Int) ≤ 57))) = false]) := by kernel_rfl
theorem p84_2_10 (x0 : Str) (x3 : Int) : run tt (AbsCalls Try.prog) I84 3000 true (stkAt 2 I84.body) ⟨(xHq x0 x3), [true, false, false, true, true, true], [], []⟩ = some (.done (xBd false) [(decide ((x3 : Int) < (List.length x0 : Int))) = true, (0 : Int) ≤ x3 ∧ x3 < (List.length x0), (decide ((((List.getD x0 (Int.toNat x3) 0).toNat : Int) : Int) ≥ 97)) = false, (0 : Int) ≤ x3 ∧ x3 < (List.length x0), (decide ((((List.getD x0 (Int.toNat x3) 0).toNat : Int) : Int) ≥ 48)) = false, (!false) = true, ((x3 : Int) == 0) = true, true = true]) := by kernel_rfl
theorem p84_2_11 (x0 : Str) (x3 : Int) : run tt (AbsCalls Try.prog) I84 3000 true (stkAt 2 I84.body) ⟨(xHq x0 x3), [true, false, false, true, false, true], [], []⟩ = some (.done (xBd false) [(decide ((x3 : Int) < (List.length x0 : Int))) = true, (0 : Int) ≤ x3 ∧ x3 < (List.length x0), (decide ((((List.getD x0 (Int.toNat x3) 0).toNat : Int) : Int) ≥ 97)) = false, (0 : Int) ≤ x3 ∧ x3 < (List.length x0), (decide ((((List.getD x0 (Int.toNat x3) 0).toNat : Int) : Int) ≥ 48)) = false, (!false) = true, ((x3 : Int) == 0) = false, (!false) = true]) := by kernel_rfl
theorem p84_2_12 (x0 : Str) (x3 : Int) : run tt (AbsCalls Try.prog) I84 3000 true (stkAt 2 I84.body) ⟨(xHq x0 x3), [false], [], []⟩ = some (.done (xBd (decide (((List.length x0 : Int) : Int) > 0))) [(decide ((x3 : Int) < (List.length x0 : Int))) = false]) := by kernel_rfl
theorem p84_e_13 (a0 : Str) : run tt (AbsCalls Try.prog) I84 3000 false [.code I84.body] ⟨(zBi 0 (xEP a0)), [], [], []⟩ = some (.stop (stkAt 2 I84.body) (xHq a0 0) []) := by kernel_rfl
theorem c84_2 {N : Nat} : ∀ n x0 x3 r, xCk N n x0 x3 = some r → Reach Try.prog Try.f84 I84 (stkAt 2 I84.body) (xHq x0 x3) (xBd r) := by
 intro n
 induction n with
 | zero => intro x0 x3 r h; have h' : (none : Option (Bool)) = some r := h; cases h'
 | succ n ih =>
  intro x0 x3 r h
  rw [xCk] at h
  rcases cond_inv h with ⟨h0, h⟩ | ⟨h0, h⟩
  ·obtain ⟨h1, h⟩ := ite_inv h
   rcases cond_inv h with ⟨h2, h⟩ | ⟨h2, h⟩
   ·rcases cond_inv h with ⟨h5, h⟩ | ⟨h5, h⟩
    ·rcases cond_inv h with ⟨h7, h⟩ | ⟨h7, h⟩
     ·rcases cond_inv h with ⟨h8, h⟩ | ⟨h8, h⟩
      ·obtain rfl := Option.some.inj h
       exact Reach.done ttok mix fk84 (p84_2_0 x0 x3) (obs_cons h0 (obs_cons h1 (obs_cons h2 (obs_cons h1 (obs_cons h1 (obs_cons h5 (obs_cons h1 (obs_cons h7 (obs_cons h8 (obs_cons rfl obs_nil))))))))))
      ·rcases cond_inv h with ⟨h9, h⟩ | ⟨h9, h⟩
       ·obtain rfl := Option.some.inj h
        exact Reach.done ttok mix fk84 (p84_2_1 x0 x3) (obs_cons h0 (obs_cons h1 (obs_cons h2 (obs_cons h1 (obs_cons h1 (obs_cons h5 (obs_cons h1 (obs_cons h7 (obs_cons h8 (obs_cons h9 obs_nil))))))))))
       ·exact Reach.stop ttok mix fk84 (p84_2_2 x0 x3) (obs_cons h0 (obs_cons h1 (obs_cons h2 (obs_cons h1 (obs_cons h1 (obs_cons h5 (obs_cons h1 (obs_cons h7 (obs_cons h8 (obs_cons h9 obs_nil)))))))))) (ih _ _ _ h)
     ·exact Reach.stop ttok mix fk84 (p84_2_3 x0 x3) (obs_cons h0 (obs_cons h1 (obs_cons h2 (obs_cons h1 (obs_cons h1 (obs_cons h5 (obs_cons h1 (obs_cons h7 (obs_cons rfl obs_nil))))))))) (ih _ _ _ h)
    ·rcases cond_inv h with ⟨h6, h⟩ | ⟨h6, h⟩
     ·rcases cond_inv h with ⟨h7, h⟩ | ⟨h7, h⟩
      ·obtain rfl := Option.some.inj h
       exact Reach.done ttok mix fk84 (p84_2_4 x0 x3) (obs_cons h0 (obs_cons h1 (obs_cons h2 (obs_cons h1 (obs_cons h1 (obs_cons h5 (obs_cons h6 (obs_cons h7 (obs_cons rfl obs_nil)))))))))
      ·obtain rfl := Option.some.inj h
       exact Reach.done ttok mix fk84 (p84_2_5 x0 x3) (obs_cons h0 (obs_cons h1 (obs_cons h2 (obs_cons h1 (obs_cons h1 (obs_cons h5 (obs_cons h6 (obs_cons h7 (obs_cons rfl obs_nil)))))))))
     ·exact Reach.stop ttok mix fk84 (p84_2_6 x0 x3) (obs_cons h0 (obs_cons h1 (obs_cons h2 (obs_cons h1 (obs_cons h1 (obs_cons h5 (obs_cons h6 (obs_cons rfl obs_nil)))))))) (ih _ _ _ h)
   ·rcases cond_inv h with ⟨h4, h⟩ | ⟨h4, h⟩
    ·rcases cond_inv h with ⟨h7, h⟩ | ⟨h7, h⟩
     ·obtain rfl := Option.some.inj h
      exact Reach.done ttok mix fk84 (p84_2_7 x0 x3) (obs_cons h0 (obs_cons h1 (obs_cons h2 (obs_cons h1 (obs_cons h4 (obs_cons h1 (obs_cons rfl (obs_cons h7 (obs_cons rfl obs_nil)))))))))
     ·rcases cond_inv h with ⟨h8, h⟩ | ⟨h8, h⟩
      ·obtain rfl := Option.some.inj h
       exact Reach.done ttok mix fk84 (p84_2_8 x0 x3) (obs_cons h0 (obs_cons h1 (obs_cons h2 (obs_cons h1 (obs_cons h4 (obs_cons h1 (obs_cons rfl (obs_cons h7 (obs_cons h8 obs_nil)))))))))
      ·exact Reach.stop ttok mix fk84 (p84_2_9 x0 x3) (obs_cons h0 (obs_cons h1 (obs_cons h2 (obs_cons h1 (obs_cons h4 (obs_cons h1 (obs_cons rfl (obs_cons h7 (obs_cons h8 obs_nil))))))))) (ih _ _ _ h)
    ·rcases cond_inv h with ⟨h6, h⟩ | ⟨h6, h⟩
     ·obtain rfl := Option.some.inj h
      exact Reach.done ttok mix fk84 (p84_2_10 x0 x3) (obs_cons h0 (obs_cons h1 (obs_cons h2 (obs_cons h1 (obs_cons h4 (obs_cons rfl (obs_cons h6 (obs_cons rfl obs_nil))))))))
     ·obtain rfl := Option.some.inj h
      exact Reach.done ttok mix fk84 (p84_2_11 x0 x3) (obs_cons h0 (obs_cons h1 (obs_cons h2 (obs_cons h1 (obs_cons h4 (obs_cons rfl (obs_cons h6 (obs_cons rfl obs_nil))))))))
  ·obtain rfl := Option.some.inj h
   exact Reach.done ttok mix fk84 (p84_2_12 x0 x3) (obs_cons h0 obs_nil)
theorem c84_e {N : Nat} : ∀ a0 r, xGE N a0 = some r → Reach Try.prog Try.f84 I84 [.code I84.body] (zBi 0 (xEP a0)) (xBd r) := by
 intro a0 r h
 unfold xGE at h
 exact Reach.stop ttok mix fk84 (p84_e_13 a0) obs_nil (c84_2   _ _ _ _ h)
theorem xG4 {N : Nat} {a0 : Str} {r : Bool} (h : xGE N  a0 = some r) : AbC 84 (xEP a0) (xBd r) :=
 AbsCalls.of_reach fk84 rfl rfl (Nat.le_of_ble_eq_true rfl) (c84_e a0 r h)
noncomputable def I101 : Info := { body := (Try.f101.body).getD .skip, nt := 2, results := [.tmp 0], keep := [0], live := [], modes := [], ext := [], lnt := [], casts := [], fcast := [] }
theorem fk101 : FnOk Try.prog 101 Try.f101 I101 := ⟨Try.func101, by kernel_rfl, by kernel_rfl, by kernel_rfl, by kernel_rfl⟩
theorem p101_e_0 : run tt (AbsCalls Try.prog) I101 3000 false [.code I101.body] ⟨(zBi 0 (xFr )), [], [], []⟩ = some (.done (xEu [[108, 101, 116], [105, 110], [105, 102], [116, 104, 101, 110], [101, 108, 115, 101], [102, 111, 114], [100, 111], [108, 101, 110], [115, 117, 109], [116, 97, 107, 101], [115, 107, 105, 112], [114, 97, 110, 103, 101], [110, 116, 104], [119, 104, 101, 114, 101], [107, 101, 101, 112], [97, 100, 100], [103, 114, 111, 117, 112], [106, 111, 105, 110], [99, 111, 108, 117, 109, 110], [114, 111, 119, 115], [99, 108, 111, 99, 107], [99, 104, 97, 110, 99, 101], [102, 105, 108, 101], [116, 97, 98, 108, 101]]) []) := by kernel_rfl
theorem c101_e {N : Nat} : ∀ r, xFy N = some r → Reach Try.prog Try.f101 I101 [.code I101.body] (zBi 0 (xFr )) (xEu r) := by
 intro r h
 unfold xFy at h
 obtain rfl := Option.some.inj h
 exact Reach.done ttok mix fk101 (p101_e_0) obs_nil
theorem spec_l2Reserved_ok {N : Nat} {r : (List Str)} (h : xFy N   = some r) : AbC 101 (xFr ) (xEu r) :=
 AbsCalls.of_reach fk101 rfl rfl (Nat.le_of_ble_eq_true rfl) (c101_e  r h)
noncomputable def I100 : Info := { body := (Try.f100.body).getD .skip, nt := 18, results := [.tmp 4], keep := [0, 2, 8, 10, 18, 34], live := [(2, [0, 2, 10])], modes := [], ext := [], lnt := [], casts := [], fcast := [] }
theorem fk100 : FnOk Try.prog 100 Try.f100 I100 := ⟨Try.func100, by kernel_rfl, by kernel_rfl, by kernel_rfl, by kernel_rfl⟩
def S100_2 (x0 : List Str) (x1 : Str) (x5 : Int) : St := [(0, .v false [.sl .ro .str x0]), (2, .v false [.str x1]), (10, .v false [.int .i64 x5])]
theorem p100_2_0 (x0 : List Str) (x1 : Str) (x5 : Int) : run tt (AbsCalls Try.prog) I100 3000 true (stkAt 2 I100.body) ⟨(S100_2 x0 x1 x5), [true, true], [], []⟩ = some (.done (xC2 true) [(decide ((x5 : Int) < (List.length x0 : Int))) = true, (0 : Int) ≤ x5 ∧ x5 < (List.length x0), (((List.getD x0 (Int.toNat x5) Ty.str.dflt) : Str) == x1) = true]) := by kernel_rfl
theorem p100_2_1 (x0 : List Str) (x1 : Str) (x5 : Int) : run tt (AbsCalls Try.prog) I100 3000 true (stkAt 2 I100.body) ⟨(S100_2 x0 x1 x5), [true, false], [], []⟩ = some (.stop (stkAt 2 I100.body) (S100_2 x0 x1 (IntKind.i64.wrap (x5 + 1))) [(decide ((x5 : Int) < (List.length x0 : Int))) = true, (0 : Int) ≤ x5 ∧ x5 < (List.length x0), (((List.getD x0 (Int.toNat x5) Ty.str.dflt) : Str) == x1) = false]) := by kernel_rfl
theorem p100_2_2 (x0 : List Str) (x1 : Str) (x5 : Int) : run tt (AbsCalls Try.prog) I100 3000 true (stkAt 2 I100.body) ⟨(S100_2 x0 x1 x5), [false], [], []⟩ = some (.done (xC2 false) [(decide ((x5 : Int) < (List.length x0 : Int))) = false]) := by kernel_rfl
theorem p100_e_3 (a0 : List Str) (a1 : Str) : run tt (AbsCalls Try.prog) I100 3000 false [.code I100.body] ⟨(zBi 0 (xFH a0 a1)), [], [], []⟩ = some (.stop (stkAt 2 I100.body) (S100_2 a0 a1 0) []) := by kernel_rfl
theorem c100_2 {N : Nat} : ∀ n x0 x1 x5 r, xEt N n x0 x1 x5 = some r → Reach Try.prog Try.f100 I100 (stkAt 2 I100.body) (S100_2 x0 x1 x5) (xC2 r) := by
 intro n
 induction n with
 | zero => intro x0 x1 x5 r h; have h' : (none : Option (Bool)) = some r := h; cases h'
 | succ n ih =>
  intro x0 x1 x5 r h
  rw [xEt] at h
  rcases cond_inv h with ⟨h0, h⟩ | ⟨h0, h⟩
  ·obtain ⟨h1, h⟩ := ite_inv h
   rcases cond_inv h with ⟨h2, h⟩ | ⟨h2, h⟩
   ·obtain rfl := Option.some.inj h
    exact Reach.done ttok mix fk100 (p100_2_0 x0 x1 x5) (obs_cons h0 (obs_cons h1 (obs_cons h2 obs_nil)))
   ·exact Reach.stop ttok mix fk100 (p100_2_1 x0 x1 x5) (obs_cons h0 (obs_cons h1 (obs_cons h2 obs_nil))) (ih _ _ _ _ h)
  ·obtain rfl := Option.some.inj h
   exact Reach.done ttok mix fk100 (p100_2_2 x0 x1 x5) (obs_cons h0 obs_nil)
theorem c100_e {N : Nat} : ∀ a0 a1 r, xGP N a0 a1 = some r → Reach Try.prog Try.f100 I100 [.code I100.body] (zBi 0 (xFH a0 a1)) (xC2 r) := by
 intro a0 a1 r h
 unfold xGP at h
 exact Reach.stop ttok mix fk100 (p100_e_3 a0 a1) obs_nil (c100_2   _ _ _ _ _ h)
theorem xHy {N : Nat} {a0 : List Str} {a1 : Str} {r : Bool} (h : xGP N  a0 a1 = some r) : AbC 100 (xFH a0 a1) (xC2 r) :=
 AbsCalls.of_reach fk100 rfl rfl (Nat.le_of_ble_eq_true rfl) (c100_e a0 a1 r h)
noncomputable def I85 : Info := { body := (Try.f85.body).getD .skip, nt := 6, results := [.tmp 2], keep := [0, 4], live := [], modes := [], ext := [], lnt := [], casts := [], fcast := [] }
theorem fk85 : FnOk Try.prog 85 Try.f85 I85 := ⟨Try.func85, by kernel_rfl, by kernel_rfl, by kernel_rfl, by kernel_rfl⟩
theorem p85_e_0 (a0 : Str) (r1 : (List Str)) (r2 : Bool) : run tt (AbsCalls Try.prog) I85 3000 false [.code I85.body] ⟨(zBi 0 (xFq a0)), [], [xEu r1, xC2 r2], []⟩ = some (.done (xEs r2) [AbC 101 xFr (xEu r1), AbC 100 (xFH r1 a0) (xC2 r2)]) := by kernel_rfl
theorem c85_e {N : Nat} : ∀ a0 r, xEO N a0 = some r → Reach Try.prog Try.f85 I85 [.code I85.body] (zBi 0 (xFq a0)) (xEs r) := by
 intro a0 r h
 unfold xEO at h
 obtain ⟨r1, h0, h⟩ := bind_inv h
 obtain ⟨r2, h1, h⟩ := bind_inv h
 obtain rfl := Option.some.inj h
 exact Reach.done ttok mix fk85 (p85_e_0 a0 r1 r2) (obs_cons (spec_l2Reserved_ok h0) (obs_cons (xHy h1) obs_nil))
theorem spec_IsReserved_ok {N : Nat} {a0 : Str} {r : Bool} (h : xEO N  a0 = some r) : AbC 85 (xFq a0) (xEs r) :=
 AbsCalls.of_reach fk85 rfl rfl (Nat.le_of_ble_eq_true rfl) (c85_e a0 r h)
noncomputable def I48 : Info := { body := (Try.f48.body).getD .skip, nt := 15, results := [.tmp 2], keep := [0, 4], live := [], modes := [(1, [(2, .take, false), (7, .take, false)])], ext := [], lnt := [], casts := [], fcast := [] }
theorem fk48 : FnOk Try.prog 48 Try.f48 I48 := ⟨Try.func48, by kernel_rfl, by kernel_rfl, by kernel_rfl, by kernel_rfl⟩
theorem p48_e_0 (a0 : Str) (r1 r2 : Bool) : run tt (AbsCalls Try.prog) I48 3000 false [.code I48.body] ⟨(zBi 0 (xCI a0)), [true, true], [xBd r1, xEs r2], []⟩ = some (.done (xB2 (!r2)) [AbC 84 (xEP a0) (xBd r1), r1 = true, (decide (((List.length a0 : Int) : Int) ≤ 8)) = true, AbC 85 (xFq a0) (xEs r2)]) := by kernel_rfl
theorem p48_e_1 (a0 : Str) (r1 : Bool) : run tt (AbsCalls Try.prog) I48 3000 false [.code I48.body] ⟨(zBi 0 (xCI a0)), [true, false], [xBd r1], []⟩ = some (.done (xB2 false) [AbC 84 (xEP a0) (xBd r1), r1 = true, (decide (((List.length a0 : Int) : Int) ≤ 8)) = false]) := by kernel_rfl
theorem p48_e_2 (a0 : Str) (r1 : Bool) : run tt (AbsCalls Try.prog) I48 3000 false [.code I48.body] ⟨(zBi 0 (xCI a0)), [false, false], [xBd r1], []⟩ = some (.done (xB2 false) [AbC 84 (xEP a0) (xBd r1), r1 = false, false = false]) := by kernel_rfl
theorem c48_e {N : Nat} : ∀ a0 r, xEk N a0 = some r → Reach Try.prog Try.f48 I48 [.code I48.body] (zBi 0 (xCI a0)) (xB2 r) := by
 intro a0 r h
 unfold xEk at h
 obtain ⟨r1, h0, h⟩ := bind_inv h
 rcases cond_inv h with ⟨h1, h⟩ | ⟨h1, h⟩
 ·rcases cond_inv h with ⟨h2, h⟩ | ⟨h2, h⟩
  ·obtain ⟨r2, h3, h⟩ := bind_inv h
   obtain rfl := Option.some.inj h
   exact Reach.done ttok mix fk48 (p48_e_0 a0 r1 r2) (obs_cons (xG4 h0) (obs_cons h1 (obs_cons h2 (obs_cons (spec_IsReserved_ok h3) obs_nil))))
  ·obtain rfl := Option.some.inj h
   exact Reach.done ttok mix fk48 (p48_e_1 a0 r1) (obs_cons (xG4 h0) (obs_cons h1 (obs_cons h2 obs_nil)))
 ·obtain rfl := Option.some.inj h
  exact Reach.done ttok mix fk48 (p48_e_2 a0 r1) (obs_cons (xG4 h0) (obs_cons h1 (obs_cons rfl obs_nil)))
theorem xG2 {N : Nat} {a0 : Str} {r : Bool} (h : xEk N  a0 = some r) : AbC 48 (xCI a0) (xB2 r) :=
 AbsCalls.of_reach fk48 rfl rfl (Nat.le_of_ble_eq_true rfl) (c48_e a0 r h)
noncomputable def I124 : Info := { body := (Try.f124.body).getD .skip, nt := 18, results := [.tmp 2], keep := [0, 4, 6, 14, 34], live := [(2, [0, 6])], modes := [], ext := [], lnt := [], casts := [], fcast := [] }
theorem fk124 : FnOk Try.prog 124 Try.f124 I124 := ⟨Try.func124, by kernel_rfl, by kernel_rfl, by kernel_rfl, by kernel_rfl⟩
def S124_2 (x0 : List Str) (x3 : Int) : St := [(0, .v false [.sl .ro .str x0]), (6, .v false [.int .i64 x3])]
theorem p124_2_0 (x0 : List Str) (x3 : Int) (r1 : Bool) : run tt (AbsCalls Try.prog) I124 3000 true (stkAt 2 I124.body) ⟨(S124_2 x0 x3), [true, true], [xC2 r1], []⟩ = some (.done (xCH false) [(decide ((x3 : Int) < (List.length x0 : Int))) = true, (0 : Int) ≤ x3 ∧ x3 ≤ (List.length x0), (0 : Int) ≤ x3 ∧ x3 < (List.length x0), AbC 100 (xFH (List.take (Int.toNat x3) x0) (List.getD x0 (Int.toNat x3) Ty.str.dflt)) (xC2 r1), r1 = true]) := by kernel_rfl
theorem p124_2_1 (x0 : List Str) (x3 : Int) (r1 : Bool) : run tt (AbsCalls Try.prog) I124 3000 true (stkAt 2 I124.body) ⟨(S124_2 x0 x3), [true, false], [xC2 r1], []⟩ = some (.stop (stkAt 2 I124.body) (S124_2 x0 (IntKind.i64.wrap (x3 + 1))) [(decide ((x3 : Int) < (List.length x0 : Int))) = true, (0 : Int) ≤ x3 ∧ x3 ≤ (List.length x0), (0 : Int) ≤ x3 ∧ x3 < (List.length x0), AbC 100 (xFH (List.take (Int.toNat x3) x0) (List.getD x0 (Int.toNat x3) Ty.str.dflt)) (xC2 r1), r1 = false]) := by kernel_rfl
theorem p124_2_2 (x0 : List Str) (x3 : Int) : run tt (AbsCalls Try.prog) I124 3000 true (stkAt 2 I124.body) ⟨(S124_2 x0 x3), [false], [], []⟩ = some (.done (xCH true) [(decide ((x3 : Int) < (List.length x0 : Int))) = false]) := by kernel_rfl
theorem p124_e_3 (a0 : List Str) : run tt (AbsCalls Try.prog) I124 3000 false [.code I124.body] ⟨(zBi 0 (xEY a0)), [], [], []⟩ = some (.stop (stkAt 2 I124.body) (S124_2 a0 0) []) := by kernel_rfl
theorem c124_2 {N : Nat} : ∀ n x0 x3 r, xCi N n x0 x3 = some r → Reach Try.prog Try.f124 I124 (stkAt 2 I124.body) (S124_2 x0 x3) (xCH r) := by
 intro n
 induction n with
 | zero => intro x0 x3 r h; have h' : (none : Option (Bool)) = some r := h; cases h'
 | succ n ih =>
  intro x0 x3 r h
  rw [xCi] at h
  rcases cond_inv h with ⟨h0, h⟩ | ⟨h0, h⟩
  ·obtain ⟨h1, h⟩ := ite_inv h
   obtain ⟨h2, h⟩ := ite_inv h
   obtain ⟨r1, h3, h⟩ := bind_inv h
   rcases cond_inv h with ⟨h4, h⟩ | ⟨h4, h⟩
   ·obtain rfl := Option.some.inj h
    exact Reach.done ttok mix fk124 (p124_2_0 x0 x3 r1) (obs_cons h0 (obs_cons h1 (obs_cons h2 (obs_cons (xHy h3) (obs_cons h4 obs_nil)))))
   ·exact Reach.stop ttok mix fk124 (p124_2_1 x0 x3 r1) (obs_cons h0 (obs_cons h1 (obs_cons h2 (obs_cons (xHy h3) (obs_cons h4 obs_nil))))) (ih _ _ _ h)
  ·obtain rfl := Option.some.inj h
   exact Reach.done ttok mix fk124 (p124_2_2 x0 x3) (obs_cons h0 obs_nil)
theorem c124_e {N : Nat} : ∀ a0 r, xE8 N a0 = some r → Reach Try.prog Try.f124 I124 [.code I124.body] (zBi 0 (xEY a0)) (xCH r) := by
 intro a0 r h
 unfold xE8 at h
 exact Reach.stop ttok mix fk124 (p124_e_3 a0) obs_nil (c124_2   _ _ _ _ h)
theorem xIn {N : Nat} {a0 : List Str} {r : Bool} (h : xE8 N  a0 = some r) : AbC 124 (xEY a0) (xCH r) :=
 AbsCalls.of_reach fk124 rfl rfl (Nat.le_of_ble_eq_true rfl) (c124_e a0 r h)
noncomputable def I119 : Info := { body := (Try.f119.body).getD .skip, nt := 23, results := [.tmp 2], keep := [0, 4, 6, 14, 30], live := [(2, [0, 6])], modes := [(6, [(3, .take, false)])], ext := [], lnt := [], casts := [], fcast := [] }
theorem fk119 : FnOk Try.prog 119 Try.f119 I119 := ⟨Try.func119, by kernel_rfl, by kernel_rfl, by kernel_rfl, by kernel_rfl⟩
def S119_2 (x0 : List Str) (x3 : Int) : St := [(0, .v false [.sl .ro .str x0]), (6, .v false [.int .i64 x3])]
theorem p119_2_0 (x0 : List Str) (x3 : Int) (r1 : Bool) : run tt (AbsCalls Try.prog) I119 3000 true (stkAt 2 I119.body) ⟨(S119_2 x0 x3), [true, true], [xB2 r1], []⟩ = some (.done (xBD false) [(decide ((x3 : Int) < (List.length x0 : Int))) = true, (0 : Int) ≤ x3 ∧ x3 < (List.length x0), AbC 48 (xCI (List.getD x0 (Int.toNat x3) Ty.str.dflt)) (xB2 r1), (!r1) = true]) := by kernel_rfl
theorem p119_2_1 (x0 : List Str) (x3 : Int) (r1 : Bool) : run tt (AbsCalls Try.prog) I119 3000 true (stkAt 2 I119.body) ⟨(S119_2 x0 x3), [true, false], [xB2 r1], []⟩ = some (.stop (stkAt 2 I119.body) (S119_2 x0 (IntKind.i64.wrap (x3 + 1))) [(decide ((x3 : Int) < (List.length x0 : Int))) = true, (0 : Int) ≤ x3 ∧ x3 < (List.length x0), AbC 48 (xCI (List.getD x0 (Int.toNat x3) Ty.str.dflt)) (xB2 r1), (!r1) = false]) := by kernel_rfl
theorem p119_2_2 (x0 : List Str) (x3 : Int) (r1 r2 : Bool) : run tt (AbsCalls Try.prog) I119 3000 true (stkAt 2 I119.body) ⟨(S119_2 x0 x3), [false, true], [xCd r1, xCH r2], []⟩ = some (.done (xBD r2) [(decide ((x3 : Int) < (List.length x0 : Int))) = false, AbC 54 (xDU (List.length x0 : Int) 1 4) (xCd r1), r1 = true, AbC 124 (xEY x0) (xCH r2)]) := by kernel_rfl
theorem p119_2_3 (x0 : List Str) (x3 : Int) (r1 : Bool) : run tt (AbsCalls Try.prog) I119 3000 true (stkAt 2 I119.body) ⟨(S119_2 x0 x3), [false, false], [xCd r1], []⟩ = some (.done (xBD false) [(decide ((x3 : Int) < (List.length x0 : Int))) = false, AbC 54 (xDU (List.length x0 : Int) 1 4) (xCd r1), r1 = false]) := by kernel_rfl
theorem p119_e_4 (a0 : List Str) : run tt (AbsCalls Try.prog) I119 3000 false [.code I119.body] ⟨(zBi 0 (xD4 a0)), [], [], []⟩ = some (.stop (stkAt 2 I119.body) (S119_2 a0 0) []) := by kernel_rfl
theorem c119_2 {N : Nat} : ∀ n x0 x3 r, xDn N n x0 x3 = some r → Reach Try.prog Try.f119 I119 (stkAt 2 I119.body) (S119_2 x0 x3) (xBD r) := by
 intro n
 induction n with
 | zero => intro x0 x3 r h; have h' : (none : Option (Bool)) = some r := h; cases h'
 | succ n ih =>
  intro x0 x3 r h
  rw [xDn] at h
  rcases cond_inv h with ⟨h0, h⟩ | ⟨h0, h⟩
  ·obtain ⟨h1, h⟩ := ite_inv h
   obtain ⟨r1, h2, h⟩ := bind_inv h
   rcases cond_inv h with ⟨h3, h⟩ | ⟨h3, h⟩
   ·obtain rfl := Option.some.inj h
    exact Reach.done ttok mix fk119 (p119_2_0 x0 x3 r1) (obs_cons h0 (obs_cons h1 (obs_cons (xG2 h2) (obs_cons h3 obs_nil))))
   ·exact Reach.stop ttok mix fk119 (p119_2_1 x0 x3 r1) (obs_cons h0 (obs_cons h1 (obs_cons (xG2 h2) (obs_cons h3 obs_nil)))) (ih _ _ _ h)
  ·obtain ⟨r1, h1, h⟩ := bind_inv h
   rcases cond_inv h with ⟨h2, h⟩ | ⟨h2, h⟩
   ·obtain ⟨r2, h3, h⟩ := bind_inv h
    obtain rfl := Option.some.inj h
    exact Reach.done ttok mix fk119 (p119_2_2 x0 x3 r1 r2) (obs_cons h0 (obs_cons (xF3 h1) (obs_cons h2 (obs_cons (xIn h3) obs_nil))))
   ·obtain rfl := Option.some.inj h
    exact Reach.done ttok mix fk119 (p119_2_3 x0 x3 r1) (obs_cons h0 (obs_cons (xF3 h1) (obs_cons h2 obs_nil)))
theorem c119_e {N : Nat} : ∀ a0 r, xFU N a0 = some r → Reach Try.prog Try.f119 I119 [.code I119.body] (zBi 0 (xD4 a0)) (xBD r) := by
 intro a0 r h
 unfold xFU at h
 exact Reach.stop ttok mix fk119 (p119_e_4 a0) obs_nil (c119_2   _ _ _ _ h)
theorem xGq {N : Nat} {a0 : List Str} {r : Bool} (h : xFU N  a0 = some r) : AbC 119 (xD4 a0) (xBD r) :=
 AbsCalls.of_reach fk119 rfl rfl (Nat.le_of_ble_eq_true rfl) (c119_e a0 r h)
noncomputable def I125 : Info := { body := (Try.f125.body).getD .skip, nt := 24, results := [.tmp 4], keep := [0, 2, 4, 6, 8, 5, 7], live := [], modes := [(1, [(5, .take, false), (11, .take, false)])], ext := [], lnt := [], casts := [], fcast := [] }
theorem fk125 : FnOk Try.prog 125 Try.f125 I125 := ⟨Try.func125, by kernel_rfl, by kernel_rfl, by kernel_rfl, by kernel_rfl⟩
theorem p125_e_0 (a0 a1 : Org) : run tt (AbsCalls Try.prog) I125 3000 false [.code I125.body] ⟨(zBi 0 (xDQ a0 a1)), [true], [], []⟩ = some (.done (xCB true) [(decide (((Org.cell a0) : Int) < (Org.cell a1))) = true]) := by kernel_rfl
theorem p125_e_1 (a0 a1 : Org) : run tt (AbsCalls Try.prog) I125 3000 false [.code I125.body] ⟨(zBi 0 (xDQ a0 a1)), [false, true], [], []⟩ = some (.done (xCB (decide (((Org.row a0) : Int) < (Org.row a1)))) [(decide (((Org.cell a0) : Int) < (Org.cell a1))) = false, (((Org.cell a0) : Int) == (Org.cell a1)) = true]) := by kernel_rfl
theorem p125_e_2 (a0 a1 : Org) : run tt (AbsCalls Try.prog) I125 3000 false [.code I125.body] ⟨(zBi 0 (xDQ a0 a1)), [false, false], [], []⟩ = some (.done (xCB false) [(decide (((Org.cell a0) : Int) < (Org.cell a1))) = false, (((Org.cell a0) : Int) == (Org.cell a1)) = false]) := by kernel_rfl
theorem c125_e {N : Nat} : ∀ a0 a1 r, xFJ N a0 a1 = some r → Reach Try.prog Try.f125 I125 [.code I125.body] (zBi 0 (xDQ a0 a1)) (xCB r) := by
 intro a0 a1 r h
 unfold xFJ at h
 rcases cond_inv h with ⟨h0, h⟩ | ⟨h0, h⟩
 ·obtain rfl := Option.some.inj h
  exact Reach.done ttok mix fk125 (p125_e_0 a0 a1) (obs_cons h0 obs_nil)
 ·rcases cond_inv h with ⟨h1, h⟩ | ⟨h1, h⟩
  ·obtain rfl := Option.some.inj h
   exact Reach.done ttok mix fk125 (p125_e_1 a0 a1) (obs_cons h0 (obs_cons h1 obs_nil))
  ·obtain rfl := Option.some.inj h
   exact Reach.done ttok mix fk125 (p125_e_2 a0 a1) (obs_cons h0 (obs_cons h1 obs_nil))
theorem xHE {N : Nat} {a0 : Org} {a1 : Org} {r : Bool} (h : xFJ N  a0 a1 = some r) : AbC 125 (xDQ a0 a1) (xCB r) :=
 AbsCalls.of_reach fk125 rfl rfl (Nat.le_of_ble_eq_true rfl) (c125_e a0 a1 r h)
noncomputable def I120 : Info := { body := (Try.f120.body).getD .skip, nt := 41, results := [.tmp 2], keep := [0, 4, 6, 14, 80], live := [(2, [0, 6])], modes := [(4, [(6, .take, false), (14, .take, false), (17, .take, false)])], ext := [], lnt := [], casts := [], fcast := [] }
theorem fk120 : FnOk Try.prog 120 Try.f120 I120 := ⟨Try.func120, by kernel_rfl, by kernel_rfl, by kernel_rfl, by kernel_rfl⟩
def xH4 (x0 : List Org) (x3 : Int) : St := [(0, .v false [.sl .ro .org x0]), (6, .v false [.int .i64 x3])]
theorem p120_2_0 (x0 : List Org) (x3 : Int) : run tt (AbsCalls Try.prog) I120 3000 true (stkAt 2 I120.body) ⟨(xH4 x0 x3), [true, true, true, true], [], []⟩ = some (.done (xBx false) [(decide ((x3 : Int) < (List.length x0 : Int))) = true, (0 : Int) ≤ x3 ∧ x3 < (List.length x0), (decide (((Org.cell (List.getD x0 (Int.toNat x3) Ty.org.dflt)) : Int) < 0)) = true, true = true, true = true]) := by kernel_rfl
theorem p120_2_1 (x0 : List Org) (x3 : Int) : run tt (AbsCalls Try.prog) I120 3000 true (stkAt 2 I120.body) ⟨(xH4 x0 x3), [true, false, true, true], [], []⟩ = some (.done (xBx false) [(decide ((x3 : Int) < (List.length x0 : Int))) = true, (0 : Int) ≤ x3 ∧ x3 < (List.length x0), (decide (((Org.cell (List.getD x0 (Int.toNat x3) Ty.org.dflt)) : Int) < 0)) = false, (0 : Int) ≤ x3 ∧ x3 < (List.length x0), (decide (((Org.row (List.getD x0 (Int.toNat x3) Ty.org.dflt)) : Int) < 0)) = true, true = true]) := by kernel_rfl
theorem p120_2_2 (x0 : List Org) (x3 : Int) (r1 : Bool) : run tt (AbsCalls Try.prog) I120 3000 true (stkAt 2 I120.body) ⟨(xH4 x0 x3), [true, false, false, true, true], [xCB r1], []⟩ = some (.done (xBx false) [(decide ((x3 : Int) < (List.length x0 : Int))) = true, (0 : Int) ≤ x3 ∧ x3 < (List.length x0), (decide (((Org.cell (List.getD x0 (Int.toNat x3) Ty.org.dflt)) : Int) < 0)) = false, (0 : Int) ≤ x3 ∧ x3 < (List.length x0), (decide (((Org.row (List.getD x0 (Int.toNat x3) Ty.org.dflt)) : Int) < 0)) = false, (decide ((x3 : Int) > 0)) = true, (0 : Int) ≤ (IntKind.i64.wrap (x3 - 1)) ∧ (IntKind.i64.wrap (x3 - 1)) < (List.length x0), (0 : Int) ≤ x3 ∧ x3 < (List.length x0), AbC 125 (xDQ (List.getD x0 (Int.toNat (IntKind.i64.wrap (x3 - 1))) Ty.org.dflt) (List.getD x0 (Int.toNat x3) Ty.org.dflt)) (xCB r1), (!r1) = true]) := by kernel_rfl
theorem p120_2_3 (x0 : List Org) (x3 : Int) (r1 : Bool) : run tt (AbsCalls Try.prog) I120 3000 true (stkAt 2 I120.body) ⟨(xH4 x0 x3), [true, false, false, true, false], [xCB r1], []⟩ = some (.stop (stkAt 2 I120.body) (xH4 x0 (IntKind.i64.wrap (x3 + 1))) [(decide ((x3 : Int) < (List.length x0 : Int))) = true, (0 : Int) ≤ x3 ∧ x3 < (List.length x0), (decide (((Org.cell (List.getD x0 (Int.toNat x3) Ty.org.dflt)) : Int) < 0)) = false, (0 : Int) ≤ x3 ∧ x3 < (List.length x0), (decide (((Org.row (List.getD x0 (Int.toNat x3) Ty.org.dflt)) : Int) < 0)) = false, (decide ((x3 : Int) > 0)) = true, (0 : Int) ≤ (IntKind.i64.wrap (x3 - 1)) ∧ (IntKind.i64.wrap (x3 - 1)) < (List.length x0), (0 : Int) ≤ x3 ∧ x3 < (List.length x0), AbC 125 (xDQ (List.getD x0 (Int.toNat (IntKind.i64.wrap (x3 - 1))) Ty.org.dflt) (List.getD x0 (Int.toNat x3) Ty.org.dflt)) (xCB r1), (!r1) = false]) := by kernel_rfl
theorem p120_2_4 (x0 : List Org) (x3 : Int) : run tt (AbsCalls Try.prog) I120 3000 true (stkAt 2 I120.body) ⟨(xH4 x0 x3), [true, false, false, false, false], [], []⟩ = some (.stop (stkAt 2 I120.body) (xH4 x0 (IntKind.i64.wrap (x3 + 1))) [(decide ((x3 : Int) < (List.length x0 : Int))) = true, (0 : Int) ≤ x3 ∧ x3 < (List.length x0), (decide (((Org.cell (List.getD x0 (Int.toNat x3) Ty.org.dflt)) : Int) < 0)) = false, (0 : Int) ≤ x3 ∧ x3 < (List.length x0), (decide (((Org.row (List.getD x0 (Int.toNat x3) Ty.org.dflt)) : Int) < 0)) = false, (decide ((x3 : Int) > 0)) = false, false = false]) := by kernel_rfl
theorem p120_2_5 (x0 : List Org) (x3 : Int) : run tt (AbsCalls Try.prog) I120 3000 true (stkAt 2 I120.body) ⟨(xH4 x0 x3), [false], [], []⟩ = some (.done (xBx true) [(decide ((x3 : Int) < (List.length x0 : Int))) = false]) := by kernel_rfl
theorem p120_e_6 (a0 : List Org) : run tt (AbsCalls Try.prog) I120 3000 false [.code I120.body] ⟨(zBi 0 (xEe a0)), [], [], []⟩ = some (.stop (stkAt 2 I120.body) (xH4 a0 0) []) := by kernel_rfl
theorem c120_2 {N : Nat} : ∀ n x0 x3 r, xB6 N n x0 x3 = some r → Reach Try.prog Try.f120 I120 (stkAt 2 I120.body) (xH4 x0 x3) (xBx r) := by
 intro n
 induction n with
 | zero => intro x0 x3 r h; have h' : (none : Option (Bool)) = some r := h; cases h'
 | succ n ih =>
  intro x0 x3 r h
  rw [xB6] at h
  rcases cond_inv h with ⟨h0, h⟩ | ⟨h0, h⟩
  ·obtain ⟨h1, h⟩ := ite_inv h
   rcases cond_inv h with ⟨h2, h⟩ | ⟨h2, h⟩
   ·obtain rfl := Option.some.inj h
    exact Reach.done ttok mix fk120 (p120_2_0 x0 x3) (obs_cons h0 (obs_cons h1 (obs_cons h2 (obs_cons rfl (obs_cons rfl obs_nil)))))
   ·rcases cond_inv h with ⟨h4, h⟩ | ⟨h4, h⟩
    ·obtain rfl := Option.some.inj h
     exact Reach.done ttok mix fk120 (p120_2_1 x0 x3) (obs_cons h0 (obs_cons h1 (obs_cons h2 (obs_cons h1 (obs_cons h4 (obs_cons rfl obs_nil))))))
    ·rcases cond_inv h with ⟨h5, h⟩ | ⟨h5, h⟩
     ·obtain ⟨h6, h⟩ := ite_inv h
      obtain ⟨r1, h8, h⟩ := bind_inv h
      rcases cond_inv h with ⟨h9, h⟩ | ⟨h9, h⟩
      ·obtain rfl := Option.some.inj h
       exact Reach.done ttok mix fk120 (p120_2_2 x0 x3 r1) (obs_cons h0 (obs_cons h1 (obs_cons h2 (obs_cons h1 (obs_cons h4 (obs_cons h5 (obs_cons h6 (obs_cons h1 (obs_cons (xHE h8) (obs_cons h9 obs_nil))))))))))
      ·exact Reach.stop ttok mix fk120 (p120_2_3 x0 x3 r1) (obs_cons h0 (obs_cons h1 (obs_cons h2 (obs_cons h1 (obs_cons h4 (obs_cons h5 (obs_cons h6 (obs_cons h1 (obs_cons (xHE h8) (obs_cons h9 obs_nil)))))))))) (ih _ _ _ h)
     ·exact Reach.stop ttok mix fk120 (p120_2_4 x0 x3) (obs_cons h0 (obs_cons h1 (obs_cons h2 (obs_cons h1 (obs_cons h4 (obs_cons h5 (obs_cons rfl obs_nil))))))) (ih _ _ _ h)
  ·obtain rfl := Option.some.inj h
   exact Reach.done ttok mix fk120 (p120_2_5 x0 x3) (obs_cons h0 obs_nil)
theorem c120_e {N : Nat} : ∀ a0 r, xFa N a0 = some r → Reach Try.prog Try.f120 I120 [.code I120.body] (zBi 0 (xEe a0)) (xBx r) := by
 intro a0 r h
 unfold xFa at h
 exact Reach.stop ttok mix fk120 (p120_e_6 a0) obs_nil (c120_2   _ _ _ _ h)
theorem xG5 {N : Nat} {a0 : List Org} {r : Bool} (h : xFa N  a0 = some r) : AbC 120 (xEe a0) (xBx r) :=
 AbsCalls.of_reach fk120 rfl rfl (Nat.le_of_ble_eq_true rfl) (c120_e a0 r h)
noncomputable def I105 : Info := { body := (Try.f105.body).getD .skip, nt := 55, results := [.tmp 2], keep := [0, 2, 4, 6, 8, 10, 30, 40, 80, 90, 108, 3, 9], live := [(4, [2, 6, 3]), (10, [2, 6, 8, 10, 3, 9])], modes := [(1, [(4, .take, false)]), (7, [(7, .take, false)])], ext := [], lnt := [], casts := [], fcast := [] }
theorem fk105 : FnOk Try.prog 105 Try.f105 I105 := ⟨Try.func105, by kernel_rfl, by kernel_rfl, by kernel_rfl, by kernel_rfl⟩
def S105_4 (x3 : Int) (b1 : Val) : St := [(2, .v false [.ptr 1 0]), (6, .v false [.int .i64 x3]), (3, .v true [.int .i64 (Val.kind b1), .int .i64 (Val.n b1), .int .i64 (Val.step b1), .str (Val.text b1), .sl .ro .val (Val.list b1), .sl .ro .str (Val.columns b1), .sl .ro .row (Val.rows b1)])]
def S105_10 (x3 x5 : Int) (b1 : Val) (b4 : Rowd) : St := [(2, .v false [.ptr 1 0]), (6, .v false [.int .i64 x3]), (8, .v false [.ptr 4 0]), (10, .v false [.int .i64 x5]), (3, .v true [.int .i64 (Val.kind b1), .int .i64 (Val.n b1), .int .i64 (Val.step b1), .str (Val.text b1), .sl .ro .val (Val.list b1), .sl .ro .str (Val.columns b1), .sl .ro .row (Val.rows b1)]), (9, .v true [.sl .ro .int (Rowd.cells b4), .sl .ro .org (Rowd.frm b4)])]
theorem p105_10_0 (x3 x5 : Int) (b1 : Val) (b4 : Rowd) (r1 : Bool) : run tt (AbsCalls Try.prog) I105 3000 true (stkAt 10 I105.body) ⟨(S105_10 x3 x5 b1 b4), [true, true], [xA2 r1], []⟩ = some (.done (xBU false) [(decide ((x5 : Int) < (List.length (Rowd.cells b4) : Int))) = true, (0 : Int) ≤ x5 ∧ x5 < (List.length (Rowd.cells b4)), AbC 49 (xCa (List.getD (Rowd.cells b4) (Int.toNat x5) Ty.int.dflt)) (xA2 r1), (!r1) = true]) := by kernel_rfl
theorem p105_10_1 (x3 x5 : Int) (b1 : Val) (b4 : Rowd) (r1 : Bool) : run tt (AbsCalls Try.prog) I105 3000 true (stkAt 10 I105.body) ⟨(S105_10 x3 x5 b1 b4), [true, false], [xA2 r1], []⟩ = some (.stop (stkAt 10 I105.body) (S105_10 x3 (IntKind.i64.wrap (x5 + 1)) b1 b4) [(decide ((x5 : Int) < (List.length (Rowd.cells b4) : Int))) = true, (0 : Int) ≤ x5 ∧ x5 < (List.length (Rowd.cells b4)), AbC 49 (xCa (List.getD (Rowd.cells b4) (Int.toNat x5) Ty.int.dflt)) (xA2 r1), (!r1) = false]) := by kernel_rfl
theorem p105_10_2 (x3 x5 : Int) (b1 : Val) (b4 : Rowd) : run tt (AbsCalls Try.prog) I105 3000 true (stkAt 10 I105.body) ⟨(S105_10 x3 x5 b1 b4), [false], [], []⟩ = some (.stop (stkAt 4 I105.body) (S105_4 (IntKind.i64.wrap (x3 + 1)) b1) [(decide ((x5 : Int) < (List.length (Rowd.cells b4) : Int))) = false]) := by kernel_rfl
theorem p105_4_3 (x3 : Int) (b1 : Val) : run tt (AbsCalls Try.prog) I105 3000 true (stkAt 4 I105.body) ⟨(S105_4 x3 b1), [true, true, true], [], []⟩ = some (.done (xBU false) [(decide ((x3 : Int) < (List.length (Val.rows b1) : Int))) = true, (0 : Int) ≤ x3 ∧ x3 < (List.length (Val.rows b1)), (((List.length (Rowd.cells (List.getD (Val.rows b1) (Int.toNat x3) Ty.row.dflt)) : Int) : Int) != (List.length (Val.columns b1) : Int)) = true, true = true]) := by kernel_rfl
theorem p105_4_4 (x3 : Int) (b1 : Val) (r1 : Bool) : run tt (AbsCalls Try.prog) I105 3000 true (stkAt 4 I105.body) ⟨(S105_4 x3 b1), [true, false, true], [xBx r1], []⟩ = some (.done (xBU false) [(decide ((x3 : Int) < (List.length (Val.rows b1) : Int))) = true, (0 : Int) ≤ x3 ∧ x3 < (List.length (Val.rows b1)), (((List.length (Rowd.cells (List.getD (Val.rows b1) (Int.toNat x3) Ty.row.dflt)) : Int) : Int) != (List.length (Val.columns b1) : Int)) = false, AbC 120 (xEe (Rowd.frm (List.getD (Val.rows b1) (Int.toNat x3) Ty.row.dflt))) (xBx r1), (!r1) = true]) := by kernel_rfl
theorem p105_4_5 (x3 : Int) (b1 : Val) (r1 : Bool) : run tt (AbsCalls Try.prog) I105 3000 true (stkAt 4 I105.body) ⟨(S105_4 x3 b1), [true, false, false], [xBx r1], []⟩ = some (.stop (stkAt 10 I105.body) (S105_10 x3 0 b1 (List.getD (Val.rows b1) (Int.toNat x3) Ty.row.dflt)) [(decide ((x3 : Int) < (List.length (Val.rows b1) : Int))) = true, (0 : Int) ≤ x3 ∧ x3 < (List.length (Val.rows b1)), (((List.length (Rowd.cells (List.getD (Val.rows b1) (Int.toNat x3) Ty.row.dflt)) : Int) : Int) != (List.length (Val.columns b1) : Int)) = false, AbC 120 (xEe (Rowd.frm (List.getD (Val.rows b1) (Int.toNat x3) Ty.row.dflt))) (xBx r1), (!r1) = false]) := by kernel_rfl
theorem p105_4_6 (x3 : Int) (b1 : Val) : run tt (AbsCalls Try.prog) I105 3000 true (stkAt 4 I105.body) ⟨(S105_4 x3 b1), [false], [], []⟩ = some (.done (xBU true) [(decide ((x3 : Int) < (List.length (Val.rows b1) : Int))) = false]) := by kernel_rfl
theorem p105_e_7 (a0 : Val) (r1 : Bool) : run tt (AbsCalls Try.prog) I105 3000 false [.code I105.body] ⟨(zBi 0 (xEQ a0)), [true, true], [xBD r1], []⟩ = some (.done (xBU false) [AbC 119 (xD4 (Val.columns a0)) (xBD r1), (!r1) = true, true = true]) := by kernel_rfl
theorem p105_e_8 (a0 : Val) (r1 : Bool) : run tt (AbsCalls Try.prog) I105 3000 false [.code I105.body] ⟨(zBi 0 (xEQ a0)), [false, true], [xBD r1], []⟩ = some (.done (xBU false) [AbC 119 (xD4 (Val.columns a0)) (xBD r1), (!r1) = false, (decide (((List.length (Val.rows a0) : Int) : Int) > 12)) = true]) := by kernel_rfl
theorem p105_e_9 (a0 : Val) (r1 : Bool) : run tt (AbsCalls Try.prog) I105 3000 false [.code I105.body] ⟨(zBi 0 (xEQ a0)), [false, false], [xBD r1], []⟩ = some (.stop (stkAt 4 I105.body) (S105_4 0 a0) [AbC 119 (xD4 (Val.columns a0)) (xBD r1), (!r1) = false, (decide (((List.length (Val.rows a0) : Int) : Int) > 12)) = false]) := by kernel_rfl
theorem c105_10 {N : Nat} {k4 : Int → Val → Option (Bool)} (hk4 : ∀ z0 z1 r, k4 z0 z1 = some r → Reach Try.prog Try.f105 I105 (stkAt 4 I105.body) (S105_4 z0 z1) (xBU r)) : ∀ n x3 x5 b1 b4 r, xDa N k4 n x3 x5 b1 b4 = some r → Reach Try.prog Try.f105 I105 (stkAt 10 I105.body) (S105_10 x3 x5 b1 b4) (xBU r) := by
 intro n
 induction n with
 | zero => intro x3 x5 b1 b4 r h; have h' : (none : Option (Bool)) = some r := h; cases h'
 | succ n ih =>
  intro x3 x5 b1 b4 r h
  rw [xDa] at h
  rcases cond_inv h with ⟨h0, h⟩ | ⟨h0, h⟩
  ·obtain ⟨h1, h⟩ := ite_inv h
   obtain ⟨r1, h2, h⟩ := bind_inv h
   rcases cond_inv h with ⟨h3, h⟩ | ⟨h3, h⟩
   ·obtain rfl := Option.some.inj h
    exact Reach.done ttok mix fk105 (p105_10_0 x3 x5 b1 b4 r1) (obs_cons h0 (obs_cons h1 (obs_cons (xC9 h2) (obs_cons h3 obs_nil))))
   ·exact Reach.stop ttok mix fk105 (p105_10_1 x3 x5 b1 b4 r1) (obs_cons h0 (obs_cons h1 (obs_cons (xC9 h2) (obs_cons h3 obs_nil)))) (ih _ _ _ _ _ h)
  ·exact Reach.stop ttok mix fk105 (p105_10_2 x3 x5 b1 b4) (obs_cons h0 obs_nil) (hk4 _ _ _ h)
theorem c105_4 {N : Nat} : ∀ n x3 b1 r, xDw N n x3 b1 = some r → Reach Try.prog Try.f105 I105 (stkAt 4 I105.body) (S105_4 x3 b1) (xBU r) := by
 intro n
 induction n with
 | zero => intro x3 b1 r h; have h' : (none : Option (Bool)) = some r := h; cases h'
 | succ n ih =>
  intro x3 b1 r h
  rw [xDw] at h
  rcases cond_inv h with ⟨h0, h⟩ | ⟨h0, h⟩
  ·obtain ⟨h1, h⟩ := ite_inv h
   rcases cond_inv h with ⟨h2, h⟩ | ⟨h2, h⟩
   ·obtain rfl := Option.some.inj h
    exact Reach.done ttok mix fk105 (p105_4_3 x3 b1) (obs_cons h0 (obs_cons h1 (obs_cons h2 (obs_cons rfl obs_nil))))
   ·obtain ⟨r1, h3, h⟩ := bind_inv h
    rcases cond_inv h with ⟨h4, h⟩ | ⟨h4, h⟩
    ·obtain rfl := Option.some.inj h
     exact Reach.done ttok mix fk105 (p105_4_4 x3 b1 r1) (obs_cons h0 (obs_cons h1 (obs_cons h2 (obs_cons (xG5 h3) (obs_cons h4 obs_nil)))))
    ·exact Reach.stop ttok mix fk105 (p105_4_5 x3 b1 r1) (obs_cons h0 (obs_cons h1 (obs_cons h2 (obs_cons (xG5 h3) (obs_cons h4 obs_nil))))) (c105_10  ih _ _ _ _ _ _ h)
  ·obtain rfl := Option.some.inj h
   exact Reach.done ttok mix fk105 (p105_4_6 x3 b1) (obs_cons h0 obs_nil)
theorem c105_e {N : Nat} : ∀ a0 r, xF4 N a0 = some r → Reach Try.prog Try.f105 I105 [.code I105.body] (zBi 0 (xEQ a0)) (xBU r) := by
 intro a0 r h
 unfold xF4 at h
 obtain ⟨r1, h0, h⟩ := bind_inv h
 rcases cond_inv h with ⟨h1, h⟩ | ⟨h1, h⟩
 ·obtain rfl := Option.some.inj h
  exact Reach.done ttok mix fk105 (p105_e_7 a0 r1) (obs_cons (xGq h0) (obs_cons h1 (obs_cons rfl obs_nil)))
 ·rcases cond_inv h with ⟨h2, h⟩ | ⟨h2, h⟩
  ·obtain rfl := Option.some.inj h
   exact Reach.done ttok mix fk105 (p105_e_8 a0 r1) (obs_cons (xGq h0) (obs_cons h1 (obs_cons h2 obs_nil)))
  ·exact Reach.stop ttok mix fk105 (p105_e_9 a0 r1) (obs_cons (xGq h0) (obs_cons h1 (obs_cons h2 obs_nil))) (c105_4   _ _ _ _ h)
theorem spec_l3Table_ok {N : Nat} {a0 : Val} {r : Bool} (h : xF4 N  a0 = some r) : AbC 105 (xEQ a0) (xBU r) :=
 AbsCalls.of_reach fk105 rfl rfl (Nat.le_of_ble_eq_true rfl) (c105_e a0 r h)
end Go.Ab.T
end
