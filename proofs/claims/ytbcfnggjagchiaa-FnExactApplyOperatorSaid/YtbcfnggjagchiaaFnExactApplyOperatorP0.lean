/- The statement FnExactApplyOperator holds: plain functions, certificates, laws. Conditions: none. -/
import Derived.Test.YtbcfnggjagchiaaChecked
import Derived.Test.YtbcfnggjagchiaaProg
import Derived.Test.YtbcfnggjagchiaaRows
import Derived.Test.YtbcfnggjagchiaaL2
set_option linter.all false
section
namespace Go.Ab
set_option linter.unusedVariables false
def xEL (a0 : List Val) (a1 : Int) : List Arg := [.val (.v false [.sl .ro .val []]), .val (.v false [.int .i64 a1])]
def xC0 (r : Int) : CallO := ⟨.v false [.int .i64 r], [], []⟩
def xFY (N : Nat) : Nat → Int → Int → Option (Int)
  | 0, _, _ => none
  | n + 1, x1, x5 =>
    bif (decide ((x5 : Int) < (0 : Int))) then (
      if (0 : Int) ≤ x5 ∧ x5 < (0) then
      none
      else none
    ) else (
      some x1
    )
def xFN (N : Nat) (a0 : List Val) (a1 : Int) : Option (Int) :=
  (xFY N N a1 0)
def xDn (a0 : List Str) (a1 : Int) : List Arg := [.val (.v false [.sl .ro .str a0]), .val (.v false [.int .i64 a1])]
def xBH (r : Int) : CallO := ⟨.v false [.int .i64 r], [], []⟩
def xFO (N : Nat) : Nat → (List Str) → Int → Int → Option (Int)
  | 0, _, _, _ => none
  | n + 1, x0, x1, x5 =>
    bif (decide ((x5 : Int) < (List.length x0 : Int))) then (
      if (0 : Int) ≤ x5 ∧ x5 < (List.length x0) then
      bif (decide (((IntKind.i64.wrap (x1 - (List.length (List.getD x0 (Int.toNat x5) Ty.str.dflt) : Int))) : Int) < 0)) then (
        some (-1)
      ) else (
        (xFO N n x0 (IntKind.i64.wrap (x1 - (List.length (List.getD x0 (Int.toNat x5) Ty.str.dflt) : Int))) (IntKind.i64.wrap (x5 + 1)))
      )
      else none
    ) else (
      some x1
    )
def xG0 (N : Nat) (a0 : List Str) (a1 : Int) : Option (Int) :=
  bif (decide (((IntKind.i64.wrap (a1 - (List.length a0 : Int))) : Int) < 0)) then (
    some (-1)
  ) else (
    (xFO N N a0 (IntKind.i64.wrap (a1 - (List.length a0 : Int))) 0)
  )
def xEG (a0 : List Int) (a1 : Int) : List Arg := [.val (.v false [.sl .ro .int a0]), .val (.v false [.int .i64 a1])]
def xCP (r : Int) : CallO := ⟨.v false [.int .i64 r], [], []⟩
def xIo (N : Nat) (a0 : List Int) (a1 : Int) : Option (Int) :=
  bif (decide (((IntKind.i64.wrap (a1 - (List.length a0 : Int))) : Int) < 0)) then (
    some (-1)
  ) else (
    some (IntKind.i64.wrap (a1 - (List.length a0 : Int)))
  )
def xDU (a0 : List Org) (a1 : Int) : List Arg := [.val (.v false [.sl .ro .org a0]), .val (.v false [.int .i64 a1])]
def xCM (r : Int) : CallO := ⟨.v false [.int .i64 r], [], []⟩
def xGY (N : Nat) (a0 : List Org) (a1 : Int) : Option (Int) :=
  bif (decide (((IntKind.i64.wrap (a1 - (List.length a0 : Int))) : Int) < 0)) then (
    some (-1)
  ) else (
    some (IntKind.i64.wrap (a1 - (List.length a0 : Int)))
  )
def xE5 (a0 : Rowd) (a1 : Int) : List Arg := [.val (.v true [.sl .ro .int (Rowd.cells a0), .sl .ro .org (Rowd.frm a0)]), .val (.v false [.int .i64 a1])]
def xDN (r : Int) : CallO := ⟨.v false [.int .i64 r], [], []⟩
def xH9 (N : Nat) (a0 : Rowd) (a1 : Int) : Option (Int) :=
  Option.bind (xIo N (Rowd.cells a0) a1) fun r1 =>
  bif (decide ((r1 : Int) < 0)) then (
    some (-1)
  ) else (
    Option.bind (xGY N (Rowd.frm a0) r1) fun r2 =>
    bif (decide ((r2 : Int) < 0)) then (
      some (-1)
    ) else (
      some r2
    )
  )
def xFl (a0 : List Rowd) (a1 : Int) : List Arg := [.val (.v false [.sl .ro .row a0]), .val (.v false [.int .i64 a1])]
def xCQ (r : Int) : CallO := ⟨.v false [.int .i64 r], [], []⟩
def xGZ (N : Nat) : Nat → (List Rowd) → Int → Int → Option (Int)
  | 0, _, _, _ => none
  | n + 1, x0, x1, x5 =>
    bif (decide ((x5 : Int) < (List.length x0 : Int))) then (
      if (0 : Int) ≤ x5 ∧ x5 < (List.length x0) then
      Option.bind (xH9 N (List.getD x0 (Int.toNat x5) Ty.row.dflt) x1) fun r1 =>
      bif (decide ((r1 : Int) < 0)) then (
        some (-1)
      ) else (
        (xGZ N n x0 r1 (IntKind.i64.wrap (x5 + 1)))
      )
      else none
    ) else (
      some x1
    )
def xIp (N : Nat) (a0 : List Rowd) (a1 : Int) : Option (Int) :=
  bif (decide (((IntKind.i64.wrap (a1 - (List.length a0 : Int))) : Int) < 0)) then (
    some (-1)
  ) else (
    (xGZ N N a0 (IntKind.i64.wrap (a1 - (List.length a0 : Int))) 0)
  )
def xAv (a0 : Val) (a1 : Int) : List Arg := [.val (.v true [.int .i64 (Val.kind a0), .int .i64 (Val.n a0), .int .i64 (Val.step a0), .str (Val.text a0), .sl .ro .val (Val.list a0), .sl .ro .str (Val.columns a0), .sl .ro .row (Val.rows a0)]), .val (.v false [.int .i64 a1])]
def xAg (r : Int) : CallO := ⟨.v false [.int .i64 r], [], []⟩
def xGP (N : Nat) (q0 : Val → Int → Option (Int)) (q1 : (List Val) → Int → Option (Int)) (a0 : Val) (a1 : Int) : Option (Int) :=
  bif (decide (((IntKind.i64.wrap (a1 - (List.length (Val.text a0) : Int))) : Int) < 0)) then (
    some (-1)
  ) else (
    Option.bind (q1 (Val.list a0) (IntKind.i64.wrap (a1 - (List.length (Val.text a0) : Int)))) fun r1 =>
    bif (decide ((r1 : Int) < 0)) then (
      some (-1)
    ) else (
      Option.bind (xG0 N (Val.columns a0) r1) fun r2 =>
      bif (decide ((r2 : Int) < 0)) then (
        some (-1)
      ) else (
        Option.bind (xIp N (Val.rows a0) r2) fun r3 =>
        bif (decide ((r3 : Int) < 0)) then (
          some (-1)
        ) else (
          some r3
        )
      )
    )
  )
def xCC (a0 : List Val) (a1 : Int) : List Arg := [.val (.v false [.sl .ro .val a0]), .val (.v false [.int .i64 a1])]
def xBs (r : Int) : CallO := ⟨.v false [.int .i64 r], [], []⟩
def xGg (N : Nat) (q0 : Val → Int → Option (Int)) (q1 : (List Val) → Int → Option (Int)) : Nat → (List Val) → Int → Int → Option (Int)
  | 0, _, _, _ => none
  | n + 1, x0, x1, x5 =>
    bif (decide ((x5 : Int) < (List.length x0 : Int))) then (
      if (0 : Int) ≤ x5 ∧ x5 < (List.length x0) then
      Option.bind (q0 (List.getD x0 (Int.toNat x5) Ty.val.dflt) x1) fun r1 =>
      bif (decide ((r1 : Int) < 0)) then (
        some (-1)
      ) else (
        (xGg N q0 q1 n x0 r1 (IntKind.i64.wrap (x5 + 1)))
      )
      else none
    ) else (
      some x1
    )
def xGC (N : Nat) (q0 : Val → Int → Option (Int)) (q1 : (List Val) → Int → Option (Int)) (a0 : List Val) (a1 : Int) : Option (Int) :=
  bif (decide (((IntKind.i64.wrap (a1 - (List.length a0 : Int))) : Int) < 0)) then (
    some (-1)
  ) else (
    (xGg N q0 q1 N a0 (IntKind.i64.wrap (a1 - (List.length a0 : Int))) 0)
  )
structure laws_szValue_rec where
  c_laws_szValue : Val → Int → Option (Int)
  c_laws_szValueS : (List Val) → Int → Option (Int)
def xB9 (N : Nat) : Nat → laws_szValue_rec
  | 0 => ⟨fun _ _ => none, fun _ _ => none⟩
  | d + 1 => ⟨xGP N (xB9 N d).c_laws_szValue (xB9 N d).c_laws_szValueS, xGC N (xB9 N d).c_laws_szValue (xB9 N d).c_laws_szValueS⟩
def xGr (N : Nat) (a0 : Val) (a1 : Int) : Option (Int) := (xB9 N N).c_laws_szValue a0 a1
def xFR (a0 : List Str) : List Arg := [.val (.v false [.sl .ro .str a0])]
def xDW (r : (List Str)) : CallO := ⟨.v false [.sl .own .str r], [], []⟩
def xFS (N : Nat) : Nat → (List Str) → (List Str) → Int → Option ((List Str))
  | 0, _, _, _ => none
  | n + 1, x0, x3, x4 =>
    bif (decide ((x4 : Int) < (List.length x0 : Int))) then (
      if (0 : Int) ≤ x4 ∧ x4 < (List.length x0) then
      if (0 : Int) ≤ x4 ∧ x4 < (List.length x3) then
      (xFS N n x0 (List.set x3 (Int.toNat x4) (List.getD x0 (Int.toNat x4) Ty.str.dflt)) (IntKind.i64.wrap (x4 + 1)))
      else none
      else none
    ) else (
      some x3
    )
def xF7 (N : Nat) (a0 : List Str) : Option ((List Str)) :=
  if (0 : Int) ≤ (List.length a0 : Int) ∧ (List.length a0 : Int) = (List.length a0 : Int) ∧ (List.length a0 : Int) ≤ Lim then
  (xFS N N a0 (List.replicate (Int.toNat (List.length a0 : Int)) Ty.str.dflt) 0)
  else none
def xG1 (a0 : List Int) : List Arg := [.val (.v false [.sl .ro .int a0])]
def xFm (r : (List Int)) : CallO := ⟨.v false [.sl .own .int r], [], []⟩
def xG2 (N : Nat) : Nat → (List Int) → (List Int) → Int → Option ((List Int))
  | 0, _, _, _ => none
  | n + 1, x0, x3, x4 =>
    bif (decide ((x4 : Int) < (List.length x0 : Int))) then (
      if (0 : Int) ≤ x4 ∧ x4 < (List.length x0) then
      if (0 : Int) ≤ x4 ∧ x4 < (List.length x3) then
      (xG2 N n x0 (List.set x3 (Int.toNat x4) (List.getD x0 (Int.toNat x4) Ty.int.dflt)) (IntKind.i64.wrap (x4 + 1)))
      else none
      else none
    ) else (
      some x3
    )
def xHB (N : Nat) (a0 : List Int) : Option ((List Int)) :=
  if (0 : Int) ≤ (List.length a0 : Int) ∧ (List.length a0 : Int) = (List.length a0 : Int) ∧ (List.length a0 : Int) ≤ Lim then
  (xG2 N N a0 (List.replicate (Int.toNat (List.length a0 : Int)) Ty.int.dflt) 0)
  else none
def xGh (a0 : Org) : List Arg := [.val (.v true [.int .i64 (Org.cell a0), .int .i64 (Org.row a0)])]
def xFd (r : Org) : CallO := ⟨.v true [.int .i64 (Org.cell r), .int .i64 (Org.row r)], [], []⟩
def xHo (N : Nat) (a0 : Org) : Option (Org) :=
  some a0
def xFP (a0 : List Org) : List Arg := [.val (.v false [.sl .ro .org a0])]
def xDV (r : (List Org)) : CallO := ⟨.v false [.sl .own .org r], [], []⟩
def xFQ (N : Nat) : Nat → (List Org) → (List Org) → Int → Option ((List Org))
  | 0, _, _, _ => none
  | n + 1, x0, x3, x4 =>
    bif (decide ((x4 : Int) < (List.length x0 : Int))) then (
      if (0 : Int) ≤ x4 ∧ x4 < (List.length x0) then
      Option.bind (xHo N (List.getD x0 (Int.toNat x4) Ty.org.dflt)) fun r1 =>
      if (0 : Int) ≤ x4 ∧ x4 < (List.length x3) then
      (xFQ N n x0 (List.set x3 (Int.toNat x4) r1) (IntKind.i64.wrap (x4 + 1)))
      else none
      else none
    ) else (
      some x3
    )
def xF6 (N : Nat) (a0 : List Org) : Option ((List Org)) :=
  if (0 : Int) ≤ (List.length a0 : Int) ∧ (List.length a0 : Int) = (List.length a0 : Int) ∧ (List.length a0 : Int) ≤ Lim then
  (xFQ N N a0 (List.replicate (Int.toNat (List.length a0 : Int)) Ty.org.dflt) 0)
  else none
def xHp (a0 : Rowd) : List Arg := [.val (.v true [.sl .ro .int (Rowd.cells a0), .sl .ro .org (Rowd.frm a0)])]
def xGD (r : Rowd) : CallO := ⟨.v true [.sl .own .int (Rowd.cells r), .sl .own .org (Rowd.frm r)], [], []⟩
def xHs (N : Nat) (a0 : Rowd) : Option (Rowd) :=
  Option.bind (xHB N (Rowd.cells a0)) fun r1 =>
  Option.bind (xF6 N (Rowd.frm a0)) fun r2 =>
  some (Rowd.mk r1 r2)
def xG3 (a0 : List Rowd) : List Arg := [.val (.v false [.sl .ro .row a0])]
def xFn (r : (List Rowd)) : CallO := ⟨.v false [.sl .own .row r], [], []⟩
def xG4 (N : Nat) : Nat → (List Rowd) → (List Rowd) → Int → Option ((List Rowd))
  | 0, _, _, _ => none
  | n + 1, x0, x3, x4 =>
    bif (decide ((x4 : Int) < (List.length x0 : Int))) then (
      if (0 : Int) ≤ x4 ∧ x4 < (List.length x0) then
      Option.bind (xHs N (List.getD x0 (Int.toNat x4) Ty.row.dflt)) fun r1 =>
      if (0 : Int) ≤ x4 ∧ x4 < (List.length x3) then
      (xG4 N n x0 (List.set x3 (Int.toNat x4) r1) (IntKind.i64.wrap (x4 + 1)))
      else none
      else none
    ) else (
      some x3
    )
def xHC (N : Nat) (a0 : List Rowd) : Option ((List Rowd)) :=
  if (0 : Int) ≤ (List.length a0 : Int) ∧ (List.length a0 : Int) = (List.length a0 : Int) ∧ (List.length a0 : Int) ≤ Lim then
  (xG4 N N a0 (List.replicate (Int.toNat (List.length a0 : Int)) Ty.row.dflt) 0)
  else none
def xAc (a0 : Val) : List Arg := [.val (.v true [.int .i64 (Val.kind a0), .int .i64 (Val.n a0), .int .i64 (Val.step a0), .str (Val.text a0), .sl .ro .val (Val.list a0), .sl .ro .str (Val.columns a0), .sl .ro .row (Val.rows a0)])]
def xAa (r : Val) : CallO := ⟨.v true [.int .i64 (Val.kind r), .int .i64 (Val.n r), .int .i64 (Val.step r), .str (Val.text r), .sl .own .val (Val.list r), .sl .own .str (Val.columns r), .sl .own .row (Val.rows r)], [], []⟩
def xES (N : Nat) (q0 : Val → Option (Val)) (q1 : (List Val) → Option ((List Val))) (a0 : Val) : Option (Val) :=
  Option.bind (q1 (Val.list a0)) fun r1 =>
  Option.bind (xF7 N (Val.columns a0)) fun r2 =>
  Option.bind (xHC N (Val.rows a0)) fun r3 =>
  some (Val.mk (Val.kind a0) (Val.n a0) (Val.step a0) (Val.text a0) r1 r2 r3)
def xFe (a0 : List Val) : List Arg := [.val (.v false [.sl .ro .val a0])]
def xDF (r : (List Val)) : CallO := ⟨.v false [.sl .own .val r], [], []⟩
def xGi (N : Nat) (q0 : Val → Option (Val)) (q1 : (List Val) → Option ((List Val))) : Nat → (List Val) → (List Val) → Int → Option ((List Val))
  | 0, _, _, _ => none
  | n + 1, x0, x3, x4 =>
    bif (decide ((x4 : Int) < (List.length x0 : Int))) then (
      if (0 : Int) ≤ x4 ∧ x4 < (List.length x0) then
      Option.bind (q0 (List.getD x0 (Int.toNat x4) Ty.val.dflt)) fun r1 =>
      if (0 : Int) ≤ x4 ∧ x4 < (List.length x3) then
      (xGi N q0 q1 n x0 (List.set x3 (Int.toNat x4) (Val.re r1)) (IntKind.i64.wrap (x4 + 1)))
      else none
      else none
    ) else (
      some x3
    )
def xEx (N : Nat) (q0 : Val → Option (Val)) (q1 : (List Val) → Option ((List Val))) (a0 : List Val) : Option ((List Val)) :=
  if (0 : Int) ≤ (List.length a0 : Int) ∧ (List.length a0 : Int) = (List.length a0 : Int) ∧ (List.length a0 : Int) ≤ Lim then
  (xGi N q0 q1 N a0 (List.replicate (Int.toNat (List.length a0 : Int)) Ty.val.dflt) 0)
  else none
structure laws_toValue_rec where
  c_laws_toValue : Val → Option (Val)
  c_laws_toValueS : (List Val) → Option ((List Val))
def xBj (N : Nat) : Nat → laws_toValue_rec
  | 0 => ⟨fun _ => none, fun _ => none⟩
  | d + 1 => ⟨xES N (xBj N d).c_laws_toValue (xBj N d).c_laws_toValueS, xEx N (xBj N d).c_laws_toValue (xBj N d).c_laws_toValueS⟩
def xBd (N : Nat) (a0 : Val) : Option (Val) := (xBj N N).c_laws_toValue a0
def xEY (a0 : Int) (a1 : Int) (a2 : Int) : List Arg := [.val (.v false [.int .i64 a0]), .val (.v false [.int .i64 a1]), .val (.v false [.int .i64 a2])]
def xC5 (r : Bool) : CallO := ⟨.v false [.bool r], [], []⟩
def xHG (N : Nat) (a0 : Int) (a1 : Int) (a2 : Int) : Option (Bool) :=
  bif (decide ((a0 : Int) ≥ a1)) then (
    some (decide ((a0 : Int) ≤ a2))
  ) else (
    some false
  )
def xCa (a0 : Int) : List Arg := [.val (.v false [.int .i64 a0])]
def xA8 (r : Bool) : CallO := ⟨.v false [.bool r], [], []⟩
def xDO (N : Nat) (a0 : Int) : Option (Bool) :=
  Option.bind (xHG N a0 (-1000000000) 1000000000) fun r1 =>
  some r1
def xE7 (a0 : Str) : List Arg := [.val (.v false [.str a0])]
def xB4 (r : Bool) : CallO := ⟨.v false [.bool r], [], []⟩
def xCm (N : Nat) : Nat → Str → Int → Option (Bool)
  | 0, _, _ => none
  | n + 1, x0, x3 =>
    bif (decide ((x3 : Int) < (List.length x0 : Int))) then (
      if (0 : Int) ≤ x3 ∧ x3 < (List.length x0) then
      bif (decide ((((List.getD x0 (Int.toNat x3) 0).toNat : Int) : Int) < 32)) then (
        some false
      ) else (
        bif (decide ((((List.getD x0 (Int.toNat x3) 0).toNat : Int) : Int) > 126)) then (
          some false
        ) else (
          bif ((((List.getD x0 (Int.toNat x3) 0).toNat : Int) : Int) == 34) then (
            some false
          ) else (
            (xCm N n x0 (IntKind.i64.wrap (x3 + 1)))
          )
        )
      )
      else none
    ) else (
      some (decide (((List.length x0 : Int) : Int) ≤ 20))
    )
def xGk (N : Nat) (a0 : Str) : Option (Bool) :=
  (xCm N N a0 0)
def xCN (a0 : Val) : List Arg := [.val (.v true [.int .i64 (Val.kind a0), .int .i64 (Val.n a0), .int .i64 (Val.step a0), .str (Val.text a0), .sl .ro .val (Val.list a0), .sl .ro .str (Val.columns a0), .sl .ro .row (Val.rows a0)])]
def xBR (r : Bool) : CallO := ⟨.v false [.bool r], [], []⟩
def xG9 (N : Nat) (a0 : Val) : Option (Bool) :=
  bif (((Val.kind a0) : Int) == 1) then (
    some true
  ) else (
    bif (((Val.kind a0) : Int) == 2) then (
      some true
    ) else (
      some (((Val.kind a0) : Int) == 3)
    )
  )
def xGE (a0 : Int) (a1 : Int) : List Arg := [.val (.v false [.int .i64 a0]), .val (.v false [.int .i64 a1])]
def xFW (r : Int) : CallO := ⟨.v false [.int .i64 r], [], []⟩
def xId (N : Nat) (a0 : Int) (a1 : Int) : Option (Int) :=
  bif (decide ((a0 : Int) > a1)) then (
    some a0
  ) else (
    some a1
  )
def xEc (a0 : Val) : List Arg := [.val (.v true [.int .i64 (Val.kind a0), .int .i64 (Val.n a0), .int .i64 (Val.step a0), .str (Val.text a0), .sl .ro .val (Val.list a0), .sl .ro .str (Val.columns a0), .sl .ro .row (Val.rows a0)])]
def xCv (r : Int) : CallO := ⟨.v false [.int .i64 r], [], []⟩
def xET (N : Nat) (q0 : Val → Option (Int)) : Nat → Int → Int → Val → Option (Int)
  | 0, _, _, _ => none
  | n + 1, x3, x4, b1 =>
    bif (decide ((x4 : Int) < (List.length (Val.list b1) : Int))) then (
      if (0 : Int) ≤ x4 ∧ x4 < (List.length (Val.list b1)) then
      Option.bind (q0 (List.getD (Val.list b1) (Int.toNat x4) Ty.val.dflt)) fun r1 =>
      Option.bind (xId N x3 r1) fun r2 =>
      (xET N q0 n r2 (IntKind.i64.wrap (x4 + 1)) b1)
      else none
    ) else (
      some (IntKind.i64.wrap (x3 + 1))
    )
def xGQ (N : Nat) (q0 : Val → Option (Int)) (a0 : Val) : Option (Int) :=
  (xET N q0 N 0 0 a0)
def xDG (N : Nat) : Nat → Val → Option (Int)
  | 0, _ => none
  | d + 1, a0 => xGQ N (xDG N d) a0
def xHR (N : Nat) (a0 : Val) : Option (Int) := xDG N N a0
def xEV (a0 : Str) : List Arg := [.val (.v false [.str a0])]
def xBm (r : Bool) : CallO := ⟨.v false [.bool r], [], []⟩
def xCw (N : Nat) : Nat → Str → Int → Option (Bool)
  | 0, _, _ => none
  | n + 1, x0, x3 =>
    bif (decide ((x3 : Int) < (List.length x0 : Int))) then (
      if (0 : Int) ≤ x3 ∧ x3 < (List.length x0) then
      bif (decide ((((List.getD x0 (Int.toNat x3) 0).toNat : Int) : Int) ≥ 97)) then (
        bif (decide ((((List.getD x0 (Int.toNat x3) 0).toNat : Int) : Int) ≥ 48)) then (
          bif (!(decide ((((List.getD x0 (Int.toNat x3) 0).toNat : Int) : Int) ≤ 122))) then (
            bif ((x3 : Int) == 0) then (
              some false
            ) else (
              bif (!(decide ((((List.getD x0 (Int.toNat x3) 0).toNat : Int) : Int) ≤ 57))) then (
                some false
              ) else (
                (xCw N n x0 (IntKind.i64.wrap (x3 + 1)))
              )
            )
          ) else (
            (xCw N n x0 (IntKind.i64.wrap (x3 + 1)))
          )
        ) else (
          bif (!(decide ((((List.getD x0 (Int.toNat x3) 0).toNat : Int) : Int) ≤ 122))) then (
            bif ((x3 : Int) == 0) then (
              some false
            ) else (
              some false
            )
          ) else (
            (xCw N n x0 (IntKind.i64.wrap (x3 + 1)))
          )
        )
      ) else (
        bif (decide ((((List.getD x0 (Int.toNat x3) 0).toNat : Int) : Int) ≥ 48)) then (
          bif ((x3 : Int) == 0) then (
            some false
          ) else (
            bif (!(decide ((((List.getD x0 (Int.toNat x3) 0).toNat : Int) : Int) ≤ 57))) then (
              some false
            ) else (
              (xCw N n x0 (IntKind.i64.wrap (x3 + 1)))
            )
          )
        ) else (
          bif ((x3 : Int) == 0) then (
            some false
          ) else (
            some false
          )
        )
      )
      else none
    ) else (
      some (decide (((List.length x0 : Int) : Int) > 0))
    )
def xHU (N : Nat) (a0 : Str) : Option (Bool) :=
  (xCw N N a0 0)
def xFy : List Arg := []
def xEA (r : (List Str)) : CallO := ⟨.v false [.sl .own .str r], [], []⟩
def xGF (N : Nat) : Option ((List Str)) :=
  some [[108, 101, 116], [105, 110], [105, 102], [116, 104, 101, 110], [101, 108, 115, 101], [102, 111, 114], [100, 111], [108, 101, 110], [115, 117, 109], [116, 97, 107, 101], [115, 107, 105, 112], [114, 97, 110, 103, 101], [110, 116, 104], [119, 104, 101, 114, 101], [107, 101, 101, 112], [97, 100, 100], [103, 114, 111, 117, 112], [106, 111, 105, 110], [99, 111, 108, 117, 109, 110], [114, 111, 119, 115], [99, 108, 111, 99, 107], [99, 104, 97, 110, 99, 101], [102, 105, 108, 101], [116, 97, 98, 108, 101]]
def xFV (a0 : List Str) (a1 : Str) : List Arg := [.val (.v false [.sl .ro .str a0]), .val (.v false [.str a1])]
def xCY (r : Bool) : CallO := ⟨.v false [.bool r], [], []⟩
def xE8 (N : Nat) : Nat → (List Str) → Str → Int → Option (Bool)
  | 0, _, _, _ => none
  | n + 1, x0, x1, x5 =>
    bif (decide ((x5 : Int) < (List.length x0 : Int))) then (
      if (0 : Int) ≤ x5 ∧ x5 < (List.length x0) then
      bif (((List.getD x0 (Int.toNat x5) Ty.str.dflt) : Str) == x1) then (
        some true
      ) else (
        (xE8 N n x0 x1 (IntKind.i64.wrap (x5 + 1)))
      )
      else none
    ) else (
      some false
    )
def xIc (N : Nat) (a0 : List Str) (a1 : Str) : Option (Bool) :=
  (xE8 N N a0 a1 0)
def xFw (a0 : Str) : List Arg := [.val (.v false [.str a0])]
def xEz (r : Bool) : CallO := ⟨.v false [.bool r], [], []⟩
def xFK (N : Nat) (a0 : Str) : Option (Bool) :=
  Option.bind (xGF N) fun r1 =>
  Option.bind (xIc N r1 a0) fun r2 =>
  some r2
def xCJ (a0 : Str) : List Arg := [.val (.v false [.str a0])]
def xB3 (r : Bool) : CallO := ⟨.v false [.bool r], [], []⟩
def xFf (N : Nat) (a0 : Str) : Option (Bool) :=
  Option.bind (xHU N a0) fun r1 =>
  bif r1 then (
    bif (decide (((List.length a0 : Int) : Int) ≤ 8)) then (
      Option.bind (xFK N a0) fun r2 =>
      some (!r2)
    ) else (
      some false
    )
  ) else (
    some false
  )
def xE6 (a0 : List Str) : List Arg := [.val (.v false [.sl .ro .str a0])]
def xCI (r : Bool) : CallO := ⟨.v false [.bool r], [], []⟩
def xCH (N : Nat) : Nat → (List Str) → Int → Option (Bool)
  | 0, _, _ => none
  | n + 1, x0, x3 =>
    bif (decide ((x3 : Int) < (List.length x0 : Int))) then (
      if (0 : Int) ≤ x3 ∧ x3 ≤ (List.length x0) then
      if (0 : Int) ≤ x3 ∧ x3 < (List.length x0) then
      Option.bind (xIc N (List.take (Int.toNat x3) x0) (List.getD x0 (Int.toNat x3) Ty.str.dflt)) fun r1 =>
      bif r1 then (
        some false
      ) else (
        (xCH N n x0 (IntKind.i64.wrap (x3 + 1)))
      )
      else none
      else none
    ) else (
      some true
    )
def xGj (N : Nat) (a0 : List Str) : Option (Bool) :=
  (xCH N N a0 0)
def xDZ (a0 : List Str) : List Arg := [.val (.v false [.sl .ro .str a0])]
def xBI (r : Bool) : CallO := ⟨.v false [.bool r], [], []⟩
def xD0 (N : Nat) : Nat → (List Str) → Int → Option (Bool)
  | 0, _, _ => none
  | n + 1, x0, x3 =>
    bif (decide ((x3 : Int) < (List.length x0 : Int))) then (
      if (0 : Int) ≤ x3 ∧ x3 < (List.length x0) then
      Option.bind (xFf N (List.getD x0 (Int.toNat x3) Ty.str.dflt)) fun r1 =>
      bif (!r1) then (
        some false
      ) else (
        (xD0 N n x0 (IntKind.i64.wrap (x3 + 1)))
      )
      else none
    ) else (
      Option.bind (xHG N (List.length x0 : Int) 1 4) fun r1 =>
      bif r1 then (
        Option.bind (xGj N x0) fun r2 =>
        some r2
      ) else (
        some false
      )
    )
def xG8 (N : Nat) (a0 : List Str) : Option (Bool) :=
  (xD0 N N a0 0)
def xDH (a0 : Org) (a1 : Org) : List Arg := [.val (.v true [.int .i64 (Org.cell a0), .int .i64 (Org.row a0)]), .val (.v true [.int .i64 (Org.cell a1), .int .i64 (Org.row a1)])]
def xCD (r : Bool) : CallO := ⟨.v false [.bool r], [], []⟩
def xGG (N : Nat) (a0 : Org) (a1 : Org) : Option (Bool) :=
  bif (decide (((Org.cell a0) : Int) < (Org.cell a1))) then (
    some true
  ) else (
    bif (((Org.cell a0) : Int) == (Org.cell a1)) then (
      some (decide (((Org.row a0) : Int) < (Org.row a1)))
    ) else (
      some false
    )
  )
def xEf (a0 : List Org) : List Arg := [.val (.v false [.sl .ro .org a0])]
def xBD (r : Bool) : CallO := ⟨.v false [.bool r], [], []⟩
def xCn (N : Nat) : Nat → (List Org) → Int → Option (Bool)
  | 0, _, _ => none
  | n + 1, x0, x3 =>
    bif (decide ((x3 : Int) < (List.length x0 : Int))) then (
      if (0 : Int) ≤ x3 ∧ x3 < (List.length x0) then
      bif (decide (((Org.cell (List.getD x0 (Int.toNat x3) Ty.org.dflt)) : Int) < 0)) then (
        some false
      ) else (
        bif (decide (((Org.row (List.getD x0 (Int.toNat x3) Ty.org.dflt)) : Int) < 0)) then (
          some false
        ) else (
          bif (decide ((x3 : Int) > 0)) then (
            if (0 : Int) ≤ (IntKind.i64.wrap (x3 - 1)) ∧ (IntKind.i64.wrap (x3 - 1)) < (List.length x0) then
            Option.bind (xGG N (List.getD x0 (Int.toNat (IntKind.i64.wrap (x3 - 1))) Ty.org.dflt) (List.getD x0 (Int.toNat x3) Ty.org.dflt)) fun r1 =>
            bif (!r1) then (
              some false
            ) else (
              (xCn N n x0 (IntKind.i64.wrap (x3 + 1)))
            )
            else none
          ) else (
            (xCn N n x0 (IntKind.i64.wrap (x3 + 1)))
          )
        )
      )
      else none
    ) else (
      some true
    )
def xGl (N : Nat) (a0 : List Org) : Option (Bool) :=
  (xCn N N a0 0)
def xEW (a0 : Val) : List Arg := [.val (.v true [.int .i64 (Val.kind a0), .int .i64 (Val.n a0), .int .i64 (Val.step a0), .str (Val.text a0), .sl .ro .val (Val.list a0), .sl .ro .str (Val.columns a0), .sl .ro .row (Val.rows a0)])]
def xBS (r : Bool) : CallO := ⟨.v false [.bool r], [], []⟩
def xDI (N : Nat) (k4 : Int → Val → Option (Bool)) : Nat → Int → Int → Val → Rowd → Option (Bool)
  | 0, _, _, _, _ => none
  | n + 1, x3, x5, b1, b4 =>
    bif (decide ((x5 : Int) < (List.length (Rowd.cells b4) : Int))) then (
      if (0 : Int) ≤ x5 ∧ x5 < (List.length (Rowd.cells b4)) then
      Option.bind (xDO N (List.getD (Rowd.cells b4) (Int.toNat x5) Ty.int.dflt)) fun r1 =>
      bif (!r1) then (
        some false
      ) else (
        (xDI N k4 n x3 (IntKind.i64.wrap (x5 + 1)) b1 b4)
      )
      else none
    ) else (
      (k4 (IntKind.i64.wrap (x3 + 1)) b1)
    )
def xEh (N : Nat) : Nat → Int → Val → Option (Bool)
  | 0, _, _ => none
  | n + 1, x3, b1 =>
    bif (decide ((x3 : Int) < (List.length (Val.rows b1) : Int))) then (
      if (0 : Int) ≤ x3 ∧ x3 < (List.length (Val.rows b1)) then
      bif (((List.length (Rowd.cells (List.getD (Val.rows b1) (Int.toNat x3) Ty.row.dflt)) : Int) : Int) != (List.length (Val.columns b1) : Int)) then (
        some false
      ) else (
        Option.bind (xGl N (Rowd.frm (List.getD (Val.rows b1) (Int.toNat x3) Ty.row.dflt))) fun r1 =>
        bif (!r1) then (
          some false
        ) else (
          (xDI N (fun z0 z1 => (xEh N n z0 z1)) N x3 0 b1 (List.getD (Val.rows b1) (Int.toNat x3) Ty.row.dflt))
        )
      )
      else none
    ) else (
      some true
    )
def xHc (N : Nat) (a0 : Val) : Option (Bool) :=
  Option.bind (xG8 N (Val.columns a0)) fun r1 =>
  bif (!r1) then (
    some false
  ) else (
    bif (decide (((List.length (Val.rows a0) : Int) : Int) > 12)) then (
      some false
    ) else (
      (xEh N N 0 a0)
    )
  )
def xAM (a0 : Val) : List Arg := [.val (.v true [.int .i64 (Val.kind a0), .int .i64 (Val.n a0), .int .i64 (Val.step a0), .str (Val.text a0), .sl .ro .val (Val.list a0), .sl .ro .str (Val.columns a0), .sl .ro .row (Val.rows a0)])]
def xAI (r : Bool) : CallO := ⟨.v false [.bool r], [], []⟩
def xC9 (N : Nat) (q0 : Val → Option (Bool)) (q1 : Val → Option (Bool)) (a0 : Val) : Option (Bool) :=
  bif (((Val.kind a0) : Int) != 3) then (
    bif (decide (((List.length (Val.list a0) : Int) : Int) > 0)) then (
      some false
    ) else (
      bif (((Val.kind a0) : Int) != 5) then (
        bif (decide (((IntKind.i64.wrap ((List.length (Val.columns a0) : Int) + (List.length (Val.rows a0) : Int))) : Int) > 0)) then (
          some false
        ) else (
          bif (((Val.kind a0) : Int) != 2) then (
            bif (!(((Val.text a0) : Str) == [])) then (
              some false
            ) else (
              bif (((Val.kind a0) : Int) != 4) then (
                bif (((Val.step a0) : Int) != 0) then (
                  some false
                ) else (
                  bif (((Val.kind a0) : Int) == 1) then (
                    Option.bind (xDO N (Val.n a0)) fun r1 =>
                    some r1
                  ) else (
                    bif (((Val.kind a0) : Int) == 6) then (
                      Option.bind (xHG N (Val.n a0) 1 8) fun r1 =>
                      some r1
                    ) else (
                      some false
                    )
                  )
                )
              ) else (
                Option.bind (xDO N (Val.n a0)) fun r1 =>
                bif r1 then (
                  Option.bind (xDO N (Val.step a0)) fun r2 =>
                  some r2
                ) else (
                  some false
                )
              )
            )
          ) else (
            bif (((Val.step a0) : Int) != 0) then (
              some false
            ) else (
              bif (((Val.n a0) : Int) == 0) then (
                Option.bind (xGk N (Val.text a0)) fun r1 =>
                some r1
              ) else (
                some false
              )
            )
          )
        )
      ) else (
        bif (!(((Val.text a0) : Str) == [])) then (
          some false
        ) else (
          bif (((Val.step a0) : Int) != 0) then (
            some false
          ) else (
            bif (((Val.n a0) : Int) == 0) then (
              Option.bind (xHc N a0) fun r1 =>
              some r1
            ) else (
              some false
            )
          )
        )
      )
    )
  ) else (
    bif (decide (((IntKind.i64.wrap ((List.length (Val.columns a0) : Int) + (List.length (Val.rows a0) : Int))) : Int) > 0)) then (
      some false
    ) else (
      bif (!(((Val.text a0) : Str) == [])) then (
        some false
      ) else (
        bif (((Val.step a0) : Int) != 0) then (
          some false
        ) else (
          bif (((Val.n a0) : Int) == 0) then (
            Option.bind (q1 a0) fun r1 =>
            some r1
          ) else (
            some false
          )
        )
      )
    )
  )
def xF8 (a0 : Val) : List Arg := [.val (.v true [.int .i64 (Val.kind a0), .int .i64 (Val.n a0), .int .i64 (Val.step a0), .str (Val.text a0), .sl .ro .val (Val.list a0), .sl .ro .str (Val.columns a0), .sl .ro .row (Val.rows a0)])]
def xCR (r : Bool) : CallO := ⟨.v false [.bool r], [], []⟩
def xDQ (N : Nat) (q0 : Val → Option (Bool)) (q1 : Val → Option (Bool)) : Nat → Int → Val → Option (Bool)
  | 0, _, _ => none
  | n + 1, x3, b1 =>
    bif (decide ((x3 : Int) < (List.length (Val.list b1) : Int))) then (
      if (0 : Int) ≤ x3 ∧ x3 < (List.length (Val.list b1)) then
      Option.bind (xG9 N (List.getD (Val.list b1) (Int.toNat x3) Ty.val.dflt)) fun r1 =>
      bif (!r1) then (
        some false
      ) else (
        Option.bind (q0 (List.getD (Val.list b1) (Int.toNat x3) Ty.val.dflt)) fun r2 =>
        bif (!r2) then (
          some false
        ) else (
          (xDQ N q0 q1 n (IntKind.i64.wrap (x3 + 1)) b1)
        )
      )
      else none
    ) else (
      bif (decide (((List.length (Val.list b1) : Int) : Int) ≤ 8)) then (
        Option.bind (xHR N b1) fun r1 =>
        some (decide ((r1 : Int) ≤ 3))
      ) else (
        some false
      )
    )
def xHi (N : Nat) (q0 : Val → Option (Bool)) (q1 : Val → Option (Bool)) (a0 : Val) : Option (Bool) :=
  (xDQ N q0 q1 N 0 a0)
structure spec_IsValidValue_rec where
  c_spec_IsValidValue : Val → Option (Bool)
  c_spec_l3List : Val → Option (Bool)
def xAV (N : Nat) : Nat → spec_IsValidValue_rec
  | 0 => ⟨fun _ => none, fun _ => none⟩
  | d + 1 => ⟨xC9 N (xAV N d).c_spec_IsValidValue (xAV N d).c_spec_l3List, xHi N (xAV N d).c_spec_IsValidValue (xAV N d).c_spec_l3List⟩
def xGR (N : Nat) (a0 : Val) : Option (Bool) := (xAV N N).c_spec_IsValidValue a0
def xAX (a0 : Int) : List Arg := [.val (.v false [.int .i64 a0])]
def xAJ (r : Val) : CallO := ⟨.v true [.int .i64 (Val.kind r), .int .i64 (Val.n r), .int .i64 (Val.step r), .str (Val.text r), .sl .own .val (Val.list r), .sl .own .str (Val.columns r), .sl .own .row (Val.rows r)], [], []⟩
def xAZ (N : Nat) (a0 : Int) : Option (Val) :=
  some (Val.mk 6 a0 0 [] [] [] [])
def xBn (a0 : List Val) : List Arg := [.val (.v false [.sl .ro .val a0])]
def xAR (r : Val × Bool) : CallO := ⟨.tup [(true, [.int .i64 (Val.kind r.1), .int .i64 (Val.n r.1), .int .i64 (Val.step r.1), .str (Val.text r.1), .sl .own .val (Val.list r.1), .sl .own .str (Val.columns r.1), .sl .own .row (Val.rows r.1)]), (false, [.bool r.2])], [], []⟩
def xDv (N : Nat) : Nat → (List Val) → Int → Val → Option (Val × Bool)
  | 0, _, _, _ => none
  | n + 1, x0, x4, b2 =>
    bif (decide ((x4 : Int) < (List.length x0 : Int))) then (
      if (0 : Int) ≤ x4 ∧ x4 < (List.length x0) then
      Option.bind (xGR N (List.getD x0 (Int.toNat x4) Ty.val.dflt)) fun r1 =>
      bif (!r1) then (
        Option.bind (xAZ N 4) fun r2 =>
        some (r2, true)
      ) else (
        bif (((Val.kind (List.getD x0 (Int.toNat x4) Ty.val.dflt)) : Int) == 6) then (
          Option.bind (xAZ N (Val.n (List.getD x0 (Int.toNat x4) Ty.val.dflt))) fun r2 =>
          some (r2, true)
        ) else (
          (xDv N n x0 (IntKind.i64.wrap (x4 + 1)) b2)
        )
      )
      else none
    ) else (
      some ((Val.mk 0 0 0 [] [] [] []), false)
    )
def xHe (N : Nat) (a0 : List Val) : Option (Val × Bool) :=
  (xDv N N a0 0 (Val.mk 0 0 0 [] [] [] []))
def xDo (a0 : Int) : List Arg := [.val (.v false [.int .i64 a0])]
def xB5 (r : Val) : CallO := ⟨.v true [.int .i64 (Val.kind r), .int .i64 (Val.n r), .int .i64 (Val.step r), .str (Val.text r), .sl .own .val (Val.list r), .sl .own .str (Val.columns r), .sl .own .row (Val.rows r)], [], []⟩
def xEu (N : Nat) (a0 : Int) : Option (Val) :=
  some (Val.mk 1 a0 0 [] [] [] [])
def xCl (a0 : Int) : List Arg := [.val (.v false [.int .i64 a0])]
def xBv (r : Val) : CallO := ⟨.v true [.int .i64 (Val.kind r), .int .i64 (Val.n r), .int .i64 (Val.step r), .str (Val.text r), .sl .own .val (Val.list r), .sl .own .str (Val.columns r), .sl .own .row (Val.rows r)], [], []⟩
def xCW (N : Nat) (a0 : Int) : Option (Val) :=
  Option.bind (xDO N a0) fun r1 =>
  bif (!r1) then (
    Option.bind (xAZ N 5) fun r2 =>
    some r2
  ) else (
    Option.bind (xEu N a0) fun r2 =>
    some r2
  )
def xFU (a0 : Str) : List Arg := [.val (.v false [.str a0])]
def xEU (r : Val) : CallO := ⟨.v true [.int .i64 (Val.kind r), .int .i64 (Val.n r), .int .i64 (Val.step r), .str (Val.text r), .sl .own .val (Val.list r), .sl .own .str (Val.columns r), .sl .own .row (Val.rows r)], [], []⟩
def xG6 (N : Nat) (a0 : Str) : Option (Val) :=
  some (Val.mk 2 0 0 a0 [] [] [])
def xHr (a0 : Rowd) : List Arg := [.val (.v true [.sl .ro .int (Rowd.cells a0), .sl .ro .org (Rowd.frm a0)])]
def xGH (r : Rowd) : CallO := ⟨.v true [.sl .own .int (Rowd.cells r), .sl .own .org (Rowd.frm r)], [], []⟩
def xIf (N : Nat) (a0 : Rowd) : Option (Rowd) :=
  if 0 + List.length (Rowd.cells a0) ≤ Lim then
  if 0 + List.length (Rowd.frm a0) ≤ Lim then
  some (Rowd.mk ([] ++ (Rowd.cells a0)) ([] ++ (Rowd.frm a0)))
  else none
  else none
def xEH (a0 : Val) : List Arg := [.val (.v true [.int .i64 (Val.kind a0), .int .i64 (Val.n a0), .int .i64 (Val.step a0), .str (Val.text a0), .sl .ro .val (Val.list a0), .sl .ro .str (Val.columns a0), .sl .ro .row (Val.rows a0)])]
def xCx (r : Val) : CallO := ⟨.v true [.int .i64 (Val.kind r), .int .i64 (Val.n r), .int .i64 (Val.step r), .str (Val.text r), .sl .own .val (Val.list r), .sl .own .str (Val.columns r), .sl .own .row (Val.rows r)], [], []⟩
def xEI (N : Nat) (q0 : Val → Option (Val)) : Nat → Int → Val → Val → Val → Option (Val)
  | 0, _, _, _, _ => none
  | n + 1, x5, b1, b2, b3 =>
    bif (decide ((x5 : Int) < (List.length (Val.rows b1) : Int))) then (
      if (0 : Int) ≤ x5 ∧ x5 < (List.length (Val.rows b1)) then
      Option.bind (xIf N (List.getD (Val.rows b1) (Int.toNat x5) Ty.row.dflt)) fun r1 =>
      if List.length (Val.rows b3) + List.length [r1] ≤ Lim then
      (xEI N q0 n (IntKind.i64.wrap (x5 + 1)) b1 b2 (Val.mk (Val.kind b3) (Val.n b3) (Val.step b3) (Val.text b3) (Val.list b3) (Val.columns b3) ((Val.rows b3) ++ [r1])))
      else none
      else none
    ) else (
      some b3
    )
def xFp (N : Nat) (q0 : Val → Option (Val)) : Nat → Int → Val → Val → Val → Option (Val)
  | 0, _, _, _, _ => none
  | n + 1, x4, b1, b2, b3 =>
    bif (decide ((x4 : Int) < (List.length (Val.list b1) : Int))) then (
      if (0 : Int) ≤ x4 ∧ x4 < (List.length (Val.list b1)) then
      Option.bind (q0 (List.getD (Val.list b1) (Int.toNat x4) Ty.val.dflt)) fun r1 =>
      if List.length (Val.list b3) + List.length [(Val.re r1)] ≤ Lim then
      (xFp N q0 n (IntKind.i64.wrap (x4 + 1)) b1 b2 (Val.mk (Val.kind b3) (Val.n b3) (Val.step b3) (Val.text b3) ((Val.list b3) ++ [(Val.re r1)]) (Val.columns b3) (Val.rows b3)))
      else none
      else none
    ) else (
      (xEI N q0 N 0 b1 b2 b3)
    )
def xFg (N : Nat) (q0 : Val → Option (Val)) (a0 : Val) : Option (Val) :=
  if 0 + List.length (Val.columns a0) ≤ Lim then
  (xFp N q0 N 0 a0 (Val.mk 0 0 0 [] [] [] []) (Val.mk (Val.kind a0) (Val.n a0) (Val.step a0) (Val.text a0) [] ([] ++ (Val.columns a0)) []))
  else none
def xEg (N : Nat) : Nat → Val → Option (Val)
  | 0, _ => none
  | d + 1, a0 => xFg N (xEg N d) a0
def xHK (N : Nat) (a0 : Val) : Option (Val) := xEg N N a0
def xFT (a0 : List Val) : List Arg := [.val (.v false [.sl .ro .val a0])]
def xDY (r : Val) : CallO := ⟨.v true [.int .i64 (Val.kind r), .int .i64 (Val.n r), .int .i64 (Val.step r), .str (Val.text r), .sl .own .val (Val.list r), .sl .own .str (Val.columns r), .sl .own .row (Val.rows r)], [], []⟩
def xDX (N : Nat) : Nat → (List Val) → Int → Val → Val → Option (Val)
  | 0, _, _, _, _ => none
  | n + 1, x0, x4, b2, b3 =>
    bif (decide ((x4 : Int) < (List.length x0 : Int))) then (
      if (0 : Int) ≤ x4 ∧ x4 < (List.length x0) then
      Option.bind (xHK N (List.getD x0 (Int.toNat x4) Ty.val.dflt)) fun r1 =>
      if List.length (Val.list b3) + List.length [(Val.re r1)] ≤ Lim then
      (xDX N n x0 (IntKind.i64.wrap (x4 + 1)) b2 (Val.mk (Val.kind b3) (Val.n b3) (Val.step b3) (Val.text b3) ((Val.list b3) ++ [(Val.re r1)]) (Val.columns b3) (Val.rows b3)))
      else none
      else none
    ) else (
      some b3
    )
def xG5 (N : Nat) (a0 : List Val) : Option (Val) :=
  (xDX N N a0 0 (Val.mk 0 0 0 [] [] [] []) (Val.mk 3 0 0 [] [] [] []))
def xCq (a0 : Val) (a1 : Val) : List Arg := [.val (.v true [.int .i64 (Val.kind a0), .int .i64 (Val.n a0), .int .i64 (Val.step a0), .str (Val.text a0), .sl .ro .val (Val.list a0), .sl .ro .str (Val.columns a0), .sl .ro .row (Val.rows a0)]), .val (.v true [.int .i64 (Val.kind a1), .int .i64 (Val.n a1), .int .i64 (Val.step a1), .str (Val.text a1), .sl .ro .val (Val.list a1), .sl .ro .str (Val.columns a1), .sl .ro .row (Val.rows a1)])]
def xB6 (r : Val) : CallO := ⟨.v true [.int .i64 (Val.kind r), .int .i64 (Val.n r), .int .i64 (Val.step r), .str (Val.text r), .sl .own .val (Val.list r), .sl .own .str (Val.columns r), .sl .own .row (Val.rows r)], [], []⟩
def xGV (N : Nat) (a0 : Val) (a1 : Val) : Option (Val) :=
  bif (((Val.kind a0) : Int) == 1) then (
    bif (((Val.kind a1) : Int) == 1) then (
      Option.bind (xCW N (IntKind.i64.wrap ((Val.n a0) + (Val.n a1)))) fun r1 =>
      some r1
    ) else (
      Option.bind (xAZ N 4) fun r1 =>
      some r1
    )
  ) else (
    bif (((Val.kind a0) : Int) == 2) then (
      bif (((Val.kind a1) : Int) == 2) then (
        bif (decide (((IntKind.i64.wrap ((List.length (Val.text a0) : Int) + (List.length (Val.text a1) : Int))) : Int) > 20)) then (
          Option.bind (xAZ N 6) fun r1 =>
          some r1
        ) else (
          if List.length (Val.text a0) + List.length (Val.text a1) ≤ Lim then
          Option.bind (xG6 N ((Val.text a0) ++ (Val.text a1))) fun r1 =>
          some r1
          else none
        )
      ) else (
        Option.bind (xAZ N 4) fun r1 =>
        some r1
      )
    ) else (
      bif (((Val.kind a0) : Int) == 3) then (
        bif (((Val.kind a1) : Int) == 3) then (
          bif (decide (((IntKind.i64.wrap ((List.length (Val.list a0) : Int) + (List.length (Val.list a1) : Int))) : Int) > 8)) then (
            Option.bind (xAZ N 6) fun r1 =>
            some r1
          ) else (
            if 0 + List.length (Val.list a0) ≤ Lim then
            if List.length ([] ++ (Val.list a0)) + List.length (Val.list a1) ≤ Lim then
            Option.bind (xG5 N (([] ++ (Val.list a0)) ++ (Val.list a1))) fun r1 =>
            some r1
            else none
            else none
          )
        ) else (
          Option.bind (xAZ N 4) fun r1 =>
          some r1
        )
      ) else (
        Option.bind (xAZ N 4) fun r1 =>
        some r1
      )
    )
  )
def xCt (a0 : Bool) : List Arg := [.val (.v false [.bool a0])]
def xBB (r : Val) : CallO := ⟨.v true [.int .i64 (Val.kind r), .int .i64 (Val.n r), .int .i64 (Val.step r), .str (Val.text r), .sl .own .val (Val.list r), .sl .own .str (Val.columns r), .sl .own .row (Val.rows r)], [], []⟩
def xEe (N : Nat) (a0 : Bool) : Option (Val) :=
  bif a0 then (
    Option.bind (xEu N 1) fun r1 =>
    some r1
  ) else (
    Option.bind (xEu N 0) fun r1 =>
    some r1
  )
def xDt (a0 : Val) (a1 : Val) : List Arg := [.val (.v true [.int .i64 (Val.kind a0), .int .i64 (Val.n a0), .int .i64 (Val.step a0), .str (Val.text a0), .sl .ro .val (Val.list a0), .sl .ro .str (Val.columns a0), .sl .ro .row (Val.rows a0)]), .val (.v true [.int .i64 (Val.kind a1), .int .i64 (Val.n a1), .int .i64 (Val.step a1), .str (Val.text a1), .sl .ro .val (Val.list a1), .sl .ro .str (Val.columns a1), .sl .ro .row (Val.rows a1)])]
def xCy (r : Val) : CallO := ⟨.v true [.int .i64 (Val.kind r), .int .i64 (Val.n r), .int .i64 (Val.step r), .str (Val.text r), .sl .own .val (Val.list r), .sl .own .str (Val.columns r), .sl .own .row (Val.rows r)], [], []⟩
def xGW (N : Nat) (a0 : Val) (a1 : Val) : Option (Val) :=
  bif (((Val.kind a0) : Int) == 1) then (
    bif (((Val.kind a1) : Int) == 1) then (
      Option.bind (xEe N (decide (((Val.n a0) : Int) < (Val.n a1)))) fun r1 =>
      some r1
    ) else (
      Option.bind (xAZ N 4) fun r1 =>
      some r1
    )
  ) else (
    bif (((Val.kind a0) : Int) == 2) then (
      bif (((Val.kind a1) : Int) == 2) then (
        Option.bind (xEe N (Op.bytesLess (Val.text a0) (Val.text a1))) fun r1 =>
        some r1
      ) else (
        Option.bind (xAZ N 4) fun r1 =>
        some r1
      )
    ) else (
      Option.bind (xAZ N 4) fun r1 =>
      some r1
    )
  )
def xEi (a0 : List Str) (a1 : List Str) : List Arg := [.val (.v false [.sl .ro .str a0]), .val (.v false [.sl .ro .str a1])]
def xCc (r : Bool) : CallO := ⟨.v false [.bool r], [], []⟩
def xEX (N : Nat) : Nat → (List Str) → (List Str) → Int → Option (Bool)
  | 0, _, _, _ => none
  | n + 1, x0, x1, x5 =>
    bif (decide ((x5 : Int) < (List.length x0 : Int))) then (
      if (0 : Int) ≤ x5 ∧ x5 < (List.length x0) then
      if (0 : Int) ≤ x5 ∧ x5 < (List.length x1) then
      bif (!(((List.getD x0 (Int.toNat x5) Ty.str.dflt) : Str) == (List.getD x1 (Int.toNat x5) Ty.str.dflt))) then (
        some false
      ) else (
        (xEX N n x0 x1 (IntKind.i64.wrap (x5 + 1)))
      )
      else none
      else none
    ) else (
      some true
    )
def xHd (N : Nat) (a0 : List Str) (a1 : List Str) : Option (Bool) :=
  bif (((List.length a0 : Int) : Int) != (List.length a1 : Int)) then (
    some false
  ) else (
    (xEX N N a0 a1 0)
  )
def xDP (a0 : List Int) (a1 : List Int) : List Arg := [.val (.v false [.sl .ro .int a0]), .val (.v false [.sl .ro .int a1])]
def xBY (r : Bool) : CallO := ⟨.v false [.bool r], [], []⟩
def xFo (N : Nat) : Nat → (List Int) → (List Int) → Int → Option (Bool)
  | 0, _, _, _ => none
  | n + 1, x0, x1, x5 =>
    bif (decide ((x5 : Int) < (List.length x0 : Int))) then (
      if (0 : Int) ≤ x5 ∧ x5 < (List.length x0) then
      if (0 : Int) ≤ x5 ∧ x5 < (List.length x1) then
      bif (((List.getD x0 (Int.toNat x5) Ty.int.dflt) : Int) != (List.getD x1 (Int.toNat x5) Ty.int.dflt)) then (
        some false
      ) else (
        (xFo N n x0 x1 (IntKind.i64.wrap (x5 + 1)))
      )
      else none
      else none
    ) else (
      some true
    )
def xHH (N : Nat) (a0 : List Int) (a1 : List Int) : Option (Bool) :=
  bif (((List.length a0 : Int) : Int) != (List.length a1 : Int)) then (
    some false
  ) else (
    (xFo N N a0 a1 0)
  )
def xD1 (a0 : List Org) (a1 : List Org) : List Arg := [.val (.v false [.sl .ro .org a0]), .val (.v false [.sl .ro .org a1])]
def xCe (r : Bool) : CallO := ⟨.v false [.bool r], [], []⟩
def xGU (N : Nat) : Nat → (List Org) → (List Org) → Int → Option (Bool)
  | 0, _, _, _ => none
  | n + 1, x0, x1, x5 =>
    bif (decide ((x5 : Int) < (List.length x0 : Int))) then (
      if (0 : Int) ≤ x5 ∧ x5 < (List.length x0) then
      if (0 : Int) ≤ x5 ∧ x5 < (List.length x1) then
      bif (!((((Org.cell (List.getD x0 (Int.toNat x5) Ty.org.dflt)) : Int) == (Org.cell (List.getD x1 (Int.toNat x5) Ty.org.dflt))) && (((Org.row (List.getD x0 (Int.toNat x5) Ty.org.dflt)) : Int) == (Org.row (List.getD x1 (Int.toNat x5) Ty.org.dflt))))) then (
        some false
      ) else (
        (xGU N n x0 x1 (IntKind.i64.wrap (x5 + 1)))
      )
      else none
      else none
    ) else (
      some true
    )
def xH3 (N : Nat) (a0 : List Org) (a1 : List Org) : Option (Bool) :=
  bif (((List.length a0 : Int) : Int) != (List.length a1 : Int)) then (
    some false
  ) else (
    (xGU N N a0 a1 0)
  )
def xBO (a0 : Val) (a1 : Val) (a2 : Bool) : List Arg := [.val (.v true [.int .i64 (Val.kind a0), .int .i64 (Val.n a0), .int .i64 (Val.step a0), .str (Val.text a0), .sl .ro .val (Val.list a0), .sl .ro .str (Val.columns a0), .sl .ro .row (Val.rows a0)]), .val (.v true [.int .i64 (Val.kind a1), .int .i64 (Val.n a1), .int .i64 (Val.step a1), .str (Val.text a1), .sl .ro .val (Val.list a1), .sl .ro .str (Val.columns a1), .sl .ro .row (Val.rows a1)]), .val (.v false [.bool a2])]
def xA6 (r : Bool) : CallO := ⟨.v false [.bool r], [], []⟩
def xDs (N : Nat) (q0 : Val → Val → Bool → Option (Bool)) : Nat → Bool → Int → Val → Val → Option (Bool)
  | 0, _, _, _, _ => none
  | n + 1, x2, x8, b3, b4 =>
    bif (decide ((x8 : Int) < (List.length (Val.rows b3) : Int))) then (
      if (0 : Int) ≤ x8 ∧ x8 < (List.length (Val.rows b3)) then
      if (0 : Int) ≤ x8 ∧ x8 < (List.length (Val.rows b4)) then
      Option.bind (xHH N (Rowd.cells (List.getD (Val.rows b3) (Int.toNat x8) Ty.row.dflt)) (Rowd.cells (List.getD (Val.rows b4) (Int.toNat x8) Ty.row.dflt))) fun r1 =>
      bif (!r1) then (
        some false
      ) else (
        bif x2 then (
          Option.bind (xH3 N (Rowd.frm (List.getD (Val.rows b3) (Int.toNat x8) Ty.row.dflt)) (Rowd.frm (List.getD (Val.rows b4) (Int.toNat x8) Ty.row.dflt))) fun r2 =>
          bif (!r2) then (
            some false
          ) else (
            (xDs N q0 n x2 (IntKind.i64.wrap (x8 + 1)) b3 b4)
          )
        ) else (
          (xDs N q0 n x2 (IntKind.i64.wrap (x8 + 1)) b3 b4)
        )
      )
      else none
      else none
    ) else (
      some true
    )
def xEJ (N : Nat) (q0 : Val → Val → Bool → Option (Bool)) : Nat → Bool → Int → Val → Val → Option (Bool)
  | 0, _, _, _, _ => none
  | n + 1, x2, x7, b3, b4 =>
    bif (decide ((x7 : Int) < (List.length (Val.list b3) : Int))) then (
      if (0 : Int) ≤ x7 ∧ x7 < (List.length (Val.list b3)) then
      if (0 : Int) ≤ x7 ∧ x7 < (List.length (Val.list b4)) then
      Option.bind (q0 (List.getD (Val.list b3) (Int.toNat x7) Ty.val.dflt) (List.getD (Val.list b4) (Int.toNat x7) Ty.val.dflt) x2) fun r1 =>
      bif (!r1) then (
        some false
      ) else (
        (xEJ N q0 n x2 (IntKind.i64.wrap (x7 + 1)) b3 b4)
      )
      else none
      else none
    ) else (
      (xDs N q0 N x2 0 b3 b4)
    )
def xFh (N : Nat) (q0 : Val → Val → Bool → Option (Bool)) (a0 : Val) (a1 : Val) (a2 : Bool) : Option (Bool) :=
  bif (((Val.kind a0) : Int) != (Val.kind a1)) then (
    some false
  ) else (
    bif (((Val.n a0) : Int) != (Val.n a1)) then (
      some false
    ) else (
      bif (((Val.step a0) : Int) != (Val.step a1)) then (
        some false
      ) else (
        bif (!(((Val.text a0) : Str) == (Val.text a1))) then (
          some false
        ) else (
          bif (((List.length (Val.list a0) : Int) : Int) != (List.length (Val.list a1) : Int)) then (
            some false
          ) else (
            Option.bind (xHd N (Val.columns a0) (Val.columns a1)) fun r1 =>
            bif (!r1) then (
              some false
            ) else (
              bif (((List.length (Val.rows a0) : Int) : Int) != (List.length (Val.rows a1) : Int)) then (
                some false
              ) else (
                (xEJ N q0 N a2 0 a0 a1)
              )
            )
          )
        )
      )
    )
  )
def xCb (N : Nat) : Nat → Val → Val → Bool → Option (Bool)
  | 0, _, _, _ => none
  | d + 1, a0, a1, a2 => xFh N (xCb N d) a0 a1 a2
def xJq (N : Nat) (a0 : Val) (a1 : Val) (a2 : Bool) : Option (Bool) := xCb N N a0 a1 a2
def xEy (a0 : Val) (a1 : Val) : List Arg := [.val (.v true [.int .i64 (Val.kind a0), .int .i64 (Val.n a0), .int .i64 (Val.step a0), .str (Val.text a0), .sl .ro .val (Val.list a0), .sl .ro .str (Val.columns a0), .sl .ro .row (Val.rows a0)]), .val (.v true [.int .i64 (Val.kind a1), .int .i64 (Val.n a1), .int .i64 (Val.step a1), .str (Val.text a1), .sl .ro .val (Val.list a1), .sl .ro .str (Val.columns a1), .sl .ro .row (Val.rows a1)])]
def xCX (r : Bool) : CallO := ⟨.v false [.bool r], [], []⟩
def xEd (N : Nat) (a0 : Val) (a1 : Val) : Option (Bool) :=
  Option.bind (xJq N a0 a1 false) fun r1 =>
  some r1
def xAz (a0 : Int) (a1 : Val) (a2 : Val) : List Arg := [.val (.v false [.int .i64 a0]), .val (.v true [.int .i64 (Val.kind a1), .int .i64 (Val.n a1), .int .i64 (Val.step a1), .str (Val.text a1), .sl .ro .val (Val.list a1), .sl .ro .str (Val.columns a1), .sl .ro .row (Val.rows a1)]), .val (.v true [.int .i64 (Val.kind a2), .int .i64 (Val.n a2), .int .i64 (Val.step a2), .str (Val.text a2), .sl .ro .val (Val.list a2), .sl .ro .str (Val.columns a2), .sl .ro .row (Val.rows a2)])]
def xAk (r : Val) : CallO := ⟨.v true [.int .i64 (Val.kind r), .int .i64 (Val.n r), .int .i64 (Val.step r), .str (Val.text r), .sl .own .val (Val.list r), .sl .own .str (Val.columns r), .sl .own .row (Val.rows r)], [], []⟩
def xCV (N : Nat) (a0 : Int) (a1 : Val) (a2 : Val) : Option (Val) :=
  Option.bind (xHe N [(Val.re a1), (Val.re a2)]) fun r1 =>
  bif r1.2 then (
    some r1.1
  ) else (
    bif (((Val.kind a1) : Int) == 1) then (
      bif ((a0 : Int) == 1) then (
        Option.bind (xGV N a1 a2) fun r2 =>
        some r2
      ) else (
        bif ((a0 : Int) == 4) then (
          Option.bind (xGW N a1 a2) fun r2 =>
          some r2
        ) else (
          bif ((a0 : Int) == 5) then (
            Option.bind (xEd N a1 a2) fun r2 =>
            Option.bind (xEe N r2) fun r3 =>
            some r3
          ) else (
            bif ((a0 : Int) == 2) then (
              bif (((Val.kind a2) : Int) == 1) then (
                Option.bind (xCW N (IntKind.i64.wrap ((Val.n a1) - (Val.n a2)))) fun r2 =>
                some r2
              ) else (
                Option.bind (xAZ N 4) fun r2 =>
                some r2
              )
            ) else (
              bif ((a0 : Int) == 3) then (
                bif (((Val.kind a2) : Int) == 1) then (
                  Option.bind (xCW N (IntKind.i64.wrap ((Val.n a1) * (Val.n a2)))) fun r2 =>
                  some r2
                ) else (
                  Option.bind (xAZ N 4) fun r2 =>
                  some r2
                )
              ) else (
                Option.bind (xAZ N 4) fun r2 =>
                some r2
              )
            )
          )
        )
      )
    ) else (
      bif ((a0 : Int) == 1) then (
        Option.bind (xGV N a1 a2) fun r2 =>
        some r2
      ) else (
        bif ((a0 : Int) == 4) then (
          Option.bind (xGW N a1 a2) fun r2 =>
          some r2
        ) else (
          bif ((a0 : Int) == 5) then (
            Option.bind (xEd N a1 a2) fun r2 =>
            Option.bind (xEe N r2) fun r3 =>
            some r3
          ) else (
            bif ((a0 : Int) == 2) then (
              Option.bind (xAZ N 4) fun r2 =>
              some r2
            ) else (
              bif ((a0 : Int) == 3) then (
                Option.bind (xAZ N 4) fun r2 =>
                some r2
              ) else (
                Option.bind (xAZ N 4) fun r2 =>
                some r2
              )
            )
          )
        )
      )
    )
  )
def xDr (a0 : Int) (a1 : Int) (a2 : Int) : List Arg := [.val (.v false [.int .i64 a0]), .val (.v false [.int .i64 a1]), .val (.v false [.int .i64 a2])]
def xBW (r : Bool) : CallO := ⟨.v false [.bool r], [], []⟩
def xFH (N : Nat) (a0 : Int) (a1 : Int) (a2 : Int) : Option (Bool) :=
  bif (decide ((a1 : Int) ≤ a0)) then (
    some (decide ((a0 : Int) ≤ a2))
  ) else (
    some false
  )
def xB7 (a0 : Int) : List Arg := [.val (.v false [.int .i64 a0])]
def xA7 (r : Bool) : CallO := ⟨.v false [.bool r], [], []⟩
def xDK (N : Nat) (a0 : Int) : Option (Bool) :=
  Option.bind (xFH N a0 (-1000000000) 1000000000) fun r1 =>
  some r1
def xE0 (a0 : Str) : List Arg := [.val (.v false [.str a0])]
def xBZ (r : Bool) : CallO := ⟨.v false [.bool r], [], []⟩
def xD4 (N : Nat) : Nat → Str → Int → Option (Bool)
  | 0, _, _ => none
  | n + 1, x0, x3 =>
    bif (decide ((x3 : Int) < (List.length x0 : Int))) then (
      if (0 : Int) ≤ x3 ∧ x3 < (List.length x0) then
      bif (decide ((((List.getD x0 (Int.toNat x3) 0).toNat : Int) : Int) < 32)) then (
        some false
      ) else (
        bif (decide ((((List.getD x0 (Int.toNat x3) 0).toNat : Int) : Int) > 126)) then (
          some false
        ) else (
          bif ((((List.getD x0 (Int.toNat x3) 0).toNat : Int) : Int) == 34) then (
            some false
          ) else (
            (xD4 N n x0 (IntKind.i64.wrap (x3 + 1)))
          )
        )
      )
      else none
    ) else (
      some (decide (((List.length x0 : Int) : Int) ≤ 20))
    )
def xGa (N : Nat) (a0 : Str) : Option (Bool) :=
  (xD4 N N a0 0)
def xF2 (a0 : Str) : List Arg := [.val (.v false [.str a0])]
def xBV (r : Bool) : CallO := ⟨.v false [.bool r], [], []⟩
def xDq (N : Nat) : Nat → Str → Int → Option (Bool)
  | 0, _, _ => none
  | n + 1, x0, x3 =>
    bif (decide ((x3 : Int) < (List.length x0 : Int))) then (
      if (0 : Int) ≤ x3 ∧ x3 < (List.length x0) then
      bif (decide ((((List.getD x0 (Int.toNat x3) 0).toNat : Int) : Int) ≥ 97)) then (
        bif (!(decide ((((List.getD x0 (Int.toNat x3) 0).toNat : Int) : Int) ≤ 122))) then (
          bif ((x3 : Int) == 0) then (
            some false
          ) else (
            bif (decide ((((List.getD x0 (Int.toNat x3) 0).toNat : Int) : Int) < 48)) then (
              some false
            ) else (
              bif (decide ((((List.getD x0 (Int.toNat x3) 0).toNat : Int) : Int) > 57)) then (
                some false
              ) else (
                (xDq N n x0 (IntKind.i64.wrap (x3 + 1)))
              )
            )
          )
        ) else (
          (xDq N n x0 (IntKind.i64.wrap (x3 + 1)))
        )
      ) else (
        bif ((x3 : Int) == 0) then (
          some false
        ) else (
          bif (decide ((((List.getD x0 (Int.toNat x3) 0).toNat : Int) : Int) < 48)) then (
            some false
          ) else (
            bif (decide ((((List.getD x0 (Int.toNat x3) 0).toNat : Int) : Int) > 57)) then (
              some false
            ) else (
              (xDq N n x0 (IntKind.i64.wrap (x3 + 1)))
            )
          )
        )
      )
      else none
    ) else (
      Option.bind (xFH N (List.length x0 : Int) 1 8) fun r1 =>
      some r1
    )
def xIl (N : Nat) (a0 : Str) : Option (Bool) :=
  (xDq N N a0 0)
def xAU (a0 : Str) : List Arg := [.val (.v false [.str a0])]
def xAT (r : Int) : CallO := ⟨.v false [.int .i64 r], [], []⟩
def xFr (N : Nat) (a0 : Str) : Option (Int) :=
  bif ((a0 : Str) == [99, 108, 111, 99, 107]) then (
    some 0
  ) else (
    bif ((a0 : Str) == [108, 101, 110]) then (
      some 1
    ) else (
      bif ((a0 : Str) == [115, 117, 109]) then (
        some 1
      ) else (
        bif ((a0 : Str) == [114, 111, 119, 115]) then (
          some 1
        ) else (
          bif ((a0 : Str) == [99, 104, 97, 110, 99, 101]) then (
            some 1
          ) else (
            bif ((a0 : Str) == [102, 105, 108, 101]) then (
              some 1
            ) else (
              bif ((a0 : Str) == [116, 97, 107, 101]) then (
                some 2
              ) else (
                bif ((a0 : Str) == [115, 107, 105, 112]) then (
                  some 2
                ) else (
                  bif ((a0 : Str) == [114, 97, 110, 103, 101]) then (
                    some 2
                  ) else (
                    bif ((a0 : Str) == [110, 116, 104]) then (
                      some 2
                    ) else (
                      bif ((a0 : Str) == [107, 101, 101, 112]) then (
                        some 2
                      ) else (
                        bif ((a0 : Str) == [99, 111, 108, 117, 109, 110]) then (
                          some 2
                        ) else (
                          bif ((a0 : Str) == [116, 97, 98, 108, 101]) then (
                            some 2
                          ) else (
                            bif ((a0 : Str) == [119, 104, 101, 114, 101]) then (
                              some 3
                            ) else (
                              bif ((a0 : Str) == [103, 114, 111, 117, 112]) then (
                                some 3
                              ) else (
                                bif ((a0 : Str) == [106, 111, 105, 110]) then (
                                  some 3
                                ) else (
                                  bif ((a0 : Str) == [97, 100, 100]) then (
                                    some 4
                                  ) else (
                                    some (-1)
                                  )
                                )
                              )
                            )
                          )
                        )
                      )
                    )
                  )
                )
              )
            )
          )
        )
      )
    )
  )
def xBK (a0 : Str) : List Arg := [.val (.v false [.str a0])]
def xBw (r : Bool) : CallO := ⟨.v false [.bool r], [], []⟩
def xFC (N : Nat) (a0 : Str) : Option (Bool) :=
  bif ((a0 : Str) == [108, 101, 116]) then (
    some true
  ) else (
    bif ((a0 : Str) == [105, 110]) then (
      some true
    ) else (
      bif ((a0 : Str) == [105, 102]) then (
        some true
      ) else (
        bif ((a0 : Str) == [116, 104, 101, 110]) then (
          some true
        ) else (
          bif ((a0 : Str) == [101, 108, 115, 101]) then (
            some true
          ) else (
            bif ((a0 : Str) == [102, 111, 114]) then (
              some true
            ) else (
              bif ((a0 : Str) == [100, 111]) then (
                some true
              ) else (
                Option.bind (xFr N a0) fun r1 =>
                some (decide ((r1 : Int) ≥ 0))
              )
            )
          )
        )
      )
    )
  )
def xDa (a0 : Str) : List Arg := [.val (.v false [.str a0])]
def xCi (r : Bool) : CallO := ⟨.v false [.bool r], [], []⟩
def xE9 (N : Nat) (a0 : Str) : Option (Bool) :=
  Option.bind (xIl N a0) fun r1 =>
  bif r1 then (
    Option.bind (xFC N a0) fun r2 =>
    some (!r2)
  ) else (
    some false
  )
def xFB (a0 : List Str) (a1 : Str) : List Arg := [.val (.v false [.sl .ro .str a0]), .val (.v false [.str a1])]
def xCS (r : Int) : CallO := ⟨.v false [.int .i64 r], [], []⟩
def xD3 (N : Nat) : Nat → Str → (List Str) → Int → Int → Option (Int)
  | 0, _, _, _, _ => none
  | n + 1, x1, x7, x8, x9 =>
    bif (decide ((x9 : Int) < x8)) then (
      if (0 : Int) ≤ x9 ∧ x9 < (List.length x7) then
      bif (((List.getD x7 (Int.toNat x9) Ty.str.dflt) : Str) == x1) then (
        some x9
      ) else (
        (xD3 N n x1 x7 x8 (IntKind.i64.wrap (x9 + 1)))
      )
      else none
    ) else (
      some (-1)
    )
def xHN (N : Nat) (a0 : List Str) (a1 : Str) : Option (Int) :=
  (xD3 N N a1 a0 (List.length a0 : Int) 0)
def xEZ (a0 : List Str) : List Arg := [.val (.v false [.sl .ro .str a0])]
def xCF (r : Bool) : CallO := ⟨.v false [.bool r], [], []⟩
def xCE (N : Nat) : Nat → (List Str) → (List Str) → Int → Int → Option (Bool)
  | 0, _, _, _, _ => none
  | n + 1, x0, x5, x6, x7 =>
    bif (decide ((x7 : Int) < x6)) then (
      if (0 : Int) ≤ x7 ∧ x7 < (List.length x5) then
      Option.bind (xHN N x0 (List.getD x5 (Int.toNat x7) Ty.str.dflt)) fun r1 =>
      bif ((r1 : Int) != x7) then (
        some false
      ) else (
        (xCE N n x0 x5 x6 (IntKind.i64.wrap (x7 + 1)))
      )
      else none
    ) else (
      some true
    )
def xF9 (N : Nat) (a0 : List Str) : Option (Bool) :=
  (xCE N N a0 a0 (List.length a0 : Int) 0)
def xDw (a0 : List Str) : List Arg := [.val (.v false [.sl .ro .str a0])]
def xBy (r : Bool) : CallO := ⟨.v false [.bool r], [], []⟩
def xDx (N : Nat) : Nat → (List Str) → (List Str) → Int → Int → Option (Bool)
  | 0, _, _, _, _ => none
  | n + 1, x0, x5, x6, x7 =>
    bif (decide ((x7 : Int) < x6)) then (
      if (0 : Int) ≤ x7 ∧ x7 < (List.length x5) then
      Option.bind (xE9 N (List.getD x5 (Int.toNat x7) Ty.str.dflt)) fun r1 =>
      bif (!r1) then (
        some false
      ) else (
        (xDx N n x0 x5 x6 (IntKind.i64.wrap (x7 + 1)))
      )
      else none
    ) else (
      Option.bind (xFH N (List.length x0 : Int) 1 4) fun r1 =>
      bif r1 then (
        Option.bind (xF9 N x0) fun r2 =>
        some r2
      ) else (
        some false
      )
    )
def xGt (N : Nat) (a0 : List Str) : Option (Bool) :=
  (xDx N N a0 a0 (List.length a0 : Int) 0)
def xCr (a0 : Org) (a1 : Org) : List Arg := [.val (.v true [.int .i64 (Org.cell a0), .int .i64 (Org.row a0)]), .val (.v true [.int .i64 (Org.cell a1), .int .i64 (Org.row a1)])]
def xBP (r : Bool) : CallO := ⟨.v false [.bool r], [], []⟩
def xFL (N : Nat) (a0 : Org) (a1 : Org) : Option (Bool) :=
  bif (decide (((Org.cell a0) : Int) < (Org.cell a1))) then (
    some true
  ) else (
    bif (((Org.cell a0) : Int) == (Org.cell a1)) then (
      some (decide (((Org.row a0) : Int) < (Org.row a1)))
    ) else (
      some false
    )
  )
def xD6 (a0 : Val) : List Arg := [.val (.v true [.int .i64 (Val.kind a0), .int .i64 (Val.n a0), .int .i64 (Val.step a0), .str (Val.text a0), .sl .ro .val (Val.list a0), .sl .ro .str (Val.columns a0), .sl .ro .row (Val.rows a0)])]
def xBf (r : Bool) : CallO := ⟨.v false [.bool r], [], []⟩
def xC2 (N : Nat) (k4 : (List Rowd) → Int → Int → Val → Option (Bool)) : Nat → (List Rowd) → Int → Int → (List Org) → Int → Int → Val → Rowd → Option (Bool)
  | 0, _, _, _, _, _, _, _, _ => none
  | n + 1, x20, x21, x22, x45, x46, x47, b1, b4 =>
    bif (decide ((x47 : Int) < x46)) then (
      if (0 : Int) ≤ x47 ∧ x47 < (List.length x45) then
      bif (decide (((Org.cell (List.getD x45 (Int.toNat x47) Ty.org.dflt)) : Int) < 0)) then (
        some false
      ) else (
        bif (decide (((Org.row (List.getD x45 (Int.toNat x47) Ty.org.dflt)) : Int) < 0)) then (
          some false
        ) else (
          bif (decide ((x47 : Int) > 0)) then (
            if (0 : Int) ≤ (IntKind.i64.wrap (x47 - 1)) ∧ (IntKind.i64.wrap (x47 - 1)) < (List.length (Rowd.frm b4)) then
            Option.bind (xFL N (List.getD (Rowd.frm b4) (Int.toNat (IntKind.i64.wrap (x47 - 1))) Ty.org.dflt) (List.getD x45 (Int.toNat x47) Ty.org.dflt)) fun r1 =>
            bif (!r1) then (
              some false
            ) else (
              (xC2 N k4 n x20 x21 x22 x45 x46 (IntKind.i64.wrap (x47 + 1)) b1 b4)
            )
            else none
          ) else (
            (xC2 N k4 n x20 x21 x22 x45 x46 (IntKind.i64.wrap (x47 + 1)) b1 b4)
          )
        )
      )
      else none
    ) else (
      (k4 x20 x21 (IntKind.i64.wrap (x22 + 1)) b1)
    )
def xD8 (N : Nat) (k4 : (List Rowd) → Int → Int → Val → Option (Bool)) : Nat → (List Rowd) → Int → Int → (List Int) → Int → Int → Val → Rowd → Option (Bool)
  | 0, _, _, _, _, _, _, _, _ => none
  | n + 1, x20, x21, x22, x34, x35, x36, b1, b4 =>
    bif (decide ((x36 : Int) < x35)) then (
      if (0 : Int) ≤ x36 ∧ x36 < (List.length x34) then
      Option.bind (xDK N (List.getD x34 (Int.toNat x36) Ty.int.dflt)) fun r1 =>
      bif (!r1) then (
        some false
      ) else (
        (xD8 N k4 n x20 x21 x22 x34 x35 (IntKind.i64.wrap (x36 + 1)) b1 b4)
      )
      else none
    ) else (
      (xC2 N k4 N x20 x21 x22 (Rowd.frm b4) (List.length (Rowd.frm b4) : Int) 0 b1 b4)
    )
def xD7 (N : Nat) : Nat → (List Rowd) → Int → Int → Val → Option (Bool)
  | 0, _, _, _, _ => none
  | n + 1, x20, x21, x22, b1 =>
    bif (decide ((x22 : Int) < x21)) then (
      if (0 : Int) ≤ x22 ∧ x22 < (List.length x20) then
      bif (((List.length (Rowd.cells (List.getD x20 (Int.toNat x22) Ty.row.dflt)) : Int) : Int) != (List.length (Val.columns b1) : Int)) then (
        some false
      ) else (
        (xD8 N (fun z0 z1 z2 z3 => (xD7 N n z0 z1 z2 z3)) N x20 x21 x22 (Rowd.cells (List.getD x20 (Int.toNat x22) Ty.row.dflt)) (List.length (Rowd.cells (List.getD x20 (Int.toNat x22) Ty.row.dflt)) : Int) 0 b1 (List.getD x20 (Int.toNat x22) Ty.row.dflt))
      )
      else none
    ) else (
      some true
    )
def xGp (N : Nat) (a0 : Val) : Option (Bool) :=
  Option.bind (xGt N (Val.columns a0)) fun r1 =>
  bif (!r1) then (
    some false
  ) else (
    bif (decide (((List.length (Val.rows a0) : Int) : Int) > 12)) then (
      some false
    ) else (
      (xD7 N N (Val.rows a0) (List.length (Val.rows a0) : Int) 0 a0)
    )
  )
def xD2 (a0 : Val) : List Arg := [.val (.v true [.int .i64 (Val.kind a0), .int .i64 (Val.n a0), .int .i64 (Val.step a0), .str (Val.text a0), .sl .ro .val (Val.list a0), .sl .ro .str (Val.columns a0), .sl .ro .row (Val.rows a0)])]
def xCu (r : Int) : CallO := ⟨.v false [.int .i64 r], [], []⟩
def xEM (N : Nat) (q0 : Val → Option (Int)) : Nat → Int → (List Val) → Int → Int → Option (Int)
  | 0, _, _, _, _ => none
  | n + 1, x3, x7, x8, x9 =>
    bif (decide ((x9 : Int) < x8)) then (
      if (0 : Int) ≤ x9 ∧ x9 < (List.length x7) then
      Option.bind (q0 (List.getD x7 (Int.toNat x9) Ty.val.dflt)) fun r1 =>
      (xEM N q0 n (if (r1 : Int) > x3 then r1 else x3) x7 x8 (IntKind.i64.wrap (x9 + 1)))
      else none
    ) else (
      some (IntKind.i64.wrap (x3 + 1))
    )
def xGL (N : Nat) (q0 : Val → Option (Int)) (a0 : Val) : Option (Int) :=
  (xEM N q0 N 0 (Val.list a0) (List.length (Val.list a0) : Int) 0)
def xDB (N : Nat) : Nat → Val → Option (Int)
  | 0, _ => none
  | d + 1, a0 => xGL N (xDB N d) a0
def xHa (N : Nat) (a0 : Val) : Option (Int) := xDB N N a0
def xAs (a0 : Val) : List Arg := [.val (.v true [.int .i64 (Val.kind a0), .int .i64 (Val.n a0), .int .i64 (Val.step a0), .str (Val.text a0), .sl .ro .val (Val.list a0), .sl .ro .str (Val.columns a0), .sl .ro .row (Val.rows a0)])]
def xAo (r : Bool) : CallO := ⟨.v false [.bool r], [], []⟩
def xBh (N : Nat) (q0 : Val → Option (Bool)) : Nat → (List Val) → Int → Int → Val → Option (Bool)
  | 0, _, _, _, _ => none
  | n + 1, x124, x125, x126, b1 =>
    bif (decide ((x126 : Int) < x125)) then (
      if (0 : Int) ≤ x126 ∧ x126 < (List.length x124) then
      bif (((Val.kind (List.getD x124 (Int.toNat x126) Ty.val.dflt)) : Int) != 1) then (
        bif (((Val.kind (List.getD x124 (Int.toNat x126) Ty.val.dflt)) : Int) != 2) then (
          bif (((Val.kind (List.getD x124 (Int.toNat x126) Ty.val.dflt)) : Int) != 3) then (
            some false
          ) else (
            Option.bind (q0 (List.getD x124 (Int.toNat x126) Ty.val.dflt)) fun r1 =>
            bif (!r1) then (
              some false
            ) else (
              (xBh N q0 n x124 x125 (IntKind.i64.wrap (x126 + 1)) b1)
            )
          )
        ) else (
          Option.bind (q0 (List.getD x124 (Int.toNat x126) Ty.val.dflt)) fun r1 =>
          bif (!r1) then (
            some false
          ) else (
            (xBh N q0 n x124 x125 (IntKind.i64.wrap (x126 + 1)) b1)
          )
        )
      ) else (
        Option.bind (q0 (List.getD x124 (Int.toNat x126) Ty.val.dflt)) fun r1 =>
        bif (!r1) then (
          some false
        ) else (
          (xBh N q0 n x124 x125 (IntKind.i64.wrap (x126 + 1)) b1)
        )
      )
      else none
    ) else (
      bif (((Val.n b1) : Int) == 0) then (
        bif (((Val.step b1) : Int) == 0) then (
          bif (((Val.text b1) : Str) == []) then (
            bif (((List.length (Val.columns b1) : Int) : Int) == 0) then (
              bif (((List.length (Val.rows b1) : Int) : Int) == 0) then (
                bif (decide (((List.length (Val.list b1) : Int) : Int) ≤ 8)) then (
                  Option.bind (xHa N b1) fun r1 =>
                  some (decide ((r1 : Int) ≤ 3))
                ) else (
                  some false
                )
              ) else (
                some false
              )
            ) else (
              some false
            )
          ) else (
            some false
          )
        ) else (
          some false
        )
      ) else (
        some false
      )
    )
def xC8 (N : Nat) (q0 : Val → Option (Bool)) (a0 : Val) : Option (Bool) :=
  bif (((List.length (Val.list a0) : Int) : Int) == 0) then (
    bif (((List.length (Val.columns a0) : Int) : Int) == 0) then (
      bif (((Val.kind a0) : Int) == 1) then (
        bif (((List.length (Val.rows a0) : Int) : Int) == 0) then (
          bif (((Val.step a0) : Int) == 0) then (
            bif (((Val.text a0) : Str) == []) then (
              Option.bind (xDK N (Val.n a0)) fun r1 =>
              some r1
            ) else (
              some false
            )
          ) else (
            some false
          )
        ) else (
          some false
        )
      ) else (
        bif (((Val.kind a0) : Int) == 2) then (
          bif (((List.length (Val.rows a0) : Int) : Int) == 0) then (
            bif (((Val.n a0) : Int) == 0) then (
              bif (((Val.step a0) : Int) == 0) then (
                Option.bind (xGa N (Val.text a0)) fun r1 =>
                some r1
              ) else (
                some false
              )
            ) else (
              some false
            )
          ) else (
            some false
          )
        ) else (
          bif (((Val.kind a0) : Int) == 4) then (
            bif (((List.length (Val.rows a0) : Int) : Int) == 0) then (
              bif (((Val.text a0) : Str) == []) then (
                Option.bind (xDK N (Val.n a0)) fun r1 =>
                bif r1 then (
                  Option.bind (xDK N (Val.step a0)) fun r2 =>
                  some r2
                ) else (
                  some false
                )
              ) else (
                some false
              )
            ) else (
              some false
            )
          ) else (
            bif (((Val.kind a0) : Int) == 6) then (
              bif (((List.length (Val.rows a0) : Int) : Int) == 0) then (
                bif (((Val.step a0) : Int) == 0) then (
                  bif (((Val.text a0) : Str) == []) then (
                    Option.bind (xFH N (Val.n a0) 1 8) fun r1 =>
                    some r1
                  ) else (
                    some false
                  )
                ) else (
                  some false
                )
              ) else (
                some false
              )
            ) else (
              bif (((Val.kind a0) : Int) == 5) then (
                bif (((Val.n a0) : Int) == 0) then (
                  bif (((Val.step a0) : Int) == 0) then (
                    bif (((Val.text a0) : Str) == []) then (
                      Option.bind (xGp N a0) fun r1 =>
                      some r1
                    ) else (
                      some false
                    )
                  ) else (
                    some false
                  )
                ) else (
                  some false
                )
              ) else (
                bif (((Val.kind a0) : Int) == 3) then (
                  (xBh N q0 N (Val.list a0) (List.length (Val.list a0) : Int) 0 a0)
                ) else (
                  some false
                )
              )
            )
          )
        )
      )
    ) else (
      bif (((Val.kind a0) : Int) == 1) then (
        some false
      ) else (
        bif (((Val.kind a0) : Int) == 2) then (
          some false
        ) else (
          bif (((Val.kind a0) : Int) == 4) then (
            some false
          ) else (
            bif (((Val.kind a0) : Int) == 6) then (
              some false
            ) else (
              bif (((Val.kind a0) : Int) == 5) then (
                bif (((Val.n a0) : Int) == 0) then (
                  bif (((Val.step a0) : Int) == 0) then (
                    bif (((Val.text a0) : Str) == []) then (
                      Option.bind (xGp N a0) fun r1 =>
                      some r1
                    ) else (
                      some false
                    )
                  ) else (
                    some false
                  )
                ) else (
                  some false
                )
              ) else (
                bif (((Val.kind a0) : Int) == 3) then (
                  (xBh N q0 N (Val.list a0) (List.length (Val.list a0) : Int) 0 a0)
                ) else (
                  some false
                )
              )
            )
          )
        )
      )
    )
  ) else (
    bif (((Val.kind a0) : Int) == 1) then (
      some false
    ) else (
      bif (((Val.kind a0) : Int) == 2) then (
        some false
      ) else (
        bif (((Val.kind a0) : Int) == 4) then (
          some false
        ) else (
          bif (((Val.kind a0) : Int) == 6) then (
            some false
          ) else (
            bif (((Val.kind a0) : Int) == 5) then (
              bif (((Val.n a0) : Int) == 0) then (
                bif (((Val.step a0) : Int) == 0) then (
                  bif (((Val.text a0) : Str) == []) then (
                    some false
                  ) else (
                    some false
                  )
                ) else (
                  some false
                )
              ) else (
                some false
              )
            ) else (
              bif (((Val.kind a0) : Int) == 3) then (
                (xBh N q0 N (Val.list a0) (List.length (Val.list a0) : Int) 0 a0)
              ) else (
                some false
              )
            )
          )
        )
      )
    )
  )
def xBi (N : Nat) : Nat → Val → Option (Bool)
  | 0, _ => none
  | d + 1, a0 => xC8 N (xBi N d) a0
def xGM (N : Nat) (a0 : Val) : Option (Bool) := xBi N N a0
def xAD (a0 : Int) : List Arg := [.val (.v false [.int .i64 a0])]
def xAj (r : Val) : CallO := ⟨.v true [.int .i64 (Val.kind r), .int .i64 (Val.n r), .int .i64 (Val.step r), .str (Val.text r), .sl .own .val (Val.list r), .sl .own .str (Val.columns r), .sl .own .row (Val.rows r)], [], []⟩
def xAH (N : Nat) (a0 : Int) : Option (Val) :=
  some (Val.mk 6 a0 0 [] [] [] [])
def xAp (a0 : List Val) : List Arg := [.val (.v false [.sl .ro .val a0])]
def xFF (r : Val × Bool × Bool) : CallO := ⟨.tup [(true, [.int .i64 (Val.kind r.1), .int .i64 (Val.n r.1), .int .i64 (Val.step r.1), .str (Val.text r.1), .sl .ro .val (Val.list r.1), .sl .ro .str (Val.columns r.1), .sl .ro .row (Val.rows r.1)]), (false, [.bool r.2.1])], [], []⟩
def xAm (r : Val × Bool × Bool) : CallO := ⟨.tup [(true, [.int .i64 (Val.kind r.1), .int .i64 (Val.n r.1), .int .i64 (Val.step r.1), .str (Val.text r.1), .sl .own .val (Val.list r.1), .sl .own .str (Val.columns r.1), .sl .own .row (Val.rows r.1)]), (false, [.bool r.2.1])], [], []⟩
def xAn (r : Val × Bool × Bool) : CallO := ⟨.tup [(true, [.int .i64 (Val.kind r.1), .int .i64 (Val.n r.1), .int .i64 (Val.step r.1), .str (Val.text r.1), .sl .ro .val [], .sl .ro .str [], .sl .ro .row []]), (false, [.bool r.2.1])], [], []⟩
def xBt (r : Val × Bool × Bool) : CallO := bif r.2.2 then xFF r else xAm r
def xCf (N : Nat) : Nat → (List Val) → Int → Int → Val → Option (Val × Bool × Bool)
  | 0, _, _, _, _ => none
  | n + 1, x6, x7, x8, b2 =>
    bif (decide ((x8 : Int) < x7)) then (
      if (0 : Int) ≤ x8 ∧ x8 < (List.length x6) then
      Option.bind (xGM N (List.getD x6 (Int.toNat x8) Ty.val.dflt)) fun r1 =>
      bif (!r1) then (
        Option.bind (xAH N 4) fun r2 =>
        some (r2, true, false)
      ) else (
        bif (((Val.kind (List.getD x6 (Int.toNat x8) Ty.val.dflt)) : Int) == 6) then (
          some ((List.getD x6 (Int.toNat x8) Ty.val.dflt), true, true)
        ) else (
          (xCf N n x6 x7 (IntKind.i64.wrap (x8 + 1)) b2)
        )
      )
      else none
    ) else (
      some ((Val.mk 0 0 0 [] [] [] []), false, false)
    )
def xEP (N : Nat) (a0 : List Val) : Option (Val × Bool × Bool) :=
  (xCf N N a0 (List.length a0 : Int) 0 (Val.mk 0 0 0 [] [] [] []))
def xDb (a0 : Int) : List Arg := [.val (.v false [.int .i64 a0])]
def xB0 (r : Val) : CallO := ⟨.v true [.int .i64 (Val.kind r), .int .i64 (Val.n r), .int .i64 (Val.step r), .str (Val.text r), .sl .own .val (Val.list r), .sl .own .str (Val.columns r), .sl .own .row (Val.rows r)], [], []⟩
def xEj (N : Nat) (a0 : Int) : Option (Val) :=
  some (Val.mk 1 a0 0 [] [] [] [])
def xBu (a0 : Int) : List Arg := [.val (.v false [.int .i64 a0])]
def xA1 (r : Val) : CallO := ⟨.v true [.int .i64 (Val.kind r), .int .i64 (Val.n r), .int .i64 (Val.step r), .str (Val.text r), .sl .own .val (Val.list r), .sl .own .str (Val.columns r), .sl .own .row (Val.rows r)], [], []⟩
def xBT (N : Nat) (a0 : Int) : Option (Val) :=
  Option.bind (xDK N a0) fun r1 =>
  bif (!r1) then (
    Option.bind (xAH N 5) fun r2 =>
    some r2
  ) else (
    Option.bind (xEj N a0) fun r2 =>
    some r2
  )
def xEN (a0 : Str) : List Arg := [.val (.v false [.str a0])]
def xDc (r : Val) : CallO := ⟨.v true [.int .i64 (Val.kind r), .int .i64 (Val.n r), .int .i64 (Val.step r), .str (Val.text r), .sl .own .val (Val.list r), .sl .own .str (Val.columns r), .sl .own .row (Val.rows r)], [], []⟩
def xF1 (N : Nat) (a0 : Str) : Option (Val) :=
  some (Val.mk 2 0 0 a0 [] [] [])
def xGv (a0 : Rowd) : List Arg := [.val (.v true [.sl .ro .int (Rowd.cells a0), .sl .ro .org (Rowd.frm a0)])]
def xFD (r : Rowd) : CallO := ⟨.v true [.sl .own .int (Rowd.cells r), .sl .own .org (Rowd.frm r)], [], []⟩
def xHO (N : Nat) (a0 : Rowd) : Option (Rowd) :=
  if 0 + List.length (Rowd.cells a0) ≤ Lim then
  if 0 + List.length (Rowd.frm a0) ≤ Lim then
  some (Rowd.mk ([] ++ (Rowd.cells a0)) ([] ++ (Rowd.frm a0)))
  else none
  else none
def xEO (a0 : Val) : List Arg := [.val (.v true [.int .i64 (Val.kind a0), .int .i64 (Val.n a0), .int .i64 (Val.step a0), .str (Val.text a0), .sl .ro .val (Val.list a0), .sl .ro .str (Val.columns a0), .sl .ro .row (Val.rows a0)])]
def xDe (r : Val) : CallO := ⟨.v true [.int .i64 (Val.kind r), .int .i64 (Val.n r), .int .i64 (Val.step r), .str (Val.text r), .sl .own .val (Val.list r), .sl .own .str (Val.columns r), .sl .own .row (Val.rows r)], [], []⟩
def xDd (N : Nat) (q0 : Val → Option (Val)) (q1 : (List Val) → Option ((List Val))) : Nat → (List Rowd) → Int → Int → Val → Val → Option (Val)
  | 0, _, _, _, _, _ => none
  | n + 1, x18, x19, x20, b2, b3 =>
    bif (decide ((x20 : Int) < x19)) then (
      if (0 : Int) ≤ x20 ∧ x20 < (List.length x18) then
      Option.bind (xHO N (List.getD x18 (Int.toNat x20) Ty.row.dflt)) fun r1 =>
      if List.length (Val.rows b3) + List.length [r1] ≤ Lim then
      (xDd N q0 q1 n x18 x19 (IntKind.i64.wrap (x20 + 1)) b2 (Val.mk (Val.kind b3) (Val.n b3) (Val.step b3) (Val.text b3) (Val.list b3) (Val.columns b3) ((Val.rows b3) ++ [r1])))
      else none
      else none
    ) else (
      some b3
    )
def xD5 (N : Nat) (q0 : Val → Option (Val)) (q1 : (List Val) → Option ((List Val))) (a0 : Val) : Option (Val) :=
  Option.bind (q1 (Val.list a0)) fun r1 =>
  if 0 + List.length (Val.columns a0) ≤ Lim then
  (xDd N q0 q1 N (Val.rows a0) (List.length (Val.rows a0) : Int) 0 (Val.mk 0 0 0 [] [] [] []) (Val.mk (Val.kind a0) (Val.n a0) (Val.step a0) (Val.text a0) r1 ([] ++ (Val.columns a0)) []))
  else none
def xBU (a0 : List Val) : List Arg := [.val (.v false [.sl .ro .val a0])]
def xBa (r : (List Val)) : CallO := ⟨.v false [.sl .own .val r], [], []⟩
def xDy (N : Nat) (q0 : Val → Option (Val)) (q1 : (List Val) → Option ((List Val))) : Nat → (List Val) → (List Val) → Int → Int → Option ((List Val))
  | 0, _, _, _, _ => none
  | n + 1, x3, x7, x8, x9 =>
    bif (decide ((x9 : Int) < x8)) then (
      if (0 : Int) ≤ x9 ∧ x9 < (List.length x7) then
      Option.bind (q0 (List.getD x7 (Int.toNat x9) Ty.val.dflt)) fun r1 =>
      if List.length x3 + List.length [(Val.re r1)] ≤ Lim then
      (xDy N q0 q1 n (x3 ++ [(Val.re r1)]) x7 x8 (IntKind.i64.wrap (x9 + 1)))
      else none
      else none
    ) else (
      some x3
    )
def xDJ (N : Nat) (q0 : Val → Option (Val)) (q1 : (List Val) → Option ((List Val))) (a0 : List Val) : Option ((List Val)) :=
  (xDy N q0 q1 N [] a0 (List.length a0 : Int) 0)
structure impl_copyValue_rec where
  c_impl_copyValue : Val → Option (Val)
  c_impl_copyValues : (List Val) → Option ((List Val))
def xA3 (N : Nat) : Nat → impl_copyValue_rec
  | 0 => ⟨fun _ => none, fun _ => none⟩
  | d + 1 => ⟨xD5 N (xA3 N d).c_impl_copyValue (xA3 N d).c_impl_copyValues, xDJ N (xA3 N d).c_impl_copyValue (xA3 N d).c_impl_copyValues⟩
def xDu (N : Nat) (a0 : List Val) : Option ((List Val)) := (xA3 N N).c_impl_copyValues a0
def xA9 (a0 : Bool) : List Arg := [.val (.v false [.bool a0])]
def xAS (r : Val) : CallO := ⟨.v true [.int .i64 (Val.kind r), .int .i64 (Val.n r), .int .i64 (Val.step r), .str (Val.text r), .sl .own .val (Val.list r), .sl .own .str (Val.columns r), .sl .own .row (Val.rows r)], [], []⟩
def xBC (N : Nat) (a0 : Bool) : Option (Val) :=
  bif a0 then (
    Option.bind (xEj N 1) fun r1 =>
    some r1
  ) else (
    Option.bind (xEj N 0) fun r1 =>
    some r1
  )
def xCj (a0 : List Str) (a1 : List Str) : List Arg := [.val (.v false [.sl .ro .str a0]), .val (.v false [.sl .ro .str a1])]
def xBg (r : Bool) : CallO := ⟨.v false [.bool r], [], []⟩
def xDf (N : Nat) : Nat → (List Str) → (List Str) → Int → Int → Option (Bool)
  | 0, _, _, _, _ => none
  | n + 1, x0, x1, x12, x13 =>
    bif (decide ((x13 : Int) < x12)) then (
      if (0 : Int) ≤ x13 ∧ x13 < (List.length x0) then
      if (0 : Int) ≤ x13 ∧ x13 < (List.length x1) then
      bif (!(((List.getD x0 (Int.toNat x13) Ty.str.dflt) : Str) == (List.getD x1 (Int.toNat x13) Ty.str.dflt))) then (
        some false
      ) else (
        (xDf N n x0 x1 x12 (IntKind.i64.wrap (x13 + 1)))
      )
      else none
      else none
    ) else (
      some true
    )
def xFa (N : Nat) (a0 : List Str) (a1 : List Str) : Option (Bool) :=
  bif (((List.length a0 : Int) : Int) != (List.length a1 : Int)) then (
    some false
  ) else (
    (xDf N N a0 a1 (List.length a0 : Int) 0)
  )
def xC3 (a0 : List Int) (a1 : List Int) : List Arg := [.val (.v false [.sl .ro .int a0]), .val (.v false [.sl .ro .int a1])]
def xBz (r : Bool) : CallO := ⟨.v false [.bool r], [], []⟩
def xEk (N : Nat) : Nat → (List Int) → (List Int) → Int → Int → Option (Bool)
  | 0, _, _, _, _ => none
  | n + 1, x0, x1, x12, x13 =>
    bif (decide ((x13 : Int) < x12)) then (
      if (0 : Int) ≤ x13 ∧ x13 < (List.length x0) then
      if (0 : Int) ≤ x13 ∧ x13 < (List.length x1) then
      bif (((List.getD x0 (Int.toNat x13) Ty.int.dflt) : Int) != (List.getD x1 (Int.toNat x13) Ty.int.dflt)) then (
        some false
      ) else (
        (xEk N n x0 x1 x12 (IntKind.i64.wrap (x13 + 1)))
      )
      else none
      else none
    ) else (
      some true
    )
def xGw (N : Nat) (a0 : List Int) (a1 : List Int) : Option (Bool) :=
  bif (((List.length a0 : Int) : Int) != (List.length a1 : Int)) then (
    some false
  ) else (
    (xEk N N a0 a1 (List.length a0 : Int) 0)
  )
def xCh (a0 : List Org) (a1 : List Org) : List Arg := [.val (.v false [.sl .ro .org a0]), .val (.v false [.sl .ro .org a1])]
def xBk (r : Bool) : CallO := ⟨.v false [.bool r], [], []⟩
def xEQ (N : Nat) : Nat → (List Org) → (List Org) → Int → Int → Option (Bool)
  | 0, _, _, _, _ => none
  | n + 1, x0, x1, x12, x13 =>
    bif (decide ((x13 : Int) < x12)) then (
      if (0 : Int) ≤ x13 ∧ x13 < (List.length x0) then
      if (0 : Int) ≤ x13 ∧ x13 < (List.length x1) then
      bif (!((((Org.cell (List.getD x0 (Int.toNat x13) Ty.org.dflt)) : Int) == (Org.cell (List.getD x1 (Int.toNat x13) Ty.org.dflt))) && (((Org.row (List.getD x0 (Int.toNat x13) Ty.org.dflt)) : Int) == (Org.row (List.getD x1 (Int.toNat x13) Ty.org.dflt))))) then (
        some false
      ) else (
        (xEQ N n x0 x1 x12 (IntKind.i64.wrap (x13 + 1)))
      )
      else none
      else none
    ) else (
      some true
    )
def xFG (N : Nat) (a0 : List Org) (a1 : List Org) : Option (Bool) :=
  bif (((List.length a0 : Int) : Int) != (List.length a1 : Int)) then (
    some false
  ) else (
    (xEQ N N a0 a1 (List.length a0 : Int) 0)
  )
def xB1 (a0 : Val) (a1 : Val) (a2 : Bool) : List Arg := [.val (.v true [.int .i64 (Val.kind a0), .int .i64 (Val.n a0), .int .i64 (Val.step a0), .str (Val.text a0), .sl .ro .val (Val.list a0), .sl .ro .str (Val.columns a0), .sl .ro .row (Val.rows a0)]), .val (.v true [.int .i64 (Val.kind a1), .int .i64 (Val.n a1), .int .i64 (Val.step a1), .str (Val.text a1), .sl .ro .val (Val.list a1), .sl .ro .str (Val.columns a1), .sl .ro .row (Val.rows a1)]), .val (.v false [.bool a2])]
def xBe (r : Bool) : CallO := ⟨.v false [.bool r], [], []⟩
def xDp (N : Nat) (q0 : Val → Val → Bool → Option (Bool)) : Nat → Bool → Int → Int → Val → Val → Option (Bool)
  | 0, _, _, _, _, _ => none
  | n + 1, x2, x83, x84, b3, b4 =>
    bif (decide ((x84 : Int) < x83)) then (
      if (0 : Int) ≤ x84 ∧ x84 < (List.length (Val.rows b3)) then
      if (0 : Int) ≤ x84 ∧ x84 < (List.length (Val.rows b4)) then
      Option.bind (xGw N (Rowd.cells (List.getD (Val.rows b3) (Int.toNat x84) Ty.row.dflt)) (Rowd.cells (List.getD (Val.rows b4) (Int.toNat x84) Ty.row.dflt))) fun r1 =>
      bif (!r1) then (
        some false
      ) else (
        bif x2 then (
          Option.bind (xFG N (Rowd.frm (List.getD (Val.rows b3) (Int.toNat x84) Ty.row.dflt)) (Rowd.frm (List.getD (Val.rows b4) (Int.toNat x84) Ty.row.dflt))) fun r2 =>
          bif (!r2) then (
            some false
          ) else (
            (xDp N q0 n x2 x83 (IntKind.i64.wrap (x84 + 1)) b3 b4)
          )
        ) else (
          (xDp N q0 n x2 x83 (IntKind.i64.wrap (x84 + 1)) b3 b4)
        )
      )
      else none
      else none
    ) else (
      some true
    )
def xE1 (N : Nat) (q0 : Val → Val → Bool → Option (Bool)) : Nat → Bool → Int → Int → Val → Val → Option (Bool)
  | 0, _, _, _, _, _ => none
  | n + 1, x2, x63, x64, b3, b4 =>
    bif (decide ((x64 : Int) < x63)) then (
      if (0 : Int) ≤ x64 ∧ x64 < (List.length (Val.list b3)) then
      if (0 : Int) ≤ x64 ∧ x64 < (List.length (Val.list b4)) then
      Option.bind (q0 (List.getD (Val.list b3) (Int.toNat x64) Ty.val.dflt) (List.getD (Val.list b4) (Int.toNat x64) Ty.val.dflt) x2) fun r1 =>
      bif (!r1) then (
        some false
      ) else (
        (xE1 N q0 n x2 x63 (IntKind.i64.wrap (x64 + 1)) b3 b4)
      )
      else none
      else none
    ) else (
      (xDp N q0 N x2 (List.length (Val.rows b3) : Int) 0 b3 b4)
    )
def xFE (N : Nat) (q0 : Val → Val → Bool → Option (Bool)) (a0 : Val) (a1 : Val) (a2 : Bool) : Option (Bool) :=
  bif (((Val.kind a0) : Int) != (Val.kind a1)) then (
    some false
  ) else (
    bif (((Val.n a0) : Int) != (Val.n a1)) then (
      some false
    ) else (
      bif (((Val.step a0) : Int) != (Val.step a1)) then (
        some false
      ) else (
        bif (!(((Val.text a0) : Str) == (Val.text a1))) then (
          some false
        ) else (
          Option.bind (xFa N (Val.columns a0) (Val.columns a1)) fun r1 =>
          bif (!r1) then (
            some false
          ) else (
            bif (((List.length (Val.list a0) : Int) : Int) != (List.length (Val.list a1) : Int)) then (
              some false
            ) else (
              bif (((List.length (Val.rows a0) : Int) : Int) != (List.length (Val.rows a1) : Int)) then (
                some false
              ) else (
                (xE1 N q0 N a2 (List.length (Val.list a0) : Int) 0 a0 a1)
              )
            )
          )
        )
      )
    )
  )
def xCo (N : Nat) : Nat → Val → Val → Bool → Option (Bool)
  | 0, _, _, _ => none
  | d + 1, a0, a1, a2 => xFE N (xCo N d) a0 a1 a2
def impl_equal (N : Nat) (a0 : Val) (a1 : Val) (a2 : Bool) : Option (Bool) := xCo N N a0 a1 a2
def xBJ (a0 : Val) (a1 : Val) : List Arg := [.val (.v true [.int .i64 (Val.kind a0), .int .i64 (Val.n a0), .int .i64 (Val.step a0), .str (Val.text a0), .sl .ro .val (Val.list a0), .sl .ro .str (Val.columns a0), .sl .ro .row (Val.rows a0)]), .val (.v true [.int .i64 (Val.kind a1), .int .i64 (Val.n a1), .int .i64 (Val.step a1), .str (Val.text a1), .sl .ro .val (Val.list a1), .sl .ro .str (Val.columns a1), .sl .ro .row (Val.rows a1)])]
def xA2 (r : Bool) : CallO := ⟨.v false [.bool r], [], []⟩
def xBQ (N : Nat) (a0 : Val) (a1 : Val) : Option (Bool) :=
  Option.bind (impl_equal N a0 a1 false) fun r1 =>
  some r1
def xAe (a0 : Int) (a1 : Val) (a2 : Val) : List Arg := [.val (.v false [.int .i64 a0]), .val (.v true [.int .i64 (Val.kind a1), .int .i64 (Val.n a1), .int .i64 (Val.step a1), .str (Val.text a1), .sl .ro .val (Val.list a1), .sl .ro .str (Val.columns a1), .sl .ro .row (Val.rows a1)]), .val (.v true [.int .i64 (Val.kind a2), .int .i64 (Val.n a2), .int .i64 (Val.step a2), .str (Val.text a2), .sl .ro .val (Val.list a2), .sl .ro .str (Val.columns a2), .sl .ro .row (Val.rows a2)])]
def xFq (r : Val × Bool) : CallO := ⟨.v true [.int .i64 (Val.kind r.1), .int .i64 (Val.n r.1), .int .i64 (Val.step r.1), .str (Val.text r.1), .sl .ro .val (Val.list r.1), .sl .ro .str (Val.columns r.1), .sl .ro .row (Val.rows r.1)], [], []⟩
def xAt (r : Val × Bool) : CallO := ⟨.v true [.int .i64 (Val.kind r.1), .int .i64 (Val.n r.1), .int .i64 (Val.step r.1), .str (Val.text r.1), .sl .own .val (Val.list r.1), .sl .own .str (Val.columns r.1), .sl .own .row (Val.rows r.1)], [], []⟩
def xAu (r : Val × Bool) : CallO := ⟨.v true [.int .i64 (Val.kind r.1), .int .i64 (Val.n r.1), .int .i64 (Val.step r.1), .str (Val.text r.1), .sl .ro .val [], .sl .ro .str [], .sl .ro .row []], [], []⟩
def xAl (r : Val × Bool) : CallO := bif r.2 then xFq r else xAt r
def xCg (N : Nat) (a0 : Int) (a1 : Val) (a2 : Val) : Option (Val × Bool) :=
  Option.bind (xEP N [(Val.re a1), (Val.re a2)]) fun r1 =>
  bif r1.2.2 then (
    if List.isEmpty (Val.list r1.1) = true then
    if List.isEmpty (Val.columns r1.1) = true then
    if List.isEmpty (Val.rows r1.1) = true then
    bif r1.2.1 then (
      some ((Val.mk (Val.kind r1.1) (Val.n r1.1) (Val.step r1.1) (Val.text r1.1) [] [] []), true)
    ) else (
      bif (((Val.kind a1) : Int) == 1) then (
        bif ((a0 : Int) == 1) then (
          bif (((Val.kind a2) : Int) == 1) then (
            Option.bind (xBT N (IntKind.i64.wrap ((Val.n a1) + (Val.n a2)))) fun r2 =>
            some (r2, false)
          ) else (
            Option.bind (xAH N 4) fun r2 =>
            some (r2, false)
          )
        ) else (
          bif ((a0 : Int) == 2) then (
            bif (((Val.kind a2) : Int) == 1) then (
              Option.bind (xBT N (IntKind.i64.wrap ((Val.n a1) - (Val.n a2)))) fun r2 =>
              some (r2, false)
            ) else (
              Option.bind (xAH N 4) fun r2 =>
              some (r2, false)
            )
          ) else (
            bif ((a0 : Int) == 3) then (
              bif (((Val.kind a2) : Int) == 1) then (
                Option.bind (xBT N (IntKind.i64.wrap ((Val.n a1) * (Val.n a2)))) fun r2 =>
                some (r2, false)
              ) else (
                Option.bind (xAH N 4) fun r2 =>
                some (r2, false)
              )
            ) else (
              bif ((a0 : Int) == 4) then (
                bif (((Val.kind a2) : Int) == 1) then (
                  Option.bind (xBC N (decide (((Val.n a1) : Int) < (Val.n a2)))) fun r2 =>
                  some (r2, false)
                ) else (
                  Option.bind (xAH N 4) fun r2 =>
                  some (r2, false)
                )
              ) else (
                bif ((a0 : Int) == 5) then (
                  Option.bind (xBQ N a1 a2) fun r2 =>
                  Option.bind (xBC N r2) fun r3 =>
                  some (r3, false)
                ) else (
                  Option.bind (xAH N 4) fun r2 =>
                  some (r2, false)
                )
              )
            )
          )
        )
      ) else (
        bif (((Val.kind a1) : Int) == 2) then (
          bif ((a0 : Int) == 1) then (
            bif (((Val.kind a2) : Int) == 2) then (
              bif (decide (((IntKind.i64.wrap ((List.length (Val.text a1) : Int) + (List.length (Val.text a2) : Int))) : Int) > 20)) then (
                Option.bind (xAH N 6) fun r2 =>
                some (r2, false)
              ) else (
                if List.length (Val.text a1) + List.length (Val.text a2) ≤ Lim then
                Option.bind (xF1 N ((Val.text a1) ++ (Val.text a2))) fun r2 =>
                some (r2, false)
                else none
              )
            ) else (
              Option.bind (xAH N 4) fun r2 =>
              some (r2, false)
            )
          ) else (
            bif ((a0 : Int) == 2) then (
              Option.bind (xAH N 4) fun r2 =>
              some (r2, false)
            ) else (
              bif ((a0 : Int) == 3) then (
                Option.bind (xAH N 4) fun r2 =>
                some (r2, false)
              ) else (
                bif ((a0 : Int) == 4) then (
                  bif (((Val.kind a2) : Int) == 2) then (
                    Option.bind (xBC N (Op.bytesLess (Val.text a1) (Val.text a2))) fun r2 =>
                    some (r2, false)
                  ) else (
                    Option.bind (xAH N 4) fun r2 =>
                    some (r2, false)
                  )
                ) else (
                  bif ((a0 : Int) == 5) then (
                    Option.bind (xBQ N a1 a2) fun r2 =>
                    Option.bind (xBC N r2) fun r3 =>
                    some (r3, false)
                  ) else (
                    Option.bind (xAH N 4) fun r2 =>
                    some (r2, false)
                  )
                )
              )
            )
          )
        ) else (
          bif (((Val.kind a1) : Int) == 3) then (
            bif ((a0 : Int) == 1) then (
              bif (((Val.kind a2) : Int) == 3) then (
                bif (decide (((IntKind.i64.wrap ((List.length (Val.list a1) : Int) + (List.length (Val.list a2) : Int))) : Int) > 8)) then (
                  Option.bind (xAH N 6) fun r2 =>
                  some (r2, false)
                ) else (
                  Option.bind (xDu N (Val.list a1)) fun r2 =>
                  Option.bind (xDu N (Val.list a2)) fun r3 =>
                  if List.length r2 + List.length r3 ≤ Lim then
                  some ((Val.mk 3 0 0 [] (r2 ++ r3) [] []), false)
                  else none
                )
              ) else (
                Option.bind (xAH N 4) fun r2 =>
                some (r2, false)
              )
            ) else (
              bif ((a0 : Int) == 2) then (
                Option.bind (xAH N 4) fun r2 =>
                some (r2, false)
              ) else (
                bif ((a0 : Int) == 3) then (
                  Option.bind (xAH N 4) fun r2 =>
                  some (r2, false)
                ) else (
                  bif ((a0 : Int) == 4) then (
                    Option.bind (xAH N 4) fun r2 =>
                    some (r2, false)
                  ) else (
                    bif ((a0 : Int) == 5) then (
                      Option.bind (xBQ N a1 a2) fun r2 =>
                      Option.bind (xBC N r2) fun r3 =>
                      some (r3, false)
                    ) else (
                      Option.bind (xAH N 4) fun r2 =>
                      some (r2, false)
                    )
                  )
                )
              )
            )
          ) else (
            bif ((a0 : Int) == 1) then (
              Option.bind (xAH N 4) fun r2 =>
              some (r2, false)
            ) else (
              bif ((a0 : Int) == 2) then (
                Option.bind (xAH N 4) fun r2 =>
                some (r2, false)
              ) else (
                bif ((a0 : Int) == 3) then (
                  Option.bind (xAH N 4) fun r2 =>
                  some (r2, false)
                ) else (
                  bif ((a0 : Int) == 4) then (
                    Option.bind (xAH N 4) fun r2 =>
                    some (r2, false)
                  ) else (
                    bif ((a0 : Int) == 5) then (
                      Option.bind (xBQ N a1 a2) fun r2 =>
                      Option.bind (xBC N r2) fun r3 =>
                      some (r3, false)
                    ) else (
                      Option.bind (xAH N 4) fun r2 =>
                      some (r2, false)
                    )
                  )
                )
              )
            )
          )
        )
      )
    )
    else none
    else none
    else none
  ) else (
    bif r1.2.1 then (
      some (r1.1, false)
    ) else (
      bif (((Val.kind a1) : Int) == 1) then (
        bif ((a0 : Int) == 1) then (
          bif (((Val.kind a2) : Int) == 1) then (
            Option.bind (xBT N (IntKind.i64.wrap ((Val.n a1) + (Val.n a2)))) fun r2 =>
            some (r2, false)
          ) else (
            Option.bind (xAH N 4) fun r2 =>
            some (r2, false)
          )
        ) else (
          bif ((a0 : Int) == 2) then (
            bif (((Val.kind a2) : Int) == 1) then (
              Option.bind (xBT N (IntKind.i64.wrap ((Val.n a1) - (Val.n a2)))) fun r2 =>
              some (r2, false)
            ) else (
              Option.bind (xAH N 4) fun r2 =>
              some (r2, false)
            )
          ) else (
            bif ((a0 : Int) == 3) then (
              bif (((Val.kind a2) : Int) == 1) then (
                Option.bind (xBT N (IntKind.i64.wrap ((Val.n a1) * (Val.n a2)))) fun r2 =>
                some (r2, false)
              ) else (
                Option.bind (xAH N 4) fun r2 =>
                some (r2, false)
              )
            ) else (
              bif ((a0 : Int) == 4) then (
                bif (((Val.kind a2) : Int) == 1) then (
                  Option.bind (xBC N (decide (((Val.n a1) : Int) < (Val.n a2)))) fun r2 =>
                  some (r2, false)
                ) else (
                  Option.bind (xAH N 4) fun r2 =>
                  some (r2, false)
                )
              ) else (
                bif ((a0 : Int) == 5) then (
                  Option.bind (xBQ N a1 a2) fun r2 =>
                  Option.bind (xBC N r2) fun r3 =>
                  some (r3, false)
                ) else (
                  Option.bind (xAH N 4) fun r2 =>
                  some (r2, false)
                )
              )
            )
          )
        )
      ) else (
        bif (((Val.kind a1) : Int) == 2) then (
          bif ((a0 : Int) == 1) then (
            bif (((Val.kind a2) : Int) == 2) then (
              bif (decide (((IntKind.i64.wrap ((List.length (Val.text a1) : Int) + (List.length (Val.text a2) : Int))) : Int) > 20)) then (
                Option.bind (xAH N 6) fun r2 =>
                some (r2, false)
              ) else (
                if List.length (Val.text a1) + List.length (Val.text a2) ≤ Lim then
                Option.bind (xF1 N ((Val.text a1) ++ (Val.text a2))) fun r2 =>
                some (r2, false)
                else none
              )
            ) else (
              Option.bind (xAH N 4) fun r2 =>
              some (r2, false)
            )
          ) else (
            bif ((a0 : Int) == 2) then (
              Option.bind (xAH N 4) fun r2 =>
              some (r2, false)
            ) else (
              bif ((a0 : Int) == 3) then (
                Option.bind (xAH N 4) fun r2 =>
                some (r2, false)
              ) else (
                bif ((a0 : Int) == 4) then (
                  bif (((Val.kind a2) : Int) == 2) then (
                    Option.bind (xBC N (Op.bytesLess (Val.text a1) (Val.text a2))) fun r2 =>
                    some (r2, false)
                  ) else (
                    Option.bind (xAH N 4) fun r2 =>
                    some (r2, false)
                  )
                ) else (
                  bif ((a0 : Int) == 5) then (
                    Option.bind (xBQ N a1 a2) fun r2 =>
                    Option.bind (xBC N r2) fun r3 =>
                    some (r3, false)
                  ) else (
                    Option.bind (xAH N 4) fun r2 =>
                    some (r2, false)
                  )
                )
              )
            )
          )
        ) else (
          bif (((Val.kind a1) : Int) == 3) then (
            bif ((a0 : Int) == 1) then (
              bif (((Val.kind a2) : Int) == 3) then (
                bif (decide (((IntKind.i64.wrap ((List.length (Val.list a1) : Int) + (List.length (Val.list a2) : Int))) : Int) > 8)) then (
                  Option.bind (xAH N 6) fun r2 =>
                  some (r2, false)
                ) else (
                  Option.bind (xDu N (Val.list a1)) fun r2 =>
                  Option.bind (xDu N (Val.list a2)) fun r3 =>
                  if List.length r2 + List.length r3 ≤ Lim then
                  some ((Val.mk 3 0 0 [] (r2 ++ r3) [] []), false)
                  else none
                )
              ) else (
                Option.bind (xAH N 4) fun r2 =>
                some (r2, false)
              )
            ) else (
              bif ((a0 : Int) == 2) then (
                Option.bind (xAH N 4) fun r2 =>
                some (r2, false)
              ) else (
                bif ((a0 : Int) == 3) then (
                  Option.bind (xAH N 4) fun r2 =>
                  some (r2, false)
                ) else (
                  bif ((a0 : Int) == 4) then (
                    Option.bind (xAH N 4) fun r2 =>
                    some (r2, false)
                  ) else (
                    bif ((a0 : Int) == 5) then (
                      Option.bind (xBQ N a1 a2) fun r2 =>
                      Option.bind (xBC N r2) fun r3 =>
                      some (r3, false)
                    ) else (
                      Option.bind (xAH N 4) fun r2 =>
                      some (r2, false)
                    )
                  )
                )
              )
            )
          ) else (
            bif ((a0 : Int) == 1) then (
              Option.bind (xAH N 4) fun r2 =>
              some (r2, false)
            ) else (
              bif ((a0 : Int) == 2) then (
                Option.bind (xAH N 4) fun r2 =>
                some (r2, false)
              ) else (
                bif ((a0 : Int) == 3) then (
                  Option.bind (xAH N 4) fun r2 =>
                  some (r2, false)
                ) else (
                  bif ((a0 : Int) == 4) then (
                    Option.bind (xAH N 4) fun r2 =>
                    some (r2, false)
                  ) else (
                    bif ((a0 : Int) == 5) then (
                      Option.bind (xBQ N a1 a2) fun r2 =>
                      Option.bind (xBC N r2) fun r3 =>
                      some (r3, false)
                    ) else (
                      Option.bind (xAH N 4) fun r2 =>
                      some (r2, false)
                    )
                  )
                )
              )
            )
          )
        )
      )
    )
  )
def xDg (a0 : List Str) (a1 : List Str) : List Arg := [.val (.v false [.sl .ro .str a0]), .val (.v false [.sl .ro .str a1])]
def xBF (r : Bool) : CallO := ⟨.v false [.bool r], [], []⟩
def xDT (N : Nat) : Nat → (List Str) → (List Str) → Int → Option (Bool)
  | 0, _, _, _ => none
  | n + 1, x0, x1, x5 =>
    bif (decide ((x5 : Int) < (List.length x0 : Int))) then (
      if (0 : Int) ≤ x5 ∧ x5 < (List.length x0) then
      if (0 : Int) ≤ x5 ∧ x5 < (List.length x1) then
      bif (!(((List.getD x0 (Int.toNat x5) Ty.str.dflt) : Str) == (List.getD x1 (Int.toNat x5) Ty.str.dflt))) then (
        some false
      ) else (
        (xDT N n x0 x1 (IntKind.i64.wrap (x5 + 1)))
      )
      else none
      else none
    ) else (
      some true
    )
def xF5 (N : Nat) (a0 : List Str) (a1 : List Str) : Option (Bool) :=
  bif (((List.length a0 : Int) : Int) != (List.length a1 : Int)) then (
    some false
  ) else (
    (xDT N N a0 a1 0)
  )
def xEF (a0 : List Int) (a1 : List Int) : List Arg := [.val (.v false [.sl .ro .int a0]), .val (.v false [.sl .ro .int a1])]
def xCp (r : Bool) : CallO := ⟨.v false [.bool r], [], []⟩
def xFi (N : Nat) : Nat → (List Int) → (List Int) → Int → Option (Bool)
  | 0, _, _, _ => none
  | n + 1, x0, x1, x5 =>
    bif (decide ((x5 : Int) < (List.length x0 : Int))) then (
      if (0 : Int) ≤ x5 ∧ x5 < (List.length x0) then
      if (0 : Int) ≤ x5 ∧ x5 < (List.length x1) then
      bif (((List.getD x0 (Int.toNat x5) Ty.int.dflt) : Int) != (List.getD x1 (Int.toNat x5) Ty.int.dflt)) then (
        some false
      ) else (
        (xFi N n x0 x1 (IntKind.i64.wrap (x5 + 1)))
      )
      else none
      else none
    ) else (
      some true
    )
def xHw (N : Nat) (a0 : List Int) (a1 : List Int) : Option (Bool) :=
  bif (((List.length a0 : Int) : Int) != (List.length a1 : Int)) then (
    some false
  ) else (
    (xFi N N a0 a1 0)
  )
def xDC (a0 : Org) (a1 : Org) : List Arg := [.val (.v true [.int .i64 (Org.cell a0), .int .i64 (Org.row a0)]), .val (.v true [.int .i64 (Org.cell a1), .int .i64 (Org.row a1)])]
def xCz (r : Bool) : CallO := ⟨.v false [.bool r], [], []⟩
def xGx (N : Nat) (a0 : Org) (a1 : Org) : Option (Bool) :=
  bif (((Org.cell a0) : Int) != (Org.cell a1)) then (
    some false
  ) else (
    bif (((Org.row a0) : Int) != (Org.row a1)) then (
      some false
    ) else (
      some true
    )
  )
def xDR (a0 : List Org) (a1 : List Org) : List Arg := [.val (.v false [.sl .ro .org a0]), .val (.v false [.sl .ro .org a1])]
def xCd (r : Bool) : CallO := ⟨.v false [.bool r], [], []⟩
def xDS (N : Nat) : Nat → (List Org) → (List Org) → Int → Option (Bool)
  | 0, _, _, _ => none
  | n + 1, x0, x1, x5 =>
    bif (decide ((x5 : Int) < (List.length x0 : Int))) then (
      if (0 : Int) ≤ x5 ∧ x5 < (List.length x0) then
      if (0 : Int) ≤ x5 ∧ x5 < (List.length x1) then
      Option.bind (xGx N (List.getD x0 (Int.toNat x5) Ty.org.dflt) (List.getD x1 (Int.toNat x5) Ty.org.dflt)) fun r1 =>
      bif (!r1) then (
        some false
      ) else (
        (xDS N n x0 x1 (IntKind.i64.wrap (x5 + 1)))
      )
      else none
      else none
    ) else (
      some true
    )
def xF4 (N : Nat) (a0 : List Org) (a1 : List Org) : Option (Bool) :=
  bif (((List.length a0 : Int) : Int) != (List.length a1 : Int)) then (
    some false
  ) else (
    (xDS N N a0 a1 0)
  )
def xE3 (a0 : Rowd) (a1 : Rowd) : List Arg := [.val (.v true [.sl .ro .int (Rowd.cells a0), .sl .ro .org (Rowd.frm a0)]), .val (.v true [.sl .ro .int (Rowd.cells a1), .sl .ro .org (Rowd.frm a1)])]
def xDL (r : Bool) : CallO := ⟨.v false [.bool r], [], []⟩
def xH7 (N : Nat) (a0 : Rowd) (a1 : Rowd) : Option (Bool) :=
  Option.bind (xHw N (Rowd.cells a0) (Rowd.cells a1)) fun r1 =>
  bif (!r1) then (
    some false
  ) else (
    Option.bind (xF4 N (Rowd.frm a0) (Rowd.frm a1)) fun r2 =>
    bif (!r2) then (
      some false
    ) else (
      some true
    )
  )
def xFj (a0 : List Rowd) (a1 : List Rowd) : List Arg := [.val (.v false [.sl .ro .row a0]), .val (.v false [.sl .ro .row a1])]
def xCO (r : Bool) : CallO := ⟨.v false [.bool r], [], []⟩
def xFk (N : Nat) : Nat → (List Rowd) → (List Rowd) → Int → Option (Bool)
  | 0, _, _, _ => none
  | n + 1, x0, x1, x5 =>
    bif (decide ((x5 : Int) < (List.length x0 : Int))) then (
      if (0 : Int) ≤ x5 ∧ x5 < (List.length x0) then
      if (0 : Int) ≤ x5 ∧ x5 < (List.length x1) then
      Option.bind (xH7 N (List.getD x0 (Int.toNat x5) Ty.row.dflt) (List.getD x1 (Int.toNat x5) Ty.row.dflt)) fun r1 =>
      bif (!r1) then (
        some false
      ) else (
        (xFk N n x0 x1 (IntKind.i64.wrap (x5 + 1)))
      )
      else none
      else none
    ) else (
      some true
    )
def xHx (N : Nat) (a0 : List Rowd) (a1 : List Rowd) : Option (Bool) :=
  bif (((List.length a0 : Int) : Int) != (List.length a1 : Int)) then (
    some false
  ) else (
    (xFk N N a0 a1 0)
  )
def xAh (a0 : Val) (a1 : Val) : List Arg := [.val (.v true [.int .i64 (Val.kind a0), .int .i64 (Val.n a0), .int .i64 (Val.step a0), .str (Val.text a0), .sl .ro .val (Val.list a0), .sl .ro .str (Val.columns a0), .sl .ro .row (Val.rows a0)]), .val (.v true [.int .i64 (Val.kind a1), .int .i64 (Val.n a1), .int .i64 (Val.step a1), .str (Val.text a1), .sl .ro .val (Val.list a1), .sl .ro .str (Val.columns a1), .sl .ro .row (Val.rows a1)])]
def xAb (r : Bool) : CallO := ⟨.v false [.bool r], [], []⟩
def xER (N : Nat) (q0 : Val → Val → Option (Bool)) (q1 : (List Val) → (List Val) → Option (Bool)) (a0 : Val) (a1 : Val) : Option (Bool) :=
  bif (((Val.kind a0) : Int) != (Val.kind a1)) then (
    some false
  ) else (
    bif (((Val.n a0) : Int) != (Val.n a1)) then (
      some false
    ) else (
      bif (((Val.step a0) : Int) != (Val.step a1)) then (
        some false
      ) else (
        bif (!(((Val.text a0) : Str) == (Val.text a1))) then (
          some false
        ) else (
          Option.bind (q1 (Val.list a0) (Val.list a1)) fun r1 =>
          bif (!r1) then (
            some false
          ) else (
            Option.bind (xF5 N (Val.columns a0) (Val.columns a1)) fun r2 =>
            bif (!r2) then (
              some false
            ) else (
              Option.bind (xHx N (Val.rows a0) (Val.rows a1)) fun r3 =>
              bif (!r3) then (
                some false
              ) else (
                some true
              )
            )
          )
        )
      )
    )
  )
def xCA (a0 : List Val) (a1 : List Val) : List Arg := [.val (.v false [.sl .ro .val a0]), .val (.v false [.sl .ro .val a1])]
def xBr (r : Bool) : CallO := ⟨.v false [.bool r], [], []⟩
def xEl (N : Nat) (q0 : Val → Val → Option (Bool)) (q1 : (List Val) → (List Val) → Option (Bool)) : Nat → (List Val) → (List Val) → Int → Option (Bool)
  | 0, _, _, _ => none
  | n + 1, x0, x1, x5 =>
    bif (decide ((x5 : Int) < (List.length x0 : Int))) then (
      if (0 : Int) ≤ x5 ∧ x5 < (List.length x0) then
      if (0 : Int) ≤ x5 ∧ x5 < (List.length x1) then
      Option.bind (q0 (List.getD x0 (Int.toNat x5) Ty.val.dflt) (List.getD x1 (Int.toNat x5) Ty.val.dflt)) fun r1 =>
      bif (!r1) then (
        some false
      ) else (
        (xEl N q0 q1 n x0 x1 (IntKind.i64.wrap (x5 + 1)))
      )
      else none
      else none
    ) else (
      some true
    )
def xEv (N : Nat) (q0 : Val → Val → Option (Bool)) (q1 : (List Val) → (List Val) → Option (Bool)) (a0 : List Val) (a1 : List Val) : Option (Bool) :=
  bif (((List.length a0 : Int) : Int) != (List.length a1 : Int)) then (
    some false
  ) else (
    (xEl N q0 q1 N a0 a1 0)
  )
structure laws_eqValue_rec where
  c_laws_eqValue : Val → Val → Option (Bool)
  c_laws_eqValueS : (List Val) → (List Val) → Option (Bool)
def xBp (N : Nat) : Nat → laws_eqValue_rec
  | 0 => ⟨fun _ _ => none, fun _ _ => none⟩
  | d + 1 => ⟨xER N (xBp N d).c_laws_eqValue (xBp N d).c_laws_eqValueS, xEv N (xBp N d).c_laws_eqValue (xBp N d).c_laws_eqValueS⟩
def xBc (N : Nat) (a0 : Val) (a1 : Val) : Option (Bool) := (xBp N N).c_laws_eqValue a0 a1
def xBG (a0 : Int) : List Arg := [.val (.v false [.int .i64 a0])]
def xA0 (r : Str) : CallO := ⟨.v false [.str r], [], []⟩
def xEs (N : Nat) : Nat → Int → Str → Option (Str)
  | 0, _, _ => none
  | n + 1, x0, x3 =>
    bif (decide ((x0 : Int) > 0)) then (
      if List.length (List.map (fun n => UInt8.ofNat (Int.toNat n)) [(IntKind.u8.wrap ((IntKind.i64.wrap (48 + (Int.tmod x0 10)))))]) + List.length x3 ≤ Lim then
      (xEs N n (IntKind.i64.wrap (Int.tdiv x0 10)) ((List.map (fun n => UInt8.ofNat (Int.toNat n)) [(IntKind.u8.wrap ((IntKind.i64.wrap (48 + (Int.tmod x0 10)))))]) ++ x3))
      else none
    ) else (
      if List.length [109] + List.length x3 ≤ Lim then
      some ([109] ++ x3)
      else none
    )
def xDM (N : Nat) (a0 : Int) : Option (Str) :=
  bif (decide ((a0 : Int) ≤ 0)) then (
    some [109, 48]
  ) else (
    (xEs N N a0 [])
  )
def xEw (a0 : List Str) (a1 : Int) : List Arg := [.val (.v false [.sl .ro .str []]), .val (.v false [.int .i64 a1])]
def xCL (r : Int) : CallO := ⟨.v false [.int .i64 r], [], []⟩
def xFI (N : Nat) : Nat → Int → Int → Option (Int)
  | 0, _, _ => none
  | n + 1, x1, x5 =>
    bif (decide ((x5 : Int) < (0 : Int))) then (
      Option.bind (xDM N x1) fun r1 =>
      if (0 : Int) ≤ x5 ∧ x5 < (0) then
      none
      else none
    ) else (
      some x1
    )
def xFv (N : Nat) (a0 : List Str) (a1 : Int) : Option (Int) :=
  (xFI N N a1 0)
def xEa (a0 : List Str) (a1 : Int) : List Arg := [.val (.v false [.sl (.lnt 0) .str a0]), .val (.v false [.int .i64 a1])]
def xCk (r : Int × (List Str)) : CallO := ⟨.v false [.int .i64 r.1], [], [.sl (.lnt 0) .str r.2]⟩
def xDm (N : Nat) : Nat → (List Str) → Int → Int → Option (Int × (List Str))
  | 0, _, _, _ => none
  | n + 1, x0, x1, x5 =>
    bif (decide ((x5 : Int) < (List.length x0 : Int))) then (
      Option.bind (xDM N x1) fun r1 =>
      if (0 : Int) ≤ x5 ∧ x5 < (List.length x0) then
      (xDm N n (List.set x0 (Int.toNat x5) r1) (IntKind.i64.wrap (x1 + 1)) (IntKind.i64.wrap (x5 + 1)))
      else none
    ) else (
      some (x1, x0)
    )
def xFc (N : Nat) (a0 : List Str) (a1 : Int) : Option (Int × (List Str)) :=
  (xDm N N a0 a1 0)
def xGe (a0 : List Int) (a1 : Int) : List Arg := [.val (.v false [.sl (.lnt 0) .int a0]), .val (.v false [.int .i64 a1])]
def xEq (r : Int × (List Int)) : CallO := ⟨.v false [.int .i64 r.1], [], [.sl (.lnt 0) .int r.2]⟩
def xEp (N : Nat) : Nat → (List Int) → Int → Int → Option (Int × (List Int))
  | 0, _, _, _ => none
  | n + 1, x0, x1, x5 =>
    bif (decide ((x5 : Int) < (List.length x0 : Int))) then (
      if (0 : Int) ≤ x5 ∧ x5 < (List.length x0) then
      (xEp N n (List.set x0 (Int.toNat x5) x1) (IntKind.i64.wrap (x1 + 1)) (IntKind.i64.wrap (x5 + 1)))
      else none
    ) else (
      some (x1, x0)
    )
def xHn (N : Nat) (a0 : List Int) (a1 : Int) : Option (Int × (List Int)) :=
  (xEp N N a0 a1 0)
def xFu (a0 : List Rowd) (a1 : Int) : List Arg := [.val (.v false [.sl .ro .row []]), .val (.v false [.int .i64 a1])]
def xDz (r : Int) : CallO := ⟨.v false [.int .i64 r], [], []⟩
def xGB (N : Nat) : Nat → Int → Int → Option (Int)
  | 0, _, _ => none
  | n + 1, x1, x5 =>
    bif (decide ((x5 : Int) < (0 : Int))) then (
      if (0 : Int) ≤ x5 ∧ x5 < (0) then
      none
      else none
    ) else (
      some x1
    )
def xGA (N : Nat) (a0 : List Rowd) (a1 : Int) : Option (Int) :=
  (xGB N N a1 0)
def xBo (a0 : Val) (a1 : Int) : List Arg := [.val (.v true [.int .i64 (Val.kind a0), .int .i64 (Val.n a0), .int .i64 (Val.step a0), .str (Val.text a0), .sl .ro .val [], .sl .ro .str [], .sl .ro .row []]), .val (.v false [.int .i64 a1])]
def xAW (r : Int) : CallO := ⟨.v false [.int .i64 r], [], []⟩
def xEt (N : Nat) (a0 : Val) (a1 : Int) : Option (Int) :=
  Option.bind (xFN N [] a1) fun r1 =>
  Option.bind (xFv N [] r1) fun r2 =>
  Option.bind (xGA N [] r2) fun r3 =>
  some r3
def xE4 (a0 : List Org) (a1 : Int) : List Arg := [.val (.v false [.sl (.lnt 0) .org a0]), .val (.v false [.int .i64 a1])]
def xDl (r : Int × (List Org)) : CallO := ⟨.v false [.int .i64 r.1], [], [.sl (.lnt 0) .org r.2]⟩
def xDk (N : Nat) : Nat → (List Org) → Int → Int → Option (Int × (List Org))
  | 0, _, _, _ => none
  | n + 1, x0, x1, x5 =>
    bif (decide ((x5 : Int) < (List.length x0 : Int))) then (
      if (0 : Int) ≤ x5 ∧ x5 < (List.length x0) then
      if (0 : Int) ≤ x5 ∧ x5 < (List.length (List.set x0 (Int.toNat x5) (Org.mk x1 (Org.row (List.getD x0 (Int.toNat x5) Ty.org.dflt))))) then
      (xDk N n ((fun (z1 : List Org) => List.set z1 (Int.toNat x5) (Org.mk (Org.cell (List.getD z1 (Int.toNat x5) Ty.org.dflt)) (IntKind.i64.wrap (x1 + 1)))) (List.set x0 (Int.toNat x5) (Org.mk x1 (Org.row (List.getD x0 (Int.toNat x5) Ty.org.dflt))))) (IntKind.i64.wrap ((IntKind.i64.wrap (x1 + 1)) + 1)) (IntKind.i64.wrap (x5 + 1)))
      else none
      else none
    ) else (
      some (x1, x0)
    )
def xGf (N : Nat) (a0 : List Org) (a1 : Int) : Option (Int × (List Org)) :=
  (xDk N N a0 a1 0)
def xFb (a0 : List Rowd) (a1 : Int) : List Arg := [.val (.v false [.sl (.lnt 0) .row a0]), .val (.v false [.int .i64 a1])]
def xC4 (r : Int × (List Rowd)) : CallO := ⟨.v false [.int .i64 r.1], [], [.sl (.lnt 0) .row r.2]⟩
def xEr (N : Nat) : Nat → (List Rowd) → Int → Int → Option (Int × (List Rowd))
  | 0, _, _, _ => none
  | n + 1, x0, x1, x5 =>
    bif (decide ((x5 : Int) < (List.length x0 : Int))) then (
      if (0 : Int) ≤ x5 ∧ x5 < (List.length x0) then
      Option.bind (xHn N (Rowd.cells (List.getD x0 (Int.toNat x5) Ty.row.dflt)) x1) fun r1 =>
      if List.length r1.2 = List.length (Rowd.cells (List.getD x0 (Int.toNat x5) Ty.row.dflt)) then
      if (0 : Int) ≤ x5 ∧ x5 < (List.length (List.set x0 (Int.toNat x5) (Rowd.mk r1.2 (Rowd.frm (List.getD x0 (Int.toNat x5) Ty.row.dflt))))) then
      Option.bind (xGf N (Rowd.frm (List.getD (List.set x0 (Int.toNat x5) (Rowd.mk r1.2 (Rowd.frm (List.getD x0 (Int.toNat x5) Ty.row.dflt)))) (Int.toNat x5) Ty.row.dflt)) r1.1) fun r2 =>
      if List.length r2.2 = List.length (Rowd.frm (List.getD (List.set x0 (Int.toNat x5) (Rowd.mk r1.2 (Rowd.frm (List.getD x0 (Int.toNat x5) Ty.row.dflt)))) (Int.toNat x5) Ty.row.dflt)) then
      (xEr N n ((fun (z1 : List Rowd) => List.set z1 (Int.toNat x5) (Rowd.mk (Rowd.cells (List.getD z1 (Int.toNat x5) Ty.row.dflt)) r2.2)) (List.set x0 (Int.toNat x5) (Rowd.mk r1.2 (Rowd.frm (List.getD x0 (Int.toNat x5) Ty.row.dflt))))) r2.1 (IntKind.i64.wrap (x5 + 1)))
      else none
      else none
      else none
      else none
    ) else (
      some (x1, x0)
    )
def xGz (N : Nat) (a0 : List Rowd) (a1 : Int) : Option (Int × (List Rowd)) :=
  (xEr N N a0 a1 0)
def xCU (a0 : List Val) (a1 : Int) : List Arg := [.val (.v false [.sl (.lnt 0) .val a0]), .val (.v false [.int .i64 a1])]
def xBX (r : Int × (List Val)) : CallO := ⟨.v false [.int .i64 r.1], [], [.sl (.lnt 0) .val r.2]⟩
def xDA (N : Nat) (q0 : (List Val) → Int → Option (Int × (List Val))) : Nat → (List Val) → Int → Int → Option (Int × (List Val))
  | 0, _, _, _ => none
  | n + 1, x0, x1, x5 =>
    bif (decide ((x5 : Int) < (List.length x0 : Int))) then (
      if (0 : Int) ≤ x5 ∧ x5 < (List.length x0) then
      if (0 : Int) ≤ x5 ∧ x5 < (List.length (List.set x0 (Int.toNat x5) (Val.mk x1 (Val.n (List.getD x0 (Int.toNat x5) Ty.val.dflt)) (Val.step (List.getD x0 (Int.toNat x5) Ty.val.dflt)) (Val.text (List.getD x0 (Int.toNat x5) Ty.val.dflt)) (Val.list (List.getD x0 (Int.toNat x5) Ty.val.dflt)) (Val.columns (List.getD x0 (Int.toNat x5) Ty.val.dflt)) (Val.rows (List.getD x0 (Int.toNat x5) Ty.val.dflt))))) then
      if (0 : Int) ≤ x5 ∧ x5 < (List.length ((fun (z40 : List Val) => List.set z40 (Int.toNat x5) (Val.mk (Val.kind (List.getD z40 (Int.toNat x5) Ty.val.dflt)) (IntKind.i64.wrap (x1 + 1)) (Val.step (List.getD z40 (Int.toNat x5) Ty.val.dflt)) (Val.text (List.getD z40 (Int.toNat x5) Ty.val.dflt)) (Val.list (List.getD z40 (Int.toNat x5) Ty.val.dflt)) (Val.columns (List.getD z40 (Int.toNat x5) Ty.val.dflt)) (Val.rows (List.getD z40 (Int.toNat x5) Ty.val.dflt)))) (List.set x0 (Int.toNat x5) (Val.mk x1 (Val.n (List.getD x0 (Int.toNat x5) Ty.val.dflt)) (Val.step (List.getD x0 (Int.toNat x5) Ty.val.dflt)) (Val.text (List.getD x0 (Int.toNat x5) Ty.val.dflt)) (Val.list (List.getD x0 (Int.toNat x5) Ty.val.dflt)) (Val.columns (List.getD x0 (Int.toNat x5) Ty.val.dflt)) (Val.rows (List.getD x0 (Int.toNat x5) Ty.val.dflt)))))) then
      Option.bind (xDM N (IntKind.i64.wrap ((IntKind.i64.wrap ((IntKind.i64.wrap (x1 + 1)) + 1)) + 1))) fun r1 =>
      if (0 : Int) ≤ x5 ∧ x5 < (List.length ((fun (z41 : List Val) => List.set z41 (Int.toNat x5) (Val.mk (Val.kind (List.getD z41 (Int.toNat x5) Ty.val.dflt)) (Val.n (List.getD z41 (Int.toNat x5) Ty.val.dflt)) (IntKind.i64.wrap ((IntKind.i64.wrap (x1 + 1)) + 1)) (Val.text (List.getD z41 (Int.toNat x5) Ty.val.dflt)) (Val.list (List.getD z41 (Int.toNat x5) Ty.val.dflt)) (Val.columns (List.getD z41 (Int.toNat x5) Ty.val.dflt)) (Val.rows (List.getD z41 (Int.toNat x5) Ty.val.dflt)))) ((fun (z40 : List Val) => List.set z40 (Int.toNat x5) (Val.mk (Val.kind (List.getD z40 (Int.toNat x5) Ty.val.dflt)) (IntKind.i64.wrap (x1 + 1)) (Val.step (List.getD z40 (Int.toNat x5) Ty.val.dflt)) (Val.text (List.getD z40 (Int.toNat x5) Ty.val.dflt)) (Val.list (List.getD z40 (Int.toNat x5) Ty.val.dflt)) (Val.columns (List.getD z40 (Int.toNat x5) Ty.val.dflt)) (Val.rows (List.getD z40 (Int.toNat x5) Ty.val.dflt)))) (List.set x0 (Int.toNat x5) (Val.mk x1 (Val.n (List.getD x0 (Int.toNat x5) Ty.val.dflt)) (Val.step (List.getD x0 (Int.toNat x5) Ty.val.dflt)) (Val.text (List.getD x0 (Int.toNat x5) Ty.val.dflt)) (Val.list (List.getD x0 (Int.toNat x5) Ty.val.dflt)) (Val.columns (List.getD x0 (Int.toNat x5) Ty.val.dflt)) (Val.rows (List.getD x0 (Int.toNat x5) Ty.val.dflt))))))) then
      if (0 : Int) ≤ x5 ∧ x5 < (List.length ((fun (z42 : List Val) => List.set z42 (Int.toNat x5) (Val.mk (Val.kind (List.getD z42 (Int.toNat x5) Ty.val.dflt)) (Val.n (List.getD z42 (Int.toNat x5) Ty.val.dflt)) (Val.step (List.getD z42 (Int.toNat x5) Ty.val.dflt)) r1 (Val.list (List.getD z42 (Int.toNat x5) Ty.val.dflt)) (Val.columns (List.getD z42 (Int.toNat x5) Ty.val.dflt)) (Val.rows (List.getD z42 (Int.toNat x5) Ty.val.dflt)))) ((fun (z41 : List Val) => List.set z41 (Int.toNat x5) (Val.mk (Val.kind (List.getD z41 (Int.toNat x5) Ty.val.dflt)) (Val.n (List.getD z41 (Int.toNat x5) Ty.val.dflt)) (IntKind.i64.wrap ((IntKind.i64.wrap (x1 + 1)) + 1)) (Val.text (List.getD z41 (Int.toNat x5) Ty.val.dflt)) (Val.list (List.getD z41 (Int.toNat x5) Ty.val.dflt)) (Val.columns (List.getD z41 (Int.toNat x5) Ty.val.dflt)) (Val.rows (List.getD z41 (Int.toNat x5) Ty.val.dflt)))) ((fun (z40 : List Val) => List.set z40 (Int.toNat x5) (Val.mk (Val.kind (List.getD z40 (Int.toNat x5) Ty.val.dflt)) (IntKind.i64.wrap (x1 + 1)) (Val.step (List.getD z40 (Int.toNat x5) Ty.val.dflt)) (Val.text (List.getD z40 (Int.toNat x5) Ty.val.dflt)) (Val.list (List.getD z40 (Int.toNat x5) Ty.val.dflt)) (Val.columns (List.getD z40 (Int.toNat x5) Ty.val.dflt)) (Val.rows (List.getD z40 (Int.toNat x5) Ty.val.dflt)))) (List.set x0 (Int.toNat x5) (Val.mk x1 (Val.n (List.getD x0 (Int.toNat x5) Ty.val.dflt)) (Val.step (List.getD x0 (Int.toNat x5) Ty.val.dflt)) (Val.text (List.getD x0 (Int.toNat x5) Ty.val.dflt)) (Val.list (List.getD x0 (Int.toNat x5) Ty.val.dflt)) (Val.columns (List.getD x0 (Int.toNat x5) Ty.val.dflt)) (Val.rows (List.getD x0 (Int.toNat x5) Ty.val.dflt)))))))) then
      Option.bind (q0 (Val.list (List.getD ((fun (z42 : List Val) => List.set z42 (Int.toNat x5) (Val.mk (Val.kind (List.getD z42 (Int.toNat x5) Ty.val.dflt)) (Val.n (List.getD z42 (Int.toNat x5) Ty.val.dflt)) (Val.step (List.getD z42 (Int.toNat x5) Ty.val.dflt)) r1 (Val.list (List.getD z42 (Int.toNat x5) Ty.val.dflt)) (Val.columns (List.getD z42 (Int.toNat x5) Ty.val.dflt)) (Val.rows (List.getD z42 (Int.toNat x5) Ty.val.dflt)))) ((fun (z41 : List Val) => List.set z41 (Int.toNat x5) (Val.mk (Val.kind (List.getD z41 (Int.toNat x5) Ty.val.dflt)) (Val.n (List.getD z41 (Int.toNat x5) Ty.val.dflt)) (IntKind.i64.wrap ((IntKind.i64.wrap (x1 + 1)) + 1)) (Val.text (List.getD z41 (Int.toNat x5) Ty.val.dflt)) (Val.list (List.getD z41 (Int.toNat x5) Ty.val.dflt)) (Val.columns (List.getD z41 (Int.toNat x5) Ty.val.dflt)) (Val.rows (List.getD z41 (Int.toNat x5) Ty.val.dflt)))) ((fun (z40 : List Val) => List.set z40 (Int.toNat x5) (Val.mk (Val.kind (List.getD z40 (Int.toNat x5) Ty.val.dflt)) (IntKind.i64.wrap (x1 + 1)) (Val.step (List.getD z40 (Int.toNat x5) Ty.val.dflt)) (Val.text (List.getD z40 (Int.toNat x5) Ty.val.dflt)) (Val.list (List.getD z40 (Int.toNat x5) Ty.val.dflt)) (Val.columns (List.getD z40 (Int.toNat x5) Ty.val.dflt)) (Val.rows (List.getD z40 (Int.toNat x5) Ty.val.dflt)))) (List.set x0 (Int.toNat x5) (Val.mk x1 (Val.n (List.getD x0 (Int.toNat x5) Ty.val.dflt)) (Val.step (List.getD x0 (Int.toNat x5) Ty.val.dflt)) (Val.text (List.getD x0 (Int.toNat x5) Ty.val.dflt)) (Val.list (List.getD x0 (Int.toNat x5) Ty.val.dflt)) (Val.columns (List.getD x0 (Int.toNat x5) Ty.val.dflt)) (Val.rows (List.getD x0 (Int.toNat x5) Ty.val.dflt))))))) (Int.toNat x5) Ty.val.dflt)) (IntKind.i64.wrap ((IntKind.i64.wrap ((IntKind.i64.wrap ((IntKind.i64.wrap (x1 + 1)) + 1)) + 1)) + 1))) fun r2 =>
      if List.length r2.2 = List.length (Val.list (List.getD ((fun (z42 : List Val) => List.set z42 (Int.toNat x5) (Val.mk (Val.kind (List.getD z42 (Int.toNat x5) Ty.val.dflt)) (Val.n (List.getD z42 (Int.toNat x5) Ty.val.dflt)) (Val.step (List.getD z42 (Int.toNat x5) Ty.val.dflt)) r1 (Val.list (List.getD z42 (Int.toNat x5) Ty.val.dflt)) (Val.columns (List.getD z42 (Int.toNat x5) Ty.val.dflt)) (Val.rows (List.getD z42 (Int.toNat x5) Ty.val.dflt)))) ((fun (z41 : List Val) => List.set z41 (Int.toNat x5) (Val.mk (Val.kind (List.getD z41 (Int.toNat x5) Ty.val.dflt)) (Val.n (List.getD z41 (Int.toNat x5) Ty.val.dflt)) (IntKind.i64.wrap ((IntKind.i64.wrap (x1 + 1)) + 1)) (Val.text (List.getD z41 (Int.toNat x5) Ty.val.dflt)) (Val.list (List.getD z41 (Int.toNat x5) Ty.val.dflt)) (Val.columns (List.getD z41 (Int.toNat x5) Ty.val.dflt)) (Val.rows (List.getD z41 (Int.toNat x5) Ty.val.dflt)))) ((fun (z40 : List Val) => List.set z40 (Int.toNat x5) (Val.mk (Val.kind (List.getD z40 (Int.toNat x5) Ty.val.dflt)) (IntKind.i64.wrap (x1 + 1)) (Val.step (List.getD z40 (Int.toNat x5) Ty.val.dflt)) (Val.text (List.getD z40 (Int.toNat x5) Ty.val.dflt)) (Val.list (List.getD z40 (Int.toNat x5) Ty.val.dflt)) (Val.columns (List.getD z40 (Int.toNat x5) Ty.val.dflt)) (Val.rows (List.getD z40 (Int.toNat x5) Ty.val.dflt)))) (List.set x0 (Int.toNat x5) (Val.mk x1 (Val.n (List.getD x0 (Int.toNat x5) Ty.val.dflt)) (Val.step (List.getD x0 (Int.toNat x5) Ty.val.dflt)) (Val.text (List.getD x0 (Int.toNat x5) Ty.val.dflt)) (Val.list (List.getD x0 (Int.toNat x5) Ty.val.dflt)) (Val.columns (List.getD x0 (Int.toNat x5) Ty.val.dflt)) (Val.rows (List.getD x0 (Int.toNat x5) Ty.val.dflt))))))) (Int.toNat x5) Ty.val.dflt)) then
      if (0 : Int) ≤ x5 ∧ x5 < (List.length ((fun (z43 : List Val) => List.set z43 (Int.toNat x5) (Val.mk (Val.kind (List.getD z43 (Int.toNat x5) Ty.val.dflt)) (Val.n (List.getD z43 (Int.toNat x5) Ty.val.dflt)) (Val.step (List.getD z43 (Int.toNat x5) Ty.val.dflt)) (Val.text (List.getD z43 (Int.toNat x5) Ty.val.dflt)) r2.2 (Val.columns (List.getD z43 (Int.toNat x5) Ty.val.dflt)) (Val.rows (List.getD z43 (Int.toNat x5) Ty.val.dflt)))) ((fun (z42 : List Val) => List.set z42 (Int.toNat x5) (Val.mk (Val.kind (List.getD z42 (Int.toNat x5) Ty.val.dflt)) (Val.n (List.getD z42 (Int.toNat x5) Ty.val.dflt)) (Val.step (List.getD z42 (Int.toNat x5) Ty.val.dflt)) r1 (Val.list (List.getD z42 (Int.toNat x5) Ty.val.dflt)) (Val.columns (List.getD z42 (Int.toNat x5) Ty.val.dflt)) (Val.rows (List.getD z42 (Int.toNat x5) Ty.val.dflt)))) ((fun (z41 : List Val) => List.set z41 (Int.toNat x5) (Val.mk (Val.kind (List.getD z41 (Int.toNat x5) Ty.val.dflt)) (Val.n (List.getD z41 (Int.toNat x5) Ty.val.dflt)) (IntKind.i64.wrap ((IntKind.i64.wrap (x1 + 1)) + 1)) (Val.text (List.getD z41 (Int.toNat x5) Ty.val.dflt)) (Val.list (List.getD z41 (Int.toNat x5) Ty.val.dflt)) (Val.columns (List.getD z41 (Int.toNat x5) Ty.val.dflt)) (Val.rows (List.getD z41 (Int.toNat x5) Ty.val.dflt)))) ((fun (z40 : List Val) => List.set z40 (Int.toNat x5) (Val.mk (Val.kind (List.getD z40 (Int.toNat x5) Ty.val.dflt)) (IntKind.i64.wrap (x1 + 1)) (Val.step (List.getD z40 (Int.toNat x5) Ty.val.dflt)) (Val.text (List.getD z40 (Int.toNat x5) Ty.val.dflt)) (Val.list (List.getD z40 (Int.toNat x5) Ty.val.dflt)) (Val.columns (List.getD z40 (Int.toNat x5) Ty.val.dflt)) (Val.rows (List.getD z40 (Int.toNat x5) Ty.val.dflt)))) (List.set x0 (Int.toNat x5) (Val.mk x1 (Val.n (List.getD x0 (Int.toNat x5) Ty.val.dflt)) (Val.step (List.getD x0 (Int.toNat x5) Ty.val.dflt)) (Val.text (List.getD x0 (Int.toNat x5) Ty.val.dflt)) (Val.list (List.getD x0 (Int.toNat x5) Ty.val.dflt)) (Val.columns (List.getD x0 (Int.toNat x5) Ty.val.dflt)) (Val.rows (List.getD x0 (Int.toNat x5) Ty.val.dflt))))))))) then
      Option.bind (xFc N (Val.columns (List.getD ((fun (z43 : List Val) => List.set z43 (Int.toNat x5) (Val.mk (Val.kind (List.getD z43 (Int.toNat x5) Ty.val.dflt)) (Val.n (List.getD z43 (Int.toNat x5) Ty.val.dflt)) (Val.step (List.getD z43 (Int.toNat x5) Ty.val.dflt)) (Val.text (List.getD z43 (Int.toNat x5) Ty.val.dflt)) r2.2 (Val.columns (List.getD z43 (Int.toNat x5) Ty.val.dflt)) (Val.rows (List.getD z43 (Int.toNat x5) Ty.val.dflt)))) ((fun (z42 : List Val) => List.set z42 (Int.toNat x5) (Val.mk (Val.kind (List.getD z42 (Int.toNat x5) Ty.val.dflt)) (Val.n (List.getD z42 (Int.toNat x5) Ty.val.dflt)) (Val.step (List.getD z42 (Int.toNat x5) Ty.val.dflt)) r1 (Val.list (List.getD z42 (Int.toNat x5) Ty.val.dflt)) (Val.columns (List.getD z42 (Int.toNat x5) Ty.val.dflt)) (Val.rows (List.getD z42 (Int.toNat x5) Ty.val.dflt)))) ((fun (z41 : List Val) => List.set z41 (Int.toNat x5) (Val.mk (Val.kind (List.getD z41 (Int.toNat x5) Ty.val.dflt)) (Val.n (List.getD z41 (Int.toNat x5) Ty.val.dflt)) (IntKind.i64.wrap ((IntKind.i64.wrap (x1 + 1)) + 1)) (Val.text (List.getD z41 (Int.toNat x5) Ty.val.dflt)) (Val.list (List.getD z41 (Int.toNat x5) Ty.val.dflt)) (Val.columns (List.getD z41 (Int.toNat x5) Ty.val.dflt)) (Val.rows (List.getD z41 (Int.toNat x5) Ty.val.dflt)))) ((fun (z40 : List Val) => List.set z40 (Int.toNat x5) (Val.mk (Val.kind (List.getD z40 (Int.toNat x5) Ty.val.dflt)) (IntKind.i64.wrap (x1 + 1)) (Val.step (List.getD z40 (Int.toNat x5) Ty.val.dflt)) (Val.text (List.getD z40 (Int.toNat x5) Ty.val.dflt)) (Val.list (List.getD z40 (Int.toNat x5) Ty.val.dflt)) (Val.columns (List.getD z40 (Int.toNat x5) Ty.val.dflt)) (Val.rows (List.getD z40 (Int.toNat x5) Ty.val.dflt)))) (List.set x0 (Int.toNat x5) (Val.mk x1 (Val.n (List.getD x0 (Int.toNat x5) Ty.val.dflt)) (Val.step (List.getD x0 (Int.toNat x5) Ty.val.dflt)) (Val.text (List.getD x0 (Int.toNat x5) Ty.val.dflt)) (Val.list (List.getD x0 (Int.toNat x5) Ty.val.dflt)) (Val.columns (List.getD x0 (Int.toNat x5) Ty.val.dflt)) (Val.rows (List.getD x0 (Int.toNat x5) Ty.val.dflt)))))))) (Int.toNat x5) Ty.val.dflt)) r2.1) fun r3 =>
      if List.length r3.2 = List.length (Val.columns (List.getD ((fun (z43 : List Val) => List.set z43 (Int.toNat x5) (Val.mk (Val.kind (List.getD z43 (Int.toNat x5) Ty.val.dflt)) (Val.n (List.getD z43 (Int.toNat x5) Ty.val.dflt)) (Val.step (List.getD z43 (Int.toNat x5) Ty.val.dflt)) (Val.text (List.getD z43 (Int.toNat x5) Ty.val.dflt)) r2.2 (Val.columns (List.getD z43 (Int.toNat x5) Ty.val.dflt)) (Val.rows (List.getD z43 (Int.toNat x5) Ty.val.dflt)))) ((fun (z42 : List Val) => List.set z42 (Int.toNat x5) (Val.mk (Val.kind (List.getD z42 (Int.toNat x5) Ty.val.dflt)) (Val.n (List.getD z42 (Int.toNat x5) Ty.val.dflt)) (Val.step (List.getD z42 (Int.toNat x5) Ty.val.dflt)) r1 (Val.list (List.getD z42 (Int.toNat x5) Ty.val.dflt)) (Val.columns (List.getD z42 (Int.toNat x5) Ty.val.dflt)) (Val.rows (List.getD z42 (Int.toNat x5) Ty.val.dflt)))) ((fun (z41 : List Val) => List.set z41 (Int.toNat x5) (Val.mk (Val.kind (List.getD z41 (Int.toNat x5) Ty.val.dflt)) (Val.n (List.getD z41 (Int.toNat x5) Ty.val.dflt)) (IntKind.i64.wrap ((IntKind.i64.wrap (x1 + 1)) + 1)) (Val.text (List.getD z41 (Int.toNat x5) Ty.val.dflt)) (Val.list (List.getD z41 (Int.toNat x5) Ty.val.dflt)) (Val.columns (List.getD z41 (Int.toNat x5) Ty.val.dflt)) (Val.rows (List.getD z41 (Int.toNat x5) Ty.val.dflt)))) ((fun (z40 : List Val) => List.set z40 (Int.toNat x5) (Val.mk (Val.kind (List.getD z40 (Int.toNat x5) Ty.val.dflt)) (IntKind.i64.wrap (x1 + 1)) (Val.step (List.getD z40 (Int.toNat x5) Ty.val.dflt)) (Val.text (List.getD z40 (Int.toNat x5) Ty.val.dflt)) (Val.list (List.getD z40 (Int.toNat x5) Ty.val.dflt)) (Val.columns (List.getD z40 (Int.toNat x5) Ty.val.dflt)) (Val.rows (List.getD z40 (Int.toNat x5) Ty.val.dflt)))) (List.set x0 (Int.toNat x5) (Val.mk x1 (Val.n (List.getD x0 (Int.toNat x5) Ty.val.dflt)) (Val.step (List.getD x0 (Int.toNat x5) Ty.val.dflt)) (Val.text (List.getD x0 (Int.toNat x5) Ty.val.dflt)) (Val.list (List.getD x0 (Int.toNat x5) Ty.val.dflt)) (Val.columns (List.getD x0 (Int.toNat x5) Ty.val.dflt)) (Val.rows (List.getD x0 (Int.toNat x5) Ty.val.dflt)))))))) (Int.toNat x5) Ty.val.dflt)) then
      if (0 : Int) ≤ x5 ∧ x5 < (List.length ((fun (z44 : List Val) => List.set z44 (Int.toNat x5) (Val.mk (Val.kind (List.getD z44 (Int.toNat x5) Ty.val.dflt)) (Val.n (List.getD z44 (Int.toNat x5) Ty.val.dflt)) (Val.step (List.getD z44 (Int.toNat x5) Ty.val.dflt)) (Val.text (List.getD z44 (Int.toNat x5) Ty.val.dflt)) (Val.list (List.getD z44 (Int.toNat x5) Ty.val.dflt)) r3.2 (Val.rows (List.getD z44 (Int.toNat x5) Ty.val.dflt)))) ((fun (z43 : List Val) => List.set z43 (Int.toNat x5) (Val.mk (Val.kind (List.getD z43 (Int.toNat x5) Ty.val.dflt)) (Val.n (List.getD z43 (Int.toNat x5) Ty.val.dflt)) (Val.step (List.getD z43 (Int.toNat x5) Ty.val.dflt)) (Val.text (List.getD z43 (Int.toNat x5) Ty.val.dflt)) r2.2 (Val.columns (List.getD z43 (Int.toNat x5) Ty.val.dflt)) (Val.rows (List.getD z43 (Int.toNat x5) Ty.val.dflt)))) ((fun (z42 : List Val) => List.set z42 (Int.toNat x5) (Val.mk (Val.kind (List.getD z42 (Int.toNat x5) Ty.val.dflt)) (Val.n (List.getD z42 (Int.toNat x5) Ty.val.dflt)) (Val.step (List.getD z42 (Int.toNat x5) Ty.val.dflt)) r1 (Val.list (List.getD z42 (Int.toNat x5) Ty.val.dflt)) (Val.columns (List.getD z42 (Int.toNat x5) Ty.val.dflt)) (Val.rows (List.getD z42 (Int.toNat x5) Ty.val.dflt)))) ((fun (z41 : List Val) => List.set z41 (Int.toNat x5) (Val.mk (Val.kind (List.getD z41 (Int.toNat x5) Ty.val.dflt)) (Val.n (List.getD z41 (Int.toNat x5) Ty.val.dflt)) (IntKind.i64.wrap ((IntKind.i64.wrap (x1 + 1)) + 1)) (Val.text (List.getD z41 (Int.toNat x5) Ty.val.dflt)) (Val.list (List.getD z41 (Int.toNat x5) Ty.val.dflt)) (Val.columns (List.getD z41 (Int.toNat x5) Ty.val.dflt)) (Val.rows (List.getD z41 (Int.toNat x5) Ty.val.dflt)))) ((fun (z40 : List Val) => List.set z40 (Int.toNat x5) (Val.mk (Val.kind (List.getD z40 (Int.toNat x5) Ty.val.dflt)) (IntKind.i64.wrap (x1 + 1)) (Val.step (List.getD z40 (Int.toNat x5) Ty.val.dflt)) (Val.text (List.getD z40 (Int.toNat x5) Ty.val.dflt)) (Val.list (List.getD z40 (Int.toNat x5) Ty.val.dflt)) (Val.columns (List.getD z40 (Int.toNat x5) Ty.val.dflt)) (Val.rows (List.getD z40 (Int.toNat x5) Ty.val.dflt)))) (List.set x0 (Int.toNat x5) (Val.mk x1 (Val.n (List.getD x0 (Int.toNat x5) Ty.val.dflt)) (Val.step (List.getD x0 (Int.toNat x5) Ty.val.dflt)) (Val.text (List.getD x0 (Int.toNat x5) Ty.val.dflt)) (Val.list (List.getD x0 (Int.toNat x5) Ty.val.dflt)) (Val.columns (List.getD x0 (Int.toNat x5) Ty.val.dflt)) (Val.rows (List.getD x0 (Int.toNat x5) Ty.val.dflt)))))))))) then
      Option.bind (xGz N (Val.rows (List.getD ((fun (z44 : List Val) => List.set z44 (Int.toNat x5) (Val.mk (Val.kind (List.getD z44 (Int.toNat x5) Ty.val.dflt)) (Val.n (List.getD z44 (Int.toNat x5) Ty.val.dflt)) (Val.step (List.getD z44 (Int.toNat x5) Ty.val.dflt)) (Val.text (List.getD z44 (Int.toNat x5) Ty.val.dflt)) (Val.list (List.getD z44 (Int.toNat x5) Ty.val.dflt)) r3.2 (Val.rows (List.getD z44 (Int.toNat x5) Ty.val.dflt)))) ((fun (z43 : List Val) => List.set z43 (Int.toNat x5) (Val.mk (Val.kind (List.getD z43 (Int.toNat x5) Ty.val.dflt)) (Val.n (List.getD z43 (Int.toNat x5) Ty.val.dflt)) (Val.step (List.getD z43 (Int.toNat x5) Ty.val.dflt)) (Val.text (List.getD z43 (Int.toNat x5) Ty.val.dflt)) r2.2 (Val.columns (List.getD z43 (Int.toNat x5) Ty.val.dflt)) (Val.rows (List.getD z43 (Int.toNat x5) Ty.val.dflt)))) ((fun (z42 : List Val) => List.set z42 (Int.toNat x5) (Val.mk (Val.kind (List.getD z42 (Int.toNat x5) Ty.val.dflt)) (Val.n (List.getD z42 (Int.toNat x5) Ty.val.dflt)) (Val.step (List.getD z42 (Int.toNat x5) Ty.val.dflt)) r1 (Val.list (List.getD z42 (Int.toNat x5) Ty.val.dflt)) (Val.columns (List.getD z42 (Int.toNat x5) Ty.val.dflt)) (Val.rows (List.getD z42 (Int.toNat x5) Ty.val.dflt)))) ((fun (z41 : List Val) => List.set z41 (Int.toNat x5) (Val.mk (Val.kind (List.getD z41 (Int.toNat x5) Ty.val.dflt)) (Val.n (List.getD z41 (Int.toNat x5) Ty.val.dflt)) (IntKind.i64.wrap ((IntKind.i64.wrap (x1 + 1)) + 1)) (Val.text (List.getD z41 (Int.toNat x5) Ty.val.dflt)) (Val.list (List.getD z41 (Int.toNat x5) Ty.val.dflt)) (Val.columns (List.getD z41 (Int.toNat x5) Ty.val.dflt)) (Val.rows (List.getD z41 (Int.toNat x5) Ty.val.dflt)))) ((fun (z40 : List Val) => List.set z40 (Int.toNat x5) (Val.mk (Val.kind (List.getD z40 (Int.toNat x5) Ty.val.dflt)) (IntKind.i64.wrap (x1 + 1)) (Val.step (List.getD z40 (Int.toNat x5) Ty.val.dflt)) (Val.text (List.getD z40 (Int.toNat x5) Ty.val.dflt)) (Val.list (List.getD z40 (Int.toNat x5) Ty.val.dflt)) (Val.columns (List.getD z40 (Int.toNat x5) Ty.val.dflt)) (Val.rows (List.getD z40 (Int.toNat x5) Ty.val.dflt)))) (List.set x0 (Int.toNat x5) (Val.mk x1 (Val.n (List.getD x0 (Int.toNat x5) Ty.val.dflt)) (Val.step (List.getD x0 (Int.toNat x5) Ty.val.dflt)) (Val.text (List.getD x0 (Int.toNat x5) Ty.val.dflt)) (Val.list (List.getD x0 (Int.toNat x5) Ty.val.dflt)) (Val.columns (List.getD x0 (Int.toNat x5) Ty.val.dflt)) (Val.rows (List.getD x0 (Int.toNat x5) Ty.val.dflt))))))))) (Int.toNat x5) Ty.val.dflt)) r3.1) fun r4 =>
      if List.length r4.2 = List.length (Val.rows (List.getD ((fun (z44 : List Val) => List.set z44 (Int.toNat x5) (Val.mk (Val.kind (List.getD z44 (Int.toNat x5) Ty.val.dflt)) (Val.n (List.getD z44 (Int.toNat x5) Ty.val.dflt)) (Val.step (List.getD z44 (Int.toNat x5) Ty.val.dflt)) (Val.text (List.getD z44 (Int.toNat x5) Ty.val.dflt)) (Val.list (List.getD z44 (Int.toNat x5) Ty.val.dflt)) r3.2 (Val.rows (List.getD z44 (Int.toNat x5) Ty.val.dflt)))) ((fun (z43 : List Val) => List.set z43 (Int.toNat x5) (Val.mk (Val.kind (List.getD z43 (Int.toNat x5) Ty.val.dflt)) (Val.n (List.getD z43 (Int.toNat x5) Ty.val.dflt)) (Val.step (List.getD z43 (Int.toNat x5) Ty.val.dflt)) (Val.text (List.getD z43 (Int.toNat x5) Ty.val.dflt)) r2.2 (Val.columns (List.getD z43 (Int.toNat x5) Ty.val.dflt)) (Val.rows (List.getD z43 (Int.toNat x5) Ty.val.dflt)))) ((fun (z42 : List Val) => List.set z42 (Int.toNat x5) (Val.mk (Val.kind (List.getD z42 (Int.toNat x5) Ty.val.dflt)) (Val.n (List.getD z42 (Int.toNat x5) Ty.val.dflt)) (Val.step (List.getD z42 (Int.toNat x5) Ty.val.dflt)) r1 (Val.list (List.getD z42 (Int.toNat x5) Ty.val.dflt)) (Val.columns (List.getD z42 (Int.toNat x5) Ty.val.dflt)) (Val.rows (List.getD z42 (Int.toNat x5) Ty.val.dflt)))) ((fun (z41 : List Val) => List.set z41 (Int.toNat x5) (Val.mk (Val.kind (List.getD z41 (Int.toNat x5) Ty.val.dflt)) (Val.n (List.getD z41 (Int.toNat x5) Ty.val.dflt)) (IntKind.i64.wrap ((IntKind.i64.wrap (x1 + 1)) + 1)) (Val.text (List.getD z41 (Int.toNat x5) Ty.val.dflt)) (Val.list (List.getD z41 (Int.toNat x5) Ty.val.dflt)) (Val.columns (List.getD z41 (Int.toNat x5) Ty.val.dflt)) (Val.rows (List.getD z41 (Int.toNat x5) Ty.val.dflt)))) ((fun (z40 : List Val) => List.set z40 (Int.toNat x5) (Val.mk (Val.kind (List.getD z40 (Int.toNat x5) Ty.val.dflt)) (IntKind.i64.wrap (x1 + 1)) (Val.step (List.getD z40 (Int.toNat x5) Ty.val.dflt)) (Val.text (List.getD z40 (Int.toNat x5) Ty.val.dflt)) (Val.list (List.getD z40 (Int.toNat x5) Ty.val.dflt)) (Val.columns (List.getD z40 (Int.toNat x5) Ty.val.dflt)) (Val.rows (List.getD z40 (Int.toNat x5) Ty.val.dflt)))) (List.set x0 (Int.toNat x5) (Val.mk x1 (Val.n (List.getD x0 (Int.toNat x5) Ty.val.dflt)) (Val.step (List.getD x0 (Int.toNat x5) Ty.val.dflt)) (Val.text (List.getD x0 (Int.toNat x5) Ty.val.dflt)) (Val.list (List.getD x0 (Int.toNat x5) Ty.val.dflt)) (Val.columns (List.getD x0 (Int.toNat x5) Ty.val.dflt)) (Val.rows (List.getD x0 (Int.toNat x5) Ty.val.dflt))))))))) (Int.toNat x5) Ty.val.dflt)) then
      (xDA N q0 n ((fun (z45 : List Val) => List.set z45 (Int.toNat x5) (Val.mk (Val.kind (List.getD z45 (Int.toNat x5) Ty.val.dflt)) (Val.n (List.getD z45 (Int.toNat x5) Ty.val.dflt)) (Val.step (List.getD z45 (Int.toNat x5) Ty.val.dflt)) (Val.text (List.getD z45 (Int.toNat x5) Ty.val.dflt)) (Val.list (List.getD z45 (Int.toNat x5) Ty.val.dflt)) (Val.columns (List.getD z45 (Int.toNat x5) Ty.val.dflt)) r4.2)) ((fun (z44 : List Val) => List.set z44 (Int.toNat x5) (Val.mk (Val.kind (List.getD z44 (Int.toNat x5) Ty.val.dflt)) (Val.n (List.getD z44 (Int.toNat x5) Ty.val.dflt)) (Val.step (List.getD z44 (Int.toNat x5) Ty.val.dflt)) (Val.text (List.getD z44 (Int.toNat x5) Ty.val.dflt)) (Val.list (List.getD z44 (Int.toNat x5) Ty.val.dflt)) r3.2 (Val.rows (List.getD z44 (Int.toNat x5) Ty.val.dflt)))) ((fun (z43 : List Val) => List.set z43 (Int.toNat x5) (Val.mk (Val.kind (List.getD z43 (Int.toNat x5) Ty.val.dflt)) (Val.n (List.getD z43 (Int.toNat x5) Ty.val.dflt)) (Val.step (List.getD z43 (Int.toNat x5) Ty.val.dflt)) (Val.text (List.getD z43 (Int.toNat x5) Ty.val.dflt)) r2.2 (Val.columns (List.getD z43 (Int.toNat x5) Ty.val.dflt)) (Val.rows (List.getD z43 (Int.toNat x5) Ty.val.dflt)))) ((fun (z42 : List Val) => List.set z42 (Int.toNat x5) (Val.mk (Val.kind (List.getD z42 (Int.toNat x5) Ty.val.dflt)) (Val.n (List.getD z42 (Int.toNat x5) Ty.val.dflt)) (Val.step (List.getD z42 (Int.toNat x5) Ty.val.dflt)) r1 (Val.list (List.getD z42 (Int.toNat x5) Ty.val.dflt)) (Val.columns (List.getD z42 (Int.toNat x5) Ty.val.dflt)) (Val.rows (List.getD z42 (Int.toNat x5) Ty.val.dflt)))) ((fun (z41 : List Val) => List.set z41 (Int.toNat x5) (Val.mk (Val.kind (List.getD z41 (Int.toNat x5) Ty.val.dflt)) (Val.n (List.getD z41 (Int.toNat x5) Ty.val.dflt)) (IntKind.i64.wrap ((IntKind.i64.wrap (x1 + 1)) + 1)) (Val.text (List.getD z41 (Int.toNat x5) Ty.val.dflt)) (Val.list (List.getD z41 (Int.toNat x5) Ty.val.dflt)) (Val.columns (List.getD z41 (Int.toNat x5) Ty.val.dflt)) (Val.rows (List.getD z41 (Int.toNat x5) Ty.val.dflt)))) ((fun (z40 : List Val) => List.set z40 (Int.toNat x5) (Val.mk (Val.kind (List.getD z40 (Int.toNat x5) Ty.val.dflt)) (IntKind.i64.wrap (x1 + 1)) (Val.step (List.getD z40 (Int.toNat x5) Ty.val.dflt)) (Val.text (List.getD z40 (Int.toNat x5) Ty.val.dflt)) (Val.list (List.getD z40 (Int.toNat x5) Ty.val.dflt)) (Val.columns (List.getD z40 (Int.toNat x5) Ty.val.dflt)) (Val.rows (List.getD z40 (Int.toNat x5) Ty.val.dflt)))) (List.set x0 (Int.toNat x5) (Val.mk x1 (Val.n (List.getD x0 (Int.toNat x5) Ty.val.dflt)) (Val.step (List.getD x0 (Int.toNat x5) Ty.val.dflt)) (Val.text (List.getD x0 (Int.toNat x5) Ty.val.dflt)) (Val.list (List.getD x0 (Int.toNat x5) Ty.val.dflt)) (Val.columns (List.getD x0 (Int.toNat x5) Ty.val.dflt)) (Val.rows (List.getD x0 (Int.toNat x5) Ty.val.dflt)))))))))) r4.1 (IntKind.i64.wrap (x5 + 1)))
      else none
      else none
      else none
      else none
      else none
      else none
      else none
      else none
      else none
      else none
    ) else (
      some (x1, x0)
    )
def xFZ (N : Nat) (q0 : (List Val) → Int → Option (Int × (List Val))) (a0 : List Val) (a1 : Int) : Option (Int × (List Val)) :=
  (xDA N q0 N a0 a1 0)
def xEb (N : Nat) : Nat → (List Val) → Int → Option (Int × (List Val))
  | 0, _, _ => none
  | d + 1, a0, a1 => xFZ N (xEb N d) a0 a1
def xHA (N : Nat) (a0 : List Val) (a1 : Int) : Option (Int × (List Val)) := xEb N N a0 a1
def xAy (a0 : Val) (a1 : Int) : List Arg := [.val (.v true [.int .i64 (Val.kind a0), .int .i64 (Val.n a0), .int .i64 (Val.step a0), .str (Val.text a0), .sl (.lnt 0) .val (Val.list a0), .sl (.lnt 1) .str (Val.columns a0), .sl (.lnt 2) .row (Val.rows a0)]), .val (.v false [.int .i64 a1])]
def xAf (r : Int × (List Val) × (List Str) × (List Rowd)) : CallO := ⟨.v false [.int .i64 r.1], [], [.sl (.lnt 0) .val r.2.1, .sl (.lnt 1) .str r.2.2.1, .sl (.lnt 2) .row r.2.2.2]⟩
def xBM (N : Nat) (a0 : Val) (a1 : Int) : Option (Int × (List Val) × (List Str) × (List Rowd)) :=
  Option.bind (xHA N (Val.list a0) a1) fun r1 =>
  if List.length r1.2 = List.length (Val.list a0) then
  Option.bind (xFc N (Val.columns a0) r1.1) fun r2 =>
  if List.length r2.2 = List.length (Val.columns a0) then
  Option.bind (xGz N (Val.rows a0) r2.1) fun r3 =>
  if List.length r3.2 = List.length (Val.rows a0) then
  some (r3.1, r1.2, r2.2, r3.2)
  else none
  else none
  else none
def xB2 (a0 : List Str) (a1 : Int) : List Arg := [.val (.v false [.sl .ro .str a0]), .val (.v false [.int .i64 a1])]
def xA4 (r : Int) : CallO := ⟨.v false [.int .i64 r], [], []⟩
def xCG (N : Nat) : Nat → (List Str) → Int → Int → Option (Int)
  | 0, _, _, _ => none
  | n + 1, x0, x1, x5 =>
    bif (decide ((x5 : Int) < (List.length x0 : Int))) then (
      if (0 : Int) ≤ x5 ∧ x5 < (List.length x0) then
      Option.bind (xDM N x1) fun r1 =>
      bif (!(((List.getD x0 (Int.toNat x5) Ty.str.dflt) : Str) == r1)) then (
        some (-1)
      ) else (
        (xCG N n x0 (IntKind.i64.wrap (x1 + 1)) (IntKind.i64.wrap (x5 + 1)))
      )
      else none
    ) else (
      some x1
    )
def xEo (N : Nat) (a0 : List Str) (a1 : Int) : Option (Int) :=
  (xCG N N a0 a1 0)
def xEm (a0 : List Int) (a1 : Int) : List Arg := [.val (.v false [.sl .ro .int a0]), .val (.v false [.int .i64 a1])]
def xB8 (r : Int) : CallO := ⟨.v false [.int .i64 r], [], []⟩
def xEn (N : Nat) : Nat → (List Int) → Int → Int → Option (Int)
  | 0, _, _, _ => none
  | n + 1, x0, x1, x5 =>
    bif (decide ((x5 : Int) < (List.length x0 : Int))) then (
      if (0 : Int) ≤ x5 ∧ x5 < (List.length x0) then
      bif (((List.getD x0 (Int.toNat x5) Ty.int.dflt) : Int) != x1) then (
        some (-1)
      ) else (
        (xEn N n x0 (IntKind.i64.wrap (x1 + 1)) (IntKind.i64.wrap (x5 + 1)))
      )
      else none
    ) else (
      some x1
    )
def xHm (N : Nat) (a0 : List Int) (a1 : Int) : Option (Int) :=
  (xEn N N a0 a1 0)
def xD9 (a0 : List Org) (a1 : Int) : List Arg := [.val (.v false [.sl .ro .org a0]), .val (.v false [.int .i64 a1])]
def xBL (r : Int) : CallO := ⟨.v false [.int .i64 r], [], []⟩
def xDh (N : Nat) : Nat → (List Org) → Int → Int → Option (Int)
  | 0, _, _, _ => none
  | n + 1, x0, x1, x5 =>
    bif (decide ((x5 : Int) < (List.length x0 : Int))) then (
      if (0 : Int) ≤ x5 ∧ x5 < (List.length x0) then
      bif (((Org.cell (List.getD x0 (Int.toNat x5) Ty.org.dflt)) : Int) != x1) then (
        some (-1)
      ) else (
        bif (((Org.row (List.getD x0 (Int.toNat x5) Ty.org.dflt)) : Int) != (IntKind.i64.wrap (x1 + 1))) then (
          some (-1)
        ) else (
          (xDh N n x0 (IntKind.i64.wrap ((IntKind.i64.wrap (x1 + 1)) + 1)) (IntKind.i64.wrap (x5 + 1)))
        )
      )
      else none
    ) else (
      some x1
    )
def xGc (N : Nat) (a0 : List Org) (a1 : Int) : Option (Int) :=
  (xDh N N a0 a1 0)
def xDD (a0 : List Rowd) (a1 : Int) : List Arg := [.val (.v false [.sl .ro .row a0]), .val (.v false [.int .i64 a1])]
def xBA (r : Int) : CallO := ⟨.v false [.int .i64 r], [], []⟩
def xDE (N : Nat) : Nat → (List Rowd) → Int → Int → Option (Int)
  | 0, _, _, _ => none
  | n + 1, x0, x1, x5 =>
    bif (decide ((x5 : Int) < (List.length x0 : Int))) then (
      if (0 : Int) ≤ x5 ∧ x5 < (List.length x0) then
      Option.bind (xHm N (Rowd.cells (List.getD x0 (Int.toNat x5) Ty.row.dflt)) x1) fun r1 =>
      bif (decide ((r1 : Int) < 0)) then (
        some (-1)
      ) else (
        Option.bind (xGc N (Rowd.frm (List.getD x0 (Int.toNat x5) Ty.row.dflt)) r1) fun r2 =>
        bif (decide ((r2 : Int) < 0)) then (
          some (-1)
        ) else (
          (xDE N n x0 r2 (IntKind.i64.wrap (x5 + 1)))
        )
      )
      else none
    ) else (
      some x1
    )
def xFM (N : Nat) (a0 : List Rowd) (a1 : Int) : Option (Int) :=
  (xDE N N a0 a1 0)
def xBq (a0 : List Val) (a1 : Int) : List Arg := [.val (.v false [.sl .ro .val a0]), .val (.v false [.int .i64 a1])]
def xAQ (r : Int) : CallO := ⟨.v false [.int .i64 r], [], []⟩
def xCT (N : Nat) (q0 : (List Val) → Int → Option (Int)) : Nat → (List Val) → Int → Int → Option (Int)
  | 0, _, _, _ => none
  | n + 1, x0, x1, x5 =>
    bif (decide ((x5 : Int) < (List.length x0 : Int))) then (
      if (0 : Int) ≤ x5 ∧ x5 < (List.length x0) then
      bif (((Val.kind (List.getD x0 (Int.toNat x5) Ty.val.dflt)) : Int) != x1) then (
        some (-1)
      ) else (
        bif (((Val.n (List.getD x0 (Int.toNat x5) Ty.val.dflt)) : Int) != (IntKind.i64.wrap (x1 + 1))) then (
          some (-1)
        ) else (
          bif (((Val.step (List.getD x0 (Int.toNat x5) Ty.val.dflt)) : Int) != (IntKind.i64.wrap ((IntKind.i64.wrap (x1 + 1)) + 1))) then (
            some (-1)
          ) else (
            Option.bind (xDM N (IntKind.i64.wrap ((IntKind.i64.wrap ((IntKind.i64.wrap (x1 + 1)) + 1)) + 1))) fun r1 =>
            bif (!(((Val.text (List.getD x0 (Int.toNat x5) Ty.val.dflt)) : Str) == r1)) then (
              some (-1)
            ) else (
              Option.bind (q0 (Val.list (List.getD x0 (Int.toNat x5) Ty.val.dflt)) (IntKind.i64.wrap ((IntKind.i64.wrap ((IntKind.i64.wrap ((IntKind.i64.wrap (x1 + 1)) + 1)) + 1)) + 1))) fun r2 =>
              bif (decide ((r2 : Int) < 0)) then (
                some (-1)
              ) else (
                Option.bind (xEo N (Val.columns (List.getD x0 (Int.toNat x5) Ty.val.dflt)) r2) fun r3 =>
                bif (decide ((r3 : Int) < 0)) then (
                  some (-1)
                ) else (
                  Option.bind (xFM N (Val.rows (List.getD x0 (Int.toNat x5) Ty.val.dflt)) r3) fun r4 =>
                  bif (decide ((r4 : Int) < 0)) then (
                    some (-1)
                  ) else (
                    (xCT N q0 n x0 r4 (IntKind.i64.wrap (x5 + 1)))
                  )
                )
              )
            )
          )
        )
      )
      else none
    ) else (
      some x1
    )
def xEK (N : Nat) (q0 : (List Val) → Int → Option (Int)) (a0 : List Val) (a1 : Int) : Option (Int) :=
  (xCT N q0 N a0 a1 0)
def xDj (N : Nat) : Nat → (List Val) → Int → Option (Int)
  | 0, _, _ => none
  | d + 1, a0, a1 => xEK N (xDj N d) a0 a1
def xGy (N : Nat) (a0 : List Val) (a1 : Int) : Option (Int) := xDj N N a0 a1
def xAL (a0 : Val) (a1 : Int) : List Arg := [.val (.v true [.int .i64 (Val.kind a0), .int .i64 (Val.n a0), .int .i64 (Val.step a0), .str (Val.text a0), .sl .ro .val (Val.list a0), .sl .ro .str (Val.columns a0), .sl .ro .row (Val.rows a0)]), .val (.v false [.int .i64 a1])]
def xAr (r : Int) : CallO := ⟨.v false [.int .i64 r], [], []⟩
def xBl (N : Nat) (a0 : Val) (a1 : Int) : Option (Int) :=
  Option.bind (xGy N (Val.list a0) a1) fun r1 =>
  bif (decide ((r1 : Int) < 0)) then (
    some (-1)
  ) else (
    Option.bind (xEo N (Val.columns a0) r1) fun r2 =>
    bif (decide ((r2 : Int) < 0)) then (
      some (-1)
    ) else (
      Option.bind (xFM N (Val.rows a0) r2) fun r3 =>
      bif (decide ((r3 : Int) < 0)) then (
        some (-1)
      ) else (
        some r3
      )
    )
  )
def xAw (a0 : Int) (a1 : Val) (a2 : Val) : List Arg := [.val (.v false [.int .i64 a0]), .val (.v true [.int .i64 (Val.kind a1), .int .i64 (Val.n a1), .int .i64 (Val.step a1), .str (Val.text a1), .sl .ro .val (Val.list a1), .sl .ro .str (Val.columns a1), .sl .ro .row (Val.rows a1)]), .val (.v true [.int .i64 (Val.kind a2), .int .i64 (Val.n a2), .int .i64 (Val.step a2), .str (Val.text a2), .sl .ro .val (Val.list a2), .sl .ro .str (Val.columns a2), .sl .ro .row (Val.rows a2)])]
def xAx (r : Bool) : CallO := ⟨.v false [.bool r], [], []⟩
def xEE (N : Nat) (a0 : Int) (a1 : Val) (a2 : Val) : Option (Bool) :=
  Option.bind (xGr N a1 1048576) fun r1 =>
  bif (decide ((r1 : Int) < 0)) then (
    some true
  ) else (
    Option.bind (xGr N a2 r1) fun r2 =>
    bif (decide ((r2 : Int) < 0)) then (
      some true
    ) else (
      Option.bind (xBd N a1) fun r3 =>
      Option.bind (xBd N a2) fun r4 =>
      Option.bind (xCV N a0 r3 r4) fun r5 =>
      Option.bind (xBd N a1) fun r6 =>
      Option.bind (xBd N a2) fun r7 =>
      Option.bind (xCg N a0 r6 r7) fun r8 =>
      bif r8.2 then (
        if List.isEmpty (Val.list r8.1) = true then
        if List.isEmpty (Val.columns r8.1) = true then
        if List.isEmpty (Val.rows r8.1) = true then
        Option.bind (xBc N (Val.mk (Val.kind r8.1) (Val.n r8.1) (Val.step r8.1) (Val.text r8.1) [] [] []) r5) fun r9 =>
        bif (!r9) then (
          some false
        ) else (
          Option.bind (xBd N a1) fun r10 =>
          Option.bind (xBc N r6 r10) fun r11 =>
          bif (!r11) then (
            some false
          ) else (
            Option.bind (xBd N a2) fun r12 =>
            Option.bind (xBc N r7 r12) fun r13 =>
            bif (!r13) then (
              some false
            ) else (
              Option.bind (xBM N r6 1) fun r14 =>
              if List.length r14.2.1 = List.length (Val.list r6) then
              if List.length r14.2.2.1 = List.length (Val.columns r6) then
              if List.length r14.2.2.2 = List.length (Val.rows r6) then
              Option.bind (xBM N r7 r14.1) fun r15 =>
              if List.length r15.2.1 = List.length (Val.list r7) then
              if List.length r15.2.2.1 = List.length (Val.columns r7) then
              if List.length r15.2.2.2 = List.length (Val.rows r7) then
              bif (decide ((r15.1 : Int) < 0)) then (
                some false
              ) else (
                Option.bind (xBc N (Val.mk (Val.kind r8.1) (Val.n r8.1) (Val.step r8.1) (Val.text r8.1) [] [] []) r5) fun r16 =>
                bif (!r16) then (
                  some false
                ) else (
                  Option.bind (xEt N (Val.mk (Val.kind r8.1) (Val.n r8.1) (Val.step r8.1) (Val.text r8.1) [] [] []) 1) fun r17 =>
                  Option.bind (xBl N (Val.mk (Val.kind r8.1) (Val.n r8.1) (Val.step r8.1) (Val.text r8.1) [] [] []) 1) fun r18 =>
                  bif (decide ((r18 : Int) < 0)) then (
                    some false
                  ) else (
                    bif ((r18 : Int) != r17) then (
                      some false
                    ) else (
                      Option.bind (xBd N a1) fun r19 =>
                      Option.bind (xBd N a2) fun r20 =>
                      Option.bind (xCg N a0 r19 r20) fun r21 =>
                      bif r21.2 then (
                        if List.isEmpty (Val.list r21.1) = true then
                        if List.isEmpty (Val.columns r21.1) = true then
                        if List.isEmpty (Val.rows r21.1) = true then
                        Option.bind (xBc N (Val.mk (Val.kind r21.1) (Val.n r21.1) (Val.step r21.1) (Val.text r21.1) [] [] []) r5) fun r22 =>
                        bif (!r22) then (
                          some false
                        ) else (
                          Option.bind (xBl N (Val.mk (Val.kind r8.1) (Val.n r8.1) (Val.step r8.1) (Val.text r8.1) [] [] []) 1) fun r23 =>
                          bif (decide ((r23 : Int) < 0)) then (
                            some false
                          ) else (
                            bif ((r23 : Int) != r17) then (
                              some false
                            ) else (
                              some true
                            )
                          )
                        )
                        else none
                        else none
                        else none
                      ) else (
                        Option.bind (xBc N r21.1 r5) fun r22 =>
                        bif (!r22) then (
                          some false
                        ) else (
                          Option.bind (xBl N (Val.mk (Val.kind r8.1) (Val.n r8.1) (Val.step r8.1) (Val.text r8.1) [] [] []) 1) fun r23 =>
                          bif (decide ((r23 : Int) < 0)) then (
                            some false
                          ) else (
                            bif ((r23 : Int) != r17) then (
                              some false
                            ) else (
                              some true
                            )
                          )
                        )
                      )
                    )
                  )
                )
              )
              else none
              else none
              else none
              else none
              else none
              else none
            )
          )
        )
        else none
        else none
        else none
      ) else (
        Option.bind (xBc N r8.1 r5) fun r9 =>
        bif (!r9) then (
          some false
        ) else (
          Option.bind (xBd N a1) fun r10 =>
          Option.bind (xBc N r6 r10) fun r11 =>
          bif (!r11) then (
            some false
          ) else (
            Option.bind (xBd N a2) fun r12 =>
            Option.bind (xBc N r7 r12) fun r13 =>
            bif (!r13) then (
              some false
            ) else (
              Option.bind (xBM N r6 1) fun r14 =>
              if List.length r14.2.1 = List.length (Val.list r6) then
              if List.length r14.2.2.1 = List.length (Val.columns r6) then
              if List.length r14.2.2.2 = List.length (Val.rows r6) then
              Option.bind (xBM N r7 r14.1) fun r15 =>
              if List.length r15.2.1 = List.length (Val.list r7) then
              if List.length r15.2.2.1 = List.length (Val.columns r7) then
              if List.length r15.2.2.2 = List.length (Val.rows r7) then
              bif (decide ((r15.1 : Int) < 0)) then (
                some false
              ) else (
                Option.bind (xBc N r8.1 r5) fun r16 =>
                bif (!r16) then (
                  some false
                ) else (
                  Option.bind (xBM N r8.1 1) fun r17 =>
                  if List.length r17.2.1 = List.length (Val.list r8.1) then
                  if List.length r17.2.2.1 = List.length (Val.columns r8.1) then
                  if List.length r17.2.2.2 = List.length (Val.rows r8.1) then
                  Option.bind (xBl N (Val.mk (Val.kind r8.1) (Val.n r8.1) (Val.step r8.1) (Val.text r8.1) r17.2.1 r17.2.2.1 r17.2.2.2) 1) fun r18 =>
                  bif (decide ((r18 : Int) < 0)) then (
                    some false
                  ) else (
                    bif ((r18 : Int) != r17.1) then (
                      some false
                    ) else (
                      Option.bind (xBd N a1) fun r19 =>
                      Option.bind (xBd N a2) fun r20 =>
                      Option.bind (xCg N a0 r19 r20) fun r21 =>
                      bif r21.2 then (
                        if List.isEmpty (Val.list r21.1) = true then
                        if List.isEmpty (Val.columns r21.1) = true then
                        if List.isEmpty (Val.rows r21.1) = true then
                        Option.bind (xBc N (Val.mk (Val.kind r21.1) (Val.n r21.1) (Val.step r21.1) (Val.text r21.1) [] [] []) r5) fun r22 =>
                        bif (!r22) then (
                          some false
                        ) else (
                          Option.bind (xBl N (Val.mk (Val.kind r8.1) (Val.n r8.1) (Val.step r8.1) (Val.text r8.1) r17.2.1 r17.2.2.1 r17.2.2.2) 1) fun r23 =>
                          bif (decide ((r23 : Int) < 0)) then (
                            some false
                          ) else (
                            bif ((r23 : Int) != r17.1) then (
                              some false
                            ) else (
                              some true
                            )
                          )
                        )
                        else none
                        else none
                        else none
                      ) else (
                        Option.bind (xBc N r21.1 r5) fun r22 =>
                        bif (!r22) then (
                          some false
                        ) else (
                          Option.bind (xBl N (Val.mk (Val.kind r8.1) (Val.n r8.1) (Val.step r8.1) (Val.text r8.1) r17.2.1 r17.2.2.1 r17.2.2.2) 1) fun r23 =>
                          bif (decide ((r23 : Int) < 0)) then (
                            some false
                          ) else (
                            bif ((r23 : Int) != r17.1) then (
                              some false
                            ) else (
                              some true
                            )
                          )
                        )
                      )
                    )
                  )
                  else none
                  else none
                  else none
                )
              )
              else none
              else none
              else none
              else none
              else none
              else none
            )
          )
        )
      )
    )
  )
end Go.Ab
end
section
open Go.Proofs
namespace Go.Ab.T
abbrev AbC (f : FuncId) (a : List Arg) (r : CallO) : Prop := AbsCalls Try.prog f a r
abbrev W (x : Int) : Int := IntKind.i64.wrap x
abbrev Ln {α : Type} (l : List α) : Nat := List.length l
abbrev tN (x : Int) : Nat := Int.toNat x
abbrev gD {α : Type} (l : List α) (i : Nat) (d : α) : α := List.getD l i d
abbrev vd : Val := Ty.val.dflt
abbrev rd : Rowd := Ty.row.dflt
end Go.Ab.T
end
