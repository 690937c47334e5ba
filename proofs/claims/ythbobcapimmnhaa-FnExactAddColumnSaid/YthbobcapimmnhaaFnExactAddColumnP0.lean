/- The statement FnExactAddColumn holds: plain functions, certificates, laws. Conditions: none. -/
import Derived.Test.YthbobcapimmnhaaChecked
import Derived.Test.YthbobcapimmnhaaProg
import Derived.Test.YthbobcapimmnhaaRows
import Derived.Test.YthbobcapimmnhaaL2
set_option linter.all false
section
namespace Go.Ab
set_option linter.unusedVariables false
def xEd (a0 : List Val) (a1 : Int) : List Arg := [.val (.v false [.sl .ro .val []]), .val (.v false [.int .i64 a1])]
def xCI (r : Int) : CallO := ⟨.v false [.int .i64 r], [], []⟩
def xE5 (N : Nat) : Nat → Int → Int → Option (Int)
  | 0, _, _ => none
  | n + 1, x1, x5 =>
    bif (decide ((x5 : Int) < (0 : Int))) then (
      if (0 : Int) ≤ x5 ∧ x5 < (0) then
      none
      else none
    ) else (
      some x1
    )
def xEW (N : Nat) (a0 : List Val) (a1 : Int) : Option (Int) :=
  (xE5 N N a1 0)
def xCY (a0 : List Str) (a1 : Int) : List Arg := [.val (.v false [.sl .ro .str a0]), .val (.v false [.int .i64 a1])]
def xBy (r : Int) : CallO := ⟨.v false [.int .i64 r], [], []⟩
def xEX (N : Nat) : Nat → (List Str) → Int → Int → Option (Int)
  | 0, _, _, _ => none
  | n + 1, x0, x1, x5 =>
    bif (decide ((x5 : Int) < (List.length x0 : Int))) then (
      if (0 : Int) ≤ x5 ∧ x5 < (List.length x0) then
      bif (decide (((IntKind.i64.wrap (x1 - (List.length (List.getD x0 (Int.toNat x5) Ty.str.dflt) : Int))) : Int) < 0)) then (
        some (-1)
      ) else (
        (xEX N n x0 (IntKind.i64.wrap (x1 - (List.length (List.getD x0 (Int.toNat x5) Ty.str.dflt) : Int))) (IntKind.i64.wrap (x5 + 1)))
      )
      else none
    ) else (
      some x1
    )
def xF7 (N : Nat) (a0 : List Str) (a1 : Int) : Option (Int) :=
  bif (decide (((IntKind.i64.wrap (a1 - (List.length a0 : Int))) : Int) < 0)) then (
    some (-1)
  ) else (
    (xEX N N a0 (IntKind.i64.wrap (a1 - (List.length a0 : Int))) 0)
  )
def xD7 (a0 : List Int) (a1 : Int) : List Arg := [.val (.v false [.sl .ro .int a0]), .val (.v false [.int .i64 a1])]
def xCy (r : Int) : CallO := ⟨.v false [.int .i64 r], [], []⟩
def xHj (N : Nat) (a0 : List Int) (a1 : Int) : Option (Int) :=
  bif (decide (((IntKind.i64.wrap (a1 - (List.length a0 : Int))) : Int) < 0)) then (
    some (-1)
  ) else (
    some (IntKind.i64.wrap (a1 - (List.length a0 : Int)))
  )
def xDt (a0 : List Org) (a1 : Int) : List Arg := [.val (.v false [.sl .ro .org a0]), .val (.v false [.int .i64 a1])]
def xCv (r : Int) : CallO := ⟨.v false [.int .i64 r], [], []⟩
def xF5 (N : Nat) (a0 : List Org) (a1 : Int) : Option (Int) :=
  bif (decide (((IntKind.i64.wrap (a1 - (List.length a0 : Int))) : Int) < 0)) then (
    some (-1)
  ) else (
    some (IntKind.i64.wrap (a1 - (List.length a0 : Int)))
  )
def xEq (a0 : Rowd) (a1 : Int) : List Arg := [.val (.v true [.sl .ro .int (Rowd.cells a0), .sl .ro .org (Rowd.frm a0)]), .val (.v false [.int .i64 a1])]
def xDn (r : Int) : CallO := ⟨.v false [.int .i64 r], [], []⟩
def xG6 (N : Nat) (a0 : Rowd) (a1 : Int) : Option (Int) :=
  Option.bind (xHj N (Rowd.cells a0) a1) fun r1 =>
  bif (decide ((r1 : Int) < 0)) then (
    some (-1)
  ) else (
    Option.bind (xF5 N (Rowd.frm a0) r1) fun r2 =>
    bif (decide ((r2 : Int) < 0)) then (
      some (-1)
    ) else (
      some r2
    )
  )
def xED (a0 : List Rowd) (a1 : Int) : List Arg := [.val (.v false [.sl .ro .row a0]), .val (.v false [.int .i64 a1])]
def xCz (r : Int) : CallO := ⟨.v false [.int .i64 r], [], []⟩
def xF6 (N : Nat) : Nat → (List Rowd) → Int → Int → Option (Int)
  | 0, _, _, _ => none
  | n + 1, x0, x1, x5 =>
    bif (decide ((x5 : Int) < (List.length x0 : Int))) then (
      if (0 : Int) ≤ x5 ∧ x5 < (List.length x0) then
      Option.bind (xG6 N (List.getD x0 (Int.toNat x5) Ty.row.dflt) x1) fun r1 =>
      bif (decide ((r1 : Int) < 0)) then (
        some (-1)
      ) else (
        (xF6 N n x0 r1 (IntKind.i64.wrap (x5 + 1)))
      )
      else none
    ) else (
      some x1
    )
def xHk (N : Nat) (a0 : List Rowd) (a1 : Int) : Option (Int) :=
  bif (decide (((IntKind.i64.wrap (a1 - (List.length a0 : Int))) : Int) < 0)) then (
    some (-1)
  ) else (
    (xF6 N N a0 (IntKind.i64.wrap (a1 - (List.length a0 : Int))) 0)
  )
def xAi (a0 : Val) (a1 : Int) : List Arg := [.val (.v true [.int .i64 (Val.kind a0), .int .i64 (Val.n a0), .int .i64 (Val.step a0), .str (Val.text a0), .sl .ro .val (Val.list a0), .sl .ro .str (Val.columns a0), .sl .ro .row (Val.rows a0)]), .val (.v false [.int .i64 a1])]
def xAe (r : Int) : CallO := ⟨.v false [.int .i64 r], [], []⟩
def xFY (N : Nat) (q0 : Val → Int → Option (Int)) (q1 : (List Val) → Int → Option (Int)) (a0 : Val) (a1 : Int) : Option (Int) :=
  bif (decide (((IntKind.i64.wrap (a1 - (List.length (Val.text a0) : Int))) : Int) < 0)) then (
    some (-1)
  ) else (
    Option.bind (q1 (Val.list a0) (IntKind.i64.wrap (a1 - (List.length (Val.text a0) : Int)))) fun r1 =>
    bif (decide ((r1 : Int) < 0)) then (
      some (-1)
    ) else (
      Option.bind (xF7 N (Val.columns a0) r1) fun r2 =>
      bif (decide ((r2 : Int) < 0)) then (
        some (-1)
      ) else (
        Option.bind (xHk N (Val.rows a0) r2) fun r3 =>
        bif (decide ((r3 : Int) < 0)) then (
          some (-1)
        ) else (
          some r3
        )
      )
    )
  )
def xCk (a0 : List Val) (a1 : Int) : List Arg := [.val (.v false [.sl .ro .val a0]), .val (.v false [.int .i64 a1])]
def xBn (r : Int) : CallO := ⟨.v false [.int .i64 r], [], []⟩
def xFp (N : Nat) (q0 : Val → Int → Option (Int)) (q1 : (List Val) → Int → Option (Int)) : Nat → (List Val) → Int → Int → Option (Int)
  | 0, _, _, _ => none
  | n + 1, x0, x1, x5 =>
    bif (decide ((x5 : Int) < (List.length x0 : Int))) then (
      if (0 : Int) ≤ x5 ∧ x5 < (List.length x0) then
      Option.bind (q0 (List.getD x0 (Int.toNat x5) Ty.val.dflt) x1) fun r1 =>
      bif (decide ((r1 : Int) < 0)) then (
        some (-1)
      ) else (
        (xFp N q0 q1 n x0 r1 (IntKind.i64.wrap (x5 + 1)))
      )
      else none
    ) else (
      some x1
    )
def xFJ (N : Nat) (q0 : Val → Int → Option (Int)) (q1 : (List Val) → Int → Option (Int)) (a0 : List Val) (a1 : Int) : Option (Int) :=
  bif (decide (((IntKind.i64.wrap (a1 - (List.length a0 : Int))) : Int) < 0)) then (
    some (-1)
  ) else (
    (xFp N q0 q1 N a0 (IntKind.i64.wrap (a1 - (List.length a0 : Int))) 0)
  )
structure laws_szValue_rec where
  c_laws_szValue : Val → Int → Option (Int)
  c_laws_szValueS : (List Val) → Int → Option (Int)
def xBS (N : Nat) : Nat → laws_szValue_rec
  | 0 => ⟨fun _ _ => none, fun _ _ => none⟩
  | d + 1 => ⟨xFY N (xBS N d).c_laws_szValue (xBS N d).c_laws_szValueS, xFJ N (xBS N d).c_laws_szValue (xBS N d).c_laws_szValueS⟩
def xFy (N : Nat) (a0 : Val) (a1 : Int) : Option (Int) := (xBS N N).c_laws_szValue a0 a1
def xE0 (a0 : List Str) : List Arg := [.val (.v false [.sl .ro .str a0])]
def xDv (r : (List Str)) : CallO := ⟨.v false [.sl .own .str r], [], []⟩
def xE1 (N : Nat) : Nat → (List Str) → (List Str) → Int → Option ((List Str))
  | 0, _, _, _ => none
  | n + 1, x0, x3, x4 =>
    bif (decide ((x4 : Int) < (List.length x0 : Int))) then (
      if (0 : Int) ≤ x4 ∧ x4 < (List.length x0) then
      if (0 : Int) ≤ x4 ∧ x4 < (List.length x3) then
      (xE1 N n x0 (List.set x3 (Int.toNat x4) (List.getD x0 (Int.toNat x4) Ty.str.dflt)) (IntKind.i64.wrap (x4 + 1)))
      else none
      else none
    ) else (
      some x3
    )
def xFf (N : Nat) (a0 : List Str) : Option ((List Str)) :=
  if (0 : Int) ≤ (List.length a0 : Int) ∧ (List.length a0 : Int) = (List.length a0 : Int) ∧ (List.length a0 : Int) ≤ Lim then
  (xE1 N N a0 (List.replicate (Int.toNat (List.length a0 : Int)) Ty.str.dflt) 0)
  else none
def xF8 (a0 : List Int) : List Arg := [.val (.v false [.sl .ro .int a0])]
def xEE (r : (List Int)) : CallO := ⟨.v false [.sl .own .int r], [], []⟩
def xF9 (N : Nat) : Nat → (List Int) → (List Int) → Int → Option ((List Int))
  | 0, _, _, _ => none
  | n + 1, x0, x3, x4 =>
    bif (decide ((x4 : Int) < (List.length x0 : Int))) then (
      if (0 : Int) ≤ x4 ∧ x4 < (List.length x0) then
      if (0 : Int) ≤ x4 ∧ x4 < (List.length x3) then
      (xF9 N n x0 (List.set x3 (Int.toNat x4) (List.getD x0 (Int.toNat x4) Ty.int.dflt)) (IntKind.i64.wrap (x4 + 1)))
      else none
      else none
    ) else (
      some x3
    )
def xGF (N : Nat) (a0 : List Int) : Option ((List Int)) :=
  if (0 : Int) ≤ (List.length a0 : Int) ∧ (List.length a0 : Int) = (List.length a0 : Int) ∧ (List.length a0 : Int) ≤ Lim then
  (xF9 N N a0 (List.replicate (Int.toNat (List.length a0 : Int)) Ty.int.dflt) 0)
  else none
def xFq (a0 : Org) : List Arg := [.val (.v true [.int .i64 (Org.cell a0), .int .i64 (Org.row a0)])]
def xEx (r : Org) : CallO := ⟨.v true [.int .i64 (Org.cell r), .int .i64 (Org.row r)], [], []⟩
def xGr (N : Nat) (a0 : Org) : Option (Org) :=
  some a0
def xEY (a0 : List Org) : List Arg := [.val (.v false [.sl .ro .org a0])]
def xDu (r : (List Org)) : CallO := ⟨.v false [.sl .own .org r], [], []⟩
def xEZ (N : Nat) : Nat → (List Org) → (List Org) → Int → Option ((List Org))
  | 0, _, _, _ => none
  | n + 1, x0, x3, x4 =>
    bif (decide ((x4 : Int) < (List.length x0 : Int))) then (
      if (0 : Int) ≤ x4 ∧ x4 < (List.length x0) then
      Option.bind (xGr N (List.getD x0 (Int.toNat x4) Ty.org.dflt)) fun r1 =>
      if (0 : Int) ≤ x4 ∧ x4 < (List.length x3) then
      (xEZ N n x0 (List.set x3 (Int.toNat x4) r1) (IntKind.i64.wrap (x4 + 1)))
      else none
      else none
    ) else (
      some x3
    )
def xFe (N : Nat) (a0 : List Org) : Option ((List Org)) :=
  if (0 : Int) ≤ (List.length a0 : Int) ∧ (List.length a0 : Int) = (List.length a0 : Int) ∧ (List.length a0 : Int) ≤ Lim then
  (xEZ N N a0 (List.replicate (Int.toNat (List.length a0 : Int)) Ty.org.dflt) 0)
  else none
def xGs (a0 : Rowd) : List Arg := [.val (.v true [.sl .ro .int (Rowd.cells a0), .sl .ro .org (Rowd.frm a0)])]
def xFK (r : Rowd) : CallO := ⟨.v true [.sl .own .int (Rowd.cells r), .sl .own .org (Rowd.frm r)], [], []⟩
def xGv (N : Nat) (a0 : Rowd) : Option (Rowd) :=
  Option.bind (xGF N (Rowd.cells a0)) fun r1 =>
  Option.bind (xFe N (Rowd.frm a0)) fun r2 =>
  some (Rowd.mk r1 r2)
def xGa (a0 : List Rowd) : List Arg := [.val (.v false [.sl .ro .row a0])]
def xEF (r : (List Rowd)) : CallO := ⟨.v false [.sl .own .row r], [], []⟩
def xGb (N : Nat) : Nat → (List Rowd) → (List Rowd) → Int → Option ((List Rowd))
  | 0, _, _, _ => none
  | n + 1, x0, x3, x4 =>
    bif (decide ((x4 : Int) < (List.length x0 : Int))) then (
      if (0 : Int) ≤ x4 ∧ x4 < (List.length x0) then
      Option.bind (xGv N (List.getD x0 (Int.toNat x4) Ty.row.dflt)) fun r1 =>
      if (0 : Int) ≤ x4 ∧ x4 < (List.length x3) then
      (xGb N n x0 (List.set x3 (Int.toNat x4) r1) (IntKind.i64.wrap (x4 + 1)))
      else none
      else none
    ) else (
      some x3
    )
def xGG (N : Nat) (a0 : List Rowd) : Option ((List Rowd)) :=
  if (0 : Int) ≤ (List.length a0 : Int) ∧ (List.length a0 : Int) = (List.length a0 : Int) ∧ (List.length a0 : Int) ≤ Lim then
  (xGb N N a0 (List.replicate (Int.toNat (List.length a0 : Int)) Ty.row.dflt) 0)
  else none
def xAb (a0 : Val) : List Arg := [.val (.v true [.int .i64 (Val.kind a0), .int .i64 (Val.n a0), .int .i64 (Val.step a0), .str (Val.text a0), .sl .ro .val (Val.list a0), .sl .ro .str (Val.columns a0), .sl .ro .row (Val.rows a0)])]
def xAa (r : Val) : CallO := ⟨.v true [.int .i64 (Val.kind r), .int .i64 (Val.n r), .int .i64 (Val.step r), .str (Val.text r), .sl .own .val (Val.list r), .sl .own .str (Val.columns r), .sl .own .row (Val.rows r)], [], []⟩
def xEh (N : Nat) (q0 : Val → Option (Val)) (q1 : (List Val) → Option ((List Val))) (a0 : Val) : Option (Val) :=
  Option.bind (q1 (Val.list a0)) fun r1 =>
  Option.bind (xFf N (Val.columns a0)) fun r2 =>
  Option.bind (xGG N (Val.rows a0)) fun r3 =>
  some (Val.mk (Val.kind a0) (Val.n a0) (Val.step a0) (Val.text a0) r1 r2 r3)
def xEy (a0 : List Val) : List Arg := [.val (.v false [.sl .ro .val a0])]
def xDe (r : (List Val)) : CallO := ⟨.v false [.sl .own .val r], [], []⟩
def xFr (N : Nat) (q0 : Val → Option (Val)) (q1 : (List Val) → Option ((List Val))) : Nat → (List Val) → (List Val) → Int → Option ((List Val))
  | 0, _, _, _ => none
  | n + 1, x0, x3, x4 =>
    bif (decide ((x4 : Int) < (List.length x0 : Int))) then (
      if (0 : Int) ≤ x4 ∧ x4 < (List.length x0) then
      Option.bind (q0 (List.getD x0 (Int.toNat x4) Ty.val.dflt)) fun r1 =>
      if (0 : Int) ≤ x4 ∧ x4 < (List.length x3) then
      (xFr N q0 q1 n x0 (List.set x3 (Int.toNat x4) (Val.re r1)) (IntKind.i64.wrap (x4 + 1)))
      else none
      else none
    ) else (
      some x3
    )
def xD2 (N : Nat) (q0 : Val → Option (Val)) (q1 : (List Val) → Option ((List Val))) (a0 : List Val) : Option ((List Val)) :=
  if (0 : Int) ≤ (List.length a0 : Int) ∧ (List.length a0 : Int) = (List.length a0 : Int) ∧ (List.length a0 : Int) ≤ Lim then
  (xFr N q0 q1 N a0 (List.replicate (Int.toNat (List.length a0 : Int)) Ty.val.dflt) 0)
  else none
structure laws_toValue_rec where
  c_laws_toValue : Val → Option (Val)
  c_laws_toValueS : (List Val) → Option ((List Val))
def xBe (N : Nat) : Nat → laws_toValue_rec
  | 0 => ⟨fun _ => none, fun _ => none⟩
  | d + 1 => ⟨xEh N (xBe N d).c_laws_toValue (xBe N d).c_laws_toValueS, xD2 N (xBe N d).c_laws_toValue (xBe N d).c_laws_toValueS⟩
def xA8 (N : Nat) (a0 : Val) : Option (Val) := (xBe N N).c_laws_toValue a0
def xEl (a0 : Int) (a1 : Int) (a2 : Int) : List Arg := [.val (.v false [.int .i64 a0]), .val (.v false [.int .i64 a1]), .val (.v false [.int .i64 a2])]
def xCM (r : Bool) : CallO := ⟨.v false [.bool r], [], []⟩
def xGK (N : Nat) (a0 : Int) (a1 : Int) (a2 : Int) : Option (Bool) :=
  bif (decide ((a0 : Int) ≥ a1)) then (
    some (decide ((a0 : Int) ≤ a2))
  ) else (
    some false
  )
def xBT (a0 : Int) : List Arg := [.val (.v false [.int .i64 a0])]
def xA3 (r : Bool) : CallO := ⟨.v false [.bool r], [], []⟩
def xDo (N : Nat) (a0 : Int) : Option (Bool) :=
  Option.bind (xGK N a0 (-1000000000) 1000000000) fun r1 =>
  some r1
def xEs (a0 : Str) : List Arg := [.val (.v false [.str a0])]
def xBP (r : Bool) : CallO := ⟨.v false [.bool r], [], []⟩
def xB2 (N : Nat) : Nat → Str → Int → Option (Bool)
  | 0, _, _ => none
  | n + 1, x0, x3 =>
    bif (decide ((x3 : Int) < (List.length x0 : Int))) then (
      if (0 : Int) ≤ x3 ∧ x3 < (List.length x0) then
      bif (decide ((((List.getD x0 (Int.toNat x3) 0).toNat : Int) : Int) < 32)) then (
        some false
      ) else (
        bif (decide ((((List.getD x0 (Int.toNat x3) 0).toNat : Int) : Int) > 126)) then (
          some false
        ) else (
          bif ((((List.getD x0 (Int.toNat x3) 0).toNat : Int) : Int) == 34) then (
            some false
          ) else (
            (xB2 N n x0 (IntKind.i64.wrap (x3 + 1)))
          )
        )
      )
      else none
    ) else (
      some (decide (((List.length x0 : Int) : Int) ≤ 20))
    )
def xFt (N : Nat) (a0 : Str) : Option (Bool) :=
  (xB2 N N a0 0)
def xCw (a0 : Val) : List Arg := [.val (.v true [.int .i64 (Val.kind a0), .int .i64 (Val.n a0), .int .i64 (Val.step a0), .str (Val.text a0), .sl .ro .val (Val.list a0), .sl .ro .str (Val.columns a0), .sl .ro .row (Val.rows a0)])]
def xBF (r : Bool) : CallO := ⟨.v false [.bool r], [], []⟩
def xGd (N : Nat) (a0 : Val) : Option (Bool) :=
  bif (((Val.kind a0) : Int) == 1) then (
    some true
  ) else (
    bif (((Val.kind a0) : Int) == 2) then (
      some true
    ) else (
      some (((Val.kind a0) : Int) == 3)
    )
  )
def xFN (a0 : Int) (a1 : Int) : List Arg := [.val (.v false [.int .i64 a0]), .val (.v false [.int .i64 a1])]
def xE3 (r : Int) : CallO := ⟨.v false [.int .i64 r], [], []⟩
def xHa (N : Nat) (a0 : Int) (a1 : Int) : Option (Int) :=
  bif (decide ((a0 : Int) > a1)) then (
    some a0
  ) else (
    some a1
  )
def xDI (a0 : Val) : List Arg := [.val (.v true [.int .i64 (Val.kind a0), .int .i64 (Val.n a0), .int .i64 (Val.step a0), .str (Val.text a0), .sl .ro .val (Val.list a0), .sl .ro .str (Val.columns a0), .sl .ro .row (Val.rows a0)])]
def xCd (r : Int) : CallO := ⟨.v false [.int .i64 r], [], []⟩
def xEi (N : Nat) (q0 : Val → Option (Int)) : Nat → Int → Int → Val → Option (Int)
  | 0, _, _, _ => none
  | n + 1, x3, x4, b1 =>
    bif (decide ((x4 : Int) < (List.length (Val.list b1) : Int))) then (
      if (0 : Int) ≤ x4 ∧ x4 < (List.length (Val.list b1)) then
      Option.bind (q0 (List.getD (Val.list b1) (Int.toNat x4) Ty.val.dflt)) fun r1 =>
      Option.bind (xHa N x3 r1) fun r2 =>
      (xEi N q0 n r2 (IntKind.i64.wrap (x4 + 1)) b1)
      else none
    ) else (
      some (IntKind.i64.wrap (x3 + 1))
    )
def xFZ (N : Nat) (q0 : Val → Option (Int)) (a0 : Val) : Option (Int) :=
  (xEi N q0 N 0 0 a0)
def xDg (N : Nat) : Nat → Val → Option (Int)
  | 0, _ => none
  | d + 1, a0 => xFZ N (xDg N d) a0
def xGQ (N : Nat) (a0 : Val) : Option (Int) := xDg N N a0
def xEj (a0 : Str) : List Arg := [.val (.v false [.str a0])]
def xBf (r : Bool) : CallO := ⟨.v false [.bool r], [], []⟩
def xCe (N : Nat) : Nat → Str → Int → Option (Bool)
  | 0, _, _ => none
  | n + 1, x0, x3 =>
    bif (decide ((x3 : Int) < (List.length x0 : Int))) then (
      if (0 : Int) ≤ x3 ∧ x3 < (List.length x0) then
      bif (decide ((((List.getD x0 (Int.toNat x3) 0).toNat : Int) : Int) ≥ 97)) then (
        bif (decide ((((List.getD x0 (Int.toNat x3) 0).toNat : Int) : Int) ≥ 48)) then (
          bif (!(decide ((((List.getD x0 (Int.toNat x3) 0).toNat : Int) : Int) ≤ 122))) then (
            bif ((x3 : Int) == 0) then (
              some false
            ) else (
              bif (!(decide ((((List.getD x0 (Int.toNat x3) 0).toNat : Int) : Int) ≤ 57))) then (
                some false
              ) else (
                (xCe N n x0 (IntKind.i64.wrap (x3 + 1)))
              )
            )
          ) else (
            (xCe N n x0 (IntKind.i64.wrap (x3 + 1)))
          )
        ) else (
          bif (!(decide ((((List.getD x0 (Int.toNat x3) 0).toNat : Int) : Int) ≤ 122))) then (
            bif ((x3 : Int) == 0) then (
              some false
            ) else (
              some false
            )
          ) else (
            (xCe N n x0 (IntKind.i64.wrap (x3 + 1)))
          )
        )
      ) else (
        bif (decide ((((List.getD x0 (Int.toNat x3) 0).toNat : Int) : Int) ≥ 48)) then (
          bif ((x3 : Int) == 0) then (
            some false
          ) else (
            bif (!(decide ((((List.getD x0 (Int.toNat x3) 0).toNat : Int) : Int) ≤ 57))) then (
              some false
            ) else (
              (xCe N n x0 (IntKind.i64.wrap (x3 + 1)))
            )
          )
        ) else (
          bif ((x3 : Int) == 0) then (
            some false
          ) else (
            some false
          )
        )
      )
      else none
    ) else (
      some (decide (((List.length x0 : Int) : Int) > 0))
    )
def xGT (N : Nat) (a0 : Str) : Option (Bool) :=
  (xCe N N a0 0)
def xEM : List Arg := []
def xD4 (r : (List Str)) : CallO := ⟨.v false [.sl .own .str r], [], []⟩
def xFO (N : Nat) : Option ((List Str)) :=
  some [[108, 101, 116], [105, 110], [105, 102], [116, 104, 101, 110], [101, 108, 115, 101], [102, 111, 114], [100, 111], [108, 101, 110], [115, 117, 109], [116, 97, 107, 101], [115, 107, 105, 112], [114, 97, 110, 103, 101], [110, 116, 104], [119, 104, 101, 114, 101], [107, 101, 101, 112], [97, 100, 100], [103, 114, 111, 117, 112], [106, 111, 105, 110], [99, 111, 108, 117, 109, 110], [114, 111, 119, 115], [99, 108, 111, 99, 107], [99, 104, 97, 110, 99, 101], [102, 105, 108, 101], [116, 97, 98, 108, 101]]
def xE2 (a0 : List Str) (a1 : Str) : List Arg := [.val (.v false [.sl .ro .str a0]), .val (.v false [.str a1])]
def xCG (r : Bool) : CallO := ⟨.v false [.bool r], [], []⟩
def xEt (N : Nat) : Nat → (List Str) → Str → Int → Option (Bool)
  | 0, _, _, _ => none
  | n + 1, x0, x1, x5 =>
    bif (decide ((x5 : Int) < (List.length x0 : Int))) then (
      if (0 : Int) ≤ x5 ∧ x5 < (List.length x0) then
      bif (((List.getD x0 (Int.toNat x5) Ty.str.dflt) : Str) == x1) then (
        some true
      ) else (
        (xEt N n x0 x1 (IntKind.i64.wrap (x5 + 1)))
      )
      else none
    ) else (
      some false
    )
def xG9 (N : Nat) (a0 : List Str) (a1 : Str) : Option (Bool) :=
  (xEt N N a0 a1 0)
def xEL (a0 : Str) : List Arg := [.val (.v false [.str a0])]
def xD3 (r : Bool) : CallO := ⟨.v false [.bool r], [], []⟩
def xER (N : Nat) (a0 : Str) : Option (Bool) :=
  Option.bind (xFO N) fun r1 =>
  Option.bind (xG9 N r1 a0) fun r2 =>
  some r2
def xBh (a0 : Str) : List Arg := [.val (.v false [.str a0])]
def xAP (r : Bool) : CallO := ⟨.v false [.bool r], [], []⟩
def xDX (N : Nat) (a0 : Str) : Option (Bool) :=
  Option.bind (xGT N a0) fun r1 =>
  bif r1 then (
    bif (decide (((List.length a0 : Int) : Int) ≤ 8)) then (
      Option.bind (xER N a0) fun r2 =>
      some (!r2)
    ) else (
      some false
    )
  ) else (
    some false
  )
def xEr (a0 : List Str) : List Arg := [.val (.v false [.sl .ro .str a0])]
def xCq (r : Bool) : CallO := ⟨.v false [.bool r], [], []⟩
def xCp (N : Nat) : Nat → (List Str) → Int → Option (Bool)
  | 0, _, _ => none
  | n + 1, x0, x3 =>
    bif (decide ((x3 : Int) < (List.length x0 : Int))) then (
      if (0 : Int) ≤ x3 ∧ x3 ≤ (List.length x0) then
      if (0 : Int) ≤ x3 ∧ x3 < (List.length x0) then
      Option.bind (xG9 N (List.take (Int.toNat x3) x0) (List.getD x0 (Int.toNat x3) Ty.str.dflt)) fun r1 =>
      bif r1 then (
        some false
      ) else (
        (xCp N n x0 (IntKind.i64.wrap (x3 + 1)))
      )
      else none
      else none
    ) else (
      some true
    )
def xFs (N : Nat) (a0 : List Str) : Option (Bool) :=
  (xCp N N a0 0)
def xDw (a0 : List Str) : List Arg := [.val (.v false [.sl .ro .str a0])]
def xBz (r : Bool) : CallO := ⟨.v false [.bool r], [], []⟩
def xDx (N : Nat) : Nat → (List Str) → Int → Option (Bool)
  | 0, _, _ => none
  | n + 1, x0, x3 =>
    bif (decide ((x3 : Int) < (List.length x0 : Int))) then (
      if (0 : Int) ≤ x3 ∧ x3 < (List.length x0) then
      Option.bind (xDX N (List.getD x0 (Int.toNat x3) Ty.str.dflt)) fun r1 =>
      bif (!r1) then (
        some false
      ) else (
        (xDx N n x0 (IntKind.i64.wrap (x3 + 1)))
      )
      else none
    ) else (
      Option.bind (xGK N (List.length x0 : Int) 1 4) fun r1 =>
      bif r1 then (
        Option.bind (xFs N x0) fun r2 =>
        some r2
      ) else (
        some false
      )
    )
def xGc (N : Nat) (a0 : List Str) : Option (Bool) :=
  (xDx N N a0 0)
def xDh (a0 : Org) (a1 : Org) : List Arg := [.val (.v true [.int .i64 (Org.cell a0), .int .i64 (Org.row a0)]), .val (.v true [.int .i64 (Org.cell a1), .int .i64 (Org.row a1)])]
def xCl (r : Bool) : CallO := ⟨.v false [.bool r], [], []⟩
def xFP (N : Nat) (a0 : Org) (a1 : Org) : Option (Bool) :=
  bif (decide (((Org.cell a0) : Int) < (Org.cell a1))) then (
    some true
  ) else (
    bif (((Org.cell a0) : Int) == (Org.cell a1)) then (
      some (decide (((Org.row a0) : Int) < (Org.row a1)))
    ) else (
      some false
    )
  )
def xDL (a0 : List Org) : List Arg := [.val (.v false [.sl .ro .org a0])]
def xBs (r : Bool) : CallO := ⟨.v false [.bool r], [], []⟩
def xB3 (N : Nat) : Nat → (List Org) → Int → Option (Bool)
  | 0, _, _ => none
  | n + 1, x0, x3 =>
    bif (decide ((x3 : Int) < (List.length x0 : Int))) then (
      if (0 : Int) ≤ x3 ∧ x3 < (List.length x0) then
      bif (decide (((Org.cell (List.getD x0 (Int.toNat x3) Ty.org.dflt)) : Int) < 0)) then (
        some false
      ) else (
        bif (decide (((Org.row (List.getD x0 (Int.toNat x3) Ty.org.dflt)) : Int) < 0)) then (
          some false
        ) else (
          bif (decide ((x3 : Int) > 0)) then (
            if (0 : Int) ≤ (IntKind.i64.wrap (x3 - 1)) ∧ (IntKind.i64.wrap (x3 - 1)) < (List.length x0) then
            Option.bind (xFP N (List.getD x0 (Int.toNat (IntKind.i64.wrap (x3 - 1))) Ty.org.dflt) (List.getD x0 (Int.toNat x3) Ty.org.dflt)) fun r1 =>
            bif (!r1) then (
              some false
            ) else (
              (xB3 N n x0 (IntKind.i64.wrap (x3 + 1)))
            )
            else none
          ) else (
            (xB3 N n x0 (IntKind.i64.wrap (x3 + 1)))
          )
        )
      )
      else none
    ) else (
      some true
    )
def xFu (N : Nat) (a0 : List Org) : Option (Bool) :=
  (xB3 N N a0 0)
def xEk (a0 : Val) : List Arg := [.val (.v true [.int .i64 (Val.kind a0), .int .i64 (Val.n a0), .int .i64 (Val.step a0), .str (Val.text a0), .sl .ro .val (Val.list a0), .sl .ro .str (Val.columns a0), .sl .ro .row (Val.rows a0)])]
def xBG (r : Bool) : CallO := ⟨.v false [.bool r], [], []⟩
def xDi (N : Nat) (k4 : Int → Val → Option (Bool)) : Nat → Int → Int → Val → Rowd → Option (Bool)
  | 0, _, _, _, _ => none
  | n + 1, x3, x5, b1, b4 =>
    bif (decide ((x5 : Int) < (List.length (Rowd.cells b4) : Int))) then (
      if (0 : Int) ≤ x5 ∧ x5 < (List.length (Rowd.cells b4)) then
      Option.bind (xDo N (List.getD (Rowd.cells b4) (Int.toNat x5) Ty.int.dflt)) fun r1 =>
      bif (!r1) then (
        some false
      ) else (
        (xDi N k4 n x3 (IntKind.i64.wrap (x5 + 1)) b1 b4)
      )
      else none
    ) else (
      (k4 (IntKind.i64.wrap (x3 + 1)) b1)
    )
def xDN (N : Nat) : Nat → Int → Val → Option (Bool)
  | 0, _, _ => none
  | n + 1, x3, b1 =>
    bif (decide ((x3 : Int) < (List.length (Val.rows b1) : Int))) then (
      if (0 : Int) ≤ x3 ∧ x3 < (List.length (Val.rows b1)) then
      bif (((List.length (Rowd.cells (List.getD (Val.rows b1) (Int.toNat x3) Ty.row.dflt)) : Int) : Int) != (List.length (Val.columns b1) : Int)) then (
        some false
      ) else (
        Option.bind (xFu N (Rowd.frm (List.getD (Val.rows b1) (Int.toNat x3) Ty.row.dflt))) fun r1 =>
        bif (!r1) then (
          some false
        ) else (
          (xDi N (fun z0 z1 => (xDN N n z0 z1)) N x3 0 b1 (List.getD (Val.rows b1) (Int.toNat x3) Ty.row.dflt))
        )
      )
      else none
    ) else (
      some true
    )
def xGk (N : Nat) (a0 : Val) : Option (Bool) :=
  Option.bind (xGc N (Val.columns a0)) fun r1 =>
  bif (!r1) then (
    some false
  ) else (
    bif (decide (((List.length (Val.rows a0) : Int) : Int) > 12)) then (
      some false
    ) else (
      (xDN N N 0 a0)
    )
  )
def xAE (a0 : Val) : List Arg := [.val (.v true [.int .i64 (Val.kind a0), .int .i64 (Val.n a0), .int .i64 (Val.step a0), .str (Val.text a0), .sl .ro .val (Val.list a0), .sl .ro .str (Val.columns a0), .sl .ro .row (Val.rows a0)])]
def xAy (r : Bool) : CallO := ⟨.v false [.bool r], [], []⟩
def xCP (N : Nat) (q0 : Val → Option (Bool)) (q1 : Val → Option (Bool)) (a0 : Val) : Option (Bool) :=
  bif (((Val.kind a0) : Int) != 3) then (
    bif (decide (((List.length (Val.list a0) : Int) : Int) > 0)) then (
      some false
    ) else (
      bif (((Val.kind a0) : Int) != 5) then (
        bif (decide (((IntKind.i64.wrap ((List.length (Val.columns a0) : Int) + (List.length (Val.rows a0) : Int))) : Int) > 0)) then (
          some false
        ) else (
          bif (((Val.kind a0) : Int) != 2) then (
            bif (!(((Val.text a0) : Str) == [])) then (
              some false
            ) else (
              bif (((Val.kind a0) : Int) != 4) then (
                bif (((Val.step a0) : Int) != 0) then (
                  some false
                ) else (
                  bif (((Val.kind a0) : Int) == 1) then (
                    Option.bind (xDo N (Val.n a0)) fun r1 =>
                    some r1
                  ) else (
                    bif (((Val.kind a0) : Int) == 6) then (
                      Option.bind (xGK N (Val.n a0) 1 8) fun r1 =>
                      some r1
                    ) else (
                      some false
                    )
                  )
                )
              ) else (
                Option.bind (xDo N (Val.n a0)) fun r1 =>
                bif r1 then (
                  Option.bind (xDo N (Val.step a0)) fun r2 =>
                  some r2
                ) else (
                  some false
                )
              )
            )
          ) else (
            bif (((Val.step a0) : Int) != 0) then (
              some false
            ) else (
              bif (((Val.n a0) : Int) == 0) then (
                Option.bind (xFt N (Val.text a0)) fun r1 =>
                some r1
              ) else (
                some false
              )
            )
          )
        )
      ) else (
        bif (!(((Val.text a0) : Str) == [])) then (
          some false
        ) else (
          bif (((Val.step a0) : Int) != 0) then (
            some false
          ) else (
            bif (((Val.n a0) : Int) == 0) then (
              Option.bind (xGk N a0) fun r1 =>
              some r1
            ) else (
              some false
            )
          )
        )
      )
    )
  ) else (
    bif (decide (((IntKind.i64.wrap ((List.length (Val.columns a0) : Int) + (List.length (Val.rows a0) : Int))) : Int) > 0)) then (
      some false
    ) else (
      bif (!(((Val.text a0) : Str) == [])) then (
        some false
      ) else (
        bif (((Val.step a0) : Int) != 0) then (
          some false
        ) else (
          bif (((Val.n a0) : Int) == 0) then (
            Option.bind (q1 a0) fun r1 =>
            some r1
          ) else (
            some false
          )
        )
      )
    )
  )
def xFg (a0 : Val) : List Arg := [.val (.v true [.int .i64 (Val.kind a0), .int .i64 (Val.n a0), .int .i64 (Val.step a0), .str (Val.text a0), .sl .ro .val (Val.list a0), .sl .ro .str (Val.columns a0), .sl .ro .row (Val.rows a0)])]
def xCA (r : Bool) : CallO := ⟨.v false [.bool r], [], []⟩
def xDp (N : Nat) (q0 : Val → Option (Bool)) (q1 : Val → Option (Bool)) : Nat → Int → Val → Option (Bool)
  | 0, _, _ => none
  | n + 1, x3, b1 =>
    bif (decide ((x3 : Int) < (List.length (Val.list b1) : Int))) then (
      if (0 : Int) ≤ x3 ∧ x3 < (List.length (Val.list b1)) then
      Option.bind (xGd N (List.getD (Val.list b1) (Int.toNat x3) Ty.val.dflt)) fun r1 =>
      bif (!r1) then (
        some false
      ) else (
        Option.bind (q0 (List.getD (Val.list b1) (Int.toNat x3) Ty.val.dflt)) fun r2 =>
        bif (!r2) then (
          some false
        ) else (
          (xDp N q0 q1 n (IntKind.i64.wrap (x3 + 1)) b1)
        )
      )
      else none
    ) else (
      bif (decide (((List.length (Val.list b1) : Int) : Int) ≤ 8)) then (
        Option.bind (xGQ N b1) fun r1 =>
        some (decide ((r1 : Int) ≤ 3))
      ) else (
        some false
      )
    )
def xGn (N : Nat) (q0 : Val → Option (Bool)) (q1 : Val → Option (Bool)) (a0 : Val) : Option (Bool) :=
  (xDp N q0 q1 N 0 a0)
structure spec_IsValidValue_rec where
  c_spec_IsValidValue : Val → Option (Bool)
  c_spec_l3List : Val → Option (Bool)
def xAL (N : Nat) : Nat → spec_IsValidValue_rec
  | 0 => ⟨fun _ => none, fun _ => none⟩
  | d + 1 => ⟨xCP N (xAL N d).c_spec_IsValidValue (xAL N d).c_spec_l3List, xGn N (xAL N d).c_spec_IsValidValue (xAL N d).c_spec_l3List⟩
def xF0 (N : Nat) (a0 : Val) : Option (Bool) := (xAL N N).c_spec_IsValidValue a0
def xBr (a0 : Int) : List Arg := [.val (.v false [.int .i64 a0])]
def xAR (r : Val) : CallO := ⟨.v true [.int .i64 (Val.kind r), .int .i64 (Val.n r), .int .i64 (Val.step r), .str (Val.text r), .sl .own .val (Val.list r), .sl .own .str (Val.columns r), .sl .own .row (Val.rows r)], [], []⟩
def xA6 (N : Nat) (a0 : Int) : Option (Val) :=
  some (Val.mk 6 a0 0 [] [] [] [])
def xES (a0 : List Val) : List Arg := [.val (.v false [.sl .ro .val a0])]
def xCg (r : Val × Bool) : CallO := ⟨.tup [(true, [.int .i64 (Val.kind r.1), .int .i64 (Val.n r.1), .int .i64 (Val.step r.1), .str (Val.text r.1), .sl .own .val (Val.list r.1), .sl .own .str (Val.columns r.1), .sl .own .row (Val.rows r.1)]), (false, [.bool r.2])], [], []⟩
def xC1 (N : Nat) : Nat → (List Val) → Int → Val → Option (Val × Bool)
  | 0, _, _, _ => none
  | n + 1, x0, x4, b2 =>
    bif (decide ((x4 : Int) < (List.length x0 : Int))) then (
      if (0 : Int) ≤ x4 ∧ x4 < (List.length x0) then
      Option.bind (xF0 N (List.getD x0 (Int.toNat x4) Ty.val.dflt)) fun r1 =>
      bif (!r1) then (
        Option.bind (xA6 N 4) fun r2 =>
        some (r2, true)
      ) else (
        bif (((Val.kind (List.getD x0 (Int.toNat x4) Ty.val.dflt)) : Int) == 6) then (
          Option.bind (xA6 N (Val.n (List.getD x0 (Int.toNat x4) Ty.val.dflt))) fun r2 =>
          some (r2, true)
        ) else (
          (xC1 N n x0 (IntKind.i64.wrap (x4 + 1)) b2)
        )
      )
      else none
    ) else (
      some ((Val.mk 0 0 0 [] [] [] []), false)
    )
def xGV (N : Nat) (a0 : List Val) : Option (Val × Bool) :=
  (xC1 N N a0 0 (Val.mk 0 0 0 [] [] [] []))
def xB4 (a0 : List Val) (a1 : List Int) : List Arg := [.val (.v false [.sl .ro .val a0]), .val (.v false [.sl .ro .int a1])]
def xA7 (r : Val × Bool) : CallO := ⟨.tup [(true, [.int .i64 (Val.kind r.1), .int .i64 (Val.n r.1), .int .i64 (Val.step r.1), .str (Val.text r.1), .sl .own .val (Val.list r.1), .sl .own .str (Val.columns r.1), .sl .own .row (Val.rows r.1)]), (false, [.bool r.2])], [], []⟩
def xC2 (N : Nat) : Nat → (List Val) → (List Int) → Int → Val → Option (Val × Bool)
  | 0, _, _, _, _ => none
  | n + 1, x0, x1, x8, b4 =>
    bif (decide ((x8 : Int) < (List.length x0 : Int))) then (
      if (0 : Int) ≤ x8 ∧ x8 < (List.length x0) then
      if (0 : Int) ≤ x8 ∧ x8 < (List.length x1) then
      bif (((Val.kind (List.getD x0 (Int.toNat x8) Ty.val.dflt)) : Int) != (List.getD x1 (Int.toNat x8) Ty.int.dflt)) then (
        Option.bind (xA6 N 4) fun r1 =>
        some (r1, true)
      ) else (
        (xC2 N n x0 x1 (IntKind.i64.wrap (x8 + 1)) b4)
      )
      else none
      else none
    ) else (
      some ((Val.mk 0 0 0 [] [] [] []), false)
    )
def xGl (N : Nat) (a0 : List Val) (a1 : List Int) : Option (Val × Bool) :=
  Option.bind (xGV N a0) fun r1 =>
  bif r1.2 then (
    some (r1.1, true)
  ) else (
    (xC2 N N a0 a1 0 (Val.mk 0 0 0 [] [] [] []))
  )
def xFM (a0 : List Str) (a1 : Str) : List Arg := [.val (.v false [.sl .ro .str a0]), .val (.v false [.str a1])]
def xDK (r : Int) : CallO := ⟨.v false [.int .i64 r], [], []⟩
def xDJ (N : Nat) : Nat → (List Str) → Str → Int → Option (Int)
  | 0, _, _, _ => none
  | n + 1, x0, x1, x5 =>
    bif (decide ((x5 : Int) < (List.length x0 : Int))) then (
      if (0 : Int) ≤ x5 ∧ x5 < (List.length x0) then
      bif (((List.getD x0 (Int.toNat x5) Ty.str.dflt) : Str) == x1) then (
        some x5
      ) else (
        (xDJ N n x0 x1 (IntKind.i64.wrap (x5 + 1)))
      )
      else none
    ) else (
      some (-1)
    )
def xGR (N : Nat) (a0 : List Str) (a1 : Str) : Option (Int) :=
  (xDJ N N a0 a1 0)
def xAQ (a0 : Val) (a1 : Str) : List Arg := [.val (.v true [.int .i64 (Val.kind a0), .int .i64 (Val.n a0), .int .i64 (Val.step a0), .str (Val.text a0), .sl .ro .val (Val.list a0), .sl .ro .str (Val.columns a0), .sl .ro .row (Val.rows a0)]), .val (.v false [.str a1])]
def xAA (r : Int) : CallO := ⟨.v false [.int .i64 r], [], []⟩
def xDf (N : Nat) (a0 : Val) (a1 : Str) : Option (Int) :=
  Option.bind (xGR N (Val.columns a0) a1) fun r1 =>
  some r1
def xGu (a0 : Rowd) : List Arg := [.val (.v true [.sl .ro .int (Rowd.cells a0), .sl .ro .org (Rowd.frm a0)])]
def xFQ (r : Rowd) : CallO := ⟨.v true [.sl .own .int (Rowd.cells r), .sl .own .org (Rowd.frm r)], [], []⟩
def xHb (N : Nat) (a0 : Rowd) : Option (Rowd) :=
  if 0 + List.length (Rowd.cells a0) ≤ Lim then
  if 0 + List.length (Rowd.frm a0) ≤ Lim then
  some (Rowd.mk ([] ++ (Rowd.cells a0)) ([] ++ (Rowd.frm a0)))
  else none
  else none
def xD8 (a0 : Val) : List Arg := [.val (.v true [.int .i64 (Val.kind a0), .int .i64 (Val.n a0), .int .i64 (Val.step a0), .str (Val.text a0), .sl .ro .val (Val.list a0), .sl .ro .str (Val.columns a0), .sl .ro .row (Val.rows a0)])]
def xCf (r : Val) : CallO := ⟨.v true [.int .i64 (Val.kind r), .int .i64 (Val.n r), .int .i64 (Val.step r), .str (Val.text r), .sl .own .val (Val.list r), .sl .own .str (Val.columns r), .sl .own .row (Val.rows r)], [], []⟩
def xD9 (N : Nat) (q0 : Val → Option (Val)) : Nat → Int → Val → Val → Val → Option (Val)
  | 0, _, _, _, _ => none
  | n + 1, x5, b1, b2, b3 =>
    bif (decide ((x5 : Int) < (List.length (Val.rows b1) : Int))) then (
      if (0 : Int) ≤ x5 ∧ x5 < (List.length (Val.rows b1)) then
      Option.bind (xHb N (List.getD (Val.rows b1) (Int.toNat x5) Ty.row.dflt)) fun r1 =>
      if List.length (Val.rows b3) + List.length [r1] ≤ Lim then
      (xD9 N q0 n (IntKind.i64.wrap (x5 + 1)) b1 b2 (Val.mk (Val.kind b3) (Val.n b3) (Val.step b3) (Val.text b3) (Val.list b3) (Val.columns b3) ((Val.rows b3) ++ [r1])))
      else none
      else none
    ) else (
      some b3
    )
def xEG (N : Nat) (q0 : Val → Option (Val)) : Nat → Int → Val → Val → Val → Option (Val)
  | 0, _, _, _, _ => none
  | n + 1, x4, b1, b2, b3 =>
    bif (decide ((x4 : Int) < (List.length (Val.list b1) : Int))) then (
      if (0 : Int) ≤ x4 ∧ x4 < (List.length (Val.list b1)) then
      Option.bind (q0 (List.getD (Val.list b1) (Int.toNat x4) Ty.val.dflt)) fun r1 =>
      if List.length (Val.list b3) + List.length [(Val.re r1)] ≤ Lim then
      (xEG N q0 n (IntKind.i64.wrap (x4 + 1)) b1 b2 (Val.mk (Val.kind b3) (Val.n b3) (Val.step b3) (Val.text b3) ((Val.list b3) ++ [(Val.re r1)]) (Val.columns b3) (Val.rows b3)))
      else none
      else none
    ) else (
      (xD9 N q0 N 0 b1 b2 b3)
    )
def xEz (N : Nat) (q0 : Val → Option (Val)) (a0 : Val) : Option (Val) :=
  if 0 + List.length (Val.columns a0) ≤ Lim then
  (xEG N q0 N 0 a0 (Val.mk 0 0 0 [] [] [] []) (Val.mk (Val.kind a0) (Val.n a0) (Val.step a0) (Val.text a0) [] ([] ++ (Val.columns a0)) []))
  else none
def xDM (N : Nat) : Nat → Val → Option (Val)
  | 0, _ => none
  | d + 1, a0 => xEz N (xDM N d) a0
def xIh (N : Nat) (a0 : Val) : Option (Val) := xDM N N a0
def xAx (a0 : Val) (a1 : Val) (a2 : Val) (a3 : Val) : List Arg := [.val (.v true [.int .i64 (Val.kind a0), .int .i64 (Val.n a0), .int .i64 (Val.step a0), .str (Val.text a0), .sl .ro .val (Val.list a0), .sl .ro .str (Val.columns a0), .sl .ro .row (Val.rows a0)]), .val (.v true [.int .i64 (Val.kind a1), .int .i64 (Val.n a1), .int .i64 (Val.step a1), .str (Val.text a1), .sl .ro .val (Val.list a1), .sl .ro .str (Val.columns a1), .sl .ro .row (Val.rows a1)]), .val (.v true [.int .i64 (Val.kind a2), .int .i64 (Val.n a2), .int .i64 (Val.step a2), .str (Val.text a2), .sl .ro .val (Val.list a2), .sl .ro .str (Val.columns a2), .sl .ro .row (Val.rows a2)]), .val (.v true [.int .i64 (Val.kind a3), .int .i64 (Val.n a3), .int .i64 (Val.step a3), .str (Val.text a3), .sl .ro .val (Val.list a3), .sl .ro .str (Val.columns a3), .sl .ro .row (Val.rows a3)])]
def xAo (r : Val) : CallO := ⟨.v true [.int .i64 (Val.kind r), .int .i64 (Val.n r), .int .i64 (Val.step r), .str (Val.text r), .sl .own .val (Val.list r), .sl .own .str (Val.columns r), .sl .own .row (Val.rows r)], [], []⟩
def xCa (N : Nat) : Nat → Int → Int → Int → Val → Val → Val → Option (Val)
  | 0, _, _, _, _, _, _ => none
  | n + 1, x11, x12, x14, b7, b8, b13 =>
    bif (decide ((x14 : Int) < (List.length (Val.rows b13) : Int))) then (
      if (0 : Int) ≤ x14 ∧ x14 < (List.length (Val.rows b7)) then
      if (0 : Int) ≤ x11 ∧ x11 < (List.length (Rowd.cells (List.getD (Val.rows b7) (Int.toNat x14) Ty.row.dflt))) then
      if (0 : Int) ≤ x12 ∧ x12 < (List.length (Rowd.cells (List.getD (Val.rows b7) (Int.toNat x14) Ty.row.dflt))) then
      Option.bind (xDo N (IntKind.i64.wrap ((List.getD (Rowd.cells (List.getD (Val.rows b7) (Int.toNat x14) Ty.row.dflt)) (Int.toNat x11) Ty.int.dflt) + (List.getD (Rowd.cells (List.getD (Val.rows b7) (Int.toNat x14) Ty.row.dflt)) (Int.toNat x12) Ty.int.dflt)))) fun r1 =>
      bif (!r1) then (
        Option.bind (xA6 N 5) fun r2 =>
        some r2
      ) else (
        if (0 : Int) ≤ x14 ∧ x14 < (List.length (Val.rows b13)) then
        if List.length (Rowd.cells (List.getD (Val.rows b13) (Int.toNat x14) Ty.row.dflt)) + List.length [(IntKind.i64.wrap ((List.getD (Rowd.cells (List.getD (Val.rows b7) (Int.toNat x14) Ty.row.dflt)) (Int.toNat x11) Ty.int.dflt) + (List.getD (Rowd.cells (List.getD (Val.rows b7) (Int.toNat x14) Ty.row.dflt)) (Int.toNat x12) Ty.int.dflt)))] ≤ Lim then
        (xCa N n x11 x12 (IntKind.i64.wrap (x14 + 1)) b7 b8 (Val.mk (Val.kind b13) (Val.n b13) (Val.step b13) (Val.text b13) (Val.list b13) (Val.columns b13) (List.set (Val.rows b13) (Int.toNat x14) (Rowd.mk ((Rowd.cells (List.getD (Val.rows b13) (Int.toNat x14) Ty.row.dflt)) ++ [(IntKind.i64.wrap ((List.getD (Rowd.cells (List.getD (Val.rows b7) (Int.toNat x14) Ty.row.dflt)) (Int.toNat x11) Ty.int.dflt) + (List.getD (Rowd.cells (List.getD (Val.rows b7) (Int.toNat x14) Ty.row.dflt)) (Int.toNat x12) Ty.int.dflt)))]) (Rowd.frm (List.getD (Val.rows b13) (Int.toNat x14) Ty.row.dflt))))))
        else none
        else none
      )
      else none
      else none
      else none
    ) else (
      some b13
    )
def xCc (N : Nat) (a0 : Val) (a1 : Val) (a2 : Val) (a3 : Val) : Option (Val) :=
  Option.bind (xGl N [(Val.re a0), (Val.re a1), (Val.re a2), (Val.re a3)] [2, 2, 2, 5]) fun r1 =>
  bif r1.2 then (
    some r1.1
  ) else (
    Option.bind (xDf N a3 (Val.text a1)) fun r2 =>
    Option.bind (xDf N a3 (Val.text a2)) fun r3 =>
    Option.bind (xDX N (Val.text a0)) fun r4 =>
    bif (!r4) then (
      Option.bind (xA6 N 7) fun r5 =>
      some r5
    ) else (
      Option.bind (xDf N a3 (Val.text a0)) fun r5 =>
      bif (decide ((r5 : Int) ≥ 0)) then (
        Option.bind (xA6 N 7) fun r6 =>
        some r6
      ) else (
        bif (decide ((r2 : Int) < 0)) then (
          Option.bind (xA6 N 7) fun r6 =>
          some r6
        ) else (
          bif (decide ((r3 : Int) < 0)) then (
            Option.bind (xA6 N 7) fun r6 =>
            some r6
          ) else (
            bif (((List.length (Val.columns a3) : Int) : Int) == 4) then (
              Option.bind (xA6 N 6) fun r6 =>
              some r6
            ) else (
              Option.bind (xIh N a3) fun r6 =>
              if List.length (Val.columns r6) + List.length [(Val.text a0)] ≤ Lim then
              (xCa N N r2 r3 0 a3 (Val.mk 0 0 0 [] [] [] []) (Val.mk (Val.kind r6) (Val.n r6) (Val.step r6) (Val.text r6) (Val.list r6) ((Val.columns r6) ++ [(Val.text a0)]) (Val.rows r6)))
              else none
            )
          )
        )
      )
    )
  )
def xC0 (a0 : Int) (a1 : Int) (a2 : Int) : List Arg := [.val (.v false [.int .i64 a0]), .val (.v false [.int .i64 a1]), .val (.v false [.int .i64 a2])]
def xBI (r : Bool) : CallO := ⟨.v false [.bool r], [], []⟩
def xEP (N : Nat) (a0 : Int) (a1 : Int) (a2 : Int) : Option (Bool) :=
  bif (decide ((a1 : Int) ≤ a0)) then (
    some (decide ((a0 : Int) ≤ a2))
  ) else (
    some false
  )
def xBQ (a0 : Int) : List Arg := [.val (.v false [.int .i64 a0])]
def xA2 (r : Bool) : CallO := ⟨.v false [.bool r], [], []⟩
def xDk (N : Nat) (a0 : Int) : Option (Bool) :=
  Option.bind (xEP N a0 (-1000000000) 1000000000) fun r1 =>
  some r1
def xEn (a0 : Str) : List Arg := [.val (.v false [.str a0])]
def xBN (r : Bool) : CallO := ⟨.v false [.bool r], [], []⟩
def xDA (N : Nat) : Nat → Str → Int → Option (Bool)
  | 0, _, _ => none
  | n + 1, x0, x3 =>
    bif (decide ((x3 : Int) < (List.length x0 : Int))) then (
      if (0 : Int) ≤ x3 ∧ x3 < (List.length x0) then
      bif (decide ((((List.getD x0 (Int.toNat x3) 0).toNat : Int) : Int) < 32)) then (
        some false
      ) else (
        bif (decide ((((List.getD x0 (Int.toNat x3) 0).toNat : Int) : Int) > 126)) then (
          some false
        ) else (
          bif ((((List.getD x0 (Int.toNat x3) 0).toNat : Int) : Int) == 34) then (
            some false
          ) else (
            (xDA N n x0 (IntKind.i64.wrap (x3 + 1)))
          )
        )
      )
      else none
    ) else (
      some (decide (((List.length x0 : Int) : Int) ≤ 20))
    )
def xFj (N : Nat) (a0 : Str) : Option (Bool) :=
  (xDA N N a0 0)
def xE9 (a0 : Str) : List Arg := [.val (.v false [.str a0])]
def xBH (r : Bool) : CallO := ⟨.v false [.bool r], [], []⟩
def xCZ (N : Nat) : Nat → Str → Int → Option (Bool)
  | 0, _, _ => none
  | n + 1, x0, x3 =>
    bif (decide ((x3 : Int) < (List.length x0 : Int))) then (
      if (0 : Int) ≤ x3 ∧ x3 < (List.length x0) then
      bif (decide ((((List.getD x0 (Int.toNat x3) 0).toNat : Int) : Int) ≥ 97)) then (
        bif (!(decide ((((List.getD x0 (Int.toNat x3) 0).toNat : Int) : Int) ≤ 122))) then (
          bif ((x3 : Int) == 0) then (
            some false
          ) else (
            bif (decide ((((List.getD x0 (Int.toNat x3) 0).toNat : Int) : Int) < 48)) then (
              some false
            ) else (
              bif (decide ((((List.getD x0 (Int.toNat x3) 0).toNat : Int) : Int) > 57)) then (
                some false
              ) else (
                (xCZ N n x0 (IntKind.i64.wrap (x3 + 1)))
              )
            )
          )
        ) else (
          (xCZ N n x0 (IntKind.i64.wrap (x3 + 1)))
        )
      ) else (
        bif ((x3 : Int) == 0) then (
          some false
        ) else (
          bif (decide ((((List.getD x0 (Int.toNat x3) 0).toNat : Int) : Int) < 48)) then (
            some false
          ) else (
            bif (decide ((((List.getD x0 (Int.toNat x3) 0).toNat : Int) : Int) > 57)) then (
              some false
            ) else (
              (xCZ N n x0 (IntKind.i64.wrap (x3 + 1)))
            )
          )
        )
      )
      else none
    ) else (
      Option.bind (xEP N (List.length x0 : Int) 1 8) fun r1 =>
      some r1
    )
def xHf (N : Nat) (a0 : Str) : Option (Bool) :=
  (xCZ N N a0 0)
def xAK (a0 : Str) : List Arg := [.val (.v false [.str a0])]
def xAJ (r : Int) : CallO := ⟨.v false [.int .i64 r], [], []⟩
def xEH (N : Nat) (a0 : Str) : Option (Int) :=
  bif ((a0 : Str) == [99, 108, 111, 99, 107]) then (
    some 0
  ) else (
    bif ((a0 : Str) == [108, 101, 110]) then (
      some 1
    ) else (
      bif ((a0 : Str) == [115, 117, 109]) then (
        some 1
      ) else (
        bif ((a0 : Str) == [114, 111, 119, 115]) then (
          some 1
        ) else (
          bif ((a0 : Str) == [99, 104, 97, 110, 99, 101]) then (
            some 1
          ) else (
            bif ((a0 : Str) == [102, 105, 108, 101]) then (
              some 1
            ) else (
              bif ((a0 : Str) == [116, 97, 107, 101]) then (
                some 2
              ) else (
                bif ((a0 : Str) == [115, 107, 105, 112]) then (
                  some 2
                ) else (
                  bif ((a0 : Str) == [114, 97, 110, 103, 101]) then (
                    some 2
                  ) else (
                    bif ((a0 : Str) == [110, 116, 104]) then (
                      some 2
                    ) else (
                      bif ((a0 : Str) == [107, 101, 101, 112]) then (
                        some 2
                      ) else (
                        bif ((a0 : Str) == [99, 111, 108, 117, 109, 110]) then (
                          some 2
                        ) else (
                          bif ((a0 : Str) == [116, 97, 98, 108, 101]) then (
                            some 2
                          ) else (
                            bif ((a0 : Str) == [119, 104, 101, 114, 101]) then (
                              some 3
                            ) else (
                              bif ((a0 : Str) == [103, 114, 111, 117, 112]) then (
                                some 3
                              ) else (
                                bif ((a0 : Str) == [106, 111, 105, 110]) then (
                                  some 3
                                ) else (
                                  bif ((a0 : Str) == [97, 100, 100]) then (
                                    some 4
                                  ) else (
                                    some (-1)
                                  )
                                )
                              )
                            )
                          )
                        )
                      )
                    )
                  )
                )
              )
            )
          )
        )
      )
    )
  )
def xBA (a0 : Str) : List Arg := [.val (.v false [.str a0])]
def xBo (r : Bool) : CallO := ⟨.v false [.bool r], [], []⟩
def xEN (N : Nat) (a0 : Str) : Option (Bool) :=
  bif ((a0 : Str) == [108, 101, 116]) then (
    some true
  ) else (
    bif ((a0 : Str) == [105, 110]) then (
      some true
    ) else (
      bif ((a0 : Str) == [105, 102]) then (
        some true
      ) else (
        bif ((a0 : Str) == [116, 104, 101, 110]) then (
          some true
        ) else (
          bif ((a0 : Str) == [101, 108, 115, 101]) then (
            some true
          ) else (
            bif ((a0 : Str) == [102, 111, 114]) then (
              some true
            ) else (
              bif ((a0 : Str) == [100, 111]) then (
                some true
              ) else (
                Option.bind (xEH N a0) fun r1 =>
                some (decide ((r1 : Int) ≥ 0))
              )
            )
          )
        )
      )
    )
  )
def xAV (a0 : Str) : List Arg := [.val (.v false [.str a0])]
def xAD (r : Bool) : CallO := ⟨.v false [.bool r], [], []⟩
def xDa (N : Nat) (a0 : Str) : Option (Bool) :=
  Option.bind (xHf N a0) fun r1 =>
  bif r1 then (
    Option.bind (xEN N a0) fun r2 =>
    some (!r2)
  ) else (
    some false
  )
def xEf (a0 : List Str) (a1 : Str) : List Arg := [.val (.v false [.sl .ro .str a0]), .val (.v false [.str a1])]
def xBZ (r : Int) : CallO := ⟨.v false [.int .i64 r], [], []⟩
def xDz (N : Nat) : Nat → Str → (List Str) → Int → Int → Option (Int)
  | 0, _, _, _, _ => none
  | n + 1, x1, x7, x8, x9 =>
    bif (decide ((x9 : Int) < x8)) then (
      if (0 : Int) ≤ x9 ∧ x9 < (List.length x7) then
      bif (((List.getD x7 (Int.toNat x9) Ty.str.dflt) : Str) == x1) then (
        some x9
      ) else (
        (xDz N n x1 x7 x8 (IntKind.i64.wrap (x9 + 1)))
      )
      else none
    ) else (
      some (-1)
    )
def xGg (N : Nat) (a0 : List Str) (a1 : Str) : Option (Int) :=
  (xDz N N a1 a0 (List.length a0 : Int) 0)
def xEm (a0 : List Str) : List Arg := [.val (.v false [.sl .ro .str a0])]
def xCn (r : Bool) : CallO := ⟨.v false [.bool r], [], []⟩
def xCm (N : Nat) : Nat → (List Str) → (List Str) → Int → Int → Option (Bool)
  | 0, _, _, _, _ => none
  | n + 1, x0, x5, x6, x7 =>
    bif (decide ((x7 : Int) < x6)) then (
      if (0 : Int) ≤ x7 ∧ x7 < (List.length x5) then
      Option.bind (xGg N x0 (List.getD x5 (Int.toNat x7) Ty.str.dflt)) fun r1 =>
      bif ((r1 : Int) != x7) then (
        some false
      ) else (
        (xCm N n x0 x5 x6 (IntKind.i64.wrap (x7 + 1)))
      )
      else none
    ) else (
      some true
    )
def xFi (N : Nat) (a0 : List Str) : Option (Bool) :=
  (xCm N N a0 a0 (List.length a0 : Int) 0)
def xC3 (a0 : List Str) : List Arg := [.val (.v false [.sl .ro .str a0])]
def xBp (r : Bool) : CallO := ⟨.v false [.bool r], [], []⟩
def xC4 (N : Nat) : Nat → (List Str) → (List Str) → Int → Int → Option (Bool)
  | 0, _, _, _, _ => none
  | n + 1, x0, x5, x6, x7 =>
    bif (decide ((x7 : Int) < x6)) then (
      if (0 : Int) ≤ x7 ∧ x7 < (List.length x5) then
      Option.bind (xDa N (List.getD x5 (Int.toNat x7) Ty.str.dflt)) fun r1 =>
      bif (!r1) then (
        some false
      ) else (
        (xC4 N n x0 x5 x6 (IntKind.i64.wrap (x7 + 1)))
      )
      else none
    ) else (
      Option.bind (xEP N (List.length x0 : Int) 1 4) fun r1 =>
      bif r1 then (
        Option.bind (xFi N x0) fun r2 =>
        some r2
      ) else (
        some false
      )
    )
def xFA (N : Nat) (a0 : List Str) : Option (Bool) :=
  (xC4 N N a0 a0 (List.length a0 : Int) 0)
def xB9 (a0 : Org) (a1 : Org) : List Arg := [.val (.v true [.int .i64 (Org.cell a0), .int .i64 (Org.row a0)]), .val (.v true [.int .i64 (Org.cell a1), .int .i64 (Org.row a1)])]
def xBE (r : Bool) : CallO := ⟨.v false [.bool r], [], []⟩
def xEU (N : Nat) (a0 : Org) (a1 : Org) : Option (Bool) :=
  bif (decide (((Org.cell a0) : Int) < (Org.cell a1))) then (
    some true
  ) else (
    bif (((Org.cell a0) : Int) == (Org.cell a1)) then (
      some (decide (((Org.row a0) : Int) < (Org.row a1)))
    ) else (
      some false
    )
  )
def xDC (a0 : Val) : List Arg := [.val (.v true [.int .i64 (Val.kind a0), .int .i64 (Val.n a0), .int .i64 (Val.step a0), .str (Val.text a0), .sl .ro .val (Val.list a0), .sl .ro .str (Val.columns a0), .sl .ro .row (Val.rows a0)])]
def xBa (r : Bool) : CallO := ⟨.v false [.bool r], [], []⟩
def xCK (N : Nat) (k4 : (List Rowd) → Int → Int → Val → Option (Bool)) : Nat → (List Rowd) → Int → Int → (List Org) → Int → Int → Val → Rowd → Option (Bool)
  | 0, _, _, _, _, _, _, _, _ => none
  | n + 1, x20, x21, x22, x45, x46, x47, b1, b4 =>
    bif (decide ((x47 : Int) < x46)) then (
      if (0 : Int) ≤ x47 ∧ x47 < (List.length x45) then
      bif (decide (((Org.cell (List.getD x45 (Int.toNat x47) Ty.org.dflt)) : Int) < 0)) then (
        some false
      ) else (
        bif (decide (((Org.row (List.getD x45 (Int.toNat x47) Ty.org.dflt)) : Int) < 0)) then (
          some false
        ) else (
          bif (decide ((x47 : Int) > 0)) then (
            if (0 : Int) ≤ (IntKind.i64.wrap (x47 - 1)) ∧ (IntKind.i64.wrap (x47 - 1)) < (List.length (Rowd.frm b4)) then
            Option.bind (xEU N (List.getD (Rowd.frm b4) (Int.toNat (IntKind.i64.wrap (x47 - 1))) Ty.org.dflt) (List.getD x45 (Int.toNat x47) Ty.org.dflt)) fun r1 =>
            bif (!r1) then (
              some false
            ) else (
              (xCK N k4 n x20 x21 x22 x45 x46 (IntKind.i64.wrap (x47 + 1)) b1 b4)
            )
            else none
          ) else (
            (xCK N k4 n x20 x21 x22 x45 x46 (IntKind.i64.wrap (x47 + 1)) b1 b4)
          )
        )
      )
      else none
    ) else (
      (k4 x20 x21 (IntKind.i64.wrap (x22 + 1)) b1)
    )
def xDE (N : Nat) (k4 : (List Rowd) → Int → Int → Val → Option (Bool)) : Nat → (List Rowd) → Int → Int → (List Int) → Int → Int → Val → Rowd → Option (Bool)
  | 0, _, _, _, _, _, _, _, _ => none
  | n + 1, x20, x21, x22, x34, x35, x36, b1, b4 =>
    bif (decide ((x36 : Int) < x35)) then (
      if (0 : Int) ≤ x36 ∧ x36 < (List.length x34) then
      Option.bind (xDk N (List.getD x34 (Int.toNat x36) Ty.int.dflt)) fun r1 =>
      bif (!r1) then (
        some false
      ) else (
        (xDE N k4 n x20 x21 x22 x34 x35 (IntKind.i64.wrap (x36 + 1)) b1 b4)
      )
      else none
    ) else (
      (xCK N k4 N x20 x21 x22 (Rowd.frm b4) (List.length (Rowd.frm b4) : Int) 0 b1 b4)
    )
def xDD (N : Nat) : Nat → (List Rowd) → Int → Int → Val → Option (Bool)
  | 0, _, _, _, _ => none
  | n + 1, x20, x21, x22, b1 =>
    bif (decide ((x22 : Int) < x21)) then (
      if (0 : Int) ≤ x22 ∧ x22 < (List.length x20) then
      bif (((List.length (Rowd.cells (List.getD x20 (Int.toNat x22) Ty.row.dflt)) : Int) : Int) != (List.length (Val.columns b1) : Int)) then (
        some false
      ) else (
        (xDE N (fun z0 z1 z2 z3 => (xDD N n z0 z1 z2 z3)) N x20 x21 x22 (Rowd.cells (List.getD x20 (Int.toNat x22) Ty.row.dflt)) (List.length (Rowd.cells (List.getD x20 (Int.toNat x22) Ty.row.dflt)) : Int) 0 b1 (List.getD x20 (Int.toNat x22) Ty.row.dflt))
      )
      else none
    ) else (
      some true
    )
def xFx (N : Nat) (a0 : Val) : Option (Bool) :=
  Option.bind (xFA N (Val.columns a0)) fun r1 =>
  bif (!r1) then (
    some false
  ) else (
    bif (decide (((List.length (Val.rows a0) : Int) : Int) > 12)) then (
      some false
    ) else (
      (xDD N N (Val.rows a0) (List.length (Val.rows a0) : Int) 0 a0)
    )
  )
def xDy (a0 : Val) : List Arg := [.val (.v true [.int .i64 (Val.kind a0), .int .i64 (Val.n a0), .int .i64 (Val.step a0), .str (Val.text a0), .sl .ro .val (Val.list a0), .sl .ro .str (Val.columns a0), .sl .ro .row (Val.rows a0)])]
def xCb (r : Int) : CallO := ⟨.v false [.int .i64 r], [], []⟩
def xEe (N : Nat) (q0 : Val → Option (Int)) : Nat → Int → (List Val) → Int → Int → Option (Int)
  | 0, _, _, _, _ => none
  | n + 1, x3, x7, x8, x9 =>
    bif (decide ((x9 : Int) < x8)) then (
      if (0 : Int) ≤ x9 ∧ x9 < (List.length x7) then
      Option.bind (q0 (List.getD x7 (Int.toNat x9) Ty.val.dflt)) fun r1 =>
      (xEe N q0 n (if (r1 : Int) > x3 then r1 else x3) x7 x8 (IntKind.i64.wrap (x9 + 1)))
      else none
    ) else (
      some (IntKind.i64.wrap (x3 + 1))
    )
def xFU (N : Nat) (q0 : Val → Option (Int)) (a0 : Val) : Option (Int) :=
  (xEe N q0 N 0 (Val.list a0) (List.length (Val.list a0) : Int) 0)
def xC9 (N : Nat) : Nat → Val → Option (Int)
  | 0, _ => none
  | d + 1, a0 => xFU N (xC9 N d) a0
def xGf (N : Nat) (a0 : Val) : Option (Int) := xC9 N N a0
def xAq (a0 : Val) : List Arg := [.val (.v true [.int .i64 (Val.kind a0), .int .i64 (Val.n a0), .int .i64 (Val.step a0), .str (Val.text a0), .sl .ro .val (Val.list a0), .sl .ro .str (Val.columns a0), .sl .ro .row (Val.rows a0)])]
def xAm (r : Bool) : CallO := ⟨.v false [.bool r], [], []⟩
def xBc (N : Nat) (q0 : Val → Option (Bool)) : Nat → (List Val) → Int → Int → Val → Option (Bool)
  | 0, _, _, _, _ => none
  | n + 1, x124, x125, x126, b1 =>
    bif (decide ((x126 : Int) < x125)) then (
      if (0 : Int) ≤ x126 ∧ x126 < (List.length x124) then
      bif (((Val.kind (List.getD x124 (Int.toNat x126) Ty.val.dflt)) : Int) != 1) then (
        bif (((Val.kind (List.getD x124 (Int.toNat x126) Ty.val.dflt)) : Int) != 2) then (
          bif (((Val.kind (List.getD x124 (Int.toNat x126) Ty.val.dflt)) : Int) != 3) then (
            some false
          ) else (
            Option.bind (q0 (List.getD x124 (Int.toNat x126) Ty.val.dflt)) fun r1 =>
            bif (!r1) then (
              some false
            ) else (
              (xBc N q0 n x124 x125 (IntKind.i64.wrap (x126 + 1)) b1)
            )
          )
        ) else (
          Option.bind (q0 (List.getD x124 (Int.toNat x126) Ty.val.dflt)) fun r1 =>
          bif (!r1) then (
            some false
          ) else (
            (xBc N q0 n x124 x125 (IntKind.i64.wrap (x126 + 1)) b1)
          )
        )
      ) else (
        Option.bind (q0 (List.getD x124 (Int.toNat x126) Ty.val.dflt)) fun r1 =>
        bif (!r1) then (
          some false
        ) else (
          (xBc N q0 n x124 x125 (IntKind.i64.wrap (x126 + 1)) b1)
        )
      )
      else none
    ) else (
      bif (((Val.n b1) : Int) == 0) then (
        bif (((Val.step b1) : Int) == 0) then (
          bif (((Val.text b1) : Str) == []) then (
            bif (((List.length (Val.columns b1) : Int) : Int) == 0) then (
              bif (((List.length (Val.rows b1) : Int) : Int) == 0) then (
                bif (decide (((List.length (Val.list b1) : Int) : Int) ≤ 8)) then (
                  Option.bind (xGf N b1) fun r1 =>
                  some (decide ((r1 : Int) ≤ 3))
                ) else (
                  some false
                )
              ) else (
                some false
              )
            ) else (
              some false
            )
          ) else (
            some false
          )
        ) else (
          some false
        )
      ) else (
        some false
      )
    )
def xCO (N : Nat) (q0 : Val → Option (Bool)) (a0 : Val) : Option (Bool) :=
  bif (((List.length (Val.list a0) : Int) : Int) == 0) then (
    bif (((List.length (Val.columns a0) : Int) : Int) == 0) then (
      bif (((Val.kind a0) : Int) == 1) then (
        bif (((List.length (Val.rows a0) : Int) : Int) == 0) then (
          bif (((Val.step a0) : Int) == 0) then (
            bif (((Val.text a0) : Str) == []) then (
              Option.bind (xDk N (Val.n a0)) fun r1 =>
              some r1
            ) else (
              some false
            )
          ) else (
            some false
          )
        ) else (
          some false
        )
      ) else (
        bif (((Val.kind a0) : Int) == 2) then (
          bif (((List.length (Val.rows a0) : Int) : Int) == 0) then (
            bif (((Val.n a0) : Int) == 0) then (
              bif (((Val.step a0) : Int) == 0) then (
                Option.bind (xFj N (Val.text a0)) fun r1 =>
                some r1
              ) else (
                some false
              )
            ) else (
              some false
            )
          ) else (
            some false
          )
        ) else (
          bif (((Val.kind a0) : Int) == 4) then (
            bif (((List.length (Val.rows a0) : Int) : Int) == 0) then (
              bif (((Val.text a0) : Str) == []) then (
                Option.bind (xDk N (Val.n a0)) fun r1 =>
                bif r1 then (
                  Option.bind (xDk N (Val.step a0)) fun r2 =>
                  some r2
                ) else (
                  some false
                )
              ) else (
                some false
              )
            ) else (
              some false
            )
          ) else (
            bif (((Val.kind a0) : Int) == 6) then (
              bif (((List.length (Val.rows a0) : Int) : Int) == 0) then (
                bif (((Val.step a0) : Int) == 0) then (
                  bif (((Val.text a0) : Str) == []) then (
                    Option.bind (xEP N (Val.n a0) 1 8) fun r1 =>
                    some r1
                  ) else (
                    some false
                  )
                ) else (
                  some false
                )
              ) else (
                some false
              )
            ) else (
              bif (((Val.kind a0) : Int) == 5) then (
                bif (((Val.n a0) : Int) == 0) then (
                  bif (((Val.step a0) : Int) == 0) then (
                    bif (((Val.text a0) : Str) == []) then (
                      Option.bind (xFx N a0) fun r1 =>
                      some r1
                    ) else (
                      some false
                    )
                  ) else (
                    some false
                  )
                ) else (
                  some false
                )
              ) else (
                bif (((Val.kind a0) : Int) == 3) then (
                  (xBc N q0 N (Val.list a0) (List.length (Val.list a0) : Int) 0 a0)
                ) else (
                  some false
                )
              )
            )
          )
        )
      )
    ) else (
      bif (((Val.kind a0) : Int) == 1) then (
        some false
      ) else (
        bif (((Val.kind a0) : Int) == 2) then (
          some false
        ) else (
          bif (((Val.kind a0) : Int) == 4) then (
            some false
          ) else (
            bif (((Val.kind a0) : Int) == 6) then (
              some false
            ) else (
              bif (((Val.kind a0) : Int) == 5) then (
                bif (((Val.n a0) : Int) == 0) then (
                  bif (((Val.step a0) : Int) == 0) then (
                    bif (((Val.text a0) : Str) == []) then (
                      Option.bind (xFx N a0) fun r1 =>
                      some r1
                    ) else (
                      some false
                    )
                  ) else (
                    some false
                  )
                ) else (
                  some false
                )
              ) else (
                bif (((Val.kind a0) : Int) == 3) then (
                  (xBc N q0 N (Val.list a0) (List.length (Val.list a0) : Int) 0 a0)
                ) else (
                  some false
                )
              )
            )
          )
        )
      )
    )
  ) else (
    bif (((Val.kind a0) : Int) == 1) then (
      some false
    ) else (
      bif (((Val.kind a0) : Int) == 2) then (
        some false
      ) else (
        bif (((Val.kind a0) : Int) == 4) then (
          some false
        ) else (
          bif (((Val.kind a0) : Int) == 6) then (
            some false
          ) else (
            bif (((Val.kind a0) : Int) == 5) then (
              bif (((Val.n a0) : Int) == 0) then (
                bif (((Val.step a0) : Int) == 0) then (
                  bif (((Val.text a0) : Str) == []) then (
                    some false
                  ) else (
                    some false
                  )
                ) else (
                  some false
                )
              ) else (
                some false
              )
            ) else (
              bif (((Val.kind a0) : Int) == 3) then (
                (xBc N q0 N (Val.list a0) (List.length (Val.list a0) : Int) 0 a0)
              ) else (
                some false
              )
            )
          )
        )
      )
    )
  )
def xBd (N : Nat) : Nat → Val → Option (Bool)
  | 0, _ => none
  | d + 1, a0 => xCO N (xBd N d) a0
def xFV (N : Nat) (a0 : Val) : Option (Bool) := xBd N N a0
def xA4 (a0 : Int) : List Arg := [.val (.v false [.int .i64 a0])]
def xAH (r : Val) : CallO := ⟨.v true [.int .i64 (Val.kind r), .int .i64 (Val.n r), .int .i64 (Val.step r), .str (Val.text r), .sl .own .val (Val.list r), .sl .own .str (Val.columns r), .sl .own .row (Val.rows r)], [], []⟩
def xAX (N : Nat) (a0 : Int) : Option (Val) :=
  some (Val.mk 6 a0 0 [] [] [] [])
def xB8 (a0 : List Val) : List Arg := [.val (.v false [.sl .ro .val a0])]
def xCt (r : Val × Bool × Bool) : CallO := ⟨.tup [(true, [.int .i64 (Val.kind r.1), .int .i64 (Val.n r.1), .int .i64 (Val.step r.1), .str (Val.text r.1), .sl .ro .val (Val.list r.1), .sl .ro .str (Val.columns r.1), .sl .ro .row (Val.rows r.1)]), (false, [.bool r.2.1])], [], []⟩
def xCs (r : Val × Bool × Bool) : CallO := ⟨.tup [(true, [.int .i64 (Val.kind r.1), .int .i64 (Val.n r.1), .int .i64 (Val.step r.1), .str (Val.text r.1), .sl .own .val (Val.list r.1), .sl .own .str (Val.columns r.1), .sl .own .row (Val.rows r.1)]), (false, [.bool r.2.1])], [], []⟩
def xBt (r : Val × Bool × Bool) : CallO := bif r.2.2 then xCt r else xCs r
def xBW (N : Nat) : Nat → (List Val) → Int → Int → Val → Option (Val × Bool × Bool)
  | 0, _, _, _, _ => none
  | n + 1, x6, x7, x8, b2 =>
    bif (decide ((x8 : Int) < x7)) then (
      if (0 : Int) ≤ x8 ∧ x8 < (List.length x6) then
      Option.bind (xFV N (List.getD x6 (Int.toNat x8) Ty.val.dflt)) fun r1 =>
      bif (!r1) then (
        Option.bind (xAX N 4) fun r2 =>
        some (r2, true, false)
      ) else (
        bif (((Val.kind (List.getD x6 (Int.toNat x8) Ty.val.dflt)) : Int) == 6) then (
          some ((List.getD x6 (Int.toNat x8) Ty.val.dflt), true, true)
        ) else (
          (xBW N n x6 x7 (IntKind.i64.wrap (x8 + 1)) b2)
        )
      )
      else none
    ) else (
      some ((Val.mk 0 0 0 [] [] [] []), false, false)
    )
def xET (N : Nat) (a0 : List Val) : Option (Val × Bool × Bool) :=
  (xBW N N a0 (List.length a0 : Int) 0 (Val.mk 0 0 0 [] [] [] []))
def xAW (a0 : List Int) (a1 : List Val) : List Arg := [.val (.v false [.sl .ro .int a0]), .val (.v false [.sl .ro .val a1])]
def xFD (r : Val × Bool × Bool) : CallO := ⟨.tup [(true, [.int .i64 (Val.kind r.1), .int .i64 (Val.n r.1), .int .i64 (Val.step r.1), .str (Val.text r.1), .sl .ro .val (Val.list r.1), .sl .ro .str (Val.columns r.1), .sl .ro .row (Val.rows r.1)]), (false, [.bool r.2.1])], [], []⟩
def xA5 (r : Val × Bool × Bool) : CallO := ⟨.tup [(true, [.int .i64 (Val.kind r.1), .int .i64 (Val.n r.1), .int .i64 (Val.step r.1), .str (Val.text r.1), .sl .own .val (Val.list r.1), .sl .own .str (Val.columns r.1), .sl .own .row (Val.rows r.1)]), (false, [.bool r.2.1])], [], []⟩
def xBb (r : Val × Bool × Bool) : CallO := ⟨.tup [(true, [.int .i64 (Val.kind r.1), .int .i64 (Val.n r.1), .int .i64 (Val.step r.1), .str (Val.text r.1), .sl .ro .val [], .sl .ro .str [], .sl .ro .row []]), (false, [.bool r.2.1])], [], []⟩
def xBv (r : Val × Bool × Bool) : CallO := bif r.2.2 then xFD r else xA5 r
def xB7 (N : Nat) : Nat → (List Int) → (List Val) → Int → Int → Val → Option (Val × Bool × Bool)
  | 0, _, _, _, _, _ => none
  | n + 1, x0, x17, x18, x19, b4 =>
    bif (decide ((x19 : Int) < x18)) then (
      if (0 : Int) ≤ x19 ∧ x19 < (List.length x17) then
      if (0 : Int) ≤ x19 ∧ x19 < (List.length x0) then
      bif (((Val.kind (List.getD x17 (Int.toNat x19) Ty.val.dflt)) : Int) != (List.getD x0 (Int.toNat x19) Ty.int.dflt)) then (
        Option.bind (xAX N 4) fun r1 =>
        some (r1, true, false)
      ) else (
        (xB7 N n x0 x17 x18 (IntKind.i64.wrap (x19 + 1)) b4)
      )
      else none
      else none
    ) else (
      some ((Val.mk 0 0 0 [] [] [] []), false, false)
    )
def xFa (N : Nat) (a0 : List Int) (a1 : List Val) : Option (Val × Bool × Bool) :=
  Option.bind (xET N a1) fun r1 =>
  bif r1.2.2 then (
    bif r1.2.1 then (
      some (r1.1, true, true)
    ) else (
      (xB7 N N a0 a1 (List.length a1 : Int) 0 (Val.mk 0 0 0 [] [] [] []))
    )
  ) else (
    bif r1.2.1 then (
      some (r1.1, true, false)
    ) else (
      (xB7 N N a0 a1 (List.length a1 : Int) 0 (Val.mk 0 0 0 [] [] [] []))
    )
  )
def xAz (a0 : Val) (a1 : Str) : List Arg := [.val (.v true [.int .i64 (Val.kind a0), .int .i64 (Val.n a0), .int .i64 (Val.step a0), .str (Val.text a0), .sl .ro .val (Val.list a0), .sl .ro .str (Val.columns a0), .sl .ro .row (Val.rows a0)]), .val (.v false [.str a1])]
def xAn (r : Int) : CallO := ⟨.v false [.int .i64 r], [], []⟩
def xB5 (N : Nat) (a0 : Val) (a1 : Str) : Option (Int) :=
  Option.bind (xGg N (Val.columns a0) a1) fun r1 =>
  some r1
def xFC (a0 : Rowd) : List Arg := [.val (.v true [.sl .ro .int (Rowd.cells a0), .sl .ro .org (Rowd.frm a0)])]
def xEO (r : Rowd) : CallO := ⟨.v true [.sl .own .int (Rowd.cells r), .sl .own .org (Rowd.frm r)], [], []⟩
def xGO (N : Nat) (a0 : Rowd) : Option (Rowd) :=
  if 0 + List.length (Rowd.cells a0) ≤ Lim then
  if 0 + List.length (Rowd.frm a0) ≤ Lim then
  some (Rowd.mk ([] ++ (Rowd.cells a0)) ([] ++ (Rowd.frm a0)))
  else none
  else none
def xCr (a0 : Val) : List Arg := [.val (.v true [.int .i64 (Val.kind a0), .int .i64 (Val.n a0), .int .i64 (Val.step a0), .str (Val.text a0), .sl .ro .val (Val.list a0), .sl .ro .str (Val.columns a0), .sl .ro .row (Val.rows a0)])]
def xBu (r : Val) : CallO := ⟨.v true [.int .i64 (Val.kind r), .int .i64 (Val.n r), .int .i64 (Val.step r), .str (Val.text r), .sl .own .val (Val.list r), .sl .own .str (Val.columns r), .sl .own .row (Val.rows r)], [], []⟩
def xCQ (N : Nat) (q0 : Val → Option (Val)) (q1 : (List Val) → Option ((List Val))) : Nat → (List Rowd) → Int → Int → Val → Val → Option (Val)
  | 0, _, _, _, _, _ => none
  | n + 1, x18, x19, x20, b2, b3 =>
    bif (decide ((x20 : Int) < x19)) then (
      if (0 : Int) ≤ x20 ∧ x20 < (List.length x18) then
      Option.bind (xGO N (List.getD x18 (Int.toNat x20) Ty.row.dflt)) fun r1 =>
      if List.length (Val.rows b3) + List.length [r1] ≤ Lim then
      (xCQ N q0 q1 n x18 x19 (IntKind.i64.wrap (x20 + 1)) b2 (Val.mk (Val.kind b3) (Val.n b3) (Val.step b3) (Val.text b3) (Val.list b3) (Val.columns b3) ((Val.rows b3) ++ [r1])))
      else none
      else none
    ) else (
      some b3
    )
def xDB (N : Nat) (q0 : Val → Option (Val)) (q1 : (List Val) → Option ((List Val))) (a0 : Val) : Option (Val) :=
  Option.bind (q1 (Val.list a0)) fun r1 =>
  if 0 + List.length (Val.columns a0) ≤ Lim then
  (xCQ N q0 q1 N (Val.rows a0) (List.length (Val.rows a0) : Int) 0 (Val.mk 0 0 0 [] [] [] []) (Val.mk (Val.kind a0) (Val.n a0) (Val.step a0) (Val.text a0) r1 ([] ++ (Val.columns a0)) []))
  else none
def xDY (a0 : List Val) : List Arg := [.val (.v false [.sl .ro .val a0])]
def xCB (r : (List Val)) : CallO := ⟨.v false [.sl .own .val r], [], []⟩
def xC5 (N : Nat) (q0 : Val → Option (Val)) (q1 : (List Val) → Option ((List Val))) : Nat → (List Val) → (List Val) → Int → Int → Option ((List Val))
  | 0, _, _, _, _ => none
  | n + 1, x3, x7, x8, x9 =>
    bif (decide ((x9 : Int) < x8)) then (
      if (0 : Int) ≤ x9 ∧ x9 < (List.length x7) then
      Option.bind (q0 (List.getD x7 (Int.toNat x9) Ty.val.dflt)) fun r1 =>
      if List.length x3 + List.length [(Val.re r1)] ≤ Lim then
      (xC5 N q0 q1 n (x3 ++ [(Val.re r1)]) x7 x8 (IntKind.i64.wrap (x9 + 1)))
      else none
      else none
    ) else (
      some x3
    )
def xDj (N : Nat) (q0 : Val → Option (Val)) (q1 : (List Val) → Option ((List Val))) (a0 : List Val) : Option ((List Val)) :=
  (xC5 N q0 q1 N [] a0 (List.length a0 : Int) 0)
structure impl_copyValue_rec where
  c_impl_copyValue : Val → Option (Val)
  c_impl_copyValues : (List Val) → Option ((List Val))
def xA0 (N : Nat) : Nat → impl_copyValue_rec
  | 0 => ⟨fun _ => none, fun _ => none⟩
  | d + 1 => ⟨xDB N (xA0 N d).c_impl_copyValue (xA0 N d).c_impl_copyValues, xDj N (xA0 N d).c_impl_copyValue (xA0 N d).c_impl_copyValues⟩
def xF3 (N : Nat) (a0 : Val) : Option (Val) := (xA0 N N).c_impl_copyValue a0
def xAr (a0 : Val) (a1 : Val) (a2 : Val) (a3 : Val) : List Arg := [.val (.v true [.int .i64 (Val.kind a0), .int .i64 (Val.n a0), .int .i64 (Val.step a0), .str (Val.text a0), .sl .ro .val (Val.list a0), .sl .ro .str (Val.columns a0), .sl .ro .row (Val.rows a0)]), .val (.v true [.int .i64 (Val.kind a1), .int .i64 (Val.n a1), .int .i64 (Val.step a1), .str (Val.text a1), .sl .ro .val (Val.list a1), .sl .ro .str (Val.columns a1), .sl .ro .row (Val.rows a1)]), .val (.v true [.int .i64 (Val.kind a2), .int .i64 (Val.n a2), .int .i64 (Val.step a2), .str (Val.text a2), .sl .ro .val (Val.list a2), .sl .ro .str (Val.columns a2), .sl .ro .row (Val.rows a2)]), .val (.v true [.int .i64 (Val.kind a3), .int .i64 (Val.n a3), .int .i64 (Val.step a3), .str (Val.text a3), .sl .ro .val (Val.list a3), .sl .ro .str (Val.columns a3), .sl .ro .row (Val.rows a3)])]
def xFz (r : Val × Bool) : CallO := ⟨.v true [.int .i64 (Val.kind r.1), .int .i64 (Val.n r.1), .int .i64 (Val.step r.1), .str (Val.text r.1), .sl .ro .val (Val.list r.1), .sl .ro .str (Val.columns r.1), .sl .ro .row (Val.rows r.1)], [], []⟩
def xAu (r : Val × Bool) : CallO := ⟨.v true [.int .i64 (Val.kind r.1), .int .i64 (Val.n r.1), .int .i64 (Val.step r.1), .str (Val.text r.1), .sl .own .val (Val.list r.1), .sl .own .str (Val.columns r.1), .sl .own .row (Val.rows r.1)], [], []⟩
def xAv (r : Val × Bool) : CallO := ⟨.v true [.int .i64 (Val.kind r.1), .int .i64 (Val.n r.1), .int .i64 (Val.step r.1), .str (Val.text r.1), .sl .ro .val [], .sl .ro .str [], .sl .ro .row []], [], []⟩
def xAS (r : Val × Bool) : CallO := bif r.2 then xFz r else xAu r
def xBX (N : Nat) : Nat → Int → Int → (List Rowd) → Int → Int → Val → Val → Option (Val × Bool)
  | 0, _, _, _, _, _, _, _ => none
  | n + 1, x11, x12, x72, x73, x74, b8, b13 =>
    bif (decide ((x74 : Int) < x73)) then (
      if (0 : Int) ≤ x74 ∧ x74 < (List.length x72) then
      if (0 : Int) ≤ x11 ∧ x11 < (List.length (Rowd.cells (List.getD x72 (Int.toNat x74) Ty.row.dflt))) then
      if (0 : Int) ≤ x12 ∧ x12 < (List.length (Rowd.cells (List.getD x72 (Int.toNat x74) Ty.row.dflt))) then
      Option.bind (xDk N (IntKind.i64.wrap ((List.getD (Rowd.cells (List.getD x72 (Int.toNat x74) Ty.row.dflt)) (Int.toNat x11) Ty.int.dflt) + (List.getD (Rowd.cells (List.getD x72 (Int.toNat x74) Ty.row.dflt)) (Int.toNat x12) Ty.int.dflt)))) fun r1 =>
      bif (!r1) then (
        Option.bind (xAX N 5) fun r2 =>
        some (r2, false)
      ) else (
        if (0 : Int) ≤ x74 ∧ x74 < (List.length (Val.rows b13)) then
        if List.length (Rowd.cells (List.getD (Val.rows b13) (Int.toNat x74) Ty.row.dflt)) + List.length [(IntKind.i64.wrap ((List.getD (Rowd.cells (List.getD x72 (Int.toNat x74) Ty.row.dflt)) (Int.toNat x11) Ty.int.dflt) + (List.getD (Rowd.cells (List.getD x72 (Int.toNat x74) Ty.row.dflt)) (Int.toNat x12) Ty.int.dflt)))] ≤ Lim then
        (xBX N n x11 x12 x72 x73 (IntKind.i64.wrap (x74 + 1)) b8 (Val.mk (Val.kind b13) (Val.n b13) (Val.step b13) (Val.text b13) (Val.list b13) (Val.columns b13) (List.set (Val.rows b13) (Int.toNat x74) (Rowd.mk ((Rowd.cells (List.getD (Val.rows b13) (Int.toNat x74) Ty.row.dflt)) ++ [(IntKind.i64.wrap ((List.getD (Rowd.cells (List.getD x72 (Int.toNat x74) Ty.row.dflt)) (Int.toNat x11) Ty.int.dflt) + (List.getD (Rowd.cells (List.getD x72 (Int.toNat x74) Ty.row.dflt)) (Int.toNat x12) Ty.int.dflt)))]) (Rowd.frm (List.getD (Val.rows b13) (Int.toNat x74) Ty.row.dflt))))))
        else none
        else none
      )
      else none
      else none
      else none
    ) else (
      some (b13, false)
    )
def xBU (N : Nat) (a0 : Val) (a1 : Val) (a2 : Val) (a3 : Val) : Option (Val × Bool) :=
  Option.bind (xFa N [2, 2, 2, 5] [(Val.re a0), (Val.re a1), (Val.re a2), (Val.re a3)]) fun r1 =>
  bif r1.2.2 then (
    if List.isEmpty (Val.list r1.1) = true then
    if List.isEmpty (Val.columns r1.1) = true then
    if List.isEmpty (Val.rows r1.1) = true then
    bif r1.2.1 then (
      some ((Val.mk (Val.kind r1.1) (Val.n r1.1) (Val.step r1.1) (Val.text r1.1) [] [] []), true)
    ) else (
      Option.bind (xB5 N a3 (Val.text a1)) fun r2 =>
      Option.bind (xB5 N a3 (Val.text a2)) fun r3 =>
      Option.bind (xDa N (Val.text a0)) fun r4 =>
      bif (!r4) then (
        Option.bind (xAX N 7) fun r5 =>
        some (r5, false)
      ) else (
        Option.bind (xB5 N a3 (Val.text a0)) fun r5 =>
        bif (decide ((r5 : Int) ≥ 0)) then (
          Option.bind (xAX N 7) fun r6 =>
          some (r6, false)
        ) else (
          bif (decide ((r2 : Int) < 0)) then (
            Option.bind (xAX N 7) fun r6 =>
            some (r6, false)
          ) else (
            bif (decide ((r3 : Int) < 0)) then (
              Option.bind (xAX N 7) fun r6 =>
              some (r6, false)
            ) else (
              bif (decide (((List.length (Val.columns a3) : Int) : Int) ≥ 4)) then (
                Option.bind (xAX N 6) fun r6 =>
                some (r6, false)
              ) else (
                Option.bind (xF3 N a3) fun r6 =>
                if List.length (Val.columns r6) + List.length [(Val.text a0)] ≤ Lim then
                (xBX N N r2 r3 (Val.rows a3) (List.length (Val.rows a3) : Int) 0 (Val.mk 0 0 0 [] [] [] []) (Val.mk (Val.kind r6) (Val.n r6) (Val.step r6) (Val.text r6) (Val.list r6) ((Val.columns r6) ++ [(Val.text a0)]) (Val.rows r6)))
                else none
              )
            )
          )
        )
      )
    )
    else none
    else none
    else none
  ) else (
    bif r1.2.1 then (
      some (r1.1, false)
    ) else (
      Option.bind (xB5 N a3 (Val.text a1)) fun r2 =>
      Option.bind (xB5 N a3 (Val.text a2)) fun r3 =>
      Option.bind (xDa N (Val.text a0)) fun r4 =>
      bif (!r4) then (
        Option.bind (xAX N 7) fun r5 =>
        some (r5, false)
      ) else (
        Option.bind (xB5 N a3 (Val.text a0)) fun r5 =>
        bif (decide ((r5 : Int) ≥ 0)) then (
          Option.bind (xAX N 7) fun r6 =>
          some (r6, false)
        ) else (
          bif (decide ((r2 : Int) < 0)) then (
            Option.bind (xAX N 7) fun r6 =>
            some (r6, false)
          ) else (
            bif (decide ((r3 : Int) < 0)) then (
              Option.bind (xAX N 7) fun r6 =>
              some (r6, false)
            ) else (
              bif (decide (((List.length (Val.columns a3) : Int) : Int) ≥ 4)) then (
                Option.bind (xAX N 6) fun r6 =>
                some (r6, false)
              ) else (
                Option.bind (xF3 N a3) fun r6 =>
                if List.length (Val.columns r6) + List.length [(Val.text a0)] ≤ Lim then
                (xBX N N r2 r3 (Val.rows a3) (List.length (Val.rows a3) : Int) 0 (Val.mk 0 0 0 [] [] [] []) (Val.mk (Val.kind r6) (Val.n r6) (Val.step r6) (Val.text r6) (Val.list r6) ((Val.columns r6) ++ [(Val.text a0)]) (Val.rows r6)))
                else none
              )
            )
          )
        )
      )
    )
  )
def xCR (a0 : List Str) (a1 : List Str) : List Arg := [.val (.v false [.sl .ro .str a0]), .val (.v false [.sl .ro .str a1])]
def xBw (r : Bool) : CallO := ⟨.v false [.bool r], [], []⟩
def xDs (N : Nat) : Nat → (List Str) → (List Str) → Int → Option (Bool)
  | 0, _, _, _ => none
  | n + 1, x0, x1, x5 =>
    bif (decide ((x5 : Int) < (List.length x0 : Int))) then (
      if (0 : Int) ≤ x5 ∧ x5 < (List.length x0) then
      if (0 : Int) ≤ x5 ∧ x5 < (List.length x1) then
      bif (!(((List.getD x0 (Int.toNat x5) Ty.str.dflt) : Str) == (List.getD x1 (Int.toNat x5) Ty.str.dflt))) then (
        some false
      ) else (
        (xDs N n x0 x1 (IntKind.i64.wrap (x5 + 1)))
      )
      else none
      else none
    ) else (
      some true
    )
def xFd (N : Nat) (a0 : List Str) (a1 : List Str) : Option (Bool) :=
  bif (((List.length a0 : Int) : Int) != (List.length a1 : Int)) then (
    some false
  ) else (
    (xDs N N a0 a1 0)
  )
def xD6 (a0 : List Int) (a1 : List Int) : List Arg := [.val (.v false [.sl .ro .int a0]), .val (.v false [.sl .ro .int a1])]
def xB6 (r : Bool) : CallO := ⟨.v false [.bool r], [], []⟩
def xEA (N : Nat) : Nat → (List Int) → (List Int) → Int → Option (Bool)
  | 0, _, _, _ => none
  | n + 1, x0, x1, x5 =>
    bif (decide ((x5 : Int) < (List.length x0 : Int))) then (
      if (0 : Int) ≤ x5 ∧ x5 < (List.length x0) then
      if (0 : Int) ≤ x5 ∧ x5 < (List.length x1) then
      bif (((List.getD x0 (Int.toNat x5) Ty.int.dflt) : Int) != (List.getD x1 (Int.toNat x5) Ty.int.dflt)) then (
        some false
      ) else (
        (xEA N n x0 x1 (IntKind.i64.wrap (x5 + 1)))
      )
      else none
      else none
    ) else (
      some true
    )
def xGA (N : Nat) (a0 : List Int) (a1 : List Int) : Option (Bool) :=
  bif (((List.length a0 : Int) : Int) != (List.length a1 : Int)) then (
    some false
  ) else (
    (xEA N N a0 a1 0)
  )
def xDb (a0 : Org) (a1 : Org) : List Arg := [.val (.v true [.int .i64 (Org.cell a0), .int .i64 (Org.row a0)]), .val (.v true [.int .i64 (Org.cell a1), .int .i64 (Org.row a1)])]
def xCh (r : Bool) : CallO := ⟨.v false [.bool r], [], []⟩
def xFE (N : Nat) (a0 : Org) (a1 : Org) : Option (Bool) :=
  bif (((Org.cell a0) : Int) != (Org.cell a1)) then (
    some false
  ) else (
    bif (((Org.row a0) : Int) != (Org.row a1)) then (
      some false
    ) else (
      some true
    )
  )
def xDq (a0 : List Org) (a1 : List Org) : List Arg := [.val (.v false [.sl .ro .org a0]), .val (.v false [.sl .ro .org a1])]
def xBV (r : Bool) : CallO := ⟨.v false [.bool r], [], []⟩
def xDr (N : Nat) : Nat → (List Org) → (List Org) → Int → Option (Bool)
  | 0, _, _, _ => none
  | n + 1, x0, x1, x5 =>
    bif (decide ((x5 : Int) < (List.length x0 : Int))) then (
      if (0 : Int) ≤ x5 ∧ x5 < (List.length x0) then
      if (0 : Int) ≤ x5 ∧ x5 < (List.length x1) then
      Option.bind (xFE N (List.getD x0 (Int.toNat x5) Ty.org.dflt) (List.getD x1 (Int.toNat x5) Ty.org.dflt)) fun r1 =>
      bif (!r1) then (
        some false
      ) else (
        (xDr N n x0 x1 (IntKind.i64.wrap (x5 + 1)))
      )
      else none
      else none
    ) else (
      some true
    )
def xFc (N : Nat) (a0 : List Org) (a1 : List Org) : Option (Bool) :=
  bif (((List.length a0 : Int) : Int) != (List.length a1 : Int)) then (
    some false
  ) else (
    (xDr N N a0 a1 0)
  )
def xEo (a0 : Rowd) (a1 : Rowd) : List Arg := [.val (.v true [.sl .ro .int (Rowd.cells a0), .sl .ro .org (Rowd.frm a0)]), .val (.v true [.sl .ro .int (Rowd.cells a1), .sl .ro .org (Rowd.frm a1)])]
def xDl (r : Bool) : CallO := ⟨.v false [.bool r], [], []⟩
def xG4 (N : Nat) (a0 : Rowd) (a1 : Rowd) : Option (Bool) :=
  Option.bind (xGA N (Rowd.cells a0) (Rowd.cells a1)) fun r1 =>
  bif (!r1) then (
    some false
  ) else (
    Option.bind (xFc N (Rowd.frm a0) (Rowd.frm a1)) fun r2 =>
    bif (!r2) then (
      some false
    ) else (
      some true
    )
  )
def xEB (a0 : List Rowd) (a1 : List Rowd) : List Arg := [.val (.v false [.sl .ro .row a0]), .val (.v false [.sl .ro .row a1])]
def xCx (r : Bool) : CallO := ⟨.v false [.bool r], [], []⟩
def xEC (N : Nat) : Nat → (List Rowd) → (List Rowd) → Int → Option (Bool)
  | 0, _, _, _ => none
  | n + 1, x0, x1, x5 =>
    bif (decide ((x5 : Int) < (List.length x0 : Int))) then (
      if (0 : Int) ≤ x5 ∧ x5 < (List.length x0) then
      if (0 : Int) ≤ x5 ∧ x5 < (List.length x1) then
      Option.bind (xG4 N (List.getD x0 (Int.toNat x5) Ty.row.dflt) (List.getD x1 (Int.toNat x5) Ty.row.dflt)) fun r1 =>
      bif (!r1) then (
        some false
      ) else (
        (xEC N n x0 x1 (IntKind.i64.wrap (x5 + 1)))
      )
      else none
      else none
    ) else (
      some true
    )
def xGB (N : Nat) (a0 : List Rowd) (a1 : List Rowd) : Option (Bool) :=
  bif (((List.length a0 : Int) : Int) != (List.length a1 : Int)) then (
    some false
  ) else (
    (xEC N N a0 a1 0)
  )
def xAg (a0 : Val) (a1 : Val) : List Arg := [.val (.v true [.int .i64 (Val.kind a0), .int .i64 (Val.n a0), .int .i64 (Val.step a0), .str (Val.text a0), .sl .ro .val (Val.list a0), .sl .ro .str (Val.columns a0), .sl .ro .row (Val.rows a0)]), .val (.v true [.int .i64 (Val.kind a1), .int .i64 (Val.n a1), .int .i64 (Val.step a1), .str (Val.text a1), .sl .ro .val (Val.list a1), .sl .ro .str (Val.columns a1), .sl .ro .row (Val.rows a1)])]
def xAd (r : Bool) : CallO := ⟨.v false [.bool r], [], []⟩
def xEg (N : Nat) (q0 : Val → Val → Option (Bool)) (q1 : (List Val) → (List Val) → Option (Bool)) (a0 : Val) (a1 : Val) : Option (Bool) :=
  bif (((Val.kind a0) : Int) != (Val.kind a1)) then (
    some false
  ) else (
    bif (((Val.n a0) : Int) != (Val.n a1)) then (
      some false
    ) else (
      bif (((Val.step a0) : Int) != (Val.step a1)) then (
        some false
      ) else (
        bif (!(((Val.text a0) : Str) == (Val.text a1))) then (
          some false
        ) else (
          Option.bind (q1 (Val.list a0) (Val.list a1)) fun r1 =>
          bif (!r1) then (
            some false
          ) else (
            Option.bind (xFd N (Val.columns a0) (Val.columns a1)) fun r2 =>
            bif (!r2) then (
              some false
            ) else (
              Option.bind (xGB N (Val.rows a0) (Val.rows a1)) fun r3 =>
              bif (!r3) then (
                some false
              ) else (
                some true
              )
            )
          )
        )
      )
    )
  )
def xCi (a0 : List Val) (a1 : List Val) : List Arg := [.val (.v false [.sl .ro .val a0]), .val (.v false [.sl .ro .val a1])]
def xBm (r : Bool) : CallO := ⟨.v false [.bool r], [], []⟩
def xDP (N : Nat) (q0 : Val → Val → Option (Bool)) (q1 : (List Val) → (List Val) → Option (Bool)) : Nat → (List Val) → (List Val) → Int → Option (Bool)
  | 0, _, _, _ => none
  | n + 1, x0, x1, x5 =>
    bif (decide ((x5 : Int) < (List.length x0 : Int))) then (
      if (0 : Int) ≤ x5 ∧ x5 < (List.length x0) then
      if (0 : Int) ≤ x5 ∧ x5 < (List.length x1) then
      Option.bind (q0 (List.getD x0 (Int.toNat x5) Ty.val.dflt) (List.getD x1 (Int.toNat x5) Ty.val.dflt)) fun r1 =>
      bif (!r1) then (
        some false
      ) else (
        (xDP N q0 q1 n x0 x1 (IntKind.i64.wrap (x5 + 1)))
      )
      else none
      else none
    ) else (
      some true
    )
def xD0 (N : Nat) (q0 : Val → Val → Option (Bool)) (q1 : (List Val) → (List Val) → Option (Bool)) (a0 : List Val) (a1 : List Val) : Option (Bool) :=
  bif (((List.length a0 : Int) : Int) != (List.length a1 : Int)) then (
    some false
  ) else (
    (xDP N q0 q1 N a0 a1 0)
  )
structure laws_eqValue_rec where
  c_laws_eqValue : Val → Val → Option (Bool)
  c_laws_eqValueS : (List Val) → (List Val) → Option (Bool)
def xBi (N : Nat) : Nat → laws_eqValue_rec
  | 0 => ⟨fun _ _ => none, fun _ _ => none⟩
  | d + 1 => ⟨xEg N (xBi N d).c_laws_eqValue (xBi N d).c_laws_eqValueS, xD0 N (xBi N d).c_laws_eqValue (xBi N d).c_laws_eqValueS⟩
def xBD (N : Nat) (a0 : Val) (a1 : Val) : Option (Bool) := (xBi N N).c_laws_eqValue a0 a1
def xBx (a0 : Int) : List Arg := [.val (.v false [.int .i64 a0])]
def xAT (r : Str) : CallO := ⟨.v false [.str r], [], []⟩
def xDW (N : Nat) : Nat → Int → Str → Option (Str)
  | 0, _, _ => none
  | n + 1, x0, x3 =>
    bif (decide ((x0 : Int) > 0)) then (
      if List.length (List.map (fun n => UInt8.ofNat (Int.toNat n)) [(IntKind.u8.wrap ((IntKind.i64.wrap (48 + (Int.tmod x0 10)))))]) + List.length x3 ≤ Lim then
      (xDW N n (IntKind.i64.wrap (Int.tdiv x0 10)) ((List.map (fun n => UInt8.ofNat (Int.toNat n)) [(IntKind.u8.wrap ((IntKind.i64.wrap (48 + (Int.tmod x0 10)))))]) ++ x3))
      else none
    ) else (
      if List.length [109] + List.length x3 ≤ Lim then
      some ([109] ++ x3)
      else none
    )
def xDm (N : Nat) (a0 : Int) : Option (Str) :=
  bif (decide ((a0 : Int) ≤ 0)) then (
    some [109, 48]
  ) else (
    (xDW N N a0 [])
  )
def xD1 (a0 : List Str) (a1 : Int) : List Arg := [.val (.v false [.sl .ro .str []]), .val (.v false [.int .i64 a1])]
def xCu (r : Int) : CallO := ⟨.v false [.int .i64 r], [], []⟩
def xEQ (N : Nat) : Nat → Int → Int → Option (Int)
  | 0, _, _ => none
  | n + 1, x1, x5 =>
    bif (decide ((x5 : Int) < (0 : Int))) then (
      Option.bind (xDm N x1) fun r1 =>
      if (0 : Int) ≤ x5 ∧ x5 < (0) then
      none
      else none
    ) else (
      some x1
    )
def xEK (N : Nat) (a0 : List Str) (a1 : Int) : Option (Int) :=
  (xEQ N N a1 0)
def xDG (a0 : List Str) (a1 : Int) : List Arg := [.val (.v false [.sl (.lnt 0) .str a0]), .val (.v false [.int .i64 a1])]
def xB0 (r : Int × (List Str)) : CallO := ⟨.v false [.int .i64 r.1], [], [.sl (.lnt 0) .str r.2]⟩
def xCX (N : Nat) : Nat → (List Str) → Int → Int → Option (Int × (List Str))
  | 0, _, _, _ => none
  | n + 1, x0, x1, x5 =>
    bif (decide ((x5 : Int) < (List.length x0 : Int))) then (
      Option.bind (xDm N x1) fun r1 =>
      if (0 : Int) ≤ x5 ∧ x5 < (List.length x0) then
      (xCX N n (List.set x0 (Int.toNat x5) r1) (IntKind.i64.wrap (x1 + 1)) (IntKind.i64.wrap (x5 + 1)))
      else none
    ) else (
      some (x1, x0)
    )
def xEv (N : Nat) (a0 : List Str) (a1 : Int) : Option (Int × (List Str)) :=
  (xCX N N a0 a1 0)
def xFn (a0 : List Int) (a1 : Int) : List Arg := [.val (.v false [.sl (.lnt 0) .int a0]), .val (.v false [.int .i64 a1])]
def xDU (r : Int × (List Int)) : CallO := ⟨.v false [.int .i64 r.1], [], [.sl (.lnt 0) .int r.2]⟩
def xDT (N : Nat) : Nat → (List Int) → Int → Int → Option (Int × (List Int))
  | 0, _, _, _ => none
  | n + 1, x0, x1, x5 =>
    bif (decide ((x5 : Int) < (List.length x0 : Int))) then (
      if (0 : Int) ≤ x5 ∧ x5 < (List.length x0) then
      (xDT N n (List.set x0 (Int.toNat x5) x1) (IntKind.i64.wrap (x1 + 1)) (IntKind.i64.wrap (x5 + 1)))
      else none
    ) else (
      some (x1, x0)
    )
def xGq (N : Nat) (a0 : List Int) (a1 : Int) : Option (Int × (List Int)) :=
  (xDT N N a0 a1 0)
def xEJ (a0 : List Rowd) (a1 : Int) : List Arg := [.val (.v false [.sl .ro .row []]), .val (.v false [.int .i64 a1])]
def xC6 (r : Int) : CallO := ⟨.v false [.int .i64 r], [], []⟩
def xFI (N : Nat) : Nat → Int → Int → Option (Int)
  | 0, _, _ => none
  | n + 1, x1, x5 =>
    bif (decide ((x5 : Int) < (0 : Int))) then (
      if (0 : Int) ≤ x5 ∧ x5 < (0) then
      none
      else none
    ) else (
      some x1
    )
def xFH (N : Nat) (a0 : List Rowd) (a1 : Int) : Option (Int) :=
  (xFI N N a1 0)
def xBg (a0 : Val) (a1 : Int) : List Arg := [.val (.v true [.int .i64 (Val.kind a0), .int .i64 (Val.n a0), .int .i64 (Val.step a0), .str (Val.text a0), .sl .ro .val [], .sl .ro .str [], .sl .ro .row []]), .val (.v false [.int .i64 a1])]
def xAO (r : Int) : CallO := ⟨.v false [.int .i64 r], [], []⟩
def xEw (N : Nat) (a0 : Val) (a1 : Int) : Option (Int) :=
  Option.bind (xEW N [] a1) fun r1 =>
  Option.bind (xEK N [] r1) fun r2 =>
  Option.bind (xFH N [] r2) fun r3 =>
  some r3
def xEp (a0 : List Org) (a1 : Int) : List Arg := [.val (.v false [.sl (.lnt 0) .org a0]), .val (.v false [.int .i64 a1])]
def xCW (r : Int × (List Org)) : CallO := ⟨.v false [.int .i64 r.1], [], [.sl (.lnt 0) .org r.2]⟩
def xCV (N : Nat) : Nat → (List Org) → Int → Int → Option (Int × (List Org))
  | 0, _, _, _ => none
  | n + 1, x0, x1, x5 =>
    bif (decide ((x5 : Int) < (List.length x0 : Int))) then (
      if (0 : Int) ≤ x5 ∧ x5 < (List.length x0) then
      if (0 : Int) ≤ x5 ∧ x5 < (List.length (List.set x0 (Int.toNat x5) (Org.mk x1 (Org.row (List.getD x0 (Int.toNat x5) Ty.org.dflt))))) then
      (xCV N n ((fun (z1 : List Org) => List.set z1 (Int.toNat x5) (Org.mk (Org.cell (List.getD z1 (Int.toNat x5) Ty.org.dflt)) (IntKind.i64.wrap (x1 + 1)))) (List.set x0 (Int.toNat x5) (Org.mk x1 (Org.row (List.getD x0 (Int.toNat x5) Ty.org.dflt))))) (IntKind.i64.wrap ((IntKind.i64.wrap (x1 + 1)) + 1)) (IntKind.i64.wrap (x5 + 1)))
      else none
      else none
    ) else (
      some (x1, x0)
    )
def xFo (N : Nat) (a0 : List Org) (a1 : Int) : Option (Int × (List Org)) :=
  (xCV N N a0 a1 0)
def xEu (a0 : List Rowd) (a1 : Int) : List Arg := [.val (.v false [.sl (.lnt 0) .row a0]), .val (.v false [.int .i64 a1])]
def xCL (r : Int × (List Rowd)) : CallO := ⟨.v false [.int .i64 r.1], [], [.sl (.lnt 0) .row r.2]⟩
def xDV (N : Nat) : Nat → (List Rowd) → Int → Int → Option (Int × (List Rowd))
  | 0, _, _, _ => none
  | n + 1, x0, x1, x5 =>
    bif (decide ((x5 : Int) < (List.length x0 : Int))) then (
      if (0 : Int) ≤ x5 ∧ x5 < (List.length x0) then
      Option.bind (xGq N (Rowd.cells (List.getD x0 (Int.toNat x5) Ty.row.dflt)) x1) fun r1 =>
      if List.length r1.2 = List.length (Rowd.cells (List.getD x0 (Int.toNat x5) Ty.row.dflt)) then
      if (0 : Int) ≤ x5 ∧ x5 < (List.length (List.set x0 (Int.toNat x5) (Rowd.mk r1.2 (Rowd.frm (List.getD x0 (Int.toNat x5) Ty.row.dflt))))) then
      Option.bind (xFo N (Rowd.frm (List.getD (List.set x0 (Int.toNat x5) (Rowd.mk r1.2 (Rowd.frm (List.getD x0 (Int.toNat x5) Ty.row.dflt)))) (Int.toNat x5) Ty.row.dflt)) r1.1) fun r2 =>
      if List.length r2.2 = List.length (Rowd.frm (List.getD (List.set x0 (Int.toNat x5) (Rowd.mk r1.2 (Rowd.frm (List.getD x0 (Int.toNat x5) Ty.row.dflt)))) (Int.toNat x5) Ty.row.dflt)) then
      (xDV N n ((fun (z1 : List Rowd) => List.set z1 (Int.toNat x5) (Rowd.mk (Rowd.cells (List.getD z1 (Int.toNat x5) Ty.row.dflt)) r2.2)) (List.set x0 (Int.toNat x5) (Rowd.mk r1.2 (Rowd.frm (List.getD x0 (Int.toNat x5) Ty.row.dflt))))) r2.1 (IntKind.i64.wrap (x5 + 1)))
      else none
      else none
      else none
      else none
    ) else (
      some (x1, x0)
    )
def xFG (N : Nat) (a0 : List Rowd) (a1 : Int) : Option (Int × (List Rowd)) :=
  (xDV N N a0 a1 0)
def xCF (a0 : List Val) (a1 : Int) : List Arg := [.val (.v false [.sl (.lnt 0) .val a0]), .val (.v false [.int .i64 a1])]
def xBL (r : Int × (List Val)) : CallO := ⟨.v false [.int .i64 r.1], [], [.sl (.lnt 0) .val r.2]⟩
def xC7 (N : Nat) (q0 : (List Val) → Int → Option (Int × (List Val))) : Nat → (List Val) → Int → Int → Option (Int × (List Val))
  | 0, _, _, _ => none
  | n + 1, x0, x1, x5 =>
    bif (decide ((x5 : Int) < (List.length x0 : Int))) then (
      if (0 : Int) ≤ x5 ∧ x5 < (List.length x0) then
      if (0 : Int) ≤ x5 ∧ x5 < (List.length (List.set x0 (Int.toNat x5) (Val.mk x1 (Val.n (List.getD x0 (Int.toNat x5) Ty.val.dflt)) (Val.step (List.getD x0 (Int.toNat x5) Ty.val.dflt)) (Val.text (List.getD x0 (Int.toNat x5) Ty.val.dflt)) (Val.list (List.getD x0 (Int.toNat x5) Ty.val.dflt)) (Val.columns (List.getD x0 (Int.toNat x5) Ty.val.dflt)) (Val.rows (List.getD x0 (Int.toNat x5) Ty.val.dflt))))) then
      if (0 : Int) ≤ x5 ∧ x5 < (List.length ((fun (z40 : List Val) => List.set z40 (Int.toNat x5) (Val.mk (Val.kind (List.getD z40 (Int.toNat x5) Ty.val.dflt)) (IntKind.i64.wrap (x1 + 1)) (Val.step (List.getD z40 (Int.toNat x5) Ty.val.dflt)) (Val.text (List.getD z40 (Int.toNat x5) Ty.val.dflt)) (Val.list (List.getD z40 (Int.toNat x5) Ty.val.dflt)) (Val.columns (List.getD z40 (Int.toNat x5) Ty.val.dflt)) (Val.rows (List.getD z40 (Int.toNat x5) Ty.val.dflt)))) (List.set x0 (Int.toNat x5) (Val.mk x1 (Val.n (List.getD x0 (Int.toNat x5) Ty.val.dflt)) (Val.step (List.getD x0 (Int.toNat x5) Ty.val.dflt)) (Val.text (List.getD x0 (Int.toNat x5) Ty.val.dflt)) (Val.list (List.getD x0 (Int.toNat x5) Ty.val.dflt)) (Val.columns (List.getD x0 (Int.toNat x5) Ty.val.dflt)) (Val.rows (List.getD x0 (Int.toNat x5) Ty.val.dflt)))))) then
      Option.bind (xDm N (IntKind.i64.wrap ((IntKind.i64.wrap ((IntKind.i64.wrap (x1 + 1)) + 1)) + 1))) fun r1 =>
      if (0 : Int) ≤ x5 ∧ x5 < (List.length ((fun (z41 : List Val) => List.set z41 (Int.toNat x5) (Val.mk (Val.kind (List.getD z41 (Int.toNat x5) Ty.val.dflt)) (Val.n (List.getD z41 (Int.toNat x5) Ty.val.dflt)) (IntKind.i64.wrap ((IntKind.i64.wrap (x1 + 1)) + 1)) (Val.text (List.getD z41 (Int.toNat x5) Ty.val.dflt)) (Val.list (List.getD z41 (Int.toNat x5) Ty.val.dflt)) (Val.columns (List.getD z41 (Int.toNat x5) Ty.val.dflt)) (Val.rows (List.getD z41 (Int.toNat x5) Ty.val.dflt)))) ((fun (z40 : List Val) => List.set z40 (Int.toNat x5) (Val.mk (Val.kind (List.getD z40 (Int.toNat x5) Ty.val.dflt)) (IntKind.i64.wrap (x1 + 1)) (Val.step (List.getD z40 (Int.toNat x5) Ty.val.dflt)) (Val.text (List.getD z40 (Int.toNat x5) Ty.val.dflt)) (Val.list (List.getD z40 (Int.toNat x5) Ty.val.dflt)) (Val.columns (List.getD z40 (Int.toNat x5) Ty.val.dflt)) (Val.rows (List.getD z40 (Int.toNat x5) Ty.val.dflt)))) (List.set x0 (Int.toNat x5) (Val.mk x1 (Val.n (List.getD x0 (Int.toNat x5) Ty.val.dflt)) (Val.step (List.getD x0 (Int.toNat x5) Ty.val.dflt)) (Val.text (List.getD x0 (Int.toNat x5) Ty.val.dflt)) (Val.list (List.getD x0 (Int.toNat x5) Ty.val.dflt)) (Val.columns (List.getD x0 (Int.toNat x5) Ty.val.dflt)) (Val.rows (List.getD x0 (Int.toNat x5) Ty.val.dflt))))))) then
      if (0 : Int) ≤ x5 ∧ x5 < (List.length ((fun (z42 : List Val) => List.set z42 (Int.toNat x5) (Val.mk (Val.kind (List.getD z42 (Int.toNat x5) Ty.val.dflt)) (Val.n (List.getD z42 (Int.toNat x5) Ty.val.dflt)) (Val.step (List.getD z42 (Int.toNat x5) Ty.val.dflt)) r1 (Val.list (List.getD z42 (Int.toNat x5) Ty.val.dflt)) (Val.columns (List.getD z42 (Int.toNat x5) Ty.val.dflt)) (Val.rows (List.getD z42 (Int.toNat x5) Ty.val.dflt)))) ((fun (z41 : List Val) => List.set z41 (Int.toNat x5) (Val.mk (Val.kind (List.getD z41 (Int.toNat x5) Ty.val.dflt)) (Val.n (List.getD z41 (Int.toNat x5) Ty.val.dflt)) (IntKind.i64.wrap ((IntKind.i64.wrap (x1 + 1)) + 1)) (Val.text (List.getD z41 (Int.toNat x5) Ty.val.dflt)) (Val.list (List.getD z41 (Int.toNat x5) Ty.val.dflt)) (Val.columns (List.getD z41 (Int.toNat x5) Ty.val.dflt)) (Val.rows (List.getD z41 (Int.toNat x5) Ty.val.dflt)))) ((fun (z40 : List Val) => List.set z40 (Int.toNat x5) (Val.mk (Val.kind (List.getD z40 (Int.toNat x5) Ty.val.dflt)) (IntKind.i64.wrap (x1 + 1)) (Val.step (List.getD z40 (Int.toNat x5) Ty.val.dflt)) (Val.text (List.getD z40 (Int.toNat x5) Ty.val.dflt)) (Val.list (List.getD z40 (Int.toNat x5) Ty.val.dflt)) (Val.columns (List.getD z40 (Int.toNat x5) Ty.val.dflt)) (Val.rows (List.getD z40 (Int.toNat x5) Ty.val.dflt)))) (List.set x0 (Int.toNat x5) (Val.mk x1 (Val.n (List.getD x0 (Int.toNat x5) Ty.val.dflt)) (Val.step (List.getD x0 (Int.toNat x5) Ty.val.dflt)) (Val.text (List.getD x0 (Int.toNat x5) Ty.val.dflt)) (Val.list (List.getD x0 (Int.toNat x5) Ty.val.dflt)) (Val.columns (List.getD x0 (Int.toNat x5) Ty.val.dflt)) (Val.rows (List.getD x0 (Int.toNat x5) Ty.val.dflt)))))))) then
      Option.bind (q0 (Val.list (List.getD ((fun (z42 : List Val) => List.set z42 (Int.toNat x5) (Val.mk (Val.kind (List.getD z42 (Int.toNat x5) Ty.val.dflt)) (Val.n (List.getD z42 (Int.toNat x5) Ty.val.dflt)) (Val.step (List.getD z42 (Int.toNat x5) Ty.val.dflt)) r1 (Val.list (List.getD z42 (Int.toNat x5) Ty.val.dflt)) (Val.columns (List.getD z42 (Int.toNat x5) Ty.val.dflt)) (Val.rows (List.getD z42 (Int.toNat x5) Ty.val.dflt)))) ((fun (z41 : List Val) => List.set z41 (Int.toNat x5) (Val.mk (Val.kind (List.getD z41 (Int.toNat x5) Ty.val.dflt)) (Val.n (List.getD z41 (Int.toNat x5) Ty.val.dflt)) (IntKind.i64.wrap ((IntKind.i64.wrap (x1 + 1)) + 1)) (Val.text (List.getD z41 (Int.toNat x5) Ty.val.dflt)) (Val.list (List.getD z41 (Int.toNat x5) Ty.val.dflt)) (Val.columns (List.getD z41 (Int.toNat x5) Ty.val.dflt)) (Val.rows (List.getD z41 (Int.toNat x5) Ty.val.dflt)))) ((fun (z40 : List Val) => List.set z40 (Int.toNat x5) (Val.mk (Val.kind (List.getD z40 (Int.toNat x5) Ty.val.dflt)) (IntKind.i64.wrap (x1 + 1)) (Val.step (List.getD z40 (Int.toNat x5) Ty.val.dflt)) (Val.text (List.getD z40 (Int.toNat x5) Ty.val.dflt)) (Val.list (List.getD z40 (Int.toNat x5) Ty.val.dflt)) (Val.columns (List.getD z40 (Int.toNat x5) Ty.val.dflt)) (Val.rows (List.getD z40 (Int.toNat x5) Ty.val.dflt)))) (List.set x0 (Int.toNat x5) (Val.mk x1 (Val.n (List.getD x0 (Int.toNat x5) Ty.val.dflt)) (Val.step (List.getD x0 (Int.toNat x5) Ty.val.dflt)) (Val.text (List.getD x0 (Int.toNat x5) Ty.val.dflt)) (Val.list (List.getD x0 (Int.toNat x5) Ty.val.dflt)) (Val.columns (List.getD x0 (Int.toNat x5) Ty.val.dflt)) (Val.rows (List.getD x0 (Int.toNat x5) Ty.val.dflt))))))) (Int.toNat x5) Ty.val.dflt)) (IntKind.i64.wrap ((IntKind.i64.wrap ((IntKind.i64.wrap ((IntKind.i64.wrap (x1 + 1)) + 1)) + 1)) + 1))) fun r2 =>
      if List.length r2.2 = List.length (Val.list (List.getD ((fun (z42 : List Val) => List.set z42 (Int.toNat x5) (Val.mk (Val.kind (List.getD z42 (Int.toNat x5) Ty.val.dflt)) (Val.n (List.getD z42 (Int.toNat x5) Ty.val.dflt)) (Val.step (List.getD z42 (Int.toNat x5) Ty.val.dflt)) r1 (Val.list (List.getD z42 (Int.toNat x5) Ty.val.dflt)) (Val.columns (List.getD z42 (Int.toNat x5) Ty.val.dflt)) (Val.rows (List.getD z42 (Int.toNat x5) Ty.val.dflt)))) ((fun (z41 : List Val) => List.set z41 (Int.toNat x5) (Val.mk (Val.kind (List.getD z41 (Int.toNat x5) Ty.val.dflt)) (Val.n (List.getD z41 (Int.toNat x5) Ty.val.dflt)) (IntKind.i64.wrap ((IntKind.i64.wrap (x1 + 1)) + 1)) (Val.text (List.getD z41 (Int.toNat x5) Ty.val.dflt)) (Val.list (List.getD z41 (Int.toNat x5) Ty.val.dflt)) (Val.columns (List.getD z41 (Int.toNat x5) Ty.val.dflt)) (Val.rows (List.getD z41 (Int.toNat x5) Ty.val.dflt)))) ((fun (z40 : List Val) => List.set z40 (Int.toNat x5) (Val.mk (Val.kind (List.getD z40 (Int.toNat x5) Ty.val.dflt)) (IntKind.i64.wrap (x1 + 1)) (Val.step (List.getD z40 (Int.toNat x5) Ty.val.dflt)) (Val.text (List.getD z40 (Int.toNat x5) Ty.val.dflt)) (Val.list (List.getD z40 (Int.toNat x5) Ty.val.dflt)) (Val.columns (List.getD z40 (Int.toNat x5) Ty.val.dflt)) (Val.rows (List.getD z40 (Int.toNat x5) Ty.val.dflt)))) (List.set x0 (Int.toNat x5) (Val.mk x1 (Val.n (List.getD x0 (Int.toNat x5) Ty.val.dflt)) (Val.step (List.getD x0 (Int.toNat x5) Ty.val.dflt)) (Val.text (List.getD x0 (Int.toNat x5) Ty.val.dflt)) (Val.list (List.getD x0 (Int.toNat x5) Ty.val.dflt)) (Val.columns (List.getD x0 (Int.toNat x5) Ty.val.dflt)) (Val.rows (List.getD x0 (Int.toNat x5) Ty.val.dflt))))))) (Int.toNat x5) Ty.val.dflt)) then
      if (0 : Int) ≤ x5 ∧ x5 < (List.length ((fun (z43 : List Val) => List.set z43 (Int.toNat x5) (Val.mk (Val.kind (List.getD z43 (Int.toNat x5) Ty.val.dflt)) (Val.n (List.getD z43 (Int.toNat x5) Ty.val.dflt)) (Val.step (List.getD z43 (Int.toNat x5) Ty.val.dflt)) (Val.text (List.getD z43 (Int.toNat x5) Ty.val.dflt)) r2.2 (Val.columns (List.getD z43 (Int.toNat x5) Ty.val.dflt)) (Val.rows (List.getD z43 (Int.toNat x5) Ty.val.dflt)))) ((fun (z42 : List Val) => List.set z42 (Int.toNat x5) (Val.mk (Val.kind (List.getD z42 (Int.toNat x5) Ty.val.dflt)) (Val.n (List.getD z42 (Int.toNat x5) Ty.val.dflt)) (Val.step (List.getD z42 (Int.toNat x5) Ty.val.dflt)) r1 (Val.list (List.getD z42 (Int.toNat x5) Ty.val.dflt)) (Val.columns (List.getD z42 (Int.toNat x5) Ty.val.dflt)) (Val.rows (List.getD z42 (Int.toNat x5) Ty.val.dflt)))) ((fun (z41 : List Val) => List.set z41 (Int.toNat x5) (Val.mk (Val.kind (List.getD z41 (Int.toNat x5) Ty.val.dflt)) (Val.n (List.getD z41 (Int.toNat x5) Ty.val.dflt)) (IntKind.i64.wrap ((IntKind.i64.wrap (x1 + 1)) + 1)) (Val.text (List.getD z41 (Int.toNat x5) Ty.val.dflt)) (Val.list (List.getD z41 (Int.toNat x5) Ty.val.dflt)) (Val.columns (List.getD z41 (Int.toNat x5) Ty.val.dflt)) (Val.rows (List.getD z41 (Int.toNat x5) Ty.val.dflt)))) ((fun (z40 : List Val) => List.set z40 (Int.toNat x5) (Val.mk (Val.kind (List.getD z40 (Int.toNat x5) Ty.val.dflt)) (IntKind.i64.wrap (x1 + 1)) (Val.step (List.getD z40 (Int.toNat x5) Ty.val.dflt)) (Val.text (List.getD z40 (Int.toNat x5) Ty.val.dflt)) (Val.list (List.getD z40 (Int.toNat x5) Ty.val.dflt)) (Val.columns (List.getD z40 (Int.toNat x5) Ty.val.dflt)) (Val.rows (List.getD z40 (Int.toNat x5) Ty.val.dflt)))) (List.set x0 (Int.toNat x5) (Val.mk x1 (Val.n (List.getD x0 (Int.toNat x5) Ty.val.dflt)) (Val.step (List.getD x0 (Int.toNat x5) Ty.val.dflt)) (Val.text (List.getD x0 (Int.toNat x5) Ty.val.dflt)) (Val.list (List.getD x0 (Int.toNat x5) Ty.val.dflt)) (Val.columns (List.getD x0 (Int.toNat x5) Ty.val.dflt)) (Val.rows (List.getD x0 (Int.toNat x5) Ty.val.dflt))))))))) then
      Option.bind (xEv N (Val.columns (List.getD ((fun (z43 : List Val) => List.set z43 (Int.toNat x5) (Val.mk (Val.kind (List.getD z43 (Int.toNat x5) Ty.val.dflt)) (Val.n (List.getD z43 (Int.toNat x5) Ty.val.dflt)) (Val.step (List.getD z43 (Int.toNat x5) Ty.val.dflt)) (Val.text (List.getD z43 (Int.toNat x5) Ty.val.dflt)) r2.2 (Val.columns (List.getD z43 (Int.toNat x5) Ty.val.dflt)) (Val.rows (List.getD z43 (Int.toNat x5) Ty.val.dflt)))) ((fun (z42 : List Val) => List.set z42 (Int.toNat x5) (Val.mk (Val.kind (List.getD z42 (Int.toNat x5) Ty.val.dflt)) (Val.n (List.getD z42 (Int.toNat x5) Ty.val.dflt)) (Val.step (List.getD z42 (Int.toNat x5) Ty.val.dflt)) r1 (Val.list (List.getD z42 (Int.toNat x5) Ty.val.dflt)) (Val.columns (List.getD z42 (Int.toNat x5) Ty.val.dflt)) (Val.rows (List.getD z42 (Int.toNat x5) Ty.val.dflt)))) ((fun (z41 : List Val) => List.set z41 (Int.toNat x5) (Val.mk (Val.kind (List.getD z41 (Int.toNat x5) Ty.val.dflt)) (Val.n (List.getD z41 (Int.toNat x5) Ty.val.dflt)) (IntKind.i64.wrap ((IntKind.i64.wrap (x1 + 1)) + 1)) (Val.text (List.getD z41 (Int.toNat x5) Ty.val.dflt)) (Val.list (List.getD z41 (Int.toNat x5) Ty.val.dflt)) (Val.columns (List.getD z41 (Int.toNat x5) Ty.val.dflt)) (Val.rows (List.getD z41 (Int.toNat x5) Ty.val.dflt)))) ((fun (z40 : List Val) => List.set z40 (Int.toNat x5) (Val.mk (Val.kind (List.getD z40 (Int.toNat x5) Ty.val.dflt)) (IntKind.i64.wrap (x1 + 1)) (Val.step (List.getD z40 (Int.toNat x5) Ty.val.dflt)) (Val.text (List.getD z40 (Int.toNat x5) Ty.val.dflt)) (Val.list (List.getD z40 (Int.toNat x5) Ty.val.dflt)) (Val.columns (List.getD z40 (Int.toNat x5) Ty.val.dflt)) (Val.rows (List.getD z40 (Int.toNat x5) Ty.val.dflt)))) (List.set x0 (Int.toNat x5) (Val.mk x1 (Val.n (List.getD x0 (Int.toNat x5) Ty.val.dflt)) (Val.step (List.getD x0 (Int.toNat x5) Ty.val.dflt)) (Val.text (List.getD x0 (Int.toNat x5) Ty.val.dflt)) (Val.list (List.getD x0 (Int.toNat x5) Ty.val.dflt)) (Val.columns (List.getD x0 (Int.toNat x5) Ty.val.dflt)) (Val.rows (List.getD x0 (Int.toNat x5) Ty.val.dflt)))))))) (Int.toNat x5) Ty.val.dflt)) r2.1) fun r3 =>
      if List.length r3.2 = List.length (Val.columns (List.getD ((fun (z43 : List Val) => List.set z43 (Int.toNat x5) (Val.mk (Val.kind (List.getD z43 (Int.toNat x5) Ty.val.dflt)) (Val.n (List.getD z43 (Int.toNat x5) Ty.val.dflt)) (Val.step (List.getD z43 (Int.toNat x5) Ty.val.dflt)) (Val.text (List.getD z43 (Int.toNat x5) Ty.val.dflt)) r2.2 (Val.columns (List.getD z43 (Int.toNat x5) Ty.val.dflt)) (Val.rows (List.getD z43 (Int.toNat x5) Ty.val.dflt)))) ((fun (z42 : List Val) => List.set z42 (Int.toNat x5) (Val.mk (Val.kind (List.getD z42 (Int.toNat x5) Ty.val.dflt)) (Val.n (List.getD z42 (Int.toNat x5) Ty.val.dflt)) (Val.step (List.getD z42 (Int.toNat x5) Ty.val.dflt)) r1 (Val.list (List.getD z42 (Int.toNat x5) Ty.val.dflt)) (Val.columns (List.getD z42 (Int.toNat x5) Ty.val.dflt)) (Val.rows (List.getD z42 (Int.toNat x5) Ty.val.dflt)))) ((fun (z41 : List Val) => List.set z41 (Int.toNat x5) (Val.mk (Val.kind (List.getD z41 (Int.toNat x5) Ty.val.dflt)) (Val.n (List.getD z41 (Int.toNat x5) Ty.val.dflt)) (IntKind.i64.wrap ((IntKind.i64.wrap (x1 + 1)) + 1)) (Val.text (List.getD z41 (Int.toNat x5) Ty.val.dflt)) (Val.list (List.getD z41 (Int.toNat x5) Ty.val.dflt)) (Val.columns (List.getD z41 (Int.toNat x5) Ty.val.dflt)) (Val.rows (List.getD z41 (Int.toNat x5) Ty.val.dflt)))) ((fun (z40 : List Val) => List.set z40 (Int.toNat x5) (Val.mk (Val.kind (List.getD z40 (Int.toNat x5) Ty.val.dflt)) (IntKind.i64.wrap (x1 + 1)) (Val.step (List.getD z40 (Int.toNat x5) Ty.val.dflt)) (Val.text (List.getD z40 (Int.toNat x5) Ty.val.dflt)) (Val.list (List.getD z40 (Int.toNat x5) Ty.val.dflt)) (Val.columns (List.getD z40 (Int.toNat x5) Ty.val.dflt)) (Val.rows (List.getD z40 (Int.toNat x5) Ty.val.dflt)))) (List.set x0 (Int.toNat x5) (Val.mk x1 (Val.n (List.getD x0 (Int.toNat x5) Ty.val.dflt)) (Val.step (List.getD x0 (Int.toNat x5) Ty.val.dflt)) (Val.text (List.getD x0 (Int.toNat x5) Ty.val.dflt)) (Val.list (List.getD x0 (Int.toNat x5) Ty.val.dflt)) (Val.columns (List.getD x0 (Int.toNat x5) Ty.val.dflt)) (Val.rows (List.getD x0 (Int.toNat x5) Ty.val.dflt)))))))) (Int.toNat x5) Ty.val.dflt)) then
      if (0 : Int) ≤ x5 ∧ x5 < (List.length ((fun (z44 : List Val) => List.set z44 (Int.toNat x5) (Val.mk (Val.kind (List.getD z44 (Int.toNat x5) Ty.val.dflt)) (Val.n (List.getD z44 (Int.toNat x5) Ty.val.dflt)) (Val.step (List.getD z44 (Int.toNat x5) Ty.val.dflt)) (Val.text (List.getD z44 (Int.toNat x5) Ty.val.dflt)) (Val.list (List.getD z44 (Int.toNat x5) Ty.val.dflt)) r3.2 (Val.rows (List.getD z44 (Int.toNat x5) Ty.val.dflt)))) ((fun (z43 : List Val) => List.set z43 (Int.toNat x5) (Val.mk (Val.kind (List.getD z43 (Int.toNat x5) Ty.val.dflt)) (Val.n (List.getD z43 (Int.toNat x5) Ty.val.dflt)) (Val.step (List.getD z43 (Int.toNat x5) Ty.val.dflt)) (Val.text (List.getD z43 (Int.toNat x5) Ty.val.dflt)) r2.2 (Val.columns (List.getD z43 (Int.toNat x5) Ty.val.dflt)) (Val.rows (List.getD z43 (Int.toNat x5) Ty.val.dflt)))) ((fun (z42 : List Val) => List.set z42 (Int.toNat x5) (Val.mk (Val.kind (List.getD z42 (Int.toNat x5) Ty.val.dflt)) (Val.n (List.getD z42 (Int.toNat x5) Ty.val.dflt)) (Val.step (List.getD z42 (Int.toNat x5) Ty.val.dflt)) r1 (Val.list (List.getD z42 (Int.toNat x5) Ty.val.dflt)) (Val.columns (List.getD z42 (Int.toNat x5) Ty.val.dflt)) (Val.rows (List.getD z42 (Int.toNat x5) Ty.val.dflt)))) ((fun (z41 : List Val) => List.set z41 (Int.toNat x5) (Val.mk (Val.kind (List.getD z41 (Int.toNat x5) Ty.val.dflt)) (Val.n (List.getD z41 (Int.toNat x5) Ty.val.dflt)) (IntKind.i64.wrap ((IntKind.i64.wrap (x1 + 1)) + 1)) (Val.text (List.getD z41 (Int.toNat x5) Ty.val.dflt)) (Val.list (List.getD z41 (Int.toNat x5) Ty.val.dflt)) (Val.columns (List.getD z41 (Int.toNat x5) Ty.val.dflt)) (Val.rows (List.getD z41 (Int.toNat x5) Ty.val.dflt)))) ((fun (z40 : List Val) => List.set z40 (Int.toNat x5) (Val.mk (Val.kind (List.getD z40 (Int.toNat x5) Ty.val.dflt)) (IntKind.i64.wrap (x1 + 1)) (Val.step (List.getD z40 (Int.toNat x5) Ty.val.dflt)) (Val.text (List.getD z40 (Int.toNat x5) Ty.val.dflt)) (Val.list (List.getD z40 (Int.toNat x5) Ty.val.dflt)) (Val.columns (List.getD z40 (Int.toNat x5) Ty.val.dflt)) (Val.rows (List.getD z40 (Int.toNat x5) Ty.val.dflt)))) (List.set x0 (Int.toNat x5) (Val.mk x1 (Val.n (List.getD x0 (Int.toNat x5) Ty.val.dflt)) (Val.step (List.getD x0 (Int.toNat x5) Ty.val.dflt)) (Val.text (List.getD x0 (Int.toNat x5) Ty.val.dflt)) (Val.list (List.getD x0 (Int.toNat x5) Ty.val.dflt)) (Val.columns (List.getD x0 (Int.toNat x5) Ty.val.dflt)) (Val.rows (List.getD x0 (Int.toNat x5) Ty.val.dflt)))))))))) then
      Option.bind (xFG N (Val.rows (List.getD ((fun (z44 : List Val) => List.set z44 (Int.toNat x5) (Val.mk (Val.kind (List.getD z44 (Int.toNat x5) Ty.val.dflt)) (Val.n (List.getD z44 (Int.toNat x5) Ty.val.dflt)) (Val.step (List.getD z44 (Int.toNat x5) Ty.val.dflt)) (Val.text (List.getD z44 (Int.toNat x5) Ty.val.dflt)) (Val.list (List.getD z44 (Int.toNat x5) Ty.val.dflt)) r3.2 (Val.rows (List.getD z44 (Int.toNat x5) Ty.val.dflt)))) ((fun (z43 : List Val) => List.set z43 (Int.toNat x5) (Val.mk (Val.kind (List.getD z43 (Int.toNat x5) Ty.val.dflt)) (Val.n (List.getD z43 (Int.toNat x5) Ty.val.dflt)) (Val.step (List.getD z43 (Int.toNat x5) Ty.val.dflt)) (Val.text (List.getD z43 (Int.toNat x5) Ty.val.dflt)) r2.2 (Val.columns (List.getD z43 (Int.toNat x5) Ty.val.dflt)) (Val.rows (List.getD z43 (Int.toNat x5) Ty.val.dflt)))) ((fun (z42 : List Val) => List.set z42 (Int.toNat x5) (Val.mk (Val.kind (List.getD z42 (Int.toNat x5) Ty.val.dflt)) (Val.n (List.getD z42 (Int.toNat x5) Ty.val.dflt)) (Val.step (List.getD z42 (Int.toNat x5) Ty.val.dflt)) r1 (Val.list (List.getD z42 (Int.toNat x5) Ty.val.dflt)) (Val.columns (List.getD z42 (Int.toNat x5) Ty.val.dflt)) (Val.rows (List.getD z42 (Int.toNat x5) Ty.val.dflt)))) ((fun (z41 : List Val) => List.set z41 (Int.toNat x5) (Val.mk (Val.kind (List.getD z41 (Int.toNat x5) Ty.val.dflt)) (Val.n (List.getD z41 (Int.toNat x5) Ty.val.dflt)) (IntKind.i64.wrap ((IntKind.i64.wrap (x1 + 1)) + 1)) (Val.text (List.getD z41 (Int.toNat x5) Ty.val.dflt)) (Val.list (List.getD z41 (Int.toNat x5) Ty.val.dflt)) (Val.columns (List.getD z41 (Int.toNat x5) Ty.val.dflt)) (Val.rows (List.getD z41 (Int.toNat x5) Ty.val.dflt)))) ((fun (z40 : List Val) => List.set z40 (Int.toNat x5) (Val.mk (Val.kind (List.getD z40 (Int.toNat x5) Ty.val.dflt)) (IntKind.i64.wrap (x1 + 1)) (Val.step (List.getD z40 (Int.toNat x5) Ty.val.dflt)) (Val.text (List.getD z40 (Int.toNat x5) Ty.val.dflt)) (Val.list (List.getD z40 (Int.toNat x5) Ty.val.dflt)) (Val.columns (List.getD z40 (Int.toNat x5) Ty.val.dflt)) (Val.rows (List.getD z40 (Int.toNat x5) Ty.val.dflt)))) (List.set x0 (Int.toNat x5) (Val.mk x1 (Val.n (List.getD x0 (Int.toNat x5) Ty.val.dflt)) (Val.step (List.getD x0 (Int.toNat x5) Ty.val.dflt)) (Val.text (List.getD x0 (Int.toNat x5) Ty.val.dflt)) (Val.list (List.getD x0 (Int.toNat x5) Ty.val.dflt)) (Val.columns (List.getD x0 (Int.toNat x5) Ty.val.dflt)) (Val.rows (List.getD x0 (Int.toNat x5) Ty.val.dflt))))))))) (Int.toNat x5) Ty.val.dflt)) r3.1) fun r4 =>
      if List.length r4.2 = List.length (Val.rows (List.getD ((fun (z44 : List Val) => List.set z44 (Int.toNat x5) (Val.mk (Val.kind (List.getD z44 (Int.toNat x5) Ty.val.dflt)) (Val.n (List.getD z44 (Int.toNat x5) Ty.val.dflt)) (Val.step (List.getD z44 (Int.toNat x5) Ty.val.dflt)) (Val.text (List.getD z44 (Int.toNat x5) Ty.val.dflt)) (Val.list (List.getD z44 (Int.toNat x5) Ty.val.dflt)) r3.2 (Val.rows (List.getD z44 (Int.toNat x5) Ty.val.dflt)))) ((fun (z43 : List Val) => List.set z43 (Int.toNat x5) (Val.mk (Val.kind (List.getD z43 (Int.toNat x5) Ty.val.dflt)) (Val.n (List.getD z43 (Int.toNat x5) Ty.val.dflt)) (Val.step (List.getD z43 (Int.toNat x5) Ty.val.dflt)) (Val.text (List.getD z43 (Int.toNat x5) Ty.val.dflt)) r2.2 (Val.columns (List.getD z43 (Int.toNat x5) Ty.val.dflt)) (Val.rows (List.getD z43 (Int.toNat x5) Ty.val.dflt)))) ((fun (z42 : List Val) => List.set z42 (Int.toNat x5) (Val.mk (Val.kind (List.getD z42 (Int.toNat x5) Ty.val.dflt)) (Val.n (List.getD z42 (Int.toNat x5) Ty.val.dflt)) (Val.step (List.getD z42 (Int.toNat x5) Ty.val.dflt)) r1 (Val.list (List.getD z42 (Int.toNat x5) Ty.val.dflt)) (Val.columns (List.getD z42 (Int.toNat x5) Ty.val.dflt)) (Val.rows (List.getD z42 (Int.toNat x5) Ty.val.dflt)))) ((fun (z41 : List Val) => List.set z41 (Int.toNat x5) (Val.mk (Val.kind (List.getD z41 (Int.toNat x5) Ty.val.dflt)) (Val.n (List.getD z41 (Int.toNat x5) Ty.val.dflt)) (IntKind.i64.wrap ((IntKind.i64.wrap (x1 + 1)) + 1)) (Val.text (List.getD z41 (Int.toNat x5) Ty.val.dflt)) (Val.list (List.getD z41 (Int.toNat x5) Ty.val.dflt)) (Val.columns (List.getD z41 (Int.toNat x5) Ty.val.dflt)) (Val.rows (List.getD z41 (Int.toNat x5) Ty.val.dflt)))) ((fun (z40 : List Val) => List.set z40 (Int.toNat x5) (Val.mk (Val.kind (List.getD z40 (Int.toNat x5) Ty.val.dflt)) (IntKind.i64.wrap (x1 + 1)) (Val.step (List.getD z40 (Int.toNat x5) Ty.val.dflt)) (Val.text (List.getD z40 (Int.toNat x5) Ty.val.dflt)) (Val.list (List.getD z40 (Int.toNat x5) Ty.val.dflt)) (Val.columns (List.getD z40 (Int.toNat x5) Ty.val.dflt)) (Val.rows (List.getD z40 (Int.toNat x5) Ty.val.dflt)))) (List.set x0 (Int.toNat x5) (Val.mk x1 (Val.n (List.getD x0 (Int.toNat x5) Ty.val.dflt)) (Val.step (List.getD x0 (Int.toNat x5) Ty.val.dflt)) (Val.text (List.getD x0 (Int.toNat x5) Ty.val.dflt)) (Val.list (List.getD x0 (Int.toNat x5) Ty.val.dflt)) (Val.columns (List.getD x0 (Int.toNat x5) Ty.val.dflt)) (Val.rows (List.getD x0 (Int.toNat x5) Ty.val.dflt))))))))) (Int.toNat x5) Ty.val.dflt)) then
      (xC7 N q0 n ((fun (z45 : List Val) => List.set z45 (Int.toNat x5) (Val.mk (Val.kind (List.getD z45 (Int.toNat x5) Ty.val.dflt)) (Val.n (List.getD z45 (Int.toNat x5) Ty.val.dflt)) (Val.step (List.getD z45 (Int.toNat x5) Ty.val.dflt)) (Val.text (List.getD z45 (Int.toNat x5) Ty.val.dflt)) (Val.list (List.getD z45 (Int.toNat x5) Ty.val.dflt)) (Val.columns (List.getD z45 (Int.toNat x5) Ty.val.dflt)) r4.2)) ((fun (z44 : List Val) => List.set z44 (Int.toNat x5) (Val.mk (Val.kind (List.getD z44 (Int.toNat x5) Ty.val.dflt)) (Val.n (List.getD z44 (Int.toNat x5) Ty.val.dflt)) (Val.step (List.getD z44 (Int.toNat x5) Ty.val.dflt)) (Val.text (List.getD z44 (Int.toNat x5) Ty.val.dflt)) (Val.list (List.getD z44 (Int.toNat x5) Ty.val.dflt)) r3.2 (Val.rows (List.getD z44 (Int.toNat x5) Ty.val.dflt)))) ((fun (z43 : List Val) => List.set z43 (Int.toNat x5) (Val.mk (Val.kind (List.getD z43 (Int.toNat x5) Ty.val.dflt)) (Val.n (List.getD z43 (Int.toNat x5) Ty.val.dflt)) (Val.step (List.getD z43 (Int.toNat x5) Ty.val.dflt)) (Val.text (List.getD z43 (Int.toNat x5) Ty.val.dflt)) r2.2 (Val.columns (List.getD z43 (Int.toNat x5) Ty.val.dflt)) (Val.rows (List.getD z43 (Int.toNat x5) Ty.val.dflt)))) ((fun (z42 : List Val) => List.set z42 (Int.toNat x5) (Val.mk (Val.kind (List.getD z42 (Int.toNat x5) Ty.val.dflt)) (Val.n (List.getD z42 (Int.toNat x5) Ty.val.dflt)) (Val.step (List.getD z42 (Int.toNat x5) Ty.val.dflt)) r1 (Val.list (List.getD z42 (Int.toNat x5) Ty.val.dflt)) (Val.columns (List.getD z42 (Int.toNat x5) Ty.val.dflt)) (Val.rows (List.getD z42 (Int.toNat x5) Ty.val.dflt)))) ((fun (z41 : List Val) => List.set z41 (Int.toNat x5) (Val.mk (Val.kind (List.getD z41 (Int.toNat x5) Ty.val.dflt)) (Val.n (List.getD z41 (Int.toNat x5) Ty.val.dflt)) (IntKind.i64.wrap ((IntKind.i64.wrap (x1 + 1)) + 1)) (Val.text (List.getD z41 (Int.toNat x5) Ty.val.dflt)) (Val.list (List.getD z41 (Int.toNat x5) Ty.val.dflt)) (Val.columns (List.getD z41 (Int.toNat x5) Ty.val.dflt)) (Val.rows (List.getD z41 (Int.toNat x5) Ty.val.dflt)))) ((fun (z40 : List Val) => List.set z40 (Int.toNat x5) (Val.mk (Val.kind (List.getD z40 (Int.toNat x5) Ty.val.dflt)) (IntKind.i64.wrap (x1 + 1)) (Val.step (List.getD z40 (Int.toNat x5) Ty.val.dflt)) (Val.text (List.getD z40 (Int.toNat x5) Ty.val.dflt)) (Val.list (List.getD z40 (Int.toNat x5) Ty.val.dflt)) (Val.columns (List.getD z40 (Int.toNat x5) Ty.val.dflt)) (Val.rows (List.getD z40 (Int.toNat x5) Ty.val.dflt)))) (List.set x0 (Int.toNat x5) (Val.mk x1 (Val.n (List.getD x0 (Int.toNat x5) Ty.val.dflt)) (Val.step (List.getD x0 (Int.toNat x5) Ty.val.dflt)) (Val.text (List.getD x0 (Int.toNat x5) Ty.val.dflt)) (Val.list (List.getD x0 (Int.toNat x5) Ty.val.dflt)) (Val.columns (List.getD x0 (Int.toNat x5) Ty.val.dflt)) (Val.rows (List.getD x0 (Int.toNat x5) Ty.val.dflt)))))))))) r4.1 (IntKind.i64.wrap (x5 + 1)))
      else none
      else none
      else none
      else none
      else none
      else none
      else none
      else none
      else none
      else none
    ) else (
      some (x1, x0)
    )
def xE6 (N : Nat) (q0 : (List Val) → Int → Option (Int × (List Val))) (a0 : List Val) (a1 : Int) : Option (Int × (List Val)) :=
  (xC7 N q0 N a0 a1 0)
def xDH (N : Nat) : Nat → (List Val) → Int → Option (Int × (List Val))
  | 0, _, _ => none
  | d + 1, a0, a1 => xE6 N (xDH N d) a0 a1
def xGE (N : Nat) (a0 : List Val) (a1 : Int) : Option (Int × (List Val)) := xDH N N a0 a1
def xAk (a0 : Val) (a1 : Int) : List Arg := [.val (.v true [.int .i64 (Val.kind a0), .int .i64 (Val.n a0), .int .i64 (Val.step a0), .str (Val.text a0), .sl (.lnt 0) .val (Val.list a0), .sl (.lnt 1) .str (Val.columns a0), .sl (.lnt 2) .row (Val.rows a0)]), .val (.v false [.int .i64 a1])]
def xAf (r : Int × (List Val) × (List Str) × (List Rowd)) : CallO := ⟨.v false [.int .i64 r.1], [], [.sl (.lnt 0) .val r.2.1, .sl (.lnt 1) .str r.2.2.1, .sl (.lnt 2) .row r.2.2.2]⟩
def xBK (N : Nat) (a0 : Val) (a1 : Int) : Option (Int × (List Val) × (List Str) × (List Rowd)) :=
  Option.bind (xGE N (Val.list a0) a1) fun r1 =>
  if List.length r1.2 = List.length (Val.list a0) then
  Option.bind (xEv N (Val.columns a0) r1.1) fun r2 =>
  if List.length r2.2 = List.length (Val.columns a0) then
  Option.bind (xFG N (Val.rows a0) r2.1) fun r3 =>
  if List.length r3.2 = List.length (Val.rows a0) then
  some (r3.1, r1.2, r2.2, r3.2)
  else none
  else none
  else none
def xBO (a0 : List Str) (a1 : Int) : List Arg := [.val (.v false [.sl .ro .str a0]), .val (.v false [.int .i64 a1])]
def xAY (r : Int) : CallO := ⟨.v false [.int .i64 r], [], []⟩
def xCo (N : Nat) : Nat → (List Str) → Int → Int → Option (Int)
  | 0, _, _, _ => none
  | n + 1, x0, x1, x5 =>
    bif (decide ((x5 : Int) < (List.length x0 : Int))) then (
      if (0 : Int) ≤ x5 ∧ x5 < (List.length x0) then
      Option.bind (xDm N x1) fun r1 =>
      bif (!(((List.getD x0 (Int.toNat x5) Ty.str.dflt) : Str) == r1)) then (
        some (-1)
      ) else (
        (xCo N n x0 (IntKind.i64.wrap (x1 + 1)) (IntKind.i64.wrap (x5 + 1)))
      )
      else none
    ) else (
      some x1
    )
def xDS (N : Nat) (a0 : List Str) (a1 : Int) : Option (Int) :=
  (xCo N N a0 a1 0)
def xDQ (a0 : List Int) (a1 : Int) : List Arg := [.val (.v false [.sl .ro .int a0]), .val (.v false [.int .i64 a1])]
def xBR (r : Int) : CallO := ⟨.v false [.int .i64 r], [], []⟩
def xDR (N : Nat) : Nat → (List Int) → Int → Int → Option (Int)
  | 0, _, _, _ => none
  | n + 1, x0, x1, x5 =>
    bif (decide ((x5 : Int) < (List.length x0 : Int))) then (
      if (0 : Int) ≤ x5 ∧ x5 < (List.length x0) then
      bif (((List.getD x0 (Int.toNat x5) Ty.int.dflt) : Int) != x1) then (
        some (-1)
      ) else (
        (xDR N n x0 (IntKind.i64.wrap (x1 + 1)) (IntKind.i64.wrap (x5 + 1)))
      )
      else none
    ) else (
      some x1
    )
def xGp (N : Nat) (a0 : List Int) (a1 : Int) : Option (Int) :=
  (xDR N N a0 a1 0)
def xDF (a0 : List Org) (a1 : Int) : List Arg := [.val (.v false [.sl .ro .org a0]), .val (.v false [.int .i64 a1])]
def xBB (r : Int) : CallO := ⟨.v false [.int .i64 r], [], []⟩
def xCS (N : Nat) : Nat → (List Org) → Int → Int → Option (Int)
  | 0, _, _, _ => none
  | n + 1, x0, x1, x5 =>
    bif (decide ((x5 : Int) < (List.length x0 : Int))) then (
      if (0 : Int) ≤ x5 ∧ x5 < (List.length x0) then
      bif (((Org.cell (List.getD x0 (Int.toNat x5) Ty.org.dflt)) : Int) != x1) then (
        some (-1)
      ) else (
        bif (((Org.row (List.getD x0 (Int.toNat x5) Ty.org.dflt)) : Int) != (IntKind.i64.wrap (x1 + 1))) then (
          some (-1)
        ) else (
          (xCS N n x0 (IntKind.i64.wrap ((IntKind.i64.wrap (x1 + 1)) + 1)) (IntKind.i64.wrap (x5 + 1)))
        )
      )
      else none
    ) else (
      some x1
    )
def xFl (N : Nat) (a0 : List Org) (a1 : Int) : Option (Int) :=
  (xCS N N a0 a1 0)
def xDc (a0 : List Rowd) (a1 : Int) : List Arg := [.val (.v false [.sl .ro .row a0]), .val (.v false [.int .i64 a1])]
def xBq (r : Int) : CallO := ⟨.v false [.int .i64 r], [], []⟩
def xDd (N : Nat) : Nat → (List Rowd) → Int → Int → Option (Int)
  | 0, _, _, _ => none
  | n + 1, x0, x1, x5 =>
    bif (decide ((x5 : Int) < (List.length x0 : Int))) then (
      if (0 : Int) ≤ x5 ∧ x5 < (List.length x0) then
      Option.bind (xGp N (Rowd.cells (List.getD x0 (Int.toNat x5) Ty.row.dflt)) x1) fun r1 =>
      bif (decide ((r1 : Int) < 0)) then (
        some (-1)
      ) else (
        Option.bind (xFl N (Rowd.frm (List.getD x0 (Int.toNat x5) Ty.row.dflt)) r1) fun r2 =>
        bif (decide ((r2 : Int) < 0)) then (
          some (-1)
        ) else (
          (xDd N n x0 r2 (IntKind.i64.wrap (x5 + 1)))
        )
      )
      else none
    ) else (
      some x1
    )
def xEV (N : Nat) (a0 : List Rowd) (a1 : Int) : Option (Int) :=
  (xDd N N a0 a1 0)
def xBl (a0 : List Val) (a1 : Int) : List Arg := [.val (.v false [.sl .ro .val a0]), .val (.v false [.int .i64 a1])]
def xAI (r : Int) : CallO := ⟨.v false [.int .i64 r], [], []⟩
def xCE (N : Nat) (q0 : (List Val) → Int → Option (Int)) : Nat → (List Val) → Int → Int → Option (Int)
  | 0, _, _, _ => none
  | n + 1, x0, x1, x5 =>
    bif (decide ((x5 : Int) < (List.length x0 : Int))) then (
      if (0 : Int) ≤ x5 ∧ x5 < (List.length x0) then
      bif (((Val.kind (List.getD x0 (Int.toNat x5) Ty.val.dflt)) : Int) != x1) then (
        some (-1)
      ) else (
        bif (((Val.n (List.getD x0 (Int.toNat x5) Ty.val.dflt)) : Int) != (IntKind.i64.wrap (x1 + 1))) then (
          some (-1)
        ) else (
          bif (((Val.step (List.getD x0 (Int.toNat x5) Ty.val.dflt)) : Int) != (IntKind.i64.wrap ((IntKind.i64.wrap (x1 + 1)) + 1))) then (
            some (-1)
          ) else (
            Option.bind (xDm N (IntKind.i64.wrap ((IntKind.i64.wrap ((IntKind.i64.wrap (x1 + 1)) + 1)) + 1))) fun r1 =>
            bif (!(((Val.text (List.getD x0 (Int.toNat x5) Ty.val.dflt)) : Str) == r1)) then (
              some (-1)
            ) else (
              Option.bind (q0 (Val.list (List.getD x0 (Int.toNat x5) Ty.val.dflt)) (IntKind.i64.wrap ((IntKind.i64.wrap ((IntKind.i64.wrap ((IntKind.i64.wrap (x1 + 1)) + 1)) + 1)) + 1))) fun r2 =>
              bif (decide ((r2 : Int) < 0)) then (
                some (-1)
              ) else (
                Option.bind (xDS N (Val.columns (List.getD x0 (Int.toNat x5) Ty.val.dflt)) r2) fun r3 =>
                bif (decide ((r3 : Int) < 0)) then (
                  some (-1)
                ) else (
                  Option.bind (xEV N (Val.rows (List.getD x0 (Int.toNat x5) Ty.val.dflt)) r3) fun r4 =>
                  bif (decide ((r4 : Int) < 0)) then (
                    some (-1)
                  ) else (
                    (xCE N q0 n x0 r4 (IntKind.i64.wrap (x5 + 1)))
                  )
                )
              )
            )
          )
        )
      )
      else none
    ) else (
      some x1
    )
def xEc (N : Nat) (q0 : (List Val) → Int → Option (Int)) (a0 : List Val) (a1 : Int) : Option (Int) :=
  (xCE N q0 N a0 a1 0)
def xCU (N : Nat) : Nat → (List Val) → Int → Option (Int)
  | 0, _, _ => none
  | d + 1, a0, a1 => xEc N (xCU N d) a0 a1
def xFF (N : Nat) (a0 : List Val) (a1 : Int) : Option (Int) := xCU N N a0 a1
def xAC (a0 : Val) (a1 : Int) : List Arg := [.val (.v true [.int .i64 (Val.kind a0), .int .i64 (Val.n a0), .int .i64 (Val.step a0), .str (Val.text a0), .sl .ro .val (Val.list a0), .sl .ro .str (Val.columns a0), .sl .ro .row (Val.rows a0)]), .val (.v false [.int .i64 a1])]
def xAp (r : Int) : CallO := ⟨.v false [.int .i64 r], [], []⟩
def xBJ (N : Nat) (a0 : Val) (a1 : Int) : Option (Int) :=
  Option.bind (xFF N (Val.list a0) a1) fun r1 =>
  bif (decide ((r1 : Int) < 0)) then (
    some (-1)
  ) else (
    Option.bind (xDS N (Val.columns a0) r1) fun r2 =>
    bif (decide ((r2 : Int) < 0)) then (
      some (-1)
    ) else (
      Option.bind (xEV N (Val.rows a0) r2) fun r3 =>
      bif (decide ((r3 : Int) < 0)) then (
        some (-1)
      ) else (
        some r3
      )
    )
  )
def xAs (a0 : Val) (a1 : Val) (a2 : Val) (a3 : Val) : List Arg := [.val (.v true [.int .i64 (Val.kind a0), .int .i64 (Val.n a0), .int .i64 (Val.step a0), .str (Val.text a0), .sl .ro .val (Val.list a0), .sl .ro .str (Val.columns a0), .sl .ro .row (Val.rows a0)]), .val (.v true [.int .i64 (Val.kind a1), .int .i64 (Val.n a1), .int .i64 (Val.step a1), .str (Val.text a1), .sl .ro .val (Val.list a1), .sl .ro .str (Val.columns a1), .sl .ro .row (Val.rows a1)]), .val (.v true [.int .i64 (Val.kind a2), .int .i64 (Val.n a2), .int .i64 (Val.step a2), .str (Val.text a2), .sl .ro .val (Val.list a2), .sl .ro .str (Val.columns a2), .sl .ro .row (Val.rows a2)]), .val (.v true [.int .i64 (Val.kind a3), .int .i64 (Val.n a3), .int .i64 (Val.step a3), .str (Val.text a3), .sl .ro .val (Val.list a3), .sl .ro .str (Val.columns a3), .sl .ro .row (Val.rows a3)])]
def xAt (r : Bool) : CallO := ⟨.v false [.bool r], [], []⟩
def xBM (N : Nat) (a0 : Val) (a1 : Val) (a2 : Val) (a3 : Val) : Option (Bool) :=
  Option.bind (xFy N a0 1048576) fun r1 =>
  bif (decide ((r1 : Int) < 0)) then (
    some true
  ) else (
    Option.bind (xFy N a1 r1) fun r2 =>
    bif (decide ((r2 : Int) < 0)) then (
      some true
    ) else (
      Option.bind (xFy N a2 r2) fun r3 =>
      bif (decide ((r3 : Int) < 0)) then (
        some true
      ) else (
        Option.bind (xFy N a3 r3) fun r4 =>
        bif (decide ((r4 : Int) < 0)) then (
          some true
        ) else (
          Option.bind (xA8 N a0) fun r5 =>
          Option.bind (xA8 N a1) fun r6 =>
          Option.bind (xA8 N a2) fun r7 =>
          Option.bind (xA8 N a3) fun r8 =>
          Option.bind (xCc N r5 r6 r7 r8) fun r9 =>
          Option.bind (xA8 N a0) fun r10 =>
          Option.bind (xA8 N a1) fun r11 =>
          Option.bind (xA8 N a2) fun r12 =>
          Option.bind (xA8 N a3) fun r13 =>
          Option.bind (xBU N r10 r11 r12 r13) fun r14 =>
          bif r14.2 then (
            if List.isEmpty (Val.list r14.1) = true then
            if List.isEmpty (Val.columns r14.1) = true then
            if List.isEmpty (Val.rows r14.1) = true then
            Option.bind (xBD N (Val.mk (Val.kind r14.1) (Val.n r14.1) (Val.step r14.1) (Val.text r14.1) [] [] []) r9) fun r15 =>
            bif (!r15) then (
              some false
            ) else (
              Option.bind (xA8 N a0) fun r16 =>
              Option.bind (xBD N r10 r16) fun r17 =>
              bif (!r17) then (
                some false
              ) else (
                Option.bind (xA8 N a1) fun r18 =>
                Option.bind (xBD N r11 r18) fun r19 =>
                bif (!r19) then (
                  some false
                ) else (
                  Option.bind (xA8 N a2) fun r20 =>
                  Option.bind (xBD N r12 r20) fun r21 =>
                  bif (!r21) then (
                    some false
                  ) else (
                    Option.bind (xA8 N a3) fun r22 =>
                    Option.bind (xBD N r13 r22) fun r23 =>
                    bif (!r23) then (
                      some false
                    ) else (
                      Option.bind (xBK N r10 1) fun r24 =>
                      if List.length r24.2.1 = List.length (Val.list r10) then
                      if List.length r24.2.2.1 = List.length (Val.columns r10) then
                      if List.length r24.2.2.2 = List.length (Val.rows r10) then
                      Option.bind (xBK N r11 r24.1) fun r25 =>
                      if List.length r25.2.1 = List.length (Val.list r11) then
                      if List.length r25.2.2.1 = List.length (Val.columns r11) then
                      if List.length r25.2.2.2 = List.length (Val.rows r11) then
                      Option.bind (xBK N r12 r25.1) fun r26 =>
                      if List.length r26.2.1 = List.length (Val.list r12) then
                      if List.length r26.2.2.1 = List.length (Val.columns r12) then
                      if List.length r26.2.2.2 = List.length (Val.rows r12) then
                      Option.bind (xBK N r13 r26.1) fun r27 =>
                      if List.length r27.2.1 = List.length (Val.list r13) then
                      if List.length r27.2.2.1 = List.length (Val.columns r13) then
                      if List.length r27.2.2.2 = List.length (Val.rows r13) then
                      bif (decide ((r27.1 : Int) < 0)) then (
                        some false
                      ) else (
                        Option.bind (xBD N (Val.mk (Val.kind r14.1) (Val.n r14.1) (Val.step r14.1) (Val.text r14.1) [] [] []) r9) fun r28 =>
                        bif (!r28) then (
                          some false
                        ) else (
                          Option.bind (xEw N (Val.mk (Val.kind r14.1) (Val.n r14.1) (Val.step r14.1) (Val.text r14.1) [] [] []) 1) fun r29 =>
                          Option.bind (xBJ N (Val.mk (Val.kind r14.1) (Val.n r14.1) (Val.step r14.1) (Val.text r14.1) [] [] []) 1) fun r30 =>
                          bif (decide ((r30 : Int) < 0)) then (
                            some false
                          ) else (
                            bif ((r30 : Int) != r29) then (
                              some false
                            ) else (
                              Option.bind (xA8 N a0) fun r31 =>
                              Option.bind (xA8 N a1) fun r32 =>
                              Option.bind (xA8 N a2) fun r33 =>
                              Option.bind (xA8 N a3) fun r34 =>
                              Option.bind (xBU N r31 r32 r33 r34) fun r35 =>
                              bif r35.2 then (
                                if List.isEmpty (Val.list r35.1) = true then
                                if List.isEmpty (Val.columns r35.1) = true then
                                if List.isEmpty (Val.rows r35.1) = true then
                                Option.bind (xBD N (Val.mk (Val.kind r35.1) (Val.n r35.1) (Val.step r35.1) (Val.text r35.1) [] [] []) r9) fun r36 =>
                                bif (!r36) then (
                                  some false
                                ) else (
                                  Option.bind (xBJ N (Val.mk (Val.kind r14.1) (Val.n r14.1) (Val.step r14.1) (Val.text r14.1) [] [] []) 1) fun r37 =>
                                  bif (decide ((r37 : Int) < 0)) then (
                                    some false
                                  ) else (
                                    bif ((r37 : Int) != r29) then (
                                      some false
                                    ) else (
                                      some true
                                    )
                                  )
                                )
                                else none
                                else none
                                else none
                              ) else (
                                Option.bind (xBD N r35.1 r9) fun r36 =>
                                bif (!r36) then (
                                  some false
                                ) else (
                                  Option.bind (xBJ N (Val.mk (Val.kind r14.1) (Val.n r14.1) (Val.step r14.1) (Val.text r14.1) [] [] []) 1) fun r37 =>
                                  bif (decide ((r37 : Int) < 0)) then (
                                    some false
                                  ) else (
                                    bif ((r37 : Int) != r29) then (
                                      some false
                                    ) else (
                                      some true
                                    )
                                  )
                                )
                              )
                            )
                          )
                        )
                      )
                      else none
                      else none
                      else none
                      else none
                      else none
                      else none
                      else none
                      else none
                      else none
                      else none
                      else none
                      else none
                    )
                  )
                )
              )
            )
            else none
            else none
            else none
          ) else (
            Option.bind (xBD N r14.1 r9) fun r15 =>
            bif (!r15) then (
              some false
            ) else (
              Option.bind (xA8 N a0) fun r16 =>
              Option.bind (xBD N r10 r16) fun r17 =>
              bif (!r17) then (
                some false
              ) else (
                Option.bind (xA8 N a1) fun r18 =>
                Option.bind (xBD N r11 r18) fun r19 =>
                bif (!r19) then (
                  some false
                ) else (
                  Option.bind (xA8 N a2) fun r20 =>
                  Option.bind (xBD N r12 r20) fun r21 =>
                  bif (!r21) then (
                    some false
                  ) else (
                    Option.bind (xA8 N a3) fun r22 =>
                    Option.bind (xBD N r13 r22) fun r23 =>
                    bif (!r23) then (
                      some false
                    ) else (
                      Option.bind (xBK N r10 1) fun r24 =>
                      if List.length r24.2.1 = List.length (Val.list r10) then
                      if List.length r24.2.2.1 = List.length (Val.columns r10) then
                      if List.length r24.2.2.2 = List.length (Val.rows r10) then
                      Option.bind (xBK N r11 r24.1) fun r25 =>
                      if List.length r25.2.1 = List.length (Val.list r11) then
                      if List.length r25.2.2.1 = List.length (Val.columns r11) then
                      if List.length r25.2.2.2 = List.length (Val.rows r11) then
                      Option.bind (xBK N r12 r25.1) fun r26 =>
                      if List.length r26.2.1 = List.length (Val.list r12) then
                      if List.length r26.2.2.1 = List.length (Val.columns r12) then
                      if List.length r26.2.2.2 = List.length (Val.rows r12) then
                      Option.bind (xBK N r13 r26.1) fun r27 =>
                      if List.length r27.2.1 = List.length (Val.list r13) then
                      if List.length r27.2.2.1 = List.length (Val.columns r13) then
                      if List.length r27.2.2.2 = List.length (Val.rows r13) then
                      bif (decide ((r27.1 : Int) < 0)) then (
                        some false
                      ) else (
                        Option.bind (xBD N r14.1 r9) fun r28 =>
                        bif (!r28) then (
                          some false
                        ) else (
                          Option.bind (xBK N r14.1 1) fun r29 =>
                          if List.length r29.2.1 = List.length (Val.list r14.1) then
                          if List.length r29.2.2.1 = List.length (Val.columns r14.1) then
                          if List.length r29.2.2.2 = List.length (Val.rows r14.1) then
                          Option.bind (xBJ N (Val.mk (Val.kind r14.1) (Val.n r14.1) (Val.step r14.1) (Val.text r14.1) r29.2.1 r29.2.2.1 r29.2.2.2) 1) fun r30 =>
                          bif (decide ((r30 : Int) < 0)) then (
                            some false
                          ) else (
                            bif ((r30 : Int) != r29.1) then (
                              some false
                            ) else (
                              Option.bind (xA8 N a0) fun r31 =>
                              Option.bind (xA8 N a1) fun r32 =>
                              Option.bind (xA8 N a2) fun r33 =>
                              Option.bind (xA8 N a3) fun r34 =>
                              Option.bind (xBU N r31 r32 r33 r34) fun r35 =>
                              bif r35.2 then (
                                if List.isEmpty (Val.list r35.1) = true then
                                if List.isEmpty (Val.columns r35.1) = true then
                                if List.isEmpty (Val.rows r35.1) = true then
                                Option.bind (xBD N (Val.mk (Val.kind r35.1) (Val.n r35.1) (Val.step r35.1) (Val.text r35.1) [] [] []) r9) fun r36 =>
                                bif (!r36) then (
                                  some false
                                ) else (
                                  Option.bind (xBJ N (Val.mk (Val.kind r14.1) (Val.n r14.1) (Val.step r14.1) (Val.text r14.1) r29.2.1 r29.2.2.1 r29.2.2.2) 1) fun r37 =>
                                  bif (decide ((r37 : Int) < 0)) then (
                                    some false
                                  ) else (
                                    bif ((r37 : Int) != r29.1) then (
                                      some false
                                    ) else (
                                      some true
                                    )
                                  )
                                )
                                else none
                                else none
                                else none
                              ) else (
                                Option.bind (xBD N r35.1 r9) fun r36 =>
                                bif (!r36) then (
                                  some false
                                ) else (
                                  Option.bind (xBJ N (Val.mk (Val.kind r14.1) (Val.n r14.1) (Val.step r14.1) (Val.text r14.1) r29.2.1 r29.2.2.1 r29.2.2.2) 1) fun r37 =>
                                  bif (decide ((r37 : Int) < 0)) then (
                                    some false
                                  ) else (
                                    bif ((r37 : Int) != r29.1) then (
                                      some false
                                    ) else (
                                      some true
                                    )
                                  )
                                )
                              )
                            )
                          )
                          else none
                          else none
                          else none
                        )
                      )
                      else none
                      else none
                      else none
                      else none
                      else none
                      else none
                      else none
                      else none
                      else none
                      else none
                      else none
                      else none
                    )
                  )
                )
              )
            )
          )
        )
      )
    )
  )
end Go.Ab
end
section
open Go.Proofs
namespace Go.Ab.T
variable [Inhabited Lb]
abbrev AbC (f : FuncId) (a : List Arg) (r : CallO) : Prop := AbsCalls Try.prog f a r
abbrev W (x : Int) : Int := IntKind.i64.wrap x
abbrev Ln {α : Type} (l : List α) : Nat := List.length l
abbrev tN (x : Int) : Nat := Int.toNat x
abbrev gD {α : Type} (l : List α) (i : Nat) (d : α) : α := List.getD l i d
abbrev vd : Val := Ty.val.dflt
abbrev rd : Rowd := Ty.row.dflt
end Go.Ab.T
end
section
open Go.Proofs
namespace Go.Ab.T
set_option linter.unusedVariables false
set_option maxRecDepth 100000
variable [Inhabited Lb]
def tt : TT := [(3, { zero := some [.int .i64 0], ik := some .i64 }),
 (4, { zero := some [.bool false], isBool := true }),
 (5, { zero := some [.int .u8 0], ik := some .u8 }),
 (9, { zero := some [.str []], isStr := true }),
 (22, { zero := some [.sl .own .val []], elem := some (26, .val) }),
 (23, { zero := some [.sl .own .str []], elem := some (9, .str) }),
 (24, { zero := some [.sl .own .row []], elem := some (63, .row) }),
 (26, { sz := 7, agg := true, zero := some [.int .i64 0, .int .i64 0, .int .i64 0, .str [], .sl .own .val [], .sl .own .str [], .sl .own .row []], offs := [0, 1, 2, 3, 4, 5, 6], fsz := [1, 1, 1, 1, 1, 1, 1] }),
 (28, { zero := some [.sl .own .val []], elem := some (31, .val) }),
 (29, { zero := some [.sl .own .row []], elem := some (49, .row) }),
 (31, { sz := 7, agg := true, zero := some [.int .i64 0, .int .i64 0, .int .i64 0, .str [], .sl .own .val [], .sl .own .str [], .sl .own .row []], offs := [0, 1, 2, 3, 4, 5, 6], fsz := [1, 1, 1, 1, 1, 1, 1] }),
 (42, { zero := some [.sl .own .int []], elem := some (3, .int) }),
 (47, { zero := some [.sl .own .org []], elem := some (86, .org) }),
 (49, { sz := 2, agg := true, zero := some [.sl .own .int [], .sl .own .org []], offs := [0, 1], fsz := [1, 1] }),
 (61, { zero := some [.sl .own .org []], elem := some (88, .org) }),
 (63, { sz := 2, agg := true, zero := some [.sl .own .int [], .sl .own .org []], offs := [0, 1], fsz := [1, 1] }),
 (84, { zero := some [.sl .own .byte []], elem := some (5, .byte) }),
 (86, { sz := 2, agg := true, zero := some [.int .i64 0, .int .i64 0], offs := [0, 1], fsz := [1, 1] }),
 (88, { sz := 2, agg := true, zero := some [.int .i64 0, .int .i64 0], offs := [0, 1], fsz := [1, 1] })]
theorem ttok : TTok Try.prog tt := ttChk_ok (by kernel_rfl)
theorem mix : Try.prog.follows .mixedOrders = true := by kernel_rfl
def F : Bool := false
def Y : Bool := true
noncomputable def rE (I : Info) (ag : List Arg) (bs : List Bool) (cs : List CallO) : Option Res := run tt (AbsCalls Try.prog) I 3000 false [.code I.body] ⟨zBs 0 ag, bs, cs, []⟩
noncomputable def rS (k : Nat) (I : Info) (σ : St) (bs : List Bool) (cs : List CallO) : Option Res := run tt (AbsCalls Try.prog) I 3000 true (stkAt k I.body) ⟨σ, bs, cs, []⟩
noncomputable def dn (r : CallO) (ob : List Prop) : Option Res := some (.done r ob)
noncomputable def st (k : Nat) (I : Info) (σ : St) (ob : List Prop) : Option Res := some (.stop (stkAt k I.body) σ ob)
def RE (fn : Func) (I : Info) (ag : List Arg) (r : CallO) : Prop := Reach Try.prog fn I [.code I.body] (zBs 0 ag) r
def RS (fn : Func) (I : Info) (k : Nat) (σ : St) (r : CallO) : Prop := Reach Try.prog fn I (stkAt k I.body) σ r
section
variable {ρ : Type} {f : FuncId} {fn : Func} {I : Info} {ag : List Arg} {bs : List Bool} {cs : List CallO} {k j : Nat} {σ σ' : St} {ob : List Prop} {ro : ρ → CallO} {x r : ρ} {q : CallO}
theorem dE (e : some x = some r) (hf : FnOk Try.prog f fn I) (h : rE I ag bs cs = dn (ro x) ob) (o : ∀ p ∈ ob, p) : RE fn I ag (ro r) := by
 cases e; exact Reach.done ttok mix hf h o
theorem dS (e : some x = some r) (hf : FnOk Try.prog f fn I) (h : rS k I σ bs cs = dn (ro x) ob) (o : ∀ p ∈ ob, p) : RS fn I k σ (ro r) := by
 cases e; exact Reach.done ttok mix hf h o
theorem tE (hf : FnOk Try.prog f fn I) (h : rE I ag bs cs = st k I σ ob) (o : ∀ p ∈ ob, p) (t : RS fn I k σ q) : RE fn I ag q := Reach.stop ttok mix hf h o t
theorem tS (hf : FnOk Try.prog f fn I) (h : rS j I σ' bs cs = st k I σ ob) (o : ∀ p ∈ ob, p) (t : RS fn I k σ q) : RS fn I j σ' q := Reach.stop ttok mix hf h o t
end
theorem oc {p : Prop} {l : List Prop} (h : p) (t : ∀ q ∈ l, q) : ∀ q ∈ p :: l, q := obs_cons h t
theorem on : ∀ q ∈ ([] : List Prop), q := obs_nil
theorem cE {α : Type} {C : Prop} {b : Bool} {x y : Option α} {r : α} (h : cond b x y = some r) (f : b = true → x = some r → C) (g : b = false → y = some r → C) : C := (cond_inv h).elim (fun h => f h.1 h.2) fun h => g h.1 h.2
theorem bE {α β : Type} {C : Prop} {o : Option α} {f : α → Option β} {r : β} (h : Option.bind o f = some r) (g : ∀ a, o = some a → f a = some r → C) : C := (bind_inv h).elim fun a h => g a h.1 h.2
theorem iE {α : Type} {C p : Prop} [Decidable p] {x : Option α} {r : α} (h : (if p then x else none) = some r) (g : p → x = some r → C) : C := (ite_inv h).elim g
theorem nE {α : Type} {C : Prop} {r : α} (h : none = some r) : C := nomatch h
noncomputable def xHH : Info := { body := (Try.f32.body).getD .skip, nt := 63, results := [.tmp 4], keep := [0, 2, 8, 10, 18], live := [(2, [0, 2, 10])], modes := [] }
theorem fk1000032 : FnOk Try.prog 32 Try.f32 xHH := ⟨Try.func32, by kernel_rfl, by kernel_rfl, by kernel_rfl, by kernel_rfl⟩
def S1000032_2 (x1 x5 : Int) : St := [(0, .v false [.sl .ro .val []]), (2, .v false [.int .i64 x1]), (10, .v false [.int .i64 x5])]
theorem p1000032_2_0 (x1 x5 : Int) : rS 2 xHH (S1000032_2 x1 x5) [F] [] = dn (xCI x1) [(decide ((x5 : Int) < (0 : Int))) = false] := by kernel_rfl
theorem p1000032_e_1 (a0 : List Val) (a1 : Int) : rE xHH (xEd a0 a1) [] [] = st 2 xHH (S1000032_2 a1 0) [] := by kernel_rfl
theorem c1000032_2 {N : Nat} : ∀ n x1 x5 r, xE5 N n x1 x5 = some r → RS Try.f32 xHH 2 (S1000032_2 x1 x5) (xCI r) := by
 intro n
 induction n with
 | zero => exact fun _ _ _ h => nE h
 | succ n ih =>
  exact fun x1 x5 r h =>
   cE h (fun h0 h => iE h fun h1 h => nE h) fun h0 h =>
   dS h fk1000032 (p1000032_2_0 x1 x5) (oc h0 on)
theorem c1000032_e {N : Nat} : ∀ a0 a1 r, xEW N a0 a1 = some r → RE Try.f32 xHH (xEd a0 a1) (xCI r) := fun a0 a1 r h =>
 tE fk1000032 (p1000032_e_1 a0 a1) on (c1000032_2 _ _ _ _ h)
theorem xHR {N : Nat} {a0 : List Val} {a1 : Int} {r : Int} (h : xEW N  a0 a1 = some r) : AbC 32 (xEd a0 a1) (xCI r) :=
 AbsCalls.of_reach fk1000032 rfl rfl (Nat.le_of_ble_eq_true rfl) (c1000032_e a0 a1 r h)
noncomputable def I12 : Info := { body := (Try.f12.body).getD .skip, nt := 28, results := [.tmp 4], keep := [0, 2, 8, 10, 22, 30, 52], live := [(5, [0, 2, 10])], modes := [] }
theorem fk12 : FnOk Try.prog 12 Try.f12 I12 := ⟨Try.func12, by kernel_rfl, by kernel_rfl, by kernel_rfl, by kernel_rfl⟩
def S12_5 (x0 : List Str) (x1 x5 : Int) : St := [(0, .v false [.sl .ro .str x0]), (2, .v false [.int .i64 x1]), (10, .v false [.int .i64 x5])]
theorem p12_5_0 (x0 : List Str) (x1 x5 : Int) : rS 5 I12 (S12_5 x0 x1 x5) [Y, Y] [] = dn (xBy (-1)) [(decide ((x5 : Int) < (Ln x0 : Int))) = true, (0 : Int) ≤ x5 ∧ x5 < (Ln x0), (decide (((W (x1 - (Ln (gD x0 (tN x5) Ty.str.dflt) : Int))) : Int) < 0)) = true] := by kernel_rfl
theorem p12_5_1 (x0 : List Str) (x1 x5 : Int) : rS 5 I12 (S12_5 x0 x1 x5) [Y, F] [] = st 5 I12 (S12_5 x0 (W (x1 - (Ln (gD x0 (tN x5) Ty.str.dflt) : Int))) (W (x5 + 1))) [(decide ((x5 : Int) < (Ln x0 : Int))) = true, (0 : Int) ≤ x5 ∧ x5 < (Ln x0), (decide (((W (x1 - (Ln (gD x0 (tN x5) Ty.str.dflt) : Int))) : Int) < 0)) = false] := by kernel_rfl
theorem p12_5_2 (x0 : List Str) (x1 x5 : Int) : rS 5 I12 (S12_5 x0 x1 x5) [F] [] = dn (xBy x1) [(decide ((x5 : Int) < (Ln x0 : Int))) = false] := by kernel_rfl
theorem p12_e_3 (a0 : List Str) (a1 : Int) : rE I12 (xCY a0 a1) [Y] [] = dn (xBy (-1)) [(decide (((W (a1 - (Ln a0 : Int))) : Int) < 0)) = true] := by kernel_rfl
theorem p12_e_4 (a0 : List Str) (a1 : Int) : rE I12 (xCY a0 a1) [F] [] = st 5 I12 (S12_5 a0 (W (a1 - (Ln a0 : Int))) 0) [(decide (((W (a1 - (Ln a0 : Int))) : Int) < 0)) = false] := by kernel_rfl
theorem c12_5 {N : Nat} : ∀ n x0 x1 x5 r, xEX N n x0 x1 x5 = some r → RS Try.f12 I12 5 (S12_5 x0 x1 x5) (xBy r) := by
 intro n
 induction n with
 | zero => exact fun _ _ _ _ h => nE h
 | succ n ih =>
  exact fun x0 x1 x5 r h =>
   cE h (fun h0 h => iE h fun h1 h => cE h (fun h2 h => dS h fk12 (p12_5_0 x0 x1 x5) (oc h0 (oc h1 (oc h2 on)))) fun h2 h =>
   tS fk12 (p12_5_1 x0 x1 x5) (oc h0 (oc h1 (oc h2 on))) (ih _ _ _ _ h)) fun h0 h =>
   dS h fk12 (p12_5_2 x0 x1 x5) (oc h0 on)
theorem c12_e {N : Nat} : ∀ a0 a1 r, xF7 N a0 a1 = some r → RE Try.f12 I12 (xCY a0 a1) (xBy r) := fun a0 a1 r h =>
 cE h (fun h0 h => dE h fk12 (p12_e_3 a0 a1) (oc h0 on)) fun h0 h =>
 tE fk12 (p12_e_4 a0 a1) (oc h0 on) (c12_5 _ _ _ _ _ h)
theorem xFX {N : Nat} {a0 : List Str} {a1 : Int} {r : Int} (h : xF7 N  a0 a1 = some r) : AbC 12 (xCY a0 a1) (xBy r) :=
 AbsCalls.of_reach fk12 rfl rfl (Nat.le_of_ble_eq_true rfl) (c12_e a0 a1 r h)
noncomputable def I59 : Info := { body := (Try.f59.body).getD .skip, nt := 12, results := [.tmp 4], keep := [0, 2, 8, 20], live := [], modes := [] }
theorem fk59 : FnOk Try.prog 59 Try.f59 I59 := ⟨Try.func59, by kernel_rfl, by kernel_rfl, by kernel_rfl, by kernel_rfl⟩
theorem p59_e_0 (a0 : List Int) (a1 : Int) : rE I59 (xD7 a0 a1) [Y] [] = dn (xCy (-1)) [(decide (((W (a1 - (Ln a0 : Int))) : Int) < 0)) = true] := by kernel_rfl
theorem p59_e_1 (a0 : List Int) (a1 : Int) : rE I59 (xD7 a0 a1) [F] [] = dn (xCy (W (a1 - (Ln a0 : Int)))) [(decide (((W (a1 - (Ln a0 : Int))) : Int) < 0)) = false] := by kernel_rfl
theorem c59_e {N : Nat} : ∀ a0 a1 r, xHj N a0 a1 = some r → RE Try.f59 I59 (xD7 a0 a1) (xCy r) := fun a0 a1 r h =>
 cE h (fun h0 h => dE h fk59 (p59_e_0 a0 a1) (oc h0 on)) fun h0 h =>
 dE h fk59 (p59_e_1 a0 a1) (oc h0 on)
theorem xG0 {N : Nat} {a0 : List Int} {a1 : Int} {r : Int} (h : xHj N  a0 a1 = some r) : AbC 59 (xD7 a0 a1) (xCy r) :=
 AbsCalls.of_reach fk59 rfl rfl (Nat.le_of_ble_eq_true rfl) (c59_e a0 a1 r h)
noncomputable def I60 : Info := { body := (Try.f60.body).getD .skip, nt := 12, results := [.tmp 4], keep := [0, 2, 8, 20], live := [], modes := [] }
theorem fk60 : FnOk Try.prog 60 Try.f60 I60 := ⟨Try.func60, by kernel_rfl, by kernel_rfl, by kernel_rfl, by kernel_rfl⟩
theorem p60_e_0 (a0 : List Org) (a1 : Int) : rE I60 (xDt a0 a1) [Y] [] = dn (xCv (-1)) [(decide (((W (a1 - (Ln a0 : Int))) : Int) < 0)) = true] := by kernel_rfl
theorem p60_e_1 (a0 : List Org) (a1 : Int) : rE I60 (xDt a0 a1) [F] [] = dn (xCv (W (a1 - (Ln a0 : Int)))) [(decide (((W (a1 - (Ln a0 : Int))) : Int) < 0)) = false] := by kernel_rfl
theorem c60_e {N : Nat} : ∀ a0 a1 r, xF5 N a0 a1 = some r → RE Try.f60 I60 (xDt a0 a1) (xCv r) := fun a0 a1 r h =>
 cE h (fun h0 h => dE h fk60 (p60_e_0 a0 a1) (oc h0 on)) fun h0 h =>
 dE h fk60 (p60_e_1 a0 a1) (oc h0 on)
theorem xG5 {N : Nat} {a0 : List Org} {a1 : Int} {r : Int} (h : xF5 N  a0 a1 = some r) : AbC 60 (xDt a0 a1) (xCv r) :=
 AbsCalls.of_reach fk60 rfl rfl (Nat.le_of_ble_eq_true rfl) (c60_e a0 a1 r h)
noncomputable def I38 : Info := { body := (Try.f38.body).getD .skip, nt := 18, results := [.tmp 4], keep := [0, 2, 4, 8, 20, 32, 5], live := [], modes := [] }
theorem fk38 : FnOk Try.prog 38 Try.f38 I38 := ⟨Try.func38, by kernel_rfl, by kernel_rfl, by kernel_rfl, by kernel_rfl⟩
theorem p38_e_0 (a0 : Rowd) (a1 r1 : Int) : rE I38 (xEq a0 a1) [Y] [xCy r1] = dn (xDn (-1)) [AbC 59 (xD7 (Rowd.cells a0) a1) (xCy r1), (decide ((r1 : Int) < 0)) = true] := by kernel_rfl
theorem p38_e_1 (a0 : Rowd) (a1 r1 r2 : Int) : rE I38 (xEq a0 a1) [F, Y] [xCy r1, xCv r2] = dn (xDn (-1)) [AbC 59 (xD7 (Rowd.cells a0) a1) (xCy r1), (decide ((r1 : Int) < 0)) = false, AbC 60 (xDt (Rowd.frm a0) r1) (xCv r2), (decide ((r2 : Int) < 0)) = true] := by kernel_rfl
theorem p38_e_2 (a0 : Rowd) (a1 r1 r2 : Int) : rE I38 (xEq a0 a1) [F, F] [xCy r1, xCv r2] = dn (xDn r2) [AbC 59 (xD7 (Rowd.cells a0) a1) (xCy r1), (decide ((r1 : Int) < 0)) = false, AbC 60 (xDt (Rowd.frm a0) r1) (xCv r2), (decide ((r2 : Int) < 0)) = false] := by kernel_rfl
theorem c38_e {N : Nat} : ∀ a0 a1 r, xG6 N a0 a1 = some r → RE Try.f38 I38 (xEq a0 a1) (xDn r) := fun a0 a1 r h =>
 bE h fun r1 h0 h => cE h (fun h1 h => dE h fk38 (p38_e_0 a0 a1 r1) (oc (xG0 h0) (oc h1 on))) fun h1 h =>
 bE h fun r2 h2 h => cE h (fun h3 h => dE h fk38 (p38_e_1 a0 a1 r1 r2) (oc (xG0 h0) (oc h1 (oc (xG5 h2) (oc h3 on))))) fun h3 h =>
 dE h fk38 (p38_e_2 a0 a1 r1 r2) (oc (xG0 h0) (oc h1 (oc (xG5 h2) (oc h3 on))))
theorem laws_szRow_ok {N : Nat} {a0 : Rowd} {a1 : Int} {r : Int} (h : xG6 N  a0 a1 = some r) : AbC 38 (xEq a0 a1) (xDn r) :=
 AbsCalls.of_reach fk38 rfl rfl (Nat.le_of_ble_eq_true rfl) (c38_e a0 a1 r h)
noncomputable def I13 : Info := { body := (Try.f13.body).getD .skip, nt := 27, results := [.tmp 4], keep := [0, 2, 8, 10, 22, 30, 50], live := [(5, [0, 2, 10])], modes := [] }
theorem fk13 : FnOk Try.prog 13 Try.f13 I13 := ⟨Try.func13, by kernel_rfl, by kernel_rfl, by kernel_rfl, by kernel_rfl⟩
def S13_5 (x0 : List Rowd) (x1 x5 : Int) : St := [(0, .v false [.sl .ro .row x0]), (2, .v false [.int .i64 x1]), (10, .v false [.int .i64 x5])]
theorem p13_5_0 (x0 : List Rowd) (x1 x5 r1 : Int) : rS 5 I13 (S13_5 x0 x1 x5) [Y, Y] [xDn r1] = dn (xCz (-1)) [(decide ((x5 : Int) < (Ln x0 : Int))) = true, (0 : Int) ≤ x5 ∧ x5 < (Ln x0), AbC 38 (xEq (gD x0 (tN x5) rd) x1) (xDn r1), (decide ((r1 : Int) < 0)) = true] := by kernel_rfl
theorem p13_5_1 (x0 : List Rowd) (x1 x5 r1 : Int) : rS 5 I13 (S13_5 x0 x1 x5) [Y, F] [xDn r1] = st 5 I13 (S13_5 x0 r1 (W (x5 + 1))) [(decide ((x5 : Int) < (Ln x0 : Int))) = true, (0 : Int) ≤ x5 ∧ x5 < (Ln x0), AbC 38 (xEq (gD x0 (tN x5) rd) x1) (xDn r1), (decide ((r1 : Int) < 0)) = false] := by kernel_rfl
theorem p13_5_2 (x0 : List Rowd) (x1 x5 : Int) : rS 5 I13 (S13_5 x0 x1 x5) [F] [] = dn (xCz x1) [(decide ((x5 : Int) < (Ln x0 : Int))) = false] := by kernel_rfl
theorem p13_e_3 (a0 : List Rowd) (a1 : Int) : rE I13 (xED a0 a1) [Y] [] = dn (xCz (-1)) [(decide (((W (a1 - (Ln a0 : Int))) : Int) < 0)) = true] := by kernel_rfl
theorem p13_e_4 (a0 : List Rowd) (a1 : Int) : rE I13 (xED a0 a1) [F] [] = st 5 I13 (S13_5 a0 (W (a1 - (Ln a0 : Int))) 0) [(decide (((W (a1 - (Ln a0 : Int))) : Int) < 0)) = false] := by kernel_rfl
theorem c13_5 {N : Nat} : ∀ n x0 x1 x5 r, xF6 N n x0 x1 x5 = some r → RS Try.f13 I13 5 (S13_5 x0 x1 x5) (xCz r) := by
 intro n
 induction n with
 | zero => exact fun _ _ _ _ h => nE h
 | succ n ih =>
  exact fun x0 x1 x5 r h =>
   cE h (fun h0 h => iE h fun h1 h => bE h fun r1 h2 h => cE h (fun h3 h => dS h fk13 (p13_5_0 x0 x1 x5 r1) (oc h0 (oc h1 (oc (laws_szRow_ok h2) (oc h3 on))))) fun h3 h =>
   tS fk13 (p13_5_1 x0 x1 x5 r1) (oc h0 (oc h1 (oc (laws_szRow_ok h2) (oc h3 on)))) (ih _ _ _ _ h)) fun h0 h =>
   dS h fk13 (p13_5_2 x0 x1 x5) (oc h0 on)
theorem c13_e {N : Nat} : ∀ a0 a1 r, xHk N a0 a1 = some r → RE Try.f13 I13 (xED a0 a1) (xCz r) := fun a0 a1 r h =>
 cE h (fun h0 h => dE h fk13 (p13_e_3 a0 a1) (oc h0 on)) fun h0 h =>
 tE fk13 (p13_e_4 a0 a1) (oc h0 on) (c13_5 _ _ _ _ _ h)
theorem xHZ {N : Nat} {a0 : List Rowd} {a1 : Int} {r : Int} (h : xHk N  a0 a1 = some r) : AbC 13 (xED a0 a1) (xCz r) :=
 AbsCalls.of_reach fk13 rfl rfl (Nat.le_of_ble_eq_true rfl) (c13_e a0 a1 r h)
def G4 (q : Val → Int → Option (Int)) : Prop := ∀ a0 a1 r, q a0 a1 = some r → AbC 4 (xAi a0 a1) (xAe r)
def G11 (q : (List Val) → Int → Option (Int)) : Prop := ∀ a0 a1 r, q a0 a1 = some r → AbC 11 (xCk a0 a1) (xBn r)
noncomputable def I4 : Info := { body := (Try.f4.body).getD .skip, nt := 31, results := [.tmp 4], keep := [0, 2, 4, 8, 22, 34, 46, 58, 5], live := [], modes := [] }
theorem fk4 : FnOk Try.prog 4 Try.f4 I4 := ⟨Try.func4, by kernel_rfl, by kernel_rfl, by kernel_rfl, by kernel_rfl⟩
theorem p4_e_0 (a0 : Val) (a1 : Int) : rE I4 (xAi a0 a1) [Y] [] = dn (xAe (-1)) [(decide (((W (a1 - (Ln (Val.text a0) : Int))) : Int) < 0)) = true] := by kernel_rfl
theorem p4_e_1 (a0 : Val) (a1 r1 : Int) : rE I4 (xAi a0 a1) [F, Y] [xBn r1] = dn (xAe (-1)) [(decide (((W (a1 - (Ln (Val.text a0) : Int))) : Int) < 0)) = false, AbC 11 (xCk (Val.list a0) (W (a1 - (Ln (Val.text a0) : Int)))) (xBn r1), (decide ((r1 : Int) < 0)) = true] := by kernel_rfl
theorem p4_e_2 (a0 : Val) (a1 r1 r2 : Int) : rE I4 (xAi a0 a1) [F, F, Y] [xBn r1, xBy r2] = dn (xAe (-1)) [(decide (((W (a1 - (Ln (Val.text a0) : Int))) : Int) < 0)) = false, AbC 11 (xCk (Val.list a0) (W (a1 - (Ln (Val.text a0) : Int)))) (xBn r1), (decide ((r1 : Int) < 0)) = false, AbC 12 (xCY (Val.columns a0) r1) (xBy r2), (decide ((r2 : Int) < 0)) = true] := by kernel_rfl
theorem p4_e_3 (a0 : Val) (a1 r1 r2 r3 : Int) : rE I4 (xAi a0 a1) [F, F, F, Y] [xBn r1, xBy r2, xCz r3] = dn (xAe (-1)) [(decide (((W (a1 - (Ln (Val.text a0) : Int))) : Int) < 0)) = false, AbC 11 (xCk (Val.list a0) (W (a1 - (Ln (Val.text a0) : Int)))) (xBn r1), (decide ((r1 : Int) < 0)) = false, AbC 12 (xCY (Val.columns a0) r1) (xBy r2), (decide ((r2 : Int) < 0)) = false, AbC 13 (xED (Val.rows a0) r2) (xCz r3), (decide ((r3 : Int) < 0)) = true] := by kernel_rfl
theorem p4_e_4 (a0 : Val) (a1 r1 r2 r3 : Int) : rE I4 (xAi a0 a1) [F, F, F, F] [xBn r1, xBy r2, xCz r3] = dn (xAe r3) [(decide (((W (a1 - (Ln (Val.text a0) : Int))) : Int) < 0)) = false, AbC 11 (xCk (Val.list a0) (W (a1 - (Ln (Val.text a0) : Int)))) (xBn r1), (decide ((r1 : Int) < 0)) = false, AbC 12 (xCY (Val.columns a0) r1) (xBy r2), (decide ((r2 : Int) < 0)) = false, AbC 13 (xED (Val.rows a0) r2) (xCz r3), (decide ((r3 : Int) < 0)) = false] := by kernel_rfl
theorem c4_e {N : Nat} {q0 : Val → Int → Option (Int)} (g0 : G4 q0) {q1 : (List Val) → Int → Option (Int)} (g1 : G11 q1) : ∀ a0 a1 r, xFY N q0 q1 a0 a1 = some r → RE Try.f4 I4 (xAi a0 a1) (xAe r) := fun a0 a1 r h =>
 cE h (fun h0 h => dE h fk4 (p4_e_0 a0 a1) (oc h0 on)) fun h0 h =>
 bE h fun r1 h1 h => cE h (fun h2 h => dE h fk4 (p4_e_1 a0 a1 r1) (oc h0 (oc (g1 _ _ _ h1) (oc h2 on)))) fun h2 h =>
 bE h fun r2 h3 h => cE h (fun h4 h => dE h fk4 (p4_e_2 a0 a1 r1 r2) (oc h0 (oc (g1 _ _ _ h1) (oc h2 (oc (xFX h3) (oc h4 on)))))) fun h4 h =>
 bE h fun r3 h5 h => cE h (fun h6 h => dE h fk4 (p4_e_3 a0 a1 r1 r2 r3) (oc h0 (oc (g1 _ _ _ h1) (oc h2 (oc (xFX h3) (oc h4 (oc (xHZ h5) (oc h6 on)))))))) fun h6 h =>
 dE h fk4 (p4_e_4 a0 a1 r1 r2 r3) (oc h0 (oc (g1 _ _ _ h1) (oc h2 (oc (xFX h3) (oc h4 (oc (xHZ h5) (oc h6 on)))))))
theorem xHS {N : Nat} {q0 : Val → Int → Option (Int)} (g0 : G4 q0) {q1 : (List Val) → Int → Option (Int)} (g1 : G11 q1) {a0 : Val} {a1 : Int} {r : Int} (h : xFY N q0 q1 a0 a1 = some r) : AbC 4 (xAi a0 a1) (xAe r) :=
 AbsCalls.of_reach fk4 rfl rfl (Nat.le_of_ble_eq_true rfl) (c4_e g0 g1 a0 a1 r h)
noncomputable def I11 : Info := { body := (Try.f11.body).getD .skip, nt := 27, results := [.tmp 4], keep := [0, 2, 8, 10, 22, 30, 50], live := [(5, [0, 2, 10])], modes := [] }
theorem fk11 : FnOk Try.prog 11 Try.f11 I11 := ⟨Try.func11, by kernel_rfl, by kernel_rfl, by kernel_rfl, by kernel_rfl⟩
def S11_5 (x0 : List Val) (x1 x5 : Int) : St := [(0, .v false [.sl .ro .val x0]), (2, .v false [.int .i64 x1]), (10, .v false [.int .i64 x5])]
theorem p11_5_0 (x0 : List Val) (x1 x5 r1 : Int) : rS 5 I11 (S11_5 x0 x1 x5) [Y, Y] [xAe r1] = dn (xBn (-1)) [(decide ((x5 : Int) < (Ln x0 : Int))) = true, (0 : Int) ≤ x5 ∧ x5 < (Ln x0), AbC 4 (xAi (gD x0 (tN x5) vd) x1) (xAe r1), (decide ((r1 : Int) < 0)) = true] := by kernel_rfl
theorem p11_5_1 (x0 : List Val) (x1 x5 r1 : Int) : rS 5 I11 (S11_5 x0 x1 x5) [Y, F] [xAe r1] = st 5 I11 (S11_5 x0 r1 (W (x5 + 1))) [(decide ((x5 : Int) < (Ln x0 : Int))) = true, (0 : Int) ≤ x5 ∧ x5 < (Ln x0), AbC 4 (xAi (gD x0 (tN x5) vd) x1) (xAe r1), (decide ((r1 : Int) < 0)) = false] := by kernel_rfl
theorem p11_5_2 (x0 : List Val) (x1 x5 : Int) : rS 5 I11 (S11_5 x0 x1 x5) [F] [] = dn (xBn x1) [(decide ((x5 : Int) < (Ln x0 : Int))) = false] := by kernel_rfl
theorem p11_e_3 (a0 : List Val) (a1 : Int) : rE I11 (xCk a0 a1) [Y] [] = dn (xBn (-1)) [(decide (((W (a1 - (Ln a0 : Int))) : Int) < 0)) = true] := by kernel_rfl
theorem p11_e_4 (a0 : List Val) (a1 : Int) : rE I11 (xCk a0 a1) [F] [] = st 5 I11 (S11_5 a0 (W (a1 - (Ln a0 : Int))) 0) [(decide (((W (a1 - (Ln a0 : Int))) : Int) < 0)) = false] := by kernel_rfl
theorem c11_5 {N : Nat} {q0 : Val → Int → Option (Int)} (g0 : G4 q0) {q1 : (List Val) → Int → Option (Int)} (g1 : G11 q1) : ∀ n x0 x1 x5 r, xFp N q0 q1 n x0 x1 x5 = some r → RS Try.f11 I11 5 (S11_5 x0 x1 x5) (xBn r) := by
 intro n
 induction n with
 | zero => exact fun _ _ _ _ h => nE h
 | succ n ih =>
  exact fun x0 x1 x5 r h =>
   cE h (fun h0 h => iE h fun h1 h => bE h fun r1 h2 h => cE h (fun h3 h => dS h fk11 (p11_5_0 x0 x1 x5 r1) (oc h0 (oc h1 (oc (g0 _ _ _ h2) (oc h3 on))))) fun h3 h =>
   tS fk11 (p11_5_1 x0 x1 x5 r1) (oc h0 (oc h1 (oc (g0 _ _ _ h2) (oc h3 on)))) (ih _ _ _ _ h)) fun h0 h =>
   dS h fk11 (p11_5_2 x0 x1 x5) (oc h0 on)
theorem c11_e {N : Nat} {q0 : Val → Int → Option (Int)} (g0 : G4 q0) {q1 : (List Val) → Int → Option (Int)} (g1 : G11 q1) : ∀ a0 a1 r, xFJ N q0 q1 a0 a1 = some r → RE Try.f11 I11 (xCk a0 a1) (xBn r) := fun a0 a1 r h =>
 cE h (fun h0 h => dE h fk11 (p11_e_3 a0 a1) (oc h0 on)) fun h0 h =>
 tE fk11 (p11_e_4 a0 a1) (oc h0 on) (c11_5 g0 g1 _ _ _ _ _ h)
theorem xHC {N : Nat} {q0 : Val → Int → Option (Int)} (g0 : G4 q0) {q1 : (List Val) → Int → Option (Int)} (g1 : G11 q1) {a0 : List Val} {a1 : Int} {r : Int} (h : xFJ N q0 q1 a0 a1 = some r) : AbC 11 (xCk a0 a1) (xBn r) :=
 AbsCalls.of_reach fk11 rfl rfl (Nat.le_of_ble_eq_true rfl) (c11_e g0 g1 a0 a1 r h)
theorem xH9 {N : Nat} : ∀ d, G4 (xBS N d).c_laws_szValue ∧ G11 (xBS N d).c_laws_szValueS := by
 intro d
 induction d with
 | zero => exact ⟨fun _ _ _ h => nE h, fun _ _ _ h => nE h⟩
 | succ d ih =>
  obtain ⟨ih0, ih1⟩ := ih
  exact ⟨fun _ _ _ h => xHS (N := N) ih0 ih1 h, fun _ _ _ h => xHC (N := N) ih0 ih1 h⟩
theorem xAj {N : Nat} {a0 : Val} {a1 : Int} {r : Int} (h : xFy N a0 a1 = some r) : AbC 4 (xAi a0 a1) (xAe r) := (xH9 N).1 _ _ r h
noncomputable def I21 : Info := { body := (Try.f21.body).getD .skip, nt := 22, results := [.tmp 2], keep := [0, 4, 6, 8, 22], live := [(3, [0, 6, 8])], modes := [(5, [(0, .ref, false)]), (6, [(0, .take, false)])] }
theorem fk21 : FnOk Try.prog 21 Try.f21 I21 := ⟨Try.func21, by kernel_rfl, by kernel_rfl, by kernel_rfl, by kernel_rfl⟩
def S21_3 (x0 x3 : List Str) (x4 : Int) : St := [(0, .v false [.sl .ro .str x0]), (6, .v false [.sl .own .str x3]), (8, .v false [.int .i64 x4])]
theorem p21_3_0 (x0 x3 : List Str) (x4 : Int) : rS 3 I21 (S21_3 x0 x3 x4) [Y] [] = st 3 I21 (S21_3 x0 (List.set x3 (tN x4) (gD x0 (tN x4) Ty.str.dflt)) (W (x4 + 1))) [(decide ((x4 : Int) < (Ln x0 : Int))) = true, (0 : Int) ≤ x4 ∧ x4 < (Ln x0), (0 : Int) ≤ x4 ∧ x4 < (Ln x3)] := by kernel_rfl
theorem p21_3_1 (x0 x3 : List Str) (x4 : Int) : rS 3 I21 (S21_3 x0 x3 x4) [F] [] = dn (xDv x3) [(decide ((x4 : Int) < (Ln x0 : Int))) = false] := by kernel_rfl
theorem p21_e_2 (a0 : List Str) : rE I21 (xE0 a0) [] [] = st 3 I21 (S21_3 a0 (List.replicate (tN (Ln a0 : Int)) Ty.str.dflt) 0) [(0 : Int) ≤ (Ln a0 : Int) ∧ (Ln a0 : Int) = (Ln a0 : Int) ∧ (Ln a0 : Int) ≤ Lim] := by kernel_rfl
theorem c21_3 {N : Nat} : ∀ n x0 x3 x4 r, xE1 N n x0 x3 x4 = some r → RS Try.f21 I21 3 (S21_3 x0 x3 x4) (xDv r) := by
 intro n
 induction n with
 | zero => exact fun _ _ _ _ h => nE h
 | succ n ih =>
  exact fun x0 x3 x4 r h =>
   cE h (fun h0 h => iE h fun h1 h => iE h fun h2 h => tS fk21 (p21_3_0 x0 x3 x4) (oc h0 (oc h1 (oc h2 on))) (ih _ _ _ _ h)) fun h0 h =>
   dS h fk21 (p21_3_1 x0 x3 x4) (oc h0 on)
theorem c21_e {N : Nat} : ∀ a0 r, xFf N a0 = some r → RE Try.f21 I21 (xE0 a0) (xDv r) := fun a0 r h =>
 iE h fun h0 h => tE fk21 (p21_e_2 a0) (oc h0 on) (c21_3 _ _ _ _ _ h)
theorem laws_toStringS_ok {N : Nat} {a0 : List Str} {r : (List Str)} (h : xFf N  a0 = some r) : AbC 21 (xE0 a0) (xDv r) :=
 AbsCalls.of_reach fk21 rfl rfl (Nat.le_of_ble_eq_true rfl) (c21_e a0 r h)
noncomputable def I64 : Info := { body := (Try.f64.body).getD .skip, nt := 22, results := [.tmp 2], keep := [0, 4, 6, 8, 22], live := [(3, [0, 6, 8])], modes := [(5, [(0, .ref, false)]), (6, [(0, .take, false)])] }
theorem fk64 : FnOk Try.prog 64 Try.f64 I64 := ⟨Try.func64, by kernel_rfl, by kernel_rfl, by kernel_rfl, by kernel_rfl⟩
def S64_3 (x0 x3 : List Int) (x4 : Int) : St := [(0, .v false [.sl .ro .int x0]), (6, .v false [.sl .own .int x3]), (8, .v false [.int .i64 x4])]
theorem p64_3_0 (x0 x3 : List Int) (x4 : Int) : rS 3 I64 (S64_3 x0 x3 x4) [Y] [] = st 3 I64 (S64_3 x0 (List.set x3 (tN x4) (gD x0 (tN x4) Ty.int.dflt)) (W (x4 + 1))) [(decide ((x4 : Int) < (Ln x0 : Int))) = true, (0 : Int) ≤ x4 ∧ x4 < (Ln x0), (0 : Int) ≤ x4 ∧ x4 < (Ln x3)] := by kernel_rfl
theorem p64_3_1 (x0 x3 : List Int) (x4 : Int) : rS 3 I64 (S64_3 x0 x3 x4) [F] [] = dn (xEE x3) [(decide ((x4 : Int) < (Ln x0 : Int))) = false] := by kernel_rfl
theorem p64_e_2 (a0 : List Int) : rE I64 (xF8 a0) [] [] = st 3 I64 (S64_3 a0 (List.replicate (tN (Ln a0 : Int)) Ty.int.dflt) 0) [(0 : Int) ≤ (Ln a0 : Int) ∧ (Ln a0 : Int) = (Ln a0 : Int) ∧ (Ln a0 : Int) ≤ Lim] := by kernel_rfl
theorem c64_3 {N : Nat} : ∀ n x0 x3 x4 r, xF9 N n x0 x3 x4 = some r → RS Try.f64 I64 3 (S64_3 x0 x3 x4) (xEE r) := by
 intro n
 induction n with
 | zero => exact fun _ _ _ _ h => nE h
 | succ n ih =>
  exact fun x0 x3 x4 r h =>
   cE h (fun h0 h => iE h fun h1 h => iE h fun h2 h => tS fk64 (p64_3_0 x0 x3 x4) (oc h0 (oc h1 (oc h2 on))) (ih _ _ _ _ h)) fun h0 h =>
   dS h fk64 (p64_3_1 x0 x3 x4) (oc h0 on)
theorem c64_e {N : Nat} : ∀ a0 r, xGF N a0 = some r → RE Try.f64 I64 (xF8 a0) (xEE r) := fun a0 r h =>
 iE h fun h0 h => tE fk64 (p64_e_2 a0) (oc h0 on) (c64_3 _ _ _ _ _ h)
theorem laws_toIntS_ok {N : Nat} {a0 : List Int} {r : (List Int)} (h : xGF N  a0 = some r) : AbC 64 (xF8 a0) (xEE r) :=
 AbsCalls.of_reach fk64 rfl rfl (Nat.le_of_ble_eq_true rfl) (c64_e a0 r h)
noncomputable def I73 : Info := { body := (Try.f73.body).getD .skip, nt := 11, results := [.cell 2 86], keep := [0, 2, 4, 6, 3, 5, 7], live := [], modes := [] }
theorem fk73 : FnOk Try.prog 73 Try.f73 I73 := ⟨Try.func73, by kernel_rfl, by kernel_rfl, by kernel_rfl, by kernel_rfl⟩
theorem p73_e_0 (a0 : Org) : rE I73 (xFq a0) [] [] = dn (xEx a0) [] := by kernel_rfl
theorem c73_e {N : Nat} : ∀ a0 r, xGr N a0 = some r → RE Try.f73 I73 (xFq a0) (xEx r) := fun a0 r h =>
 dE h fk73 (p73_e_0 a0) on
theorem laws_toOrigin_ok {N : Nat} {a0 : Org} {r : Org} (h : xGr N  a0 = some r) : AbC 73 (xFq a0) (xEx r) :=
 AbsCalls.of_reach fk73 rfl rfl (Nat.le_of_ble_eq_true rfl) (c73_e a0 r h)
noncomputable def I65 : Info := { body := (Try.f65.body).getD .skip, nt := 23, results := [.tmp 2], keep := [0, 4, 6, 8, 22], live := [(3, [0, 6, 8])], modes := [(5, [(0, .ref, false)]), (6, [(0, .take, false)])] }
theorem fk65 : FnOk Try.prog 65 Try.f65 I65 := ⟨Try.func65, by kernel_rfl, by kernel_rfl, by kernel_rfl, by kernel_rfl⟩
def S65_3 (x0 x3 : List Org) (x4 : Int) : St := [(0, .v false [.sl .ro .org x0]), (6, .v false [.sl .own .org x3]), (8, .v false [.int .i64 x4])]
theorem p65_3_0 (x0 x3 : List Org) (x4 : Int) (r1 : Org) : rS 3 I65 (S65_3 x0 x3 x4) [Y] [xEx r1] = st 3 I65 (S65_3 x0 (List.set x3 (tN x4) r1) (W (x4 + 1))) [(decide ((x4 : Int) < (Ln x0 : Int))) = true, (0 : Int) ≤ x4 ∧ x4 < (Ln x0), AbC 73 (xFq (gD x0 (tN x4) Ty.org.dflt)) (xEx r1), (0 : Int) ≤ x4 ∧ x4 < (Ln x3)] := by kernel_rfl
theorem p65_3_1 (x0 x3 : List Org) (x4 : Int) : rS 3 I65 (S65_3 x0 x3 x4) [F] [] = dn (xDu x3) [(decide ((x4 : Int) < (Ln x0 : Int))) = false] := by kernel_rfl
theorem p65_e_2 (a0 : List Org) : rE I65 (xEY a0) [] [] = st 3 I65 (S65_3 a0 (List.replicate (tN (Ln a0 : Int)) Ty.org.dflt) 0) [(0 : Int) ≤ (Ln a0 : Int) ∧ (Ln a0 : Int) = (Ln a0 : Int) ∧ (Ln a0 : Int) ≤ Lim] := by kernel_rfl
theorem c65_3 {N : Nat} : ∀ n x0 x3 x4 r, xEZ N n x0 x3 x4 = some r → RS Try.f65 I65 3 (S65_3 x0 x3 x4) (xDu r) := by
 intro n
 induction n with
 | zero => exact fun _ _ _ _ h => nE h
 | succ n ih =>
  exact fun x0 x3 x4 r h =>
   cE h (fun h0 h => iE h fun h1 h => bE h fun r1 h2 h => iE h fun h3 h => tS fk65 (p65_3_0 x0 x3 x4 r1) (oc h0 (oc h1 (oc (laws_toOrigin_ok h2) (oc h3 on)))) (ih _ _ _ _ h)) fun h0 h =>
   dS h fk65 (p65_3_1 x0 x3 x4) (oc h0 on)
theorem c65_e {N : Nat} : ∀ a0 r, xFe N a0 = some r → RE Try.f65 I65 (xEY a0) (xDu r) := fun a0 r h =>
 iE h fun h0 h => tE fk65 (p65_e_2 a0) (oc h0 on) (c65_3 _ _ _ _ _ h)
theorem laws_toOriginS_ok {N : Nat} {a0 : List Org} {r : (List Org)} (h : xFe N  a0 = some r) : AbC 65 (xEY a0) (xDu r) :=
 AbsCalls.of_reach fk65 rfl rfl (Nat.le_of_ble_eq_true rfl) (c65_e a0 r h)
noncomputable def I45 : Info := { body := (Try.f45.body).getD .skip, nt := 13, results := [.cell 2 49], keep := [0, 2, 4, 6, 3, 5, 7], live := [], modes := [(4, [(0, .take, false)])] }
theorem fk45 : FnOk Try.prog 45 Try.f45 I45 := ⟨Try.func45, by kernel_rfl, by kernel_rfl, by kernel_rfl, by kernel_rfl⟩
theorem p45_e_0 (a0 : Rowd) (r1 : (List Int)) (r2 : (List Org)) : rE I45 (xGs a0) [] [xEE r1, xDu r2] = dn (xFK (Rowd.mk r1 r2)) [AbC 64 (xF8 (Rowd.cells a0)) (xEE r1), AbC 65 (xEY (Rowd.frm a0)) (xDu r2)] := by kernel_rfl
theorem c45_e {N : Nat} : ∀ a0 r, xGv N a0 = some r → RE Try.f45 I45 (xGs a0) (xFK r) := fun a0 r h =>
 bE h fun r1 h0 h => bE h fun r2 h1 h => dE h fk45 (p45_e_0 a0 r1 r2) (oc (laws_toIntS_ok h0) (oc (laws_toOriginS_ok h1) on))
theorem laws_toRow_ok {N : Nat} {a0 : Rowd} {r : Rowd} (h : xGv N  a0 = some r) : AbC 45 (xGs a0) (xFK r) :=
 AbsCalls.of_reach fk45 rfl rfl (Nat.le_of_ble_eq_true rfl) (c45_e a0 r h)
noncomputable def I22 : Info := { body := (Try.f22.body).getD .skip, nt := 23, results := [.tmp 2], keep := [0, 4, 6, 8, 22], live := [(3, [0, 6, 8])], modes := [(5, [(0, .ref, false)]), (6, [(0, .take, false)])] }
theorem fk22 : FnOk Try.prog 22 Try.f22 I22 := ⟨Try.func22, by kernel_rfl, by kernel_rfl, by kernel_rfl, by kernel_rfl⟩
def S22_3 (x0 x3 : List Rowd) (x4 : Int) : St := [(0, .v false [.sl .ro .row x0]), (6, .v false [.sl .own .row x3]), (8, .v false [.int .i64 x4])]
theorem p22_3_0 (x0 x3 : List Rowd) (x4 : Int) (r1 : Rowd) : rS 3 I22 (S22_3 x0 x3 x4) [Y] [xFK r1] = st 3 I22 (S22_3 x0 (List.set x3 (tN x4) r1) (W (x4 + 1))) [(decide ((x4 : Int) < (Ln x0 : Int))) = true, (0 : Int) ≤ x4 ∧ x4 < (Ln x0), AbC 45 (xGs (gD x0 (tN x4) rd)) (xFK r1), (0 : Int) ≤ x4 ∧ x4 < (Ln x3)] := by kernel_rfl
theorem p22_3_1 (x0 x3 : List Rowd) (x4 : Int) : rS 3 I22 (S22_3 x0 x3 x4) [F] [] = dn (xEF x3) [(decide ((x4 : Int) < (Ln x0 : Int))) = false] := by kernel_rfl
theorem p22_e_2 (a0 : List Rowd) : rE I22 (xGa a0) [] [] = st 3 I22 (S22_3 a0 (List.replicate (tN (Ln a0 : Int)) rd) 0) [(0 : Int) ≤ (Ln a0 : Int) ∧ (Ln a0 : Int) = (Ln a0 : Int) ∧ (Ln a0 : Int) ≤ Lim] := by kernel_rfl
theorem c22_3 {N : Nat} : ∀ n x0 x3 x4 r, xGb N n x0 x3 x4 = some r → RS Try.f22 I22 3 (S22_3 x0 x3 x4) (xEF r) := by
 intro n
 induction n with
 | zero => exact fun _ _ _ _ h => nE h
 | succ n ih =>
  exact fun x0 x3 x4 r h =>
   cE h (fun h0 h => iE h fun h1 h => bE h fun r1 h2 h => iE h fun h3 h => tS fk22 (p22_3_0 x0 x3 x4 r1) (oc h0 (oc h1 (oc (laws_toRow_ok h2) (oc h3 on)))) (ih _ _ _ _ h)) fun h0 h =>
   dS h fk22 (p22_3_1 x0 x3 x4) (oc h0 on)
theorem c22_e {N : Nat} : ∀ a0 r, xGG N a0 = some r → RE Try.f22 I22 (xGa a0) (xEF r) := fun a0 r h =>
 iE h fun h0 h => tE fk22 (p22_e_2 a0) (oc h0 on) (c22_3 _ _ _ _ _ h)
theorem laws_toRowS_ok {N : Nat} {a0 : List Rowd} {r : (List Rowd)} (h : xGG N  a0 = some r) : AbC 22 (xGa a0) (xEF r) :=
 AbsCalls.of_reach fk22 rfl rfl (Nat.le_of_ble_eq_true rfl) (c22_e a0 r h)
def G6 (q : Val → Option (Val)) : Prop := ∀ a0 r, q a0 = some r → AbC 6 (xAb a0) (xAa r)
def G20 (q : (List Val) → Option ((List Val))) : Prop := ∀ a0 r, q a0 = some r → AbC 20 (xEy a0) (xDe r)
noncomputable def I6 : Info := { body := (Try.f6.body).getD .skip, nt := 29, results := [.cell 2 31], keep := [0, 2, 4, 6, 3, 5, 7], live := [], modes := [(9, [(0, .take, false)])] }
theorem fk6 : FnOk Try.prog 6 Try.f6 I6 := ⟨Try.func6, by kernel_rfl, by kernel_rfl, by kernel_rfl, by kernel_rfl⟩
theorem p6_e_0 (a0 : Val) (r1 : (List Val)) (r2 : (List Str)) (r3 : (List Rowd)) : rE I6 (xAb a0) [] [xDe r1, xDv r2, xEF r3] = dn (xAa (Val.mk (Val.kind a0) (Val.n a0) (Val.step a0) (Val.text a0) r1 r2 r3)) [AbC 20 (xEy (Val.list a0)) (xDe r1), AbC 21 (xE0 (Val.columns a0)) (xDv r2), AbC 22 (xGa (Val.rows a0)) (xEF r3)] := by kernel_rfl
theorem c6_e {N : Nat} {q0 : Val → Option (Val)} (g0 : G6 q0) {q1 : (List Val) → Option ((List Val))} (g1 : G20 q1) : ∀ a0 r, xEh N q0 q1 a0 = some r → RE Try.f6 I6 (xAb a0) (xAa r) := fun a0 r h =>
 bE h fun r1 h0 h => bE h fun r2 h1 h => bE h fun r3 h2 h => dE h fk6 (p6_e_0 a0 r1 r2 r3) (oc (g1 _ _ h0) (oc (laws_toStringS_ok h1) (oc (laws_toRowS_ok h2) on)))
theorem xHT {N : Nat} {q0 : Val → Option (Val)} (g0 : G6 q0) {q1 : (List Val) → Option ((List Val))} (g1 : G20 q1) {a0 : Val} {r : Val} (h : xEh N q0 q1 a0 = some r) : AbC 6 (xAb a0) (xAa r) :=
 AbsCalls.of_reach fk6 rfl rfl (Nat.le_of_ble_eq_true rfl) (c6_e g0 g1 a0 r h)
noncomputable def I20 : Info := { body := (Try.f20.body).getD .skip, nt := 23, results := [.tmp 2], keep := [0, 4, 6, 8, 22], live := [(3, [0, 6, 8])], modes := [(5, [(0, .ref, false)]), (6, [(0, .take, false)])] }
theorem fk20 : FnOk Try.prog 20 Try.f20 I20 := ⟨Try.func20, by kernel_rfl, by kernel_rfl, by kernel_rfl, by kernel_rfl⟩
def S20_3 (x0 x3 : List Val) (x4 : Int) : St := [(0, .v false [.sl .ro .val x0]), (6, .v false [.sl .own .val x3]), (8, .v false [.int .i64 x4])]
theorem p20_3_0 (x0 x3 : List Val) (x4 : Int) (r1 : Val) : rS 3 I20 (S20_3 x0 x3 x4) [Y] [xAa r1] = st 3 I20 (S20_3 x0 (List.set x3 (tN x4) (Val.re r1)) (W (x4 + 1))) [(decide ((x4 : Int) < (Ln x0 : Int))) = true, (0 : Int) ≤ x4 ∧ x4 < (Ln x0), AbC 6 (xAb (gD x0 (tN x4) vd)) (xAa r1), (0 : Int) ≤ x4 ∧ x4 < (Ln x3)] := by kernel_rfl
theorem p20_3_1 (x0 x3 : List Val) (x4 : Int) : rS 3 I20 (S20_3 x0 x3 x4) [F] [] = dn (xDe x3) [(decide ((x4 : Int) < (Ln x0 : Int))) = false] := by kernel_rfl
theorem p20_e_2 (a0 : List Val) : rE I20 (xEy a0) [] [] = st 3 I20 (S20_3 a0 (List.replicate (tN (Ln a0 : Int)) vd) 0) [(0 : Int) ≤ (Ln a0 : Int) ∧ (Ln a0 : Int) = (Ln a0 : Int) ∧ (Ln a0 : Int) ≤ Lim] := by kernel_rfl
theorem c20_3 {N : Nat} {q0 : Val → Option (Val)} (g0 : G6 q0) {q1 : (List Val) → Option ((List Val))} (g1 : G20 q1) : ∀ n x0 x3 x4 r, xFr N q0 q1 n x0 x3 x4 = some r → RS Try.f20 I20 3 (S20_3 x0 x3 x4) (xDe r) := by
 intro n
 induction n with
 | zero => exact fun _ _ _ _ h => nE h
 | succ n ih =>
  exact fun x0 x3 x4 r h =>
   cE h (fun h0 h => iE h fun h1 h => bE h fun r1 h2 h => iE h fun h3 h => tS fk20 (p20_3_0 x0 x3 x4 r1) (oc h0 (oc h1 (oc (g0 _ _ h2) (oc h3 on)))) (ih _ _ _ _ h)) fun h0 h =>
   dS h fk20 (p20_3_1 x0 x3 x4) (oc h0 on)
theorem c20_e {N : Nat} {q0 : Val → Option (Val)} (g0 : G6 q0) {q1 : (List Val) → Option ((List Val))} (g1 : G20 q1) : ∀ a0 r, xD2 N q0 q1 a0 = some r → RE Try.f20 I20 (xEy a0) (xDe r) := fun a0 r h =>
 iE h fun h0 h => tE fk20 (p20_e_2 a0) (oc h0 on) (c20_3 g0 g1 _ _ _ _ _ h)
theorem xHD {N : Nat} {q0 : Val → Option (Val)} (g0 : G6 q0) {q1 : (List Val) → Option ((List Val))} (g1 : G20 q1) {a0 : List Val} {r : (List Val)} (h : xD2 N q0 q1 a0 = some r) : AbC 20 (xEy a0) (xDe r) :=
 AbsCalls.of_reach fk20 rfl rfl (Nat.le_of_ble_eq_true rfl) (c20_e g0 g1 a0 r h)
theorem xIa {N : Nat} : ∀ d, G6 (xBe N d).c_laws_toValue ∧ G20 (xBe N d).c_laws_toValueS := by
 intro d
 induction d with
 | zero => exact ⟨fun _ _ h => nE h, fun _ _ h => nE h⟩
 | succ d ih =>
  obtain ⟨ih0, ih1⟩ := ih
  exact ⟨fun _ _ h => xHT (N := N) ih0 ih1 h, fun _ _ h => xHD (N := N) ih0 ih1 h⟩
theorem xAc {N : Nat} {a0 : Val} {r : Val} (h : xA8 N a0 = some r) : AbC 6 (xAb a0) (xAa r) := (xIa N).1 _ r h
noncomputable def I44 : Info := { body := (Try.f44.body).getD .skip, nt := 15, results := [.tmp 6], keep := [0, 2, 4, 12], live := [], modes := [(1, [(3, .take, false)])] }
theorem fk44 : FnOk Try.prog 44 Try.f44 I44 := ⟨Try.func44, by kernel_rfl, by kernel_rfl, by kernel_rfl, by kernel_rfl⟩
theorem p44_e_0 (a0 a1 a2 : Int) : rE I44 (xEl a0 a1 a2) [Y] [] = dn (xCM (decide ((a0 : Int) ≤ a2))) [(decide ((a0 : Int) ≥ a1)) = true] := by kernel_rfl
theorem p44_e_1 (a0 a1 a2 : Int) : rE I44 (xEl a0 a1 a2) [F] [] = dn (xCM false) [(decide ((a0 : Int) ≥ a1)) = false] := by kernel_rfl
theorem c44_e {N : Nat} : ∀ a0 a1 a2 r, xGK N a0 a1 a2 = some r → RE Try.f44 I44 (xEl a0 a1 a2) (xCM r) := fun a0 a1 a2 r h =>
 cE h (fun h0 h => dE h fk44 (p44_e_0 a0 a1 a2) (oc h0 on)) fun h0 h =>
 dE h fk44 (p44_e_1 a0 a1 a2) (oc h0 on)
theorem xGS {N : Nat} {a0 : Int} {a1 : Int} {a2 : Int} {r : Bool} (h : xGK N  a0 a1 a2 = some r) : AbC 44 (xEl a0 a1 a2) (xCM r) :=
 AbsCalls.of_reach fk44 rfl rfl (Nat.le_of_ble_eq_true rfl) (c44_e a0 a1 a2 r h)
noncomputable def I19 : Info := { body := (Try.f19.body).getD .skip, nt := 5, results := [.tmp 2], keep := [0, 4], live := [], modes := [] }
theorem fk19 : FnOk Try.prog 19 Try.f19 I19 := ⟨Try.func19, by kernel_rfl, by kernel_rfl, by kernel_rfl, by kernel_rfl⟩
theorem p19_e_0 (a0 : Int) (r1 : Bool) : rE I19 (xBT a0) [] [xCM r1] = dn (xA3 r1) [AbC 44 (xEl a0 (-1000000000) 1000000000) (xCM r1)] := by kernel_rfl
theorem c19_e {N : Nat} : ∀ a0 r, xDo N a0 = some r → RE Try.f19 I19 (xBT a0) (xA3 r) := fun a0 r h =>
 bE h fun r1 h0 h => dE h fk19 (p19_e_0 a0 r1) (oc (xGS h0) on)
theorem xCN {N : Nat} {a0 : Int} {r : Bool} (h : xDo N  a0 = some r) : AbC 19 (xBT a0) (xA3 r) :=
 AbsCalls.of_reach fk19 rfl rfl (Nat.le_of_ble_eq_true rfl) (c19_e a0 r h)
noncomputable def I70 : Info := { body := (Try.f70.body).getD .skip, nt := 29, results := [.tmp 2], keep := [0, 4, 6, 14, 50], live := [(2, [0, 6])], modes := [(4, [(4, .take, false), (10, .take, false)])] }
theorem fk70 : FnOk Try.prog 70 Try.f70 I70 := ⟨Try.func70, by kernel_rfl, by kernel_rfl, by kernel_rfl, by kernel_rfl⟩
def S70_2 (x0 : Str) (x3 : Int) : St := [(0, .v false [.str x0]), (6, .v false [.int .i64 x3])]
theorem p70_2_0 (x0 : Str) (x3 : Int) : rS 2 I70 (S70_2 x0 x3) [Y, Y, Y, Y] [] = dn (xBP false) [(decide ((x3 : Int) < (Ln x0 : Int))) = true, (0 : Int) ≤ x3 ∧ x3 < (Ln x0), (decide ((((gD x0 (tN x3) 0).toNat : Int) : Int) < 32)) = true, true = true, true = true] := by kernel_rfl
theorem p70_2_1 (x0 : Str) (x3 : Int) : rS 2 I70 (S70_2 x0 x3) [Y, F, Y, Y] [] = dn (xBP false) [(decide ((x3 : Int) < (Ln x0 : Int))) = true, (0 : Int) ≤ x3 ∧ x3 < (Ln x0), (decide ((((gD x0 (tN x3) 0).toNat : Int) : Int) < 32)) = false, (0 : Int) ≤ x3 ∧ x3 < (Ln x0), (decide ((((gD x0 (tN x3) 0).toNat : Int) : Int) > 126)) = true, true = true] := by kernel_rfl
theorem p70_2_2 (x0 : Str) (x3 : Int) : rS 2 I70 (S70_2 x0 x3) [Y, F, F, Y] [] = dn (xBP false) [(decide ((x3 : Int) < (Ln x0 : Int))) = true, (0 : Int) ≤ x3 ∧ x3 < (Ln x0), (decide ((((gD x0 (tN x3) 0).toNat : Int) : Int) < 32)) = false, (0 : Int) ≤ x3 ∧ x3 < (Ln x0), (decide ((((gD x0 (tN x3) 0).toNat : Int) : Int) > 126)) = false, (0 : Int) ≤ x3 ∧ x3 < (Ln x0), ((((gD x0 (tN x3) 0).toNat : Int) : Int) == 34) = true] := by kernel_rfl
theorem p70_2_3 (x0 : Str) (x3 : Int) : rS 2 I70 (S70_2 x0 x3) [Y, F, F, F] [] = st 2 I70 (S70_2 x0 (W (x3 + 1))) [(decide ((x3 : Int) < (Ln x0 : Int))) = true, (0 : Int) ≤ x3 ∧ x3 < (Ln x0), (decide ((((gD x0 (tN x3) 0).toNat : Int) : Int) < 32)) = false, (0 : Int) ≤ x3 ∧ x3 < (Ln x0), (decide ((((gD x0 (tN x3) 0).toNat : Int) : Int) > 126)) = false, (0 : Int) ≤ x3 ∧ x3 < (Ln x0), ((((gD x0 (tN x3) 0).toNat : Int) : Int) == 34) = false] := by kernel_rfl
theorem p70_2_4 (x0 : Str) (x3 : Int) : rS 2 I70 (S70_2 x0 x3) [F] [] = dn (xBP (decide (((Ln x0 : Int) : Int) ≤ 20))) [(decide ((x3 : Int) < (Ln x0 : Int))) = false] := by kernel_rfl
theorem p70_e_5 (a0 : Str) : rE I70 (xEs a0) [] [] = st 2 I70 (S70_2 a0 0) [] := by kernel_rfl
theorem c70_2 {N : Nat} : ∀ n x0 x3 r, xB2 N n x0 x3 = some r → RS Try.f70 I70 2 (S70_2 x0 x3) (xBP r) := by
 intro n
 induction n with
 | zero => exact fun _ _ _ h => nE h
 | succ n ih =>
  exact fun x0 x3 r h =>
   cE h (fun h0 h => iE h fun h1 h => cE h (fun h2 h => dS h fk70 (p70_2_0 x0 x3) (oc h0 (oc h1 (oc h2 (oc rfl (oc rfl on)))))) fun h2 h =>
   cE h (fun h4 h => dS h fk70 (p70_2_1 x0 x3) (oc h0 (oc h1 (oc h2 (oc h1 (oc h4 (oc rfl on))))))) fun h4 h =>
   cE h (fun h6 h => dS h fk70 (p70_2_2 x0 x3) (oc h0 (oc h1 (oc h2 (oc h1 (oc h4 (oc h1 (oc h6 on)))))))) fun h6 h =>
   tS fk70 (p70_2_3 x0 x3) (oc h0 (oc h1 (oc h2 (oc h1 (oc h4 (oc h1 (oc h6 on))))))) (ih _ _ _ h)) fun h0 h =>
   dS h fk70 (p70_2_4 x0 x3) (oc h0 on)
theorem c70_e {N : Nat} : ∀ a0 r, xFt N a0 = some r → RE Try.f70 I70 (xEs a0) (xBP r) := fun a0 r h =>
 tE fk70 (p70_e_5 a0) on (c70_2 _ _ _ _ h)
theorem xIf {N : Nat} {a0 : Str} {r : Bool} (h : xFt N  a0 = some r) : AbC 70 (xEs a0) (xBP r) :=
 AbsCalls.of_reach fk70 rfl rfl (Nat.le_of_ble_eq_true rfl) (c70_e a0 r h)
noncomputable def I78 : Info := { body := (Try.f78.body).getD .skip, nt := 16, results := [.tmp 2], keep := [0, 2, 4, 3], live := [], modes := [(1, [(3, .take, false), (8, .take, false)])] }
theorem fk78 : FnOk Try.prog 78 Try.f78 I78 := ⟨Try.func78, by kernel_rfl, by kernel_rfl, by kernel_rfl, by kernel_rfl⟩
theorem p78_e_0 (a0 : Val) : rE I78 (xCw a0) [Y, Y] [] = dn (xBF true) [(((Val.kind a0) : Int) == 1) = true, true = true] := by kernel_rfl
theorem p78_e_1 (a0 : Val) : rE I78 (xCw a0) [F, Y] [] = dn (xBF true) [(((Val.kind a0) : Int) == 1) = false, (((Val.kind a0) : Int) == 2) = true] := by kernel_rfl
theorem p78_e_2 (a0 : Val) : rE I78 (xCw a0) [F, F] [] = dn (xBF (((Val.kind a0) : Int) == 3)) [(((Val.kind a0) : Int) == 1) = false, (((Val.kind a0) : Int) == 2) = false] := by kernel_rfl
theorem c78_e {N : Nat} : ∀ a0 r, xGd N a0 = some r → RE Try.f78 I78 (xCw a0) (xBF r) := fun a0 r h =>
 cE h (fun h0 h => dE h fk78 (p78_e_0 a0) (oc h0 (oc rfl on))) fun h0 h =>
 cE h (fun h1 h => dE h fk78 (p78_e_1 a0) (oc h0 (oc h1 on))) fun h1 h =>
 dE h fk78 (p78_e_2 a0) (oc h0 (oc h1 on))
theorem xF2 {N : Nat} {a0 : Val} {r : Bool} (h : xGd N  a0 = some r) : AbC 78 (xCw a0) (xBF r) :=
 AbsCalls.of_reach fk78 rfl rfl (Nat.le_of_ble_eq_true rfl) (c78_e a0 r h)
noncomputable def I84 : Info := { body := (Try.f84.body).getD .skip, nt := 10, results := [.tmp 4], keep := [0, 2, 8, 14], live := [], modes := [] }
theorem fk84 : FnOk Try.prog 84 Try.f84 I84 := ⟨Try.func84, by kernel_rfl, by kernel_rfl, by kernel_rfl, by kernel_rfl⟩
theorem p84_e_0 (a0 a1 : Int) : rE I84 (xFN a0 a1) [Y] [] = dn (xE3 a0) [(decide ((a0 : Int) > a1)) = true] := by kernel_rfl
theorem p84_e_1 (a0 a1 : Int) : rE I84 (xFN a0 a1) [F] [] = dn (xE3 a1) [(decide ((a0 : Int) > a1)) = false] := by kernel_rfl
theorem c84_e {N : Nat} : ∀ a0 a1 r, xHa N a0 a1 = some r → RE Try.f84 I84 (xFN a0 a1) (xE3 r) := fun a0 a1 r h =>
 cE h (fun h0 h => dE h fk84 (p84_e_0 a0 a1) (oc h0 on)) fun h0 h =>
 dE h fk84 (p84_e_1 a0 a1) (oc h0 on)
theorem spec_l1Max_ok {N : Nat} {a0 : Int} {a1 : Int} {r : Int} (h : xHa N  a0 a1 = some r) : AbC 84 (xFN a0 a1) (xE3 r) :=
 AbsCalls.of_reach fk84 rfl rfl (Nat.le_of_ble_eq_true rfl) (c84_e a0 a1 r h)
def G79 (q : Val → Option (Int)) : Prop := ∀ a0 r, q a0 = some r → AbC 79 (xDI a0) (xCd r)
noncomputable def I79 : Info := { body := (Try.f79.body).getD .skip, nt := 22, results := [.tmp 2], keep := [0, 2, 4, 6, 8, 18, 3], live := [(3, [2, 6, 8, 3])], modes := [] }
theorem fk79 : FnOk Try.prog 79 Try.f79 I79 := ⟨Try.func79, by kernel_rfl, by kernel_rfl, by kernel_rfl, by kernel_rfl⟩
def S79_3 (x3 x4 : Int) (b1 : Val) : St := [(2, .v false [.ptr 1 0]), (6, .v false [.int .i64 x3]), (8, .v false [.int .i64 x4]), (3, .v true [.int .i64 (Val.kind b1), .int .i64 (Val.n b1), .int .i64 (Val.step b1), .str (Val.text b1), .sl .ro .val (Val.list b1), .sl .ro .str (Val.columns b1), .sl .ro .row (Val.rows b1)])]
theorem p79_3_0 (x3 x4 : Int) (b1 : Val) (r1 r2 : Int) : rS 3 I79 (S79_3 x3 x4 b1) [Y] [xCd r1, xE3 r2] = st 3 I79 (S79_3 r2 (W (x4 + 1)) b1) [(decide ((x4 : Int) < (Ln (Val.list b1) : Int))) = true, (0 : Int) ≤ x4 ∧ x4 < (Ln (Val.list b1)), AbC 79 (xDI (gD (Val.list b1) (tN x4) vd)) (xCd r1), AbC 84 (xFN x3 r1) (xE3 r2)] := by kernel_rfl
theorem p79_3_1 (x3 x4 : Int) (b1 : Val) : rS 3 I79 (S79_3 x3 x4 b1) [F] [] = dn (xCd (W (x3 + 1))) [(decide ((x4 : Int) < (Ln (Val.list b1) : Int))) = false] := by kernel_rfl
theorem p79_e_2 (a0 : Val) : rE I79 (xDI a0) [] [] = st 3 I79 (S79_3 0 0 a0) [] := by kernel_rfl
theorem c79_3 {N : Nat} {q0 : Val → Option (Int)} (g0 : G79 q0) : ∀ n x3 x4 b1 r, xEi N q0 n x3 x4 b1 = some r → RS Try.f79 I79 3 (S79_3 x3 x4 b1) (xCd r) := by
 intro n
 induction n with
 | zero => exact fun _ _ _ _ h => nE h
 | succ n ih =>
  exact fun x3 x4 b1 r h =>
   cE h (fun h0 h => iE h fun h1 h => bE h fun r1 h2 h => bE h fun r2 h3 h => tS fk79 (p79_3_0 x3 x4 b1 r1 r2) (oc h0 (oc h1 (oc (g0 _ _ h2) (oc (spec_l1Max_ok h3) on)))) (ih _ _ _ _ h)) fun h0 h =>
   dS h fk79 (p79_3_1 x3 x4 b1) (oc h0 on)
theorem c79_e {N : Nat} {q0 : Val → Option (Int)} (g0 : G79 q0) : ∀ a0 r, xFZ N q0 a0 = some r → RE Try.f79 I79 (xDI a0) (xCd r) := fun a0 r h =>
 tE fk79 (p79_e_2 a0) on (c79_3 g0 _ _ _ _ _ h)
theorem xHU {N : Nat} {q0 : Val → Option (Int)} (g0 : G79 q0) {a0 : Val} {r : Int} (h : xFZ N q0 a0 = some r) : AbC 79 (xDI a0) (xCd r) :=
 AbsCalls.of_reach fk79 rfl rfl (Nat.le_of_ble_eq_true rfl) (c79_e g0 a0 r h)
theorem xGH {N : Nat} : ∀ d, G79 (xDg N d)
 | 0 => fun _ _ h => nE h
 | d + 1 => fun _ _ h => xHU (N := N) (xGH d) h
theorem spec_DepthOf_ok {N : Nat} {a0 : Val} {r : Int} (h : xGQ N a0 = some r) : AbC 79 (xDI a0) (xCd r) := xGH N _ r h
noncomputable def I41 : Info := { body := (Try.f41.body).getD .skip, nt := 45, results := [.tmp 2], keep := [0, 4, 6, 8, 10, 18, 82], live := [(2, [0, 6])], modes := [(4, [(4, .take, false)]), (5, [(4, .take, false)]), (6, [(0, .take, false), (2, .take, false), (5, .take, false), (6, .take, false)])] }
theorem fk41 : FnOk Try.prog 41 Try.f41 I41 := ⟨Try.func41, by kernel_rfl, by kernel_rfl, by kernel_rfl, by kernel_rfl⟩
def xHc (x0 : Str) (x3 : Int) : St := [(0, .v false [.str x0]), (6, .v false [.int .i64 x3])]
theorem p41_2_0 (x0 : Str) (x3 : Int) : rS 2 I41 (xHc x0 x3) [Y, Y, Y, Y, Y, Y] [] = dn (xBf false) [(decide ((x3 : Int) < (Ln x0 : Int))) = true, (0 : Int) ≤ x3 ∧ x3 < (Ln x0), (decide ((((gD x0 (tN x3) 0).toNat : Int) : Int) ≥ 97)) = true, (0 : Int) ≤ x3 ∧ x3 < (Ln x0), (0 : Int) ≤ x3 ∧ x3 < (Ln x0), (decide ((((gD x0 (tN x3) 0).toNat : Int) : Int) ≥ 48)) = true, (0 : Int) ≤ x3 ∧ x3 < (Ln x0), (!(decide ((((gD x0 (tN x3) 0).toNat : Int) : Int) ≤ 122))) = true, ((x3 : Int) == 0) = true, true = true] := by kernel_rfl
theorem p41_2_1 (x0 : Str) (x3 : Int) : rS 2 I41 (xHc x0 x3) [Y, Y, Y, Y, F, Y] [] = dn (xBf false) [(decide ((x3 : Int) < (Ln x0 : Int))) = true, (0 : Int) ≤ x3 ∧ x3 < (Ln x0), (decide ((((gD x0 (tN x3) 0).toNat : Int) : Int) ≥ 97)) = true, (0 : Int) ≤ x3 ∧ x3 < (Ln x0), (0 : Int) ≤ x3 ∧ x3 < (Ln x0), (decide ((((gD x0 (tN x3) 0).toNat : Int) : Int) ≥ 48)) = true, (0 : Int) ≤ x3 ∧ x3 < (Ln x0), (!(decide ((((gD x0 (tN x3) 0).toNat : Int) : Int) ≤ 122))) = true, ((x3 : Int) == 0) = false, (!(decide ((((gD x0 (tN x3) 0).toNat : Int) : Int) ≤ 57))) = true] := by kernel_rfl
theorem p41_2_2 (x0 : Str) (x3 : Int) : rS 2 I41 (xHc x0 x3) [Y, Y, Y, Y, F, F] [] = st 2 I41 (xHc x0 (W (x3 + 1))) [(decide ((x3 : Int) < (Ln x0 : Int))) = true, (0 : Int) ≤ x3 ∧ x3 < (Ln x0), (decide ((((gD x0 (tN x3) 0).toNat : Int) : Int) ≥ 97)) = true, (0 : Int) ≤ x3 ∧ x3 < (Ln x0), (0 : Int) ≤ x3 ∧ x3 < (Ln x0), (decide ((((gD x0 (tN x3) 0).toNat : Int) : Int) ≥ 48)) = true, (0 : Int) ≤ x3 ∧ x3 < (Ln x0), (!(decide ((((gD x0 (tN x3) 0).toNat : Int) : Int) ≤ 122))) = true, ((x3 : Int) == 0) = false, (!(decide ((((gD x0 (tN x3) 0).toNat : Int) : Int) ≤ 57))) = false] := by kernel_rfl
theorem p41_2_3 (x0 : Str) (x3 : Int) : rS 2 I41 (xHc x0 x3) [Y, Y, Y, F, F] [] = st 2 I41 (xHc x0 (W (x3 + 1))) [(decide ((x3 : Int) < (Ln x0 : Int))) = true, (0 : Int) ≤ x3 ∧ x3 < (Ln x0), (decide ((((gD x0 (tN x3) 0).toNat : Int) : Int) ≥ 97)) = true, (0 : Int) ≤ x3 ∧ x3 < (Ln x0), (0 : Int) ≤ x3 ∧ x3 < (Ln x0), (decide ((((gD x0 (tN x3) 0).toNat : Int) : Int) ≥ 48)) = true, (0 : Int) ≤ x3 ∧ x3 < (Ln x0), (!(decide ((((gD x0 (tN x3) 0).toNat : Int) : Int) ≤ 122))) = false, false = false] := by kernel_rfl
theorem p41_2_4 (x0 : Str) (x3 : Int) : rS 2 I41 (xHc x0 x3) [Y, Y, F, Y, Y, Y] [] = dn (xBf false) [(decide ((x3 : Int) < (Ln x0 : Int))) = true, (0 : Int) ≤ x3 ∧ x3 < (Ln x0), (decide ((((gD x0 (tN x3) 0).toNat : Int) : Int) ≥ 97)) = true, (0 : Int) ≤ x3 ∧ x3 < (Ln x0), (0 : Int) ≤ x3 ∧ x3 < (Ln x0), (decide ((((gD x0 (tN x3) 0).toNat : Int) : Int) ≥ 48)) = false, (!(decide ((((gD x0 (tN x3) 0).toNat : Int) : Int) ≤ 122))) = true, ((x3 : Int) == 0) = true, true = true] := by kernel_rfl
theorem p41_2_5 (x0 : Str) (x3 : Int) : rS 2 I41 (xHc x0 x3) [Y, Y, F, Y, F, Y] [] = dn (xBf false) [(decide ((x3 : Int) < (Ln x0 : Int))) = true, (0 : Int) ≤ x3 ∧ x3 < (Ln x0), (decide ((((gD x0 (tN x3) 0).toNat : Int) : Int) ≥ 97)) = true, (0 : Int) ≤ x3 ∧ x3 < (Ln x0), (0 : Int) ≤ x3 ∧ x3 < (Ln x0), (decide ((((gD x0 (tN x3) 0).toNat : Int) : Int) ≥ 48)) = false, (!(decide ((((gD x0 (tN x3) 0).toNat : Int) : Int) ≤ 122))) = true, ((x3 : Int) == 0) = false, (!false) = true] := by kernel_rfl
theorem p41_2_6 (x0 : Str) (x3 : Int) : rS 2 I41 (xHc x0 x3) [Y, Y, F, F, F] [] = st 2 I41 (xHc x0 (W (x3 + 1))) [(decide ((x3 : Int) < (Ln x0 : Int))) = true, (0 : Int) ≤ x3 ∧ x3 < (Ln x0), (decide ((((gD x0 (tN x3) 0).toNat : Int) : Int) ≥ 97)) = true, (0 : Int) ≤ x3 ∧ x3 < (Ln x0), (0 : Int) ≤ x3 ∧ x3 < (Ln x0), (decide ((((gD x0 (tN x3) 0).toNat : Int) : Int) ≥ 48)) = false, (!(decide ((((gD x0 (tN x3) 0).toNat : Int) : Int) ≤ 122))) = false, false = false] := by kernel_rfl
theorem p41_2_7 (x0 : Str) (x3 : Int) : rS 2 I41 (xHc x0 x3) [Y, F, Y, Y, Y, Y] [] = dn (xBf false) [(decide ((x3 : Int) < (Ln x0 : Int))) = true, (0 : Int) ≤ x3 ∧ x3 < (Ln x0), (decide ((((gD x0 (tN x3) 0).toNat : Int) : Int) ≥ 97)) = false, (0 : Int) ≤ x3 ∧ x3 < (Ln x0), (decide ((((gD x0 (tN x3) 0).toNat : Int) : Int) ≥ 48)) = true, (0 : Int) ≤ x3 ∧ x3 < (Ln x0), (!false) = true, ((x3 : Int) == 0) = true, true = true] := by kernel_rfl
theorem p41_2_8 (x0 : Str) (x3 : Int) : rS 2 I41 (xHc x0 x3) [Y, F, Y, Y, F, Y] [] = dn (xBf false) [(decide ((x3 : Int) < (Ln x0 : Int))) = true, (0 : Int) ≤ x3 ∧ x3 < (Ln x0), (decide ((((gD x0 (tN x3) 0).toNat : Int) : Int) ≥ 97)) = false, (0 : Int) ≤ x3 ∧ x3 < (Ln x0), (decide ((((gD x0 (tN x3) 0).toNat : Int) : Int) ≥ 48)) = true, (0 : Int) ≤ x3 ∧ x3 < (Ln x0), (!false) = true, ((x3 : Int) == 0) = false, (!(decide ((((gD x0 (tN x3) 0).toNat : Int) : Int) ≤ 57))) = true] := by kernel_rfl
theorem p41_2_9 (x0 : Str) (x3 : Int) : rS 2 I41 (xHc x0 x3) [Y, F, Y, Y, F, F] [] = st 2 I41 (xHc x0 (W (x3 + 1))) [(decide ((x3 : Int) < (Ln x0 : Int))) = true, (0 : Int) ≤ x3 ∧ x3 < (Ln x0), (decide ((((gD x0 (tN x3) 0).toNat : Int) : Int) ≥ 97)) = false, (0 : Int) ≤ x3 ∧ x3 < (Ln x0), (decide ((((gD x0 (tN x3) 0).toNat : Int) : Int) ≥ 48)) = true, (0 : Int) ≤ x3 ∧ x3 < (Ln x0), (!false) = true, ((x3 : Int) == 0) = false, (!(decide ((((gD x0 (tN x3) 0).toNat : Int) : Int) ≤ 57))) = false] := by kernel_rfl
theorem p41_2_10 (x0 : Str) (x3 : Int) : rS 2 I41 (xHc x0 x3) [Y, F, F, Y, Y, Y] [] = dn (xBf false) [(decide ((x3 : Int) < (Ln x0 : Int))) = true, (0 : Int) ≤ x3 ∧ x3 < (Ln x0), (decide ((((gD x0 (tN x3) 0).toNat : Int) : Int) ≥ 97)) = false, (0 : Int) ≤ x3 ∧ x3 < (Ln x0), (decide ((((gD x0 (tN x3) 0).toNat : Int) : Int) ≥ 48)) = false, (!false) = true, ((x3 : Int) == 0) = true, true = true] := by kernel_rfl
theorem p41_2_11 (x0 : Str) (x3 : Int) : rS 2 I41 (xHc x0 x3) [Y, F, F, Y, F, Y] [] = dn (xBf false) [(decide ((x3 : Int) < (Ln x0 : Int))) = true, (0 : Int) ≤ x3 ∧ x3 < (Ln x0), (decide ((((gD x0 (tN x3) 0).toNat : Int) : Int) ≥ 97)) = false, (0 : Int) ≤ x3 ∧ x3 < (Ln x0), (decide ((((gD x0 (tN x3) 0).toNat : Int) : Int) ≥ 48)) = false, (!false) = true, ((x3 : Int) == 0) = false, (!false) = true] := by kernel_rfl
theorem p41_2_12 (x0 : Str) (x3 : Int) : rS 2 I41 (xHc x0 x3) [F] [] = dn (xBf (decide (((Ln x0 : Int) : Int) > 0))) [(decide ((x3 : Int) < (Ln x0 : Int))) = false] := by kernel_rfl
theorem p41_e_13 (a0 : Str) : rE I41 (xEj a0) [] [] = st 2 I41 (xHc a0 0) [] := by kernel_rfl
theorem c41_2 {N : Nat} : ∀ n x0 x3 r, xCe N n x0 x3 = some r → RS Try.f41 I41 2 (xHc x0 x3) (xBf r) := by
 intro n
 induction n with
 | zero => exact fun _ _ _ h => nE h
 | succ n ih =>
  exact fun x0 x3 r h =>
   cE h (fun h0 h => iE h fun h1 h => cE h (fun h2 h => cE h (fun h5 h => cE h (fun h7 h => cE h (fun h8 h => dS h fk41 (p41_2_0 x0 x3) (oc h0 (oc h1 (oc h2 (oc h1 (oc h1 (oc h5 (oc h1 (oc h7 (oc h8 (oc rfl on))))))))))) fun h8 h =>
   cE h (fun h9 h => dS h fk41 (p41_2_1 x0 x3) (oc h0 (oc h1 (oc h2 (oc h1 (oc h1 (oc h5 (oc h1 (oc h7 (oc h8 (oc h9 on))))))))))) fun h9 h =>
   tS fk41 (p41_2_2 x0 x3) (oc h0 (oc h1 (oc h2 (oc h1 (oc h1 (oc h5 (oc h1 (oc h7 (oc h8 (oc h9 on)))))))))) (ih _ _ _ h)) fun h7 h =>
   tS fk41 (p41_2_3 x0 x3) (oc h0 (oc h1 (oc h2 (oc h1 (oc h1 (oc h5 (oc h1 (oc h7 (oc rfl on))))))))) (ih _ _ _ h)) fun h5 h =>
   cE h (fun h6 h => cE h (fun h7 h => dS h fk41 (p41_2_4 x0 x3) (oc h0 (oc h1 (oc h2 (oc h1 (oc h1 (oc h5 (oc h6 (oc h7 (oc rfl on)))))))))) fun h7 h =>
   dS h fk41 (p41_2_5 x0 x3) (oc h0 (oc h1 (oc h2 (oc h1 (oc h1 (oc h5 (oc h6 (oc h7 (oc rfl on)))))))))) fun h6 h =>
   tS fk41 (p41_2_6 x0 x3) (oc h0 (oc h1 (oc h2 (oc h1 (oc h1 (oc h5 (oc h6 (oc rfl on)))))))) (ih _ _ _ h)) fun h2 h =>
   cE h (fun h4 h => cE h (fun h7 h => dS h fk41 (p41_2_7 x0 x3) (oc h0 (oc h1 (oc h2 (oc h1 (oc h4 (oc h1 (oc rfl (oc h7 (oc rfl on)))))))))) fun h7 h =>
   cE h (fun h8 h => dS h fk41 (p41_2_8 x0 x3) (oc h0 (oc h1 (oc h2 (oc h1 (oc h4 (oc h1 (oc rfl (oc h7 (oc h8 on)))))))))) fun h8 h =>
   tS fk41 (p41_2_9 x0 x3) (oc h0 (oc h1 (oc h2 (oc h1 (oc h4 (oc h1 (oc rfl (oc h7 (oc h8 on))))))))) (ih _ _ _ h)) fun h4 h =>
   cE h (fun h6 h => dS h fk41 (p41_2_10 x0 x3) (oc h0 (oc h1 (oc h2 (oc h1 (oc h4 (oc rfl (oc h6 (oc rfl on))))))))) fun h6 h =>
   dS h fk41 (p41_2_11 x0 x3) (oc h0 (oc h1 (oc h2 (oc h1 (oc h4 (oc rfl (oc h6 (oc rfl on))))))))) fun h0 h =>
   dS h fk41 (p41_2_12 x0 x3) (oc h0 on)
theorem c41_e {N : Nat} : ∀ a0 r, xGT N a0 = some r → RE Try.f41 I41 (xEj a0) (xBf r) := fun a0 r h =>
 tE fk41 (p41_e_13 a0) on (c41_2 _ _ _ _ h)
theorem xGL {N : Nat} {a0 : Str} {r : Bool} (h : xGT N  a0 = some r) : AbC 41 (xEj a0) (xBf r) :=
 AbsCalls.of_reach fk41 rfl rfl (Nat.le_of_ble_eq_true rfl) (c41_e a0 r h)
noncomputable def I63 : Info := { body := (Try.f63.body).getD .skip, nt := 2, results := [.tmp 0], keep := [0], live := [], modes := [] }
theorem fk63 : FnOk Try.prog 63 Try.f63 I63 := ⟨Try.func63, by kernel_rfl, by kernel_rfl, by kernel_rfl, by kernel_rfl⟩
theorem p63_e_0 : rE I63 (xEM ) [] [] = dn (xD4 [[108, 101, 116], [105, 110], [105, 102], [116, 104, 101, 110], [101, 108, 115, 101], [102, 111, 114], [100, 111], [108, 101, 110], [115, 117, 109], [116, 97, 107, 101], [115, 107, 105, 112], [114, 97, 110, 103, 101], [110, 116, 104], [119, 104, 101, 114, 101], [107, 101, 101, 112], [97, 100, 100], [103, 114, 111, 117, 112], [106, 111, 105, 110], [99, 111, 108, 117, 109, 110], [114, 111, 119, 115], [99, 108, 111, 99, 107], [99, 104, 97, 110, 99, 101], [102, 105, 108, 101], [116, 97, 98, 108, 101]]) [] := by kernel_rfl
theorem c63_e {N : Nat} : ∀ r, xFO N = some r → RE Try.f63 I63 (xEM ) (xD4 r) := fun r h =>
 dE h fk63 (p63_e_0) on
theorem spec_l2Reserved_ok {N : Nat} {r : (List Str)} (h : xFO N   = some r) : AbC 63 (xEM ) (xD4 r) :=
 AbsCalls.of_reach fk63 rfl rfl (Nat.le_of_ble_eq_true rfl) (c63_e  r h)
noncomputable def I62 : Info := { body := (Try.f62.body).getD .skip, nt := 18, results := [.tmp 4], keep := [0, 2, 8, 10, 18, 34], live := [(2, [0, 2, 10])], modes := [] }
theorem fk62 : FnOk Try.prog 62 Try.f62 I62 := ⟨Try.func62, by kernel_rfl, by kernel_rfl, by kernel_rfl, by kernel_rfl⟩
def S62_2 (x0 : List Str) (x1 : Str) (x5 : Int) : St := [(0, .v false [.sl .ro .str x0]), (2, .v false [.str x1]), (10, .v false [.int .i64 x5])]
theorem p62_2_0 (x0 : List Str) (x1 : Str) (x5 : Int) : rS 2 I62 (S62_2 x0 x1 x5) [Y, Y] [] = dn (xCG true) [(decide ((x5 : Int) < (Ln x0 : Int))) = true, (0 : Int) ≤ x5 ∧ x5 < (Ln x0), (((gD x0 (tN x5) Ty.str.dflt) : Str) == x1) = true] := by kernel_rfl
theorem p62_2_1 (x0 : List Str) (x1 : Str) (x5 : Int) : rS 2 I62 (S62_2 x0 x1 x5) [Y, F] [] = st 2 I62 (S62_2 x0 x1 (W (x5 + 1))) [(decide ((x5 : Int) < (Ln x0 : Int))) = true, (0 : Int) ≤ x5 ∧ x5 < (Ln x0), (((gD x0 (tN x5) Ty.str.dflt) : Str) == x1) = false] := by kernel_rfl
theorem p62_2_2 (x0 : List Str) (x1 : Str) (x5 : Int) : rS 2 I62 (S62_2 x0 x1 x5) [F] [] = dn (xCG false) [(decide ((x5 : Int) < (Ln x0 : Int))) = false] := by kernel_rfl
theorem p62_e_3 (a0 : List Str) (a1 : Str) : rE I62 (xE2 a0 a1) [] [] = st 2 I62 (S62_2 a0 a1 0) [] := by kernel_rfl
theorem c62_2 {N : Nat} : ∀ n x0 x1 x5 r, xEt N n x0 x1 x5 = some r → RS Try.f62 I62 2 (S62_2 x0 x1 x5) (xCG r) := by
 intro n
 induction n with
 | zero => exact fun _ _ _ _ h => nE h
 | succ n ih =>
  exact fun x0 x1 x5 r h =>
   cE h (fun h0 h => iE h fun h1 h => cE h (fun h2 h => dS h fk62 (p62_2_0 x0 x1 x5) (oc h0 (oc h1 (oc h2 on)))) fun h2 h =>
   tS fk62 (p62_2_1 x0 x1 x5) (oc h0 (oc h1 (oc h2 on))) (ih _ _ _ _ h)) fun h0 h =>
   dS h fk62 (p62_2_2 x0 x1 x5) (oc h0 on)
theorem c62_e {N : Nat} : ∀ a0 a1 r, xG9 N a0 a1 = some r → RE Try.f62 I62 (xE2 a0 a1) (xCG r) := fun a0 a1 r h =>
 tE fk62 (p62_e_3 a0 a1) on (c62_2 _ _ _ _ _ h)
theorem xHl {N : Nat} {a0 : List Str} {a1 : Str} {r : Bool} (h : xG9 N  a0 a1 = some r) : AbC 62 (xE2 a0 a1) (xCG r) :=
 AbsCalls.of_reach fk62 rfl rfl (Nat.le_of_ble_eq_true rfl) (c62_e a0 a1 r h)
noncomputable def I42 : Info := { body := (Try.f42.body).getD .skip, nt := 6, results := [.tmp 2], keep := [0, 4], live := [], modes := [] }
theorem fk42 : FnOk Try.prog 42 Try.f42 I42 := ⟨Try.func42, by kernel_rfl, by kernel_rfl, by kernel_rfl, by kernel_rfl⟩
theorem p42_e_0 (a0 : Str) (r1 : (List Str)) (r2 : Bool) : rE I42 (xEL a0) [] [xD4 r1, xCG r2] = dn (xD3 r2) [AbC 63 xEM (xD4 r1), AbC 62 (xE2 r1 a0) (xCG r2)] := by kernel_rfl
theorem c42_e {N : Nat} : ∀ a0 r, xER N a0 = some r → RE Try.f42 I42 (xEL a0) (xD3 r) := fun a0 r h =>
 bE h fun r1 h0 h => bE h fun r2 h1 h => dE h fk42 (p42_e_0 a0 r1 r2) (oc (spec_l2Reserved_ok h0) (oc (xHl h1) on))
theorem spec_IsReserved_ok {N : Nat} {a0 : Str} {r : Bool} (h : xER N  a0 = some r) : AbC 42 (xEL a0) (xD3 r) :=
 AbsCalls.of_reach fk42 rfl rfl (Nat.le_of_ble_eq_true rfl) (c42_e a0 r h)
noncomputable def I16 : Info := { body := (Try.f16.body).getD .skip, nt := 15, results := [.tmp 2], keep := [0, 4], live := [], modes := [(1, [(2, .take, false), (7, .take, false)])] }
theorem fk16 : FnOk Try.prog 16 Try.f16 I16 := ⟨Try.func16, by kernel_rfl, by kernel_rfl, by kernel_rfl, by kernel_rfl⟩
theorem p16_e_0 (a0 : Str) (r1 r2 : Bool) : rE I16 (xBh a0) [Y, Y] [xBf r1, xD3 r2] = dn (xAP (!r2)) [AbC 41 (xEj a0) (xBf r1), r1 = true, (decide (((Ln a0 : Int) : Int) ≤ 8)) = true, AbC 42 (xEL a0) (xD3 r2)] := by kernel_rfl
theorem p16_e_1 (a0 : Str) (r1 : Bool) : rE I16 (xBh a0) [Y, F] [xBf r1] = dn (xAP false) [AbC 41 (xEj a0) (xBf r1), r1 = true, (decide (((Ln a0 : Int) : Int) ≤ 8)) = false] := by kernel_rfl
theorem p16_e_2 (a0 : Str) (r1 : Bool) : rE I16 (xBh a0) [F, F] [xBf r1] = dn (xAP false) [AbC 41 (xEj a0) (xBf r1), r1 = false, false = false] := by kernel_rfl
theorem c16_e {N : Nat} : ∀ a0 r, xDX N a0 = some r → RE Try.f16 I16 (xBh a0) (xAP r) := fun a0 r h =>
 bE h fun r1 h0 h => cE h (fun h1 h => cE h (fun h2 h => bE h fun r2 h3 h => dE h fk16 (p16_e_0 a0 r1 r2) (oc (xGL h0) (oc h1 (oc h2 (oc (spec_IsReserved_ok h3) on))))) fun h2 h =>
 dE h fk16 (p16_e_1 a0 r1) (oc (xGL h0) (oc h1 (oc h2 on)))) fun h1 h =>
 dE h fk16 (p16_e_2 a0 r1) (oc (xGL h0) (oc h1 (oc rfl on)))
theorem xB1 {N : Nat} {a0 : Str} {r : Bool} (h : xDX N  a0 = some r) : AbC 16 (xBh a0) (xAP r) :=
 AbsCalls.of_reach fk16 rfl rfl (Nat.le_of_ble_eq_true rfl) (c16_e a0 r h)
noncomputable def I85 : Info := { body := (Try.f85.body).getD .skip, nt := 18, results := [.tmp 2], keep := [0, 4, 6, 14, 34], live := [(2, [0, 6])], modes := [] }
theorem fk85 : FnOk Try.prog 85 Try.f85 I85 := ⟨Try.func85, by kernel_rfl, by kernel_rfl, by kernel_rfl, by kernel_rfl⟩
def S85_2 (x0 : List Str) (x3 : Int) : St := [(0, .v false [.sl .ro .str x0]), (6, .v false [.int .i64 x3])]
theorem p85_2_0 (x0 : List Str) (x3 : Int) (r1 : Bool) : rS 2 I85 (S85_2 x0 x3) [Y, Y] [xCG r1] = dn (xCq false) [(decide ((x3 : Int) < (Ln x0 : Int))) = true, (0 : Int) ≤ x3 ∧ x3 ≤ (Ln x0), (0 : Int) ≤ x3 ∧ x3 < (Ln x0), AbC 62 (xE2 (List.take (tN x3) x0) (gD x0 (tN x3) Ty.str.dflt)) (xCG r1), r1 = true] := by kernel_rfl
theorem p85_2_1 (x0 : List Str) (x3 : Int) (r1 : Bool) : rS 2 I85 (S85_2 x0 x3) [Y, F] [xCG r1] = st 2 I85 (S85_2 x0 (W (x3 + 1))) [(decide ((x3 : Int) < (Ln x0 : Int))) = true, (0 : Int) ≤ x3 ∧ x3 ≤ (Ln x0), (0 : Int) ≤ x3 ∧ x3 < (Ln x0), AbC 62 (xE2 (List.take (tN x3) x0) (gD x0 (tN x3) Ty.str.dflt)) (xCG r1), r1 = false] := by kernel_rfl
theorem p85_2_2 (x0 : List Str) (x3 : Int) : rS 2 I85 (S85_2 x0 x3) [F] [] = dn (xCq true) [(decide ((x3 : Int) < (Ln x0 : Int))) = false] := by kernel_rfl
theorem p85_e_3 (a0 : List Str) : rE I85 (xEr a0) [] [] = st 2 I85 (S85_2 a0 0) [] := by kernel_rfl
theorem c85_2 {N : Nat} : ∀ n x0 x3 r, xCp N n x0 x3 = some r → RS Try.f85 I85 2 (S85_2 x0 x3) (xCq r) := by
 intro n
 induction n with
 | zero => exact fun _ _ _ h => nE h
 | succ n ih =>
  exact fun x0 x3 r h =>
   cE h (fun h0 h => iE h fun h1 h => iE h fun h2 h => bE h fun r1 h3 h => cE h (fun h4 h => dS h fk85 (p85_2_0 x0 x3 r1) (oc h0 (oc h1 (oc h2 (oc (xHl h3) (oc h4 on)))))) fun h4 h =>
   tS fk85 (p85_2_1 x0 x3 r1) (oc h0 (oc h1 (oc h2 (oc (xHl h3) (oc h4 on))))) (ih _ _ _ h)) fun h0 h =>
   dS h fk85 (p85_2_2 x0 x3) (oc h0 on)
theorem c85_e {N : Nat} : ∀ a0 r, xFs N a0 = some r → RE Try.f85 I85 (xEr a0) (xCq r) := fun a0 r h =>
 tE fk85 (p85_e_3 a0) on (c85_2 _ _ _ _ h)
theorem xId {N : Nat} {a0 : List Str} {r : Bool} (h : xFs N  a0 = some r) : AbC 85 (xEr a0) (xCq r) :=
 AbsCalls.of_reach fk85 rfl rfl (Nat.le_of_ble_eq_true rfl) (c85_e a0 r h)
noncomputable def I80 : Info := { body := (Try.f80.body).getD .skip, nt := 23, results := [.tmp 2], keep := [0, 4, 6, 14, 30], live := [(2, [0, 6])], modes := [(6, [(3, .take, false)])] }
theorem fk80 : FnOk Try.prog 80 Try.f80 I80 := ⟨Try.func80, by kernel_rfl, by kernel_rfl, by kernel_rfl, by kernel_rfl⟩
def S80_2 (x0 : List Str) (x3 : Int) : St := [(0, .v false [.sl .ro .str x0]), (6, .v false [.int .i64 x3])]
theorem p80_2_0 (x0 : List Str) (x3 : Int) (r1 : Bool) : rS 2 I80 (S80_2 x0 x3) [Y, Y] [xAP r1] = dn (xBz false) [(decide ((x3 : Int) < (Ln x0 : Int))) = true, (0 : Int) ≤ x3 ∧ x3 < (Ln x0), AbC 16 (xBh (gD x0 (tN x3) Ty.str.dflt)) (xAP r1), (!r1) = true] := by kernel_rfl
theorem p80_2_1 (x0 : List Str) (x3 : Int) (r1 : Bool) : rS 2 I80 (S80_2 x0 x3) [Y, F] [xAP r1] = st 2 I80 (S80_2 x0 (W (x3 + 1))) [(decide ((x3 : Int) < (Ln x0 : Int))) = true, (0 : Int) ≤ x3 ∧ x3 < (Ln x0), AbC 16 (xBh (gD x0 (tN x3) Ty.str.dflt)) (xAP r1), (!r1) = false] := by kernel_rfl
theorem p80_2_2 (x0 : List Str) (x3 : Int) (r1 r2 : Bool) : rS 2 I80 (S80_2 x0 x3) [F, Y] [xCM r1, xCq r2] = dn (xBz r2) [(decide ((x3 : Int) < (Ln x0 : Int))) = false, AbC 44 (xEl (Ln x0 : Int) 1 4) (xCM r1), r1 = true, AbC 85 (xEr x0) (xCq r2)] := by kernel_rfl
theorem p80_2_3 (x0 : List Str) (x3 : Int) (r1 : Bool) : rS 2 I80 (S80_2 x0 x3) [F, F] [xCM r1] = dn (xBz false) [(decide ((x3 : Int) < (Ln x0 : Int))) = false, AbC 44 (xEl (Ln x0 : Int) 1 4) (xCM r1), r1 = false] := by kernel_rfl
theorem p80_e_4 (a0 : List Str) : rE I80 (xDw a0) [] [] = st 2 I80 (S80_2 a0 0) [] := by kernel_rfl
theorem c80_2 {N : Nat} : ∀ n x0 x3 r, xDx N n x0 x3 = some r → RS Try.f80 I80 2 (S80_2 x0 x3) (xBz r) := by
 intro n
 induction n with
 | zero => exact fun _ _ _ h => nE h
 | succ n ih =>
  exact fun x0 x3 r h =>
   cE h (fun h0 h => iE h fun h1 h => bE h fun r1 h2 h => cE h (fun h3 h => dS h fk80 (p80_2_0 x0 x3 r1) (oc h0 (oc h1 (oc (xB1 h2) (oc h3 on))))) fun h3 h =>
   tS fk80 (p80_2_1 x0 x3 r1) (oc h0 (oc h1 (oc (xB1 h2) (oc h3 on)))) (ih _ _ _ h)) fun h0 h =>
   bE h fun r1 h1 h => cE h (fun h2 h => bE h fun r2 h3 h => dS h fk80 (p80_2_2 x0 x3 r1 r2) (oc h0 (oc (xGS h1) (oc h2 (oc (xId h3) on))))) fun h2 h =>
   dS h fk80 (p80_2_3 x0 x3 r1) (oc h0 (oc (xGS h1) (oc h2 on)))
theorem c80_e {N : Nat} : ∀ a0 r, xGc N a0 = some r → RE Try.f80 I80 (xDw a0) (xBz r) := fun a0 r h =>
 tE fk80 (p80_e_4 a0) on (c80_2 _ _ _ _ h)
theorem xF1 {N : Nat} {a0 : List Str} {r : Bool} (h : xGc N  a0 = some r) : AbC 80 (xDw a0) (xBz r) :=
 AbsCalls.of_reach fk80 rfl rfl (Nat.le_of_ble_eq_true rfl) (c80_e a0 r h)
noncomputable def I86 : Info := { body := (Try.f86.body).getD .skip, nt := 24, results := [.tmp 4], keep := [0, 2, 4, 6, 8, 5, 7], live := [], modes := [(1, [(5, .take, false), (11, .take, false)])] }
theorem fk86 : FnOk Try.prog 86 Try.f86 I86 := ⟨Try.func86, by kernel_rfl, by kernel_rfl, by kernel_rfl, by kernel_rfl⟩
theorem p86_e_0 (a0 a1 : Org) : rE I86 (xDh a0 a1) [Y] [] = dn (xCl true) [(decide (((Org.cell a0) : Int) < (Org.cell a1))) = true] := by kernel_rfl
theorem p86_e_1 (a0 a1 : Org) : rE I86 (xDh a0 a1) [F, Y] [] = dn (xCl (decide (((Org.row a0) : Int) < (Org.row a1)))) [(decide (((Org.cell a0) : Int) < (Org.cell a1))) = false, (((Org.cell a0) : Int) == (Org.cell a1)) = true] := by kernel_rfl
theorem p86_e_2 (a0 a1 : Org) : rE I86 (xDh a0 a1) [F, F] [] = dn (xCl false) [(decide (((Org.cell a0) : Int) < (Org.cell a1))) = false, (((Org.cell a0) : Int) == (Org.cell a1)) = false] := by kernel_rfl
theorem c86_e {N : Nat} : ∀ a0 a1 r, xFP N a0 a1 = some r → RE Try.f86 I86 (xDh a0 a1) (xCl r) := fun a0 a1 r h =>
 cE h (fun h0 h => dE h fk86 (p86_e_0 a0 a1) (oc h0 on)) fun h0 h =>
 cE h (fun h1 h => dE h fk86 (p86_e_1 a0 a1) (oc h0 (oc h1 on))) fun h1 h =>
 dE h fk86 (p86_e_2 a0 a1) (oc h0 (oc h1 on))
theorem xHr {N : Nat} {a0 : Org} {a1 : Org} {r : Bool} (h : xFP N  a0 a1 = some r) : AbC 86 (xDh a0 a1) (xCl r) :=
 AbsCalls.of_reach fk86 rfl rfl (Nat.le_of_ble_eq_true rfl) (c86_e a0 a1 r h)
noncomputable def I81 : Info := { body := (Try.f81.body).getD .skip, nt := 41, results := [.tmp 2], keep := [0, 4, 6, 14, 80], live := [(2, [0, 6])], modes := [(4, [(6, .take, false), (14, .take, false), (17, .take, false)])] }
theorem fk81 : FnOk Try.prog 81 Try.f81 I81 := ⟨Try.func81, by kernel_rfl, by kernel_rfl, by kernel_rfl, by kernel_rfl⟩
def S81_2 (x0 : List Org) (x3 : Int) : St := [(0, .v false [.sl .ro .org x0]), (6, .v false [.int .i64 x3])]
theorem p81_2_0 (x0 : List Org) (x3 : Int) : rS 2 I81 (S81_2 x0 x3) [Y, Y, Y, Y] [] = dn (xBs false) [(decide ((x3 : Int) < (Ln x0 : Int))) = true, (0 : Int) ≤ x3 ∧ x3 < (Ln x0), (decide (((Org.cell (gD x0 (tN x3) Ty.org.dflt)) : Int) < 0)) = true, true = true, true = true] := by kernel_rfl
theorem p81_2_1 (x0 : List Org) (x3 : Int) : rS 2 I81 (S81_2 x0 x3) [Y, F, Y, Y] [] = dn (xBs false) [(decide ((x3 : Int) < (Ln x0 : Int))) = true, (0 : Int) ≤ x3 ∧ x3 < (Ln x0), (decide (((Org.cell (gD x0 (tN x3) Ty.org.dflt)) : Int) < 0)) = false, (0 : Int) ≤ x3 ∧ x3 < (Ln x0), (decide (((Org.row (gD x0 (tN x3) Ty.org.dflt)) : Int) < 0)) = true, true = true] := by kernel_rfl
theorem p81_2_2 (x0 : List Org) (x3 : Int) (r1 : Bool) : rS 2 I81 (S81_2 x0 x3) [Y, F, F, Y, Y] [xCl r1] = dn (xBs false) [(decide ((x3 : Int) < (Ln x0 : Int))) = true, (0 : Int) ≤ x3 ∧ x3 < (Ln x0), (decide (((Org.cell (gD x0 (tN x3) Ty.org.dflt)) : Int) < 0)) = false, (0 : Int) ≤ x3 ∧ x3 < (Ln x0), (decide (((Org.row (gD x0 (tN x3) Ty.org.dflt)) : Int) < 0)) = false, (decide ((x3 : Int) > 0)) = true, (0 : Int) ≤ (W (x3 - 1)) ∧ (W (x3 - 1)) < (Ln x0), (0 : Int) ≤ x3 ∧ x3 < (Ln x0), AbC 86 (xDh (gD x0 (tN (W (x3 - 1))) Ty.org.dflt) (gD x0 (tN x3) Ty.org.dflt)) (xCl r1), (!r1) = true] := by kernel_rfl
theorem p81_2_3 (x0 : List Org) (x3 : Int) (r1 : Bool) : rS 2 I81 (S81_2 x0 x3) [Y, F, F, Y, F] [xCl r1] = st 2 I81 (S81_2 x0 (W (x3 + 1))) [(decide ((x3 : Int) < (Ln x0 : Int))) = true, (0 : Int) ≤ x3 ∧ x3 < (Ln x0), (decide (((Org.cell (gD x0 (tN x3) Ty.org.dflt)) : Int) < 0)) = false, (0 : Int) ≤ x3 ∧ x3 < (Ln x0), (decide (((Org.row (gD x0 (tN x3) Ty.org.dflt)) : Int) < 0)) = false, (decide ((x3 : Int) > 0)) = true, (0 : Int) ≤ (W (x3 - 1)) ∧ (W (x3 - 1)) < (Ln x0), (0 : Int) ≤ x3 ∧ x3 < (Ln x0), AbC 86 (xDh (gD x0 (tN (W (x3 - 1))) Ty.org.dflt) (gD x0 (tN x3) Ty.org.dflt)) (xCl r1), (!r1) = false] := by kernel_rfl
theorem p81_2_4 (x0 : List Org) (x3 : Int) : rS 2 I81 (S81_2 x0 x3) [Y, F, F, F, F] [] = st 2 I81 (S81_2 x0 (W (x3 + 1))) [(decide ((x3 : Int) < (Ln x0 : Int))) = true, (0 : Int) ≤ x3 ∧ x3 < (Ln x0), (decide (((Org.cell (gD x0 (tN x3) Ty.org.dflt)) : Int) < 0)) = false, (0 : Int) ≤ x3 ∧ x3 < (Ln x0), (decide (((Org.row (gD x0 (tN x3) Ty.org.dflt)) : Int) < 0)) = false, (decide ((x3 : Int) > 0)) = false, false = false] := by kernel_rfl
theorem p81_2_5 (x0 : List Org) (x3 : Int) : rS 2 I81 (S81_2 x0 x3) [F] [] = dn (xBs true) [(decide ((x3 : Int) < (Ln x0 : Int))) = false] := by kernel_rfl
theorem p81_e_6 (a0 : List Org) : rE I81 (xDL a0) [] [] = st 2 I81 (S81_2 a0 0) [] := by kernel_rfl
theorem c81_2 {N : Nat} : ∀ n x0 x3 r, xB3 N n x0 x3 = some r → RS Try.f81 I81 2 (S81_2 x0 x3) (xBs r) := by
 intro n
 induction n with
 | zero => exact fun _ _ _ h => nE h
 | succ n ih =>
  exact fun x0 x3 r h =>
   cE h (fun h0 h => iE h fun h1 h => cE h (fun h2 h => dS h fk81 (p81_2_0 x0 x3) (oc h0 (oc h1 (oc h2 (oc rfl (oc rfl on)))))) fun h2 h =>
   cE h (fun h4 h => dS h fk81 (p81_2_1 x0 x3) (oc h0 (oc h1 (oc h2 (oc h1 (oc h4 (oc rfl on))))))) fun h4 h =>
   cE h (fun h5 h => iE h fun h6 h => bE h fun r1 h8 h => cE h (fun h9 h => dS h fk81 (p81_2_2 x0 x3 r1) (oc h0 (oc h1 (oc h2 (oc h1 (oc h4 (oc h5 (oc h6 (oc h1 (oc (xHr h8) (oc h9 on))))))))))) fun h9 h =>
   tS fk81 (p81_2_3 x0 x3 r1) (oc h0 (oc h1 (oc h2 (oc h1 (oc h4 (oc h5 (oc h6 (oc h1 (oc (xHr h8) (oc h9 on)))))))))) (ih _ _ _ h)) fun h5 h =>
   tS fk81 (p81_2_4 x0 x3) (oc h0 (oc h1 (oc h2 (oc h1 (oc h4 (oc h5 (oc rfl on))))))) (ih _ _ _ h)) fun h0 h =>
   dS h fk81 (p81_2_5 x0 x3) (oc h0 on)
theorem c81_e {N : Nat} : ∀ a0 r, xFu N a0 = some r → RE Try.f81 I81 (xDL a0) (xBs r) := fun a0 r h =>
 tE fk81 (p81_e_6 a0) on (c81_2 _ _ _ _ h)
theorem xGM {N : Nat} {a0 : List Org} {r : Bool} (h : xFu N  a0 = some r) : AbC 81 (xDL a0) (xBs r) :=
 AbsCalls.of_reach fk81 rfl rfl (Nat.le_of_ble_eq_true rfl) (c81_e a0 r h)
noncomputable def I72 : Info := { body := (Try.f72.body).getD .skip, nt := 55, results := [.tmp 2], keep := [0, 2, 4, 6, 8, 10, 30, 40, 80, 90, 108, 3, 9], live := [(4, [2, 6, 3]), (10, [2, 6, 8, 10, 3, 9])], modes := [(1, [(4, .take, false)]), (7, [(7, .take, false)])] }
theorem fk72 : FnOk Try.prog 72 Try.f72 I72 := ⟨Try.func72, by kernel_rfl, by kernel_rfl, by kernel_rfl, by kernel_rfl⟩
def S72_4 (x3 : Int) (b1 : Val) : St := [(2, .v false [.ptr 1 0]), (6, .v false [.int .i64 x3]), (3, .v true [.int .i64 (Val.kind b1), .int .i64 (Val.n b1), .int .i64 (Val.step b1), .str (Val.text b1), .sl .ro .val (Val.list b1), .sl .ro .str (Val.columns b1), .sl .ro .row (Val.rows b1)])]
def S72_10 (x3 x5 : Int) (b1 : Val) (b4 : Rowd) : St := [(2, .v false [.ptr 1 0]), (6, .v false [.int .i64 x3]), (8, .v false [.ptr 4 0]), (10, .v false [.int .i64 x5]), (3, .v true [.int .i64 (Val.kind b1), .int .i64 (Val.n b1), .int .i64 (Val.step b1), .str (Val.text b1), .sl .ro .val (Val.list b1), .sl .ro .str (Val.columns b1), .sl .ro .row (Val.rows b1)]), (9, .v true [.sl .ro .int (Rowd.cells b4), .sl .ro .org (Rowd.frm b4)])]
theorem p72_10_0 (x3 x5 : Int) (b1 : Val) (b4 : Rowd) (r1 : Bool) : rS 10 I72 (S72_10 x3 x5 b1 b4) [Y, Y] [xA3 r1] = dn (xBG false) [(decide ((x5 : Int) < (Ln (Rowd.cells b4) : Int))) = true, (0 : Int) ≤ x5 ∧ x5 < (Ln (Rowd.cells b4)), AbC 19 (xBT (gD (Rowd.cells b4) (tN x5) Ty.int.dflt)) (xA3 r1), (!r1) = true] := by kernel_rfl
theorem p72_10_1 (x3 x5 : Int) (b1 : Val) (b4 : Rowd) (r1 : Bool) : rS 10 I72 (S72_10 x3 x5 b1 b4) [Y, F] [xA3 r1] = st 10 I72 (S72_10 x3 (W (x5 + 1)) b1 b4) [(decide ((x5 : Int) < (Ln (Rowd.cells b4) : Int))) = true, (0 : Int) ≤ x5 ∧ x5 < (Ln (Rowd.cells b4)), AbC 19 (xBT (gD (Rowd.cells b4) (tN x5) Ty.int.dflt)) (xA3 r1), (!r1) = false] := by kernel_rfl
theorem p72_10_2 (x3 x5 : Int) (b1 : Val) (b4 : Rowd) : rS 10 I72 (S72_10 x3 x5 b1 b4) [F] [] = st 4 I72 (S72_4 (W (x3 + 1)) b1) [(decide ((x5 : Int) < (Ln (Rowd.cells b4) : Int))) = false] := by kernel_rfl
theorem p72_4_3 (x3 : Int) (b1 : Val) : rS 4 I72 (S72_4 x3 b1) [Y, Y, Y] [] = dn (xBG false) [(decide ((x3 : Int) < (Ln (Val.rows b1) : Int))) = true, (0 : Int) ≤ x3 ∧ x3 < (Ln (Val.rows b1)), (((Ln (Rowd.cells (gD (Val.rows b1) (tN x3) rd)) : Int) : Int) != (Ln (Val.columns b1) : Int)) = true, true = true] := by kernel_rfl
theorem p72_4_4 (x3 : Int) (b1 : Val) (r1 : Bool) : rS 4 I72 (S72_4 x3 b1) [Y, F, Y] [xBs r1] = dn (xBG false) [(decide ((x3 : Int) < (Ln (Val.rows b1) : Int))) = true, (0 : Int) ≤ x3 ∧ x3 < (Ln (Val.rows b1)), (((Ln (Rowd.cells (gD (Val.rows b1) (tN x3) rd)) : Int) : Int) != (Ln (Val.columns b1) : Int)) = false, AbC 81 (xDL (Rowd.frm (gD (Val.rows b1) (tN x3) rd))) (xBs r1), (!r1) = true] := by kernel_rfl
theorem p72_4_5 (x3 : Int) (b1 : Val) (r1 : Bool) : rS 4 I72 (S72_4 x3 b1) [Y, F, F] [xBs r1] = st 10 I72 (S72_10 x3 0 b1 (gD (Val.rows b1) (tN x3) rd)) [(decide ((x3 : Int) < (Ln (Val.rows b1) : Int))) = true, (0 : Int) ≤ x3 ∧ x3 < (Ln (Val.rows b1)), (((Ln (Rowd.cells (gD (Val.rows b1) (tN x3) rd)) : Int) : Int) != (Ln (Val.columns b1) : Int)) = false, AbC 81 (xDL (Rowd.frm (gD (Val.rows b1) (tN x3) rd))) (xBs r1), (!r1) = false] := by kernel_rfl
theorem p72_4_6 (x3 : Int) (b1 : Val) : rS 4 I72 (S72_4 x3 b1) [F] [] = dn (xBG true) [(decide ((x3 : Int) < (Ln (Val.rows b1) : Int))) = false] := by kernel_rfl
theorem p72_e_7 (a0 : Val) (r1 : Bool) : rE I72 (xEk a0) [Y, Y] [xBz r1] = dn (xBG false) [AbC 80 (xDw (Val.columns a0)) (xBz r1), (!r1) = true, true = true] := by kernel_rfl
theorem p72_e_8 (a0 : Val) (r1 : Bool) : rE I72 (xEk a0) [F, Y] [xBz r1] = dn (xBG false) [AbC 80 (xDw (Val.columns a0)) (xBz r1), (!r1) = false, (decide (((Ln (Val.rows a0) : Int) : Int) > 12)) = true] := by kernel_rfl
theorem p72_e_9 (a0 : Val) (r1 : Bool) : rE I72 (xEk a0) [F, F] [xBz r1] = st 4 I72 (S72_4 0 a0) [AbC 80 (xDw (Val.columns a0)) (xBz r1), (!r1) = false, (decide (((Ln (Val.rows a0) : Int) : Int) > 12)) = false] := by kernel_rfl
theorem c72_10 {N : Nat} {k4 : Int → Val → Option (Bool)} (hk4 : ∀ z0 z1 r, k4 z0 z1 = some r → RS Try.f72 I72 4 (S72_4 z0 z1) (xBG r)) : ∀ n x3 x5 b1 b4 r, xDi N k4 n x3 x5 b1 b4 = some r → RS Try.f72 I72 10 (S72_10 x3 x5 b1 b4) (xBG r) := by
 intro n
 induction n with
 | zero => exact fun _ _ _ _ _ h => nE h
 | succ n ih =>
  exact fun x3 x5 b1 b4 r h =>
   cE h (fun h0 h => iE h fun h1 h => bE h fun r1 h2 h => cE h (fun h3 h => dS h fk72 (p72_10_0 x3 x5 b1 b4 r1) (oc h0 (oc h1 (oc (xCN h2) (oc h3 on))))) fun h3 h =>
   tS fk72 (p72_10_1 x3 x5 b1 b4 r1) (oc h0 (oc h1 (oc (xCN h2) (oc h3 on)))) (ih _ _ _ _ _ h)) fun h0 h =>
   tS fk72 (p72_10_2 x3 x5 b1 b4) (oc h0 on) (hk4 _ _ _ h)
theorem c72_4 {N : Nat} : ∀ n x3 b1 r, xDN N n x3 b1 = some r → RS Try.f72 I72 4 (S72_4 x3 b1) (xBG r) := by
 intro n
 induction n with
 | zero => exact fun _ _ _ h => nE h
 | succ n ih =>
  exact fun x3 b1 r h =>
   cE h (fun h0 h => iE h fun h1 h => cE h (fun h2 h => dS h fk72 (p72_4_3 x3 b1) (oc h0 (oc h1 (oc h2 (oc rfl on))))) fun h2 h =>
   bE h fun r1 h3 h => cE h (fun h4 h => dS h fk72 (p72_4_4 x3 b1 r1) (oc h0 (oc h1 (oc h2 (oc (xGM h3) (oc h4 on)))))) fun h4 h =>
   tS fk72 (p72_4_5 x3 b1 r1) (oc h0 (oc h1 (oc h2 (oc (xGM h3) (oc h4 on))))) (c72_10 ih _ _ _ _ _ _ h)) fun h0 h =>
   dS h fk72 (p72_4_6 x3 b1) (oc h0 on)
theorem c72_e {N : Nat} : ∀ a0 r, xGk N a0 = some r → RE Try.f72 I72 (xEk a0) (xBG r) := fun a0 r h =>
 bE h fun r1 h0 h => cE h (fun h1 h => dE h fk72 (p72_e_7 a0 r1) (oc (xF1 h0) (oc h1 (oc rfl on)))) fun h1 h =>
 cE h (fun h2 h => dE h fk72 (p72_e_8 a0 r1) (oc (xF1 h0) (oc h1 (oc h2 on)))) fun h2 h =>
 tE fk72 (p72_e_9 a0 r1) (oc (xF1 h0) (oc h1 (oc h2 on))) (c72_4 _ _ _ _ h)
theorem spec_l3Table_ok {N : Nat} {a0 : Val} {r : Bool} (h : xGk N  a0 = some r) : AbC 72 (xEk a0) (xBG r) :=
 AbsCalls.of_reach fk72 rfl rfl (Nat.le_of_ble_eq_true rfl) (c72_e a0 r h)
def G61 (q : Val → Option (Bool)) : Prop := ∀ a0 r, q a0 = some r → AbC 61 (xAE a0) (xAy r)
def G71 (q : Val → Option (Bool)) : Prop := ∀ a0 r, q a0 = some r → AbC 71 (xFg a0) (xCA r)
noncomputable def I61 : Info := { body := (Try.f61.body).getD .skip, nt := 95, results := [.tmp 2], keep := [0, 2, 4, 52, 88, 92, 94, 104, 124, 142, 162, 180, 3], live := [], modes := [(1, [(3, .take, false), (9, .take, false), (13, .take, false)]), (3, [(3, .take, false), (8, .take, false), (12, .take, false)]), (9, [(3, .take, false)]), (11, [(3, .take, false)]), (13, [(3, .take, false)]), (15, [(3, .take, false)])] }
theorem fk61 : FnOk Try.prog 61 Try.f61 I61 := ⟨Try.func61, by kernel_rfl, by kernel_rfl, by kernel_rfl, by kernel_rfl⟩
theorem p61_e_0 (a0 : Val) : rE I61 (xAE a0) [Y, Y, Y] [] = dn (xAy false) [(((Val.kind a0) : Int) != 3) = true, (decide (((Ln (Val.list a0) : Int) : Int) > 0)) = true, true = true] := by kernel_rfl
theorem p61_e_1 (a0 : Val) : rE I61 (xAE a0) [Y, F, Y, Y] [] = dn (xAy false) [(((Val.kind a0) : Int) != 3) = true, (decide (((Ln (Val.list a0) : Int) : Int) > 0)) = false, (((Val.kind a0) : Int) != 5) = true, (decide (((W ((Ln (Val.columns a0) : Int) + (Ln (Val.rows a0) : Int))) : Int) > 0)) = true] := by kernel_rfl
theorem p61_e_2 (a0 : Val) : rE I61 (xAE a0) [Y, F, Y, F, Y, Y, Y] [] = dn (xAy false) [(((Val.kind a0) : Int) != 3) = true, (decide (((Ln (Val.list a0) : Int) : Int) > 0)) = false, (((Val.kind a0) : Int) != 5) = true, (decide (((W ((Ln (Val.columns a0) : Int) + (Ln (Val.rows a0) : Int))) : Int) > 0)) = false, (((Val.kind a0) : Int) != 2) = true, (!(((Val.text a0) : Str) == [])) = true, true = true] := by kernel_rfl
theorem p61_e_3 (a0 : Val) : rE I61 (xAE a0) [Y, F, Y, F, Y, F, Y, Y] [] = dn (xAy false) [(((Val.kind a0) : Int) != 3) = true, (decide (((Ln (Val.list a0) : Int) : Int) > 0)) = false, (((Val.kind a0) : Int) != 5) = true, (decide (((W ((Ln (Val.columns a0) : Int) + (Ln (Val.rows a0) : Int))) : Int) > 0)) = false, (((Val.kind a0) : Int) != 2) = true, (!(((Val.text a0) : Str) == [])) = false, (((Val.kind a0) : Int) != 4) = true, (((Val.step a0) : Int) != 0) = true] := by kernel_rfl
theorem p61_e_4 (a0 : Val) (r1 : Bool) : rE I61 (xAE a0) [Y, F, Y, F, Y, F, Y, F, Y] [xA3 r1] = dn (xAy r1) [(((Val.kind a0) : Int) != 3) = true, (decide (((Ln (Val.list a0) : Int) : Int) > 0)) = false, (((Val.kind a0) : Int) != 5) = true, (decide (((W ((Ln (Val.columns a0) : Int) + (Ln (Val.rows a0) : Int))) : Int) > 0)) = false, (((Val.kind a0) : Int) != 2) = true, (!(((Val.text a0) : Str) == [])) = false, (((Val.kind a0) : Int) != 4) = true, (((Val.step a0) : Int) != 0) = false, (((Val.kind a0) : Int) == 1) = true, AbC 19 (xBT (Val.n a0)) (xA3 r1)] := by kernel_rfl
theorem p61_e_5 (a0 : Val) (r1 : Bool) : rE I61 (xAE a0) [Y, F, Y, F, Y, F, Y, F, F, F, F, F, F, Y] [xCM r1] = dn (xAy r1) [(((Val.kind a0) : Int) != 3) = true, (decide (((Ln (Val.list a0) : Int) : Int) > 0)) = false, (((Val.kind a0) : Int) != 5) = true, (decide (((W ((Ln (Val.columns a0) : Int) + (Ln (Val.rows a0) : Int))) : Int) > 0)) = false, (((Val.kind a0) : Int) != 2) = true, (!(((Val.text a0) : Str) == [])) = false, (((Val.kind a0) : Int) != 4) = true, (((Val.step a0) : Int) != 0) = false, (((Val.kind a0) : Int) == 1) = false, (((Val.kind a0) : Int) == 2) = false, (((Val.kind a0) : Int) == 3) = false, (((Val.kind a0) : Int) == 4) = false, (((Val.kind a0) : Int) == 5) = false, (((Val.kind a0) : Int) == 6) = true, AbC 44 (xEl (Val.n a0) 1 8) (xCM r1)] := by kernel_rfl
theorem p61_e_6 (a0 : Val) : rE I61 (xAE a0) [Y, F, Y, F, Y, F, Y, F, F, F, F, F, F, F] [] = dn (xAy false) [(((Val.kind a0) : Int) != 3) = true, (decide (((Ln (Val.list a0) : Int) : Int) > 0)) = false, (((Val.kind a0) : Int) != 5) = true, (decide (((W ((Ln (Val.columns a0) : Int) + (Ln (Val.rows a0) : Int))) : Int) > 0)) = false, (((Val.kind a0) : Int) != 2) = true, (!(((Val.text a0) : Str) == [])) = false, (((Val.kind a0) : Int) != 4) = true, (((Val.step a0) : Int) != 0) = false, (((Val.kind a0) : Int) == 1) = false, (((Val.kind a0) : Int) == 2) = false, (((Val.kind a0) : Int) == 3) = false, (((Val.kind a0) : Int) == 4) = false, (((Val.kind a0) : Int) == 5) = false, (((Val.kind a0) : Int) == 6) = false] := by kernel_rfl
theorem p61_e_7 (a0 : Val) (r1 r2 : Bool) : rE I61 (xAE a0) [Y, F, Y, F, Y, F, F, F, F, F, F, Y, Y] [xA3 r1, xA3 r2] = dn (xAy r2) [(((Val.kind a0) : Int) != 3) = true, (decide (((Ln (Val.list a0) : Int) : Int) > 0)) = false, (((Val.kind a0) : Int) != 5) = true, (decide (((W ((Ln (Val.columns a0) : Int) + (Ln (Val.rows a0) : Int))) : Int) > 0)) = false, (((Val.kind a0) : Int) != 2) = true, (!(((Val.text a0) : Str) == [])) = false, (((Val.kind a0) : Int) != 4) = false, false = false, (((Val.kind a0) : Int) == 1) = false, (((Val.kind a0) : Int) == 2) = false, (((Val.kind a0) : Int) == 3) = false, (((Val.kind a0) : Int) == 4) = true, AbC 19 (xBT (Val.n a0)) (xA3 r1), r1 = true, AbC 19 (xBT (Val.step a0)) (xA3 r2)] := by kernel_rfl
theorem p61_e_8 (a0 : Val) (r1 : Bool) : rE I61 (xAE a0) [Y, F, Y, F, Y, F, F, F, F, F, F, Y, F] [xA3 r1] = dn (xAy false) [(((Val.kind a0) : Int) != 3) = true, (decide (((Ln (Val.list a0) : Int) : Int) > 0)) = false, (((Val.kind a0) : Int) != 5) = true, (decide (((W ((Ln (Val.columns a0) : Int) + (Ln (Val.rows a0) : Int))) : Int) > 0)) = false, (((Val.kind a0) : Int) != 2) = true, (!(((Val.text a0) : Str) == [])) = false, (((Val.kind a0) : Int) != 4) = false, false = false, (((Val.kind a0) : Int) == 1) = false, (((Val.kind a0) : Int) == 2) = false, (((Val.kind a0) : Int) == 3) = false, (((Val.kind a0) : Int) == 4) = true, AbC 19 (xBT (Val.n a0)) (xA3 r1), r1 = false] := by kernel_rfl
theorem p61_e_9 (a0 : Val) : rE I61 (xAE a0) [Y, F, Y, F, F, F, Y, Y] [] = dn (xAy false) [(((Val.kind a0) : Int) != 3) = true, (decide (((Ln (Val.list a0) : Int) : Int) > 0)) = false, (((Val.kind a0) : Int) != 5) = true, (decide (((W ((Ln (Val.columns a0) : Int) + (Ln (Val.rows a0) : Int))) : Int) > 0)) = false, (((Val.kind a0) : Int) != 2) = false, false = false, (((Val.kind a0) : Int) != 4) = true, (((Val.step a0) : Int) != 0) = true] := by kernel_rfl
theorem p61_e_10 (a0 : Val) (r1 : Bool) : rE I61 (xAE a0) [Y, F, Y, F, F, F, Y, F, F, Y, Y] [xBP r1] = dn (xAy r1) [(((Val.kind a0) : Int) != 3) = true, (decide (((Ln (Val.list a0) : Int) : Int) > 0)) = false, (((Val.kind a0) : Int) != 5) = true, (decide (((W ((Ln (Val.columns a0) : Int) + (Ln (Val.rows a0) : Int))) : Int) > 0)) = false, (((Val.kind a0) : Int) != 2) = false, false = false, (((Val.kind a0) : Int) != 4) = true, (((Val.step a0) : Int) != 0) = false, (((Val.kind a0) : Int) == 1) = false, (((Val.kind a0) : Int) == 2) = true, (((Val.n a0) : Int) == 0) = true, AbC 70 (xEs (Val.text a0)) (xBP r1)] := by kernel_rfl
theorem p61_e_11 (a0 : Val) : rE I61 (xAE a0) [Y, F, Y, F, F, F, Y, F, F, Y, F] [] = dn (xAy false) [(((Val.kind a0) : Int) != 3) = true, (decide (((Ln (Val.list a0) : Int) : Int) > 0)) = false, (((Val.kind a0) : Int) != 5) = true, (decide (((W ((Ln (Val.columns a0) : Int) + (Ln (Val.rows a0) : Int))) : Int) > 0)) = false, (((Val.kind a0) : Int) != 2) = false, false = false, (((Val.kind a0) : Int) != 4) = true, (((Val.step a0) : Int) != 0) = false, (((Val.kind a0) : Int) == 1) = false, (((Val.kind a0) : Int) == 2) = true, (((Val.n a0) : Int) == 0) = false] := by kernel_rfl
theorem p61_e_12 (a0 : Val) : rE I61 (xAE a0) [Y, F, F, F, Y, Y, Y] [] = dn (xAy false) [(((Val.kind a0) : Int) != 3) = true, (decide (((Ln (Val.list a0) : Int) : Int) > 0)) = false, (((Val.kind a0) : Int) != 5) = false, false = false, (((Val.kind a0) : Int) != 2) = true, (!(((Val.text a0) : Str) == [])) = true, true = true] := by kernel_rfl
theorem p61_e_13 (a0 : Val) : rE I61 (xAE a0) [Y, F, F, F, Y, F, Y, Y] [] = dn (xAy false) [(((Val.kind a0) : Int) != 3) = true, (decide (((Ln (Val.list a0) : Int) : Int) > 0)) = false, (((Val.kind a0) : Int) != 5) = false, false = false, (((Val.kind a0) : Int) != 2) = true, (!(((Val.text a0) : Str) == [])) = false, (((Val.kind a0) : Int) != 4) = true, (((Val.step a0) : Int) != 0) = true] := by kernel_rfl
theorem p61_e_14 (a0 : Val) (r1 : Bool) : rE I61 (xAE a0) [Y, F, F, F, Y, F, Y, F, F, F, F, F, Y, Y] [xBG r1] = dn (xAy r1) [(((Val.kind a0) : Int) != 3) = true, (decide (((Ln (Val.list a0) : Int) : Int) > 0)) = false, (((Val.kind a0) : Int) != 5) = false, false = false, (((Val.kind a0) : Int) != 2) = true, (!(((Val.text a0) : Str) == [])) = false, (((Val.kind a0) : Int) != 4) = true, (((Val.step a0) : Int) != 0) = false, (((Val.kind a0) : Int) == 1) = false, (((Val.kind a0) : Int) == 2) = false, (((Val.kind a0) : Int) == 3) = false, (((Val.kind a0) : Int) == 4) = false, (((Val.kind a0) : Int) == 5) = true, (((Val.n a0) : Int) == 0) = true, AbC 72 (xEk a0) (xBG r1)] := by kernel_rfl
theorem p61_e_15 (a0 : Val) : rE I61 (xAE a0) [Y, F, F, F, Y, F, Y, F, F, F, F, F, Y, F] [] = dn (xAy false) [(((Val.kind a0) : Int) != 3) = true, (decide (((Ln (Val.list a0) : Int) : Int) > 0)) = false, (((Val.kind a0) : Int) != 5) = false, false = false, (((Val.kind a0) : Int) != 2) = true, (!(((Val.text a0) : Str) == [])) = false, (((Val.kind a0) : Int) != 4) = true, (((Val.step a0) : Int) != 0) = false, (((Val.kind a0) : Int) == 1) = false, (((Val.kind a0) : Int) == 2) = false, (((Val.kind a0) : Int) == 3) = false, (((Val.kind a0) : Int) == 4) = false, (((Val.kind a0) : Int) == 5) = true, (((Val.n a0) : Int) == 0) = false] := by kernel_rfl
theorem p61_e_16 (a0 : Val) : rE I61 (xAE a0) [F, F, Y, Y] [] = dn (xAy false) [(((Val.kind a0) : Int) != 3) = false, false = false, (((Val.kind a0) : Int) != 5) = true, (decide (((W ((Ln (Val.columns a0) : Int) + (Ln (Val.rows a0) : Int))) : Int) > 0)) = true] := by kernel_rfl
theorem p61_e_17 (a0 : Val) : rE I61 (xAE a0) [F, F, Y, F, Y, Y, Y] [] = dn (xAy false) [(((Val.kind a0) : Int) != 3) = false, false = false, (((Val.kind a0) : Int) != 5) = true, (decide (((W ((Ln (Val.columns a0) : Int) + (Ln (Val.rows a0) : Int))) : Int) > 0)) = false, (((Val.kind a0) : Int) != 2) = true, (!(((Val.text a0) : Str) == [])) = true, true = true] := by kernel_rfl
theorem p61_e_18 (a0 : Val) : rE I61 (xAE a0) [F, F, Y, F, Y, F, Y, Y] [] = dn (xAy false) [(((Val.kind a0) : Int) != 3) = false, false = false, (((Val.kind a0) : Int) != 5) = true, (decide (((W ((Ln (Val.columns a0) : Int) + (Ln (Val.rows a0) : Int))) : Int) > 0)) = false, (((Val.kind a0) : Int) != 2) = true, (!(((Val.text a0) : Str) == [])) = false, (((Val.kind a0) : Int) != 4) = true, (((Val.step a0) : Int) != 0) = true] := by kernel_rfl
theorem p61_e_19 (a0 : Val) (r1 : Bool) : rE I61 (xAE a0) [F, F, Y, F, Y, F, Y, F, F, F, Y, Y] [xCA r1] = dn (xAy r1) [(((Val.kind a0) : Int) != 3) = false, false = false, (((Val.kind a0) : Int) != 5) = true, (decide (((W ((Ln (Val.columns a0) : Int) + (Ln (Val.rows a0) : Int))) : Int) > 0)) = false, (((Val.kind a0) : Int) != 2) = true, (!(((Val.text a0) : Str) == [])) = false, (((Val.kind a0) : Int) != 4) = true, (((Val.step a0) : Int) != 0) = false, (((Val.kind a0) : Int) == 1) = false, (((Val.kind a0) : Int) == 2) = false, (((Val.kind a0) : Int) == 3) = true, (((Val.n a0) : Int) == 0) = true, AbC 71 (xFg a0) (xCA r1)] := by kernel_rfl
theorem p61_e_20 (a0 : Val) : rE I61 (xAE a0) [F, F, Y, F, Y, F, Y, F, F, F, Y, F] [] = dn (xAy false) [(((Val.kind a0) : Int) != 3) = false, false = false, (((Val.kind a0) : Int) != 5) = true, (decide (((W ((Ln (Val.columns a0) : Int) + (Ln (Val.rows a0) : Int))) : Int) > 0)) = false, (((Val.kind a0) : Int) != 2) = true, (!(((Val.text a0) : Str) == [])) = false, (((Val.kind a0) : Int) != 4) = true, (((Val.step a0) : Int) != 0) = false, (((Val.kind a0) : Int) == 1) = false, (((Val.kind a0) : Int) == 2) = false, (((Val.kind a0) : Int) == 3) = true, (((Val.n a0) : Int) == 0) = false] := by kernel_rfl
theorem c61_e {N : Nat} {q0 : Val → Option (Bool)} (g0 : G61 q0) {q1 : Val → Option (Bool)} (g1 : G71 q1) : ∀ a0 r, xCP N q0 q1 a0 = some r → RE Try.f61 I61 (xAE a0) (xAy r) := fun a0 r h =>
 cE h (fun h0 h => cE h (fun h1 h => dE h fk61 (p61_e_0 a0) (oc h0 (oc h1 (oc rfl on)))) fun h1 h =>
 cE h (fun h2 h => cE h (fun h3 h => dE h fk61 (p61_e_1 a0) (oc h0 (oc h1 (oc h2 (oc h3 on))))) fun h3 h =>
 cE h (fun h4 h => cE h (fun h5 h => dE h fk61 (p61_e_2 a0) (oc h0 (oc h1 (oc h2 (oc h3 (oc h4 (oc h5 (oc rfl on)))))))) fun h5 h =>
 cE h (fun h6 h => cE h (fun h7 h => dE h fk61 (p61_e_3 a0) (oc h0 (oc h1 (oc h2 (oc h3 (oc h4 (oc h5 (oc h6 (oc h7 on))))))))) fun h7 h =>
 cE h (fun h8 h => bE h fun r1 h9 h => dE h fk61 (p61_e_4 a0 r1) (oc h0 (oc h1 (oc h2 (oc h3 (oc h4 (oc h5 (oc h6 (oc h7 (oc h8 (oc (xCN h9) on))))))))))) fun h8 h =>
 cE h (fun h13 h => bE h fun r1 h14 h => dE h fk61 (p61_e_5 a0 r1) (oc h0 (oc h1 (oc h2 (oc h3 (oc h4 (oc h5 (oc h6 (oc h7 (oc h8 (oc (of_not h4) (oc (of_not h0) (oc (of_not h6) (oc (of_not h2) (oc h13 (oc (xGS h14) on)))))))))))))))) fun h13 h =>
 dE h fk61 (p61_e_6 a0) (oc h0 (oc h1 (oc h2 (oc h3 (oc h4 (oc h5 (oc h6 (oc h7 (oc h8 (oc (of_not h4) (oc (of_not h0) (oc (of_not h6) (oc (of_not h2) (oc h13 on))))))))))))))) fun h6 h =>
 bE h fun r1 h12 h => cE h (fun h13 h => bE h fun r2 h14 h => dE h fk61 (p61_e_7 a0 r1 r2) (oc h0 (oc h1 (oc h2 (oc h3 (oc h4 (oc h5 (oc h6 (oc rfl (oc (eq_ne (of_not h6) rfl) (oc (of_not h4) (oc (of_not h0) (oc (of_not h6) (oc (xCN h12) (oc h13 (oc (xCN h14) on)))))))))))))))) fun h13 h =>
 dE h fk61 (p61_e_8 a0 r1) (oc h0 (oc h1 (oc h2 (oc h3 (oc h4 (oc h5 (oc h6 (oc rfl (oc (eq_ne (of_not h6) rfl) (oc (of_not h4) (oc (of_not h0) (oc (of_not h6) (oc (xCN h12) (oc h13 on))))))))))))))) fun h4 h =>
 cE h (fun h7 h => dE h fk61 (p61_e_9 a0) (oc h0 (oc h1 (oc h2 (oc h3 (oc h4 (oc rfl (oc (not_of (eq_ne (of_not h4) rfl)) (oc h7 on))))))))) fun h7 h =>
 cE h (fun h10 h => bE h fun r1 h11 h => dE h fk61 (p61_e_10 a0 r1) (oc h0 (oc h1 (oc h2 (oc h3 (oc h4 (oc rfl (oc (not_of (eq_ne (of_not h4) rfl)) (oc h7 (oc (eq_ne (of_not h4) rfl) (oc (of_not h4) (oc h10 (oc (xIf h11) on))))))))))))) fun h10 h =>
 dE h fk61 (p61_e_11 a0) (oc h0 (oc h1 (oc h2 (oc h3 (oc h4 (oc rfl (oc (not_of (eq_ne (of_not h4) rfl)) (oc h7 (oc (eq_ne (of_not h4) rfl) (oc (of_not h4) (oc h10 on)))))))))))) fun h2 h =>
 cE h (fun h5 h => dE h fk61 (p61_e_12 a0) (oc h0 (oc h1 (oc h2 (oc rfl (oc (not_of (eq_ne (of_not h2) rfl)) (oc h5 (oc rfl on)))))))) fun h5 h =>
 cE h (fun h7 h => dE h fk61 (p61_e_13 a0) (oc h0 (oc h1 (oc h2 (oc rfl (oc (not_of (eq_ne (of_not h2) rfl)) (oc h5 (oc (not_of (eq_ne (of_not h2) rfl)) (oc h7 on))))))))) fun h7 h =>
 cE h (fun h13 h => bE h fun r1 h14 h => dE h fk61 (p61_e_14 a0 r1) (oc h0 (oc h1 (oc h2 (oc rfl (oc (not_of (eq_ne (of_not h2) rfl)) (oc h5 (oc (not_of (eq_ne (of_not h2) rfl)) (oc h7 (oc (eq_ne (of_not h2) rfl) (oc (eq_ne (of_not h2) rfl) (oc (of_not h0) (oc (eq_ne (of_not h2) rfl) (oc (of_not h2) (oc h13 (oc (spec_l3Table_ok h14) on)))))))))))))))) fun h13 h =>
 dE h fk61 (p61_e_15 a0) (oc h0 (oc h1 (oc h2 (oc rfl (oc (not_of (eq_ne (of_not h2) rfl)) (oc h5 (oc (not_of (eq_ne (of_not h2) rfl)) (oc h7 (oc (eq_ne (of_not h2) rfl) (oc (eq_ne (of_not h2) rfl) (oc (of_not h0) (oc (eq_ne (of_not h2) rfl) (oc (of_not h2) (oc h13 on))))))))))))))) fun h0 h =>
 cE h (fun h3 h => dE h fk61 (p61_e_16 a0) (oc h0 (oc rfl (oc (not_of (eq_ne (of_not h0) rfl)) (oc h3 on))))) fun h3 h =>
 cE h (fun h5 h => dE h fk61 (p61_e_17 a0) (oc h0 (oc rfl (oc (not_of (eq_ne (of_not h0) rfl)) (oc h3 (oc (not_of (eq_ne (of_not h0) rfl)) (oc h5 (oc rfl on)))))))) fun h5 h =>
 cE h (fun h7 h => dE h fk61 (p61_e_18 a0) (oc h0 (oc rfl (oc (not_of (eq_ne (of_not h0) rfl)) (oc h3 (oc (not_of (eq_ne (of_not h0) rfl)) (oc h5 (oc (not_of (eq_ne (of_not h0) rfl)) (oc h7 on))))))))) fun h7 h =>
 cE h (fun h11 h => bE h fun r1 h12 h => dE h fk61 (p61_e_19 a0 r1) (oc h0 (oc rfl (oc (not_of (eq_ne (of_not h0) rfl)) (oc h3 (oc (not_of (eq_ne (of_not h0) rfl)) (oc h5 (oc (not_of (eq_ne (of_not h0) rfl)) (oc h7 (oc (eq_ne (of_not h0) rfl) (oc (eq_ne (of_not h0) rfl) (oc (of_not h0) (oc h11 (oc (g1 _ _ h12) on)))))))))))))) fun h11 h =>
 dE h fk61 (p61_e_20 a0) (oc h0 (oc rfl (oc (not_of (eq_ne (of_not h0) rfl)) (oc h3 (oc (not_of (eq_ne (of_not h0) rfl)) (oc h5 (oc (not_of (eq_ne (of_not h0) rfl)) (oc h7 (oc (eq_ne (of_not h0) rfl) (oc (eq_ne (of_not h0) rfl) (oc (of_not h0) (oc h11 on))))))))))))
theorem xG1 {N : Nat} {q0 : Val → Option (Bool)} (g0 : G61 q0) {q1 : Val → Option (Bool)} (g1 : G71 q1) {a0 : Val} {r : Bool} (h : xCP N q0 q1 a0 = some r) : AbC 61 (xAE a0) (xAy r) :=
 AbsCalls.of_reach fk61 rfl rfl (Nat.le_of_ble_eq_true rfl) (c61_e g0 g1 a0 r h)
noncomputable def I71 : Info := { body := (Try.f71.body).getD .skip, nt := 36, results := [.tmp 2], keep := [0, 2, 4, 6, 16, 52, 3], live := [(2, [2, 6, 3])], modes := [(4, [(7, .take, false)]), (6, [(4, .take, false)])] }
theorem fk71 : FnOk Try.prog 71 Try.f71 I71 := ⟨Try.func71, by kernel_rfl, by kernel_rfl, by kernel_rfl, by kernel_rfl⟩
def S71_2 (x3 : Int) (b1 : Val) : St := [(2, .v false [.ptr 1 0]), (6, .v false [.int .i64 x3]), (3, .v true [.int .i64 (Val.kind b1), .int .i64 (Val.n b1), .int .i64 (Val.step b1), .str (Val.text b1), .sl .ro .val (Val.list b1), .sl .ro .str (Val.columns b1), .sl .ro .row (Val.rows b1)])]
theorem p71_2_0 (x3 : Int) (b1 : Val) (r1 : Bool) : rS 2 I71 (S71_2 x3 b1) [Y, Y, Y] [xBF r1] = dn (xCA false) [(decide ((x3 : Int) < (Ln (Val.list b1) : Int))) = true, (0 : Int) ≤ x3 ∧ x3 < (Ln (Val.list b1)), AbC 78 (xCw (gD (Val.list b1) (tN x3) vd)) (xBF r1), (!r1) = true, true = true] := by kernel_rfl
theorem p71_2_1 (x3 : Int) (b1 : Val) (r1 r2 : Bool) : rS 2 I71 (S71_2 x3 b1) [Y, F, Y] [xBF r1, xAy r2] = dn (xCA false) [(decide ((x3 : Int) < (Ln (Val.list b1) : Int))) = true, (0 : Int) ≤ x3 ∧ x3 < (Ln (Val.list b1)), AbC 78 (xCw (gD (Val.list b1) (tN x3) vd)) (xBF r1), (!r1) = false, (0 : Int) ≤ x3 ∧ x3 < (Ln (Val.list b1)), AbC 61 (xAE (gD (Val.list b1) (tN x3) vd)) (xAy r2), (!r2) = true] := by kernel_rfl
theorem p71_2_2 (x3 : Int) (b1 : Val) (r1 r2 : Bool) : rS 2 I71 (S71_2 x3 b1) [Y, F, F] [xBF r1, xAy r2] = st 2 I71 (S71_2 (W (x3 + 1)) b1) [(decide ((x3 : Int) < (Ln (Val.list b1) : Int))) = true, (0 : Int) ≤ x3 ∧ x3 < (Ln (Val.list b1)), AbC 78 (xCw (gD (Val.list b1) (tN x3) vd)) (xBF r1), (!r1) = false, (0 : Int) ≤ x3 ∧ x3 < (Ln (Val.list b1)), AbC 61 (xAE (gD (Val.list b1) (tN x3) vd)) (xAy r2), (!r2) = false] := by kernel_rfl
theorem p71_2_3 (x3 : Int) (b1 : Val) (r1 : Int) : rS 2 I71 (S71_2 x3 b1) [F, Y] [xCd r1] = dn (xCA (decide ((r1 : Int) ≤ 3))) [(decide ((x3 : Int) < (Ln (Val.list b1) : Int))) = false, (decide (((Ln (Val.list b1) : Int) : Int) ≤ 8)) = true, AbC 79 (xDI b1) (xCd r1)] := by kernel_rfl
theorem p71_2_4 (x3 : Int) (b1 : Val) : rS 2 I71 (S71_2 x3 b1) [F, F] [] = dn (xCA false) [(decide ((x3 : Int) < (Ln (Val.list b1) : Int))) = false, (decide (((Ln (Val.list b1) : Int) : Int) ≤ 8)) = false] := by kernel_rfl
theorem p71_e_5 (a0 : Val) : rE I71 (xFg a0) [] [] = st 2 I71 (S71_2 0 a0) [] := by kernel_rfl
theorem c71_2 {N : Nat} {q0 : Val → Option (Bool)} (g0 : G61 q0) {q1 : Val → Option (Bool)} (g1 : G71 q1) : ∀ n x3 b1 r, xDp N q0 q1 n x3 b1 = some r → RS Try.f71 I71 2 (S71_2 x3 b1) (xCA r) := by
 intro n
 induction n with
 | zero => exact fun _ _ _ h => nE h
 | succ n ih =>
  exact fun x3 b1 r h =>
   cE h (fun h0 h => iE h fun h1 h => bE h fun r1 h2 h => cE h (fun h3 h => dS h fk71 (p71_2_0 x3 b1 r1) (oc h0 (oc h1 (oc (xF2 h2) (oc h3 (oc rfl on)))))) fun h3 h =>
   bE h fun r2 h5 h => cE h (fun h6 h => dS h fk71 (p71_2_1 x3 b1 r1 r2) (oc h0 (oc h1 (oc (xF2 h2) (oc h3 (oc h1 (oc (g0 _ _ h5) (oc h6 on)))))))) fun h6 h =>
   tS fk71 (p71_2_2 x3 b1 r1 r2) (oc h0 (oc h1 (oc (xF2 h2) (oc h3 (oc h1 (oc (g0 _ _ h5) (oc h6 on))))))) (ih _ _ _ h)) fun h0 h =>
   cE h (fun h1 h => bE h fun r1 h2 h => dS h fk71 (p71_2_3 x3 b1 r1) (oc h0 (oc h1 (oc (spec_DepthOf_ok h2) on)))) fun h1 h =>
   dS h fk71 (p71_2_4 x3 b1) (oc h0 (oc h1 on))
theorem c71_e {N : Nat} {q0 : Val → Option (Bool)} (g0 : G61 q0) {q1 : Val → Option (Bool)} (g1 : G71 q1) : ∀ a0 r, xGn N q0 q1 a0 = some r → RE Try.f71 I71 (xFg a0) (xCA r) := fun a0 r h =>
 tE fk71 (p71_e_5 a0) on (c71_2 g0 g1 _ _ _ _ h)
theorem xIj {N : Nat} {q0 : Val → Option (Bool)} (g0 : G61 q0) {q1 : Val → Option (Bool)} (g1 : G71 q1) {a0 : Val} {r : Bool} (h : xGn N q0 q1 a0 = some r) : AbC 71 (xFg a0) (xCA r) :=
 AbsCalls.of_reach fk71 rfl rfl (Nat.le_of_ble_eq_true rfl) (c71_e g0 g1 a0 r h)
theorem xG8 {N : Nat} : ∀ d, G61 (xAL N d).c_spec_IsValidValue ∧ G71 (xAL N d).c_spec_l3List := by
 intro d
 induction d with
 | zero => exact ⟨fun _ _ h => nE h, fun _ _ h => nE h⟩
 | succ d ih =>
  obtain ⟨ih0, ih1⟩ := ih
  exact ⟨fun _ _ h => xG1 (N := N) ih0 ih1 h, fun _ _ h => xIj (N := N) ih0 ih1 h⟩
theorem xE7 {N : Nat} {a0 : Val} {r : Bool} (h : xF0 N a0 = some r) : AbC 61 (xAE a0) (xAy r) := (xG8 N).1 _ r h
noncomputable def I17 : Info := { body := (Try.f17.body).getD .skip, nt := 5, results := [.cell 2 31], keep := [0, 4, 5], live := [], modes := [] }
theorem fk17 : FnOk Try.prog 17 Try.f17 I17 := ⟨Try.func17, by kernel_rfl, by kernel_rfl, by kernel_rfl, by kernel_rfl⟩
theorem p17_e_0 (a0 : Int) : rE I17 (xBr a0) [] [] = dn (xAR (Val.mk 6 a0 0 [] [] [] [])) [] := by kernel_rfl
theorem c17_e {N : Nat} : ∀ a0 r, xA6 N a0 = some r → RE Try.f17 I17 (xBr a0) (xAR r) := fun a0 r h =>
 dE h fk17 (p17_e_0 a0) on
theorem xBY {N : Nat} {a0 : Int} {r : Val} (h : xA6 N  a0 = some r) : AbC 17 (xBr a0) (xAR r) :=
 AbsCalls.of_reach fk17 rfl rfl (Nat.le_of_ble_eq_true rfl) (c17_e a0 r h)
noncomputable def I39 : Info := { body := (Try.f39.body).getD .skip, nt := 31, results := [.cell 2 31, .tmp 3], keep := [0, 4, 6, 8, 16, 32, 46, 5], live := [(2, [0, 4, 8, 5])], modes := [] }
theorem fk39 : FnOk Try.prog 39 Try.f39 I39 := ⟨Try.func39, by kernel_rfl, by kernel_rfl, by kernel_rfl, by kernel_rfl⟩
def S39_2 (x0 : List Val) (x4 : Int) (b2 : Val) : St := [(0, .v false [.sl .ro .val x0]), (4, .v false [.ptr 2 0]), (8, .v false [.int .i64 x4]), (5, .v true [.int .i64 (Val.kind b2), .int .i64 (Val.n b2), .int .i64 (Val.step b2), .str (Val.text b2), .sl .own .val (Val.list b2), .sl .own .str (Val.columns b2), .sl .own .row (Val.rows b2)])]
theorem p39_2_0 (x0 : List Val) (x4 : Int) (b2 : Val) (r1 : Bool) (r2 : Val) : rS 2 I39 (S39_2 x0 x4 b2) [Y, Y] [xAy r1, xAR r2] = dn (xCg (r2, true)) [(decide ((x4 : Int) < (Ln x0 : Int))) = true, (0 : Int) ≤ x4 ∧ x4 < (Ln x0), AbC 61 (xAE (gD x0 (tN x4) vd)) (xAy r1), (!r1) = true, AbC 17 (xBr 4) (xAR r2)] := by kernel_rfl
theorem p39_2_1 (x0 : List Val) (x4 : Int) (b2 : Val) (r1 : Bool) (r2 : Val) : rS 2 I39 (S39_2 x0 x4 b2) [Y, F, Y] [xAy r1, xAR r2] = dn (xCg (r2, true)) [(decide ((x4 : Int) < (Ln x0 : Int))) = true, (0 : Int) ≤ x4 ∧ x4 < (Ln x0), AbC 61 (xAE (gD x0 (tN x4) vd)) (xAy r1), (!r1) = false, (0 : Int) ≤ x4 ∧ x4 < (Ln x0), (((Val.kind (gD x0 (tN x4) vd)) : Int) == 6) = true, (0 : Int) ≤ x4 ∧ x4 < (Ln x0), AbC 17 (xBr (Val.n (gD x0 (tN x4) vd))) (xAR r2)] := by kernel_rfl
theorem p39_2_2 (x0 : List Val) (x4 : Int) (b2 : Val) (r1 : Bool) : rS 2 I39 (S39_2 x0 x4 b2) [Y, F, F] [xAy r1] = st 2 I39 (S39_2 x0 (W (x4 + 1)) b2) [(decide ((x4 : Int) < (Ln x0 : Int))) = true, (0 : Int) ≤ x4 ∧ x4 < (Ln x0), AbC 61 (xAE (gD x0 (tN x4) vd)) (xAy r1), (!r1) = false, (0 : Int) ≤ x4 ∧ x4 < (Ln x0), (((Val.kind (gD x0 (tN x4) vd)) : Int) == 6) = false] := by kernel_rfl
theorem p39_2_3 (x0 : List Val) (x4 : Int) (b2 : Val) : rS 2 I39 (S39_2 x0 x4 b2) [F] [] = dn (xCg ((Val.mk 0 0 0 [] [] [] []), false)) [(decide ((x4 : Int) < (Ln x0 : Int))) = false] := by kernel_rfl
theorem p39_e_4 (a0 : List Val) : rE I39 (xES a0) [] [] = st 2 I39 (S39_2 a0 0 (Val.mk 0 0 0 [] [] [] [])) [] := by kernel_rfl
theorem c39_2 {N : Nat} : ∀ n x0 x4 b2 r, xC1 N n x0 x4 b2 = some r → RS Try.f39 I39 2 (S39_2 x0 x4 b2) (xCg r) := by
 intro n
 induction n with
 | zero => exact fun _ _ _ _ h => nE h
 | succ n ih =>
  exact fun x0 x4 b2 r h =>
   cE h (fun h0 h => iE h fun h1 h => bE h fun r1 h2 h => cE h (fun h3 h => bE h fun r2 h4 h => dS h fk39 (p39_2_0 x0 x4 b2 r1 r2) (oc h0 (oc h1 (oc (xE7 h2) (oc h3 (oc (xBY h4) on)))))) fun h3 h =>
   cE h (fun h5 h => bE h fun r2 h7 h => dS h fk39 (p39_2_1 x0 x4 b2 r1 r2) (oc h0 (oc h1 (oc (xE7 h2) (oc h3 (oc h1 (oc h5 (oc h1 (oc (xBY h7) on))))))))) fun h5 h =>
   tS fk39 (p39_2_2 x0 x4 b2 r1) (oc h0 (oc h1 (oc (xE7 h2) (oc h3 (oc h1 (oc h5 on)))))) (ih _ _ _ _ h)) fun h0 h =>
   dS h fk39 (p39_2_3 x0 x4 b2) (oc h0 on)
theorem c39_e {N : Nat} : ∀ a0 r, xGV N a0 = some r → RE Try.f39 I39 (xES a0) (xCg r) := fun a0 r h =>
 tE fk39 (p39_e_4 a0) on (c39_2 _ _ _ _ _ h)
theorem xHF {N : Nat} {a0 : List Val} {r : Val × Bool} (h : xGV N  a0 = some r) : AbC 39 (xES a0) (xCg r) :=
 AbsCalls.of_reach fk39 rfl rfl (Nat.le_of_ble_eq_true rfl) (c39_e a0 r h)
noncomputable def I14 : Info := { body := (Try.f14.body).getD .skip, nt := 34, results := [.cell 4 31, .tmp 5], keep := [0, 2, 8, 10, 12, 14, 16, 28, 38, 62, 9, 13], live := [(5, [0, 2, 8, 16, 9])], modes := [(1, [(2, .take, false)]), (2, [(0, .take, false)]), (3, [(0, .take, false)])] }
theorem fk14 : FnOk Try.prog 14 Try.f14 I14 := ⟨Try.func14, by kernel_rfl, by kernel_rfl, by kernel_rfl, by kernel_rfl⟩
def S14_5 (x0 : List Val) (x1 : List Int) (x8 : Int) (b4 : Val) : St := [(0, .v false [.sl .ro .val x0]), (2, .v false [.sl .ro .int x1]), (8, .v false [.ptr 4 0]), (16, .v false [.int .i64 x8]), (9, .v true [.int .i64 (Val.kind b4), .int .i64 (Val.n b4), .int .i64 (Val.step b4), .str (Val.text b4), .sl .own .val (Val.list b4), .sl .own .str (Val.columns b4), .sl .own .row (Val.rows b4)])]
theorem p14_5_0 (x0 : List Val) (x1 : List Int) (x8 : Int) (b4 r1 : Val) : rS 5 I14 (S14_5 x0 x1 x8 b4) [Y, Y] [xAR r1] = dn (xA7 (r1, true)) [(decide ((x8 : Int) < (Ln x0 : Int))) = true, (0 : Int) ≤ x8 ∧ x8 < (Ln x0), (0 : Int) ≤ x8 ∧ x8 < (Ln x1), (((Val.kind (gD x0 (tN x8) vd)) : Int) != (gD x1 (tN x8) Ty.int.dflt)) = true, AbC 17 (xBr 4) (xAR r1)] := by kernel_rfl
theorem p14_5_1 (x0 : List Val) (x1 : List Int) (x8 : Int) (b4 : Val) : rS 5 I14 (S14_5 x0 x1 x8 b4) [Y, F] [] = st 5 I14 (S14_5 x0 x1 (W (x8 + 1)) b4) [(decide ((x8 : Int) < (Ln x0 : Int))) = true, (0 : Int) ≤ x8 ∧ x8 < (Ln x0), (0 : Int) ≤ x8 ∧ x8 < (Ln x1), (((Val.kind (gD x0 (tN x8) vd)) : Int) != (gD x1 (tN x8) Ty.int.dflt)) = false] := by kernel_rfl
theorem p14_5_2 (x0 : List Val) (x1 : List Int) (x8 : Int) (b4 : Val) : rS 5 I14 (S14_5 x0 x1 x8 b4) [F] [] = dn (xA7 ((Val.mk 0 0 0 [] [] [] []), false)) [(decide ((x8 : Int) < (Ln x0 : Int))) = false] := by kernel_rfl
theorem p14_e_3 (a0 : List Val) (a1 : List Int) (r1 : Val × Bool) : rE I14 (xB4 a0 a1) [Y] [xCg r1] = dn (xA7 (r1.1, true)) [AbC 39 (xES a0) (xCg r1), r1.2 = true] := by kernel_rfl
theorem p14_e_4 (a0 : List Val) (a1 : List Int) (r1 : Val × Bool) : rE I14 (xB4 a0 a1) [F] [xCg r1] = st 5 I14 (S14_5 a0 a1 0 (Val.mk 0 0 0 [] [] [] [])) [AbC 39 (xES a0) (xCg r1), r1.2 = false] := by kernel_rfl
theorem c14_5 {N : Nat} : ∀ n x0 x1 x8 b4 r, xC2 N n x0 x1 x8 b4 = some r → RS Try.f14 I14 5 (S14_5 x0 x1 x8 b4) (xA7 r) := by
 intro n
 induction n with
 | zero => exact fun _ _ _ _ _ h => nE h
 | succ n ih =>
  exact fun x0 x1 x8 b4 r h =>
   cE h (fun h0 h => iE h fun h1 h => iE h fun h2 h => cE h (fun h3 h => bE h fun r1 h4 h => dS h fk14 (p14_5_0 x0 x1 x8 b4 r1) (oc h0 (oc h1 (oc h2 (oc h3 (oc (xBY h4) on)))))) fun h3 h =>
   tS fk14 (p14_5_1 x0 x1 x8 b4) (oc h0 (oc h1 (oc h2 (oc h3 on)))) (ih _ _ _ _ _ h)) fun h0 h =>
   dS h fk14 (p14_5_2 x0 x1 x8 b4) (oc h0 on)
theorem c14_e {N : Nat} : ∀ a0 a1 r, xGl N a0 a1 = some r → RE Try.f14 I14 (xB4 a0 a1) (xA7 r) := fun a0 a1 r h =>
 bE h fun r1 h0 h => cE h (fun h1 h => dE h fk14 (p14_e_3 a0 a1 r1) (oc (xHF h0) (oc h1 on))) fun h1 h =>
 tE fk14 (p14_e_4 a0 a1 r1) (oc (xHF h0) (oc h1 on)) (c14_5 _ _ _ _ _ _ h)
theorem xDO {N : Nat} {a0 : List Val} {a1 : List Int} {r : Val × Bool} (h : xGl N  a0 a1 = some r) : AbC 14 (xB4 a0 a1) (xA7 r) :=
 AbsCalls.of_reach fk14 rfl rfl (Nat.le_of_ble_eq_true rfl) (c14_e a0 a1 r h)
noncomputable def I40 : Info := { body := (Try.f40.body).getD .skip, nt := 19, results := [.tmp 4], keep := [0, 2, 8, 10, 18, 34], live := [(2, [0, 2, 10])], modes := [] }
theorem fk40 : FnOk Try.prog 40 Try.f40 I40 := ⟨Try.func40, by kernel_rfl, by kernel_rfl, by kernel_rfl, by kernel_rfl⟩
def S40_2 (x0 : List Str) (x1 : Str) (x5 : Int) : St := [(0, .v false [.sl .ro .str x0]), (2, .v false [.str x1]), (10, .v false [.int .i64 x5])]
theorem p40_2_0 (x0 : List Str) (x1 : Str) (x5 : Int) : rS 2 I40 (S40_2 x0 x1 x5) [Y, Y] [] = dn (xDK x5) [(decide ((x5 : Int) < (Ln x0 : Int))) = true, (0 : Int) ≤ x5 ∧ x5 < (Ln x0), (((gD x0 (tN x5) Ty.str.dflt) : Str) == x1) = true] := by kernel_rfl
theorem p40_2_1 (x0 : List Str) (x1 : Str) (x5 : Int) : rS 2 I40 (S40_2 x0 x1 x5) [Y, F] [] = st 2 I40 (S40_2 x0 x1 (W (x5 + 1))) [(decide ((x5 : Int) < (Ln x0 : Int))) = true, (0 : Int) ≤ x5 ∧ x5 < (Ln x0), (((gD x0 (tN x5) Ty.str.dflt) : Str) == x1) = false] := by kernel_rfl
theorem p40_2_2 (x0 : List Str) (x1 : Str) (x5 : Int) : rS 2 I40 (S40_2 x0 x1 x5) [F] [] = dn (xDK (-1)) [(decide ((x5 : Int) < (Ln x0 : Int))) = false] := by kernel_rfl
theorem p40_e_3 (a0 : List Str) (a1 : Str) : rE I40 (xFM a0 a1) [] [] = st 2 I40 (S40_2 a0 a1 0) [] := by kernel_rfl
theorem c40_2 {N : Nat} : ∀ n x0 x1 x5 r, xDJ N n x0 x1 x5 = some r → RS Try.f40 I40 2 (S40_2 x0 x1 x5) (xDK r) := by
 intro n
 induction n with
 | zero => exact fun _ _ _ _ h => nE h
 | succ n ih =>
  exact fun x0 x1 x5 r h =>
   cE h (fun h0 h => iE h fun h1 h => cE h (fun h2 h => dS h fk40 (p40_2_0 x0 x1 x5) (oc h0 (oc h1 (oc h2 on)))) fun h2 h =>
   tS fk40 (p40_2_1 x0 x1 x5) (oc h0 (oc h1 (oc h2 on))) (ih _ _ _ _ h)) fun h0 h =>
   dS h fk40 (p40_2_2 x0 x1 x5) (oc h0 on)
theorem c40_e {N : Nat} : ∀ a0 a1 r, xGR N a0 a1 = some r → RE Try.f40 I40 (xFM a0 a1) (xDK r) := fun a0 a1 r h =>
 tE fk40 (p40_e_3 a0 a1) on (c40_2 _ _ _ _ _ h)
theorem spec_IndexOf_ok {N : Nat} {a0 : List Str} {a1 : Str} {r : Int} (h : xGR N  a0 a1 = some r) : AbC 40 (xFM a0 a1) (xDK r) :=
 AbsCalls.of_reach fk40 rfl rfl (Nat.le_of_ble_eq_true rfl) (c40_e a0 a1 r h)
noncomputable def I15 : Info := { body := (Try.f15.body).getD .skip, nt := 9, results := [.tmp 4], keep := [0, 2, 4, 8, 5], live := [], modes := [] }
theorem fk15 : FnOk Try.prog 15 Try.f15 I15 := ⟨Try.func15, by kernel_rfl, by kernel_rfl, by kernel_rfl, by kernel_rfl⟩
theorem p15_e_0 (a0 : Val) (a1 : Str) (r1 : Int) : rE I15 (xAQ a0 a1) [] [xDK r1] = dn (xAA r1) [AbC 40 (xFM (Val.columns a0) a1) (xDK r1)] := by kernel_rfl
theorem c15_e {N : Nat} : ∀ a0 a1 r, xDf N a0 a1 = some r → RE Try.f15 I15 (xAQ a0 a1) (xAA r) := fun a0 a1 r h =>
 bE h fun r1 h0 h => dE h fk15 (p15_e_0 a0 a1 r1) (oc (spec_IndexOf_ok h0) on)
theorem xAZ {N : Nat} {a0 : Val} {a1 : Str} {r : Int} (h : xDf N  a0 a1 = some r) : AbC 15 (xAQ a0 a1) (xAA r) :=
 AbsCalls.of_reach fk15 rfl rfl (Nat.le_of_ble_eq_true rfl) (c15_e a0 a1 r h)
noncomputable def I43 : Info := { body := (Try.f43.body).getD .skip, nt := 12, results := [.cell 2 49], keep := [0, 2, 4, 3, 5], live := [], modes := [] }
theorem fk43 : FnOk Try.prog 43 Try.f43 I43 := ⟨Try.func43, by kernel_rfl, by kernel_rfl, by kernel_rfl, by kernel_rfl⟩
theorem p43_e_0 (a0 : Rowd) : rE I43 (xGu a0) [] [] = dn (xFQ (Rowd.mk ([] ++ (Rowd.cells a0)) ([] ++ (Rowd.frm a0)))) [0 + Ln (Rowd.cells a0) ≤ Lim, 0 + Ln (Rowd.frm a0) ≤ Lim] := by kernel_rfl
theorem c43_e {N : Nat} : ∀ a0 r, xHb N a0 = some r → RE Try.f43 I43 (xGu a0) (xFQ r) := fun a0 r h =>
 iE h fun h0 h => iE h fun h1 h => dE h fk43 (p43_e_0 a0) (oc h0 (oc h1 on))
theorem spec_l3Row_ok {N : Nat} {a0 : Rowd} {r : Rowd} (h : xHb N  a0 = some r) : AbC 43 (xGu a0) (xFQ r) :=
 AbsCalls.of_reach fk43 rfl rfl (Nat.le_of_ble_eq_true rfl) (c43_e a0 r h)
def G18 (q : Val → Option (Val)) : Prop := ∀ a0 r, q a0 = some r → AbC 18 (xD8 a0) (xCf r)
noncomputable def I18 : Info := { body := (Try.f18.body).getD .skip, nt := 56, results := [.cell 2 31], keep := [0, 2, 4, 6, 8, 10, 46, 82, 3, 5, 7], live := [(3, [2, 4, 6, 8, 3, 5, 7]), (7, [2, 4, 6, 10, 3, 5, 7])], modes := [(5, [(1, .take, false), (9, .take, false)]), (9, [(1, .take, false), (9, .take, false)]), (10, [(0, .take, false)])] }
theorem fk18 : FnOk Try.prog 18 Try.f18 I18 := ⟨Try.func18, by kernel_rfl, by kernel_rfl, by kernel_rfl, by kernel_rfl⟩
def S18_3 (x4 : Int) (b1 b2 b3 : Val) : St := [(2, .v false [.ptr 1 0]), (4, .v false [.ptr 2 0]), (6, .v false [.ptr 3 0]), (8, .v false [.int .i64 x4]), (3, .v true [.int .i64 (Val.kind b1), .int .i64 (Val.n b1), .int .i64 (Val.step b1), .str (Val.text b1), .sl .ro .val (Val.list b1), .sl .ro .str (Val.columns b1), .sl .ro .row (Val.rows b1)]), (5, .v true [.int .i64 (Val.kind b2), .int .i64 (Val.n b2), .int .i64 (Val.step b2), .str (Val.text b2), .sl .own .val (Val.list b2), .sl .own .str (Val.columns b2), .sl .own .row (Val.rows b2)]), (7, .v true [.int .i64 (Val.kind b3), .int .i64 (Val.n b3), .int .i64 (Val.step b3), .str (Val.text b3), .sl .own .val (Val.list b3), .sl .own .str (Val.columns b3), .sl .own .row (Val.rows b3)])]
def S18_7 (x5 : Int) (b1 b2 b3 : Val) : St := [(2, .v false [.ptr 1 0]), (4, .v false [.ptr 2 0]), (6, .v false [.ptr 3 0]), (10, .v false [.int .i64 x5]), (3, .v true [.int .i64 (Val.kind b1), .int .i64 (Val.n b1), .int .i64 (Val.step b1), .str (Val.text b1), .sl .ro .val (Val.list b1), .sl .ro .str (Val.columns b1), .sl .ro .row (Val.rows b1)]), (5, .v true [.int .i64 (Val.kind b2), .int .i64 (Val.n b2), .int .i64 (Val.step b2), .str (Val.text b2), .sl .own .val (Val.list b2), .sl .own .str (Val.columns b2), .sl .own .row (Val.rows b2)]), (7, .v true [.int .i64 (Val.kind b3), .int .i64 (Val.n b3), .int .i64 (Val.step b3), .str (Val.text b3), .sl .own .val (Val.list b3), .sl .own .str (Val.columns b3), .sl .own .row (Val.rows b3)])]
theorem p18_7_0 (x5 : Int) (b1 b2 b3 : Val) (r1 : Rowd) : rS 7 I18 (S18_7 x5 b1 b2 b3) [Y] [xFQ r1] = st 7 I18 (S18_7 (W (x5 + 1)) b1 b2 (Val.mk (Val.kind b3) (Val.n b3) (Val.step b3) (Val.text b3) (Val.list b3) (Val.columns b3) ((Val.rows b3) ++ [r1]))) [(decide ((x5 : Int) < (Ln (Val.rows b1) : Int))) = true, (0 : Int) ≤ x5 ∧ x5 < (Ln (Val.rows b1)), AbC 43 (xGu (gD (Val.rows b1) (tN x5) rd)) (xFQ r1), Ln (Val.rows b3) + Ln [r1] ≤ Lim] := by kernel_rfl
theorem p18_7_1 (x5 : Int) (b1 b2 b3 : Val) : rS 7 I18 (S18_7 x5 b1 b2 b3) [F] [] = dn (xCf b3) [(decide ((x5 : Int) < (Ln (Val.rows b1) : Int))) = false] := by kernel_rfl
theorem p18_3_2 (x4 : Int) (b1 b2 b3 r1 : Val) : rS 3 I18 (S18_3 x4 b1 b2 b3) [Y] [xCf r1] = st 3 I18 (S18_3 (W (x4 + 1)) b1 b2 (Val.mk (Val.kind b3) (Val.n b3) (Val.step b3) (Val.text b3) ((Val.list b3) ++ [(Val.re r1)]) (Val.columns b3) (Val.rows b3))) [(decide ((x4 : Int) < (Ln (Val.list b1) : Int))) = true, (0 : Int) ≤ x4 ∧ x4 < (Ln (Val.list b1)), AbC 18 (xD8 (gD (Val.list b1) (tN x4) vd)) (xCf r1), Ln (Val.list b3) + Ln [(Val.re r1)] ≤ Lim] := by kernel_rfl
theorem p18_3_3 (x4 : Int) (b1 b2 b3 : Val) : rS 3 I18 (S18_3 x4 b1 b2 b3) [F] [] = st 7 I18 (S18_7 0 b1 b2 b3) [(decide ((x4 : Int) < (Ln (Val.list b1) : Int))) = false] := by kernel_rfl
theorem p18_e_4 (a0 : Val) : rE I18 (xD8 a0) [] [] = st 3 I18 (S18_3 0 a0 (Val.mk 0 0 0 [] [] [] []) (Val.mk (Val.kind a0) (Val.n a0) (Val.step a0) (Val.text a0) [] ([] ++ (Val.columns a0)) [])) [0 + Ln (Val.columns a0) ≤ Lim] := by kernel_rfl
theorem c18_7 {N : Nat} {q0 : Val → Option (Val)} (g0 : G18 q0) : ∀ n x5 b1 b2 b3 r, xD9 N q0 n x5 b1 b2 b3 = some r → RS Try.f18 I18 7 (S18_7 x5 b1 b2 b3) (xCf r) := by
 intro n
 induction n with
 | zero => exact fun _ _ _ _ _ h => nE h
 | succ n ih =>
  exact fun x5 b1 b2 b3 r h =>
   cE h (fun h0 h => iE h fun h1 h => bE h fun r1 h2 h => iE h fun h3 h => tS fk18 (p18_7_0 x5 b1 b2 b3 r1) (oc h0 (oc h1 (oc (spec_l3Row_ok h2) (oc h3 on)))) (ih _ _ _ _ _ h)) fun h0 h =>
   dS h fk18 (p18_7_1 x5 b1 b2 b3) (oc h0 on)
theorem c18_3 {N : Nat} {q0 : Val → Option (Val)} (g0 : G18 q0) : ∀ n x4 b1 b2 b3 r, xEG N q0 n x4 b1 b2 b3 = some r → RS Try.f18 I18 3 (S18_3 x4 b1 b2 b3) (xCf r) := by
 intro n
 induction n with
 | zero => exact fun _ _ _ _ _ h => nE h
 | succ n ih =>
  exact fun x4 b1 b2 b3 r h =>
   cE h (fun h0 h => iE h fun h1 h => bE h fun r1 h2 h => iE h fun h3 h => tS fk18 (p18_3_2 x4 b1 b2 b3 r1) (oc h0 (oc h1 (oc (g0 _ _ h2) (oc h3 on)))) (ih _ _ _ _ _ h)) fun h0 h =>
   tS fk18 (p18_3_3 x4 b1 b2 b3) (oc h0 on) (c18_7 g0 _ _ _ _ _ _ h)
theorem c18_e {N : Nat} {q0 : Val → Option (Val)} (g0 : G18 q0) : ∀ a0 r, xEz N q0 a0 = some r → RE Try.f18 I18 (xD8 a0) (xCf r) := fun a0 r h =>
 iE h fun h0 h => tE fk18 (p18_e_4 a0) (oc h0 on) (c18_3 g0 _ _ _ _ _ _ h)
theorem xIi {N : Nat} {q0 : Val → Option (Val)} (g0 : G18 q0) {a0 : Val} {r : Val} (h : xEz N q0 a0 = some r) : AbC 18 (xD8 a0) (xCf r) :=
 AbsCalls.of_reach fk18 rfl rfl (Nat.le_of_ble_eq_true rfl) (c18_e g0 a0 r h)
theorem xGU {N : Nat} : ∀ d, G18 (xDM N d)
 | 0 => fun _ _ h => nE h
 | d + 1 => fun _ _ h => xIi (N := N) (xGU d) h
theorem spec_l3Copy_ok {N : Nat} {a0 : Val} {r : Val} (h : xIh N a0 = some r) : AbC 18 (xD8 a0) (xCf r) := xGU N _ r h
noncomputable def I5 : Info := { body := (Try.f5.body).getD .skip, nt := 115, results := [.cell 8 31], keep := [0, 2, 4, 6, 8, 10, 12, 14, 16, 18, 20, 22, 24, 26, 28, 30, 52, 108, 118, 148, 196, 9, 11, 13, 15, 17, 19, 27], live := [(13, [14, 16, 22, 24, 26, 28, 15, 17, 27])], modes := [(1, [(7, .take, false)]), (2, [(0, .take, false)]), (3, [(0, .take, false)]), (6, [(4, .take, false), (11, .take, false), (15, .take, false)]), (11, [(1, .take, false)]), (18, [(1, .ref, false), (4, .ref, false), (8, .ref, false)]), (19, [(0, .take, false)])] }
theorem fk5 : FnOk Try.prog 5 Try.f5 I5 := ⟨Try.func5, by kernel_rfl, by kernel_rfl, by kernel_rfl, by kernel_rfl⟩
def S5_13 (x11 x12 x14 : Int) (b7 b8 b13 : Val) : St := [(14, .v false [.ptr 7 0]), (16, .v false [.ptr 8 0]), (22, .v false [.int .i64 x11]), (24, .v false [.int .i64 x12]), (26, .v false [.ptr 13 0]), (28, .v false [.int .i64 x14]), (15, .v true [.int .i64 (Val.kind b7), .int .i64 (Val.n b7), .int .i64 (Val.step b7), .str (Val.text b7), .sl .ro .val (Val.list b7), .sl .ro .str (Val.columns b7), .sl .ro .row (Val.rows b7)]), (17, .v true [.int .i64 (Val.kind b8), .int .i64 (Val.n b8), .int .i64 (Val.step b8), .str (Val.text b8), .sl .own .val (Val.list b8), .sl .own .str (Val.columns b8), .sl .own .row (Val.rows b8)]), (27, .v true [.int .i64 (Val.kind b13), .int .i64 (Val.n b13), .int .i64 (Val.step b13), .str (Val.text b13), .sl .own .val (Val.list b13), .sl .own .str (Val.columns b13), .sl .own .row (Val.rows b13)])]
theorem p5_13_0 (x11 x12 x14 : Int) (b7 b8 b13 : Val) (r1 : Bool) (r2 : Val) : rS 13 I5 (S5_13 x11 x12 x14 b7 b8 b13) [Y, Y] [xA3 r1, xAR r2] = dn (xAo r2) [(decide ((x14 : Int) < (Ln (Val.rows b13) : Int))) = true, (0 : Int) ≤ x14 ∧ x14 < (Ln (Val.rows b7)), (0 : Int) ≤ x11 ∧ x11 < (Ln (Rowd.cells (gD (Val.rows b7) (tN x14) rd))), (0 : Int) ≤ x14 ∧ x14 < (Ln (Val.rows b7)), (0 : Int) ≤ x12 ∧ x12 < (Ln (Rowd.cells (gD (Val.rows b7) (tN x14) rd))), AbC 19 (xBT (W ((gD (Rowd.cells (gD (Val.rows b7) (tN x14) rd)) (tN x11) Ty.int.dflt) + (gD (Rowd.cells (gD (Val.rows b7) (tN x14) rd)) (tN x12) Ty.int.dflt)))) (xA3 r1), (!r1) = true, AbC 17 (xBr 5) (xAR r2)] := by kernel_rfl
theorem p5_13_1 (x11 x12 x14 : Int) (b7 b8 b13 : Val) (r1 : Bool) : rS 13 I5 (S5_13 x11 x12 x14 b7 b8 b13) [Y, F] [xA3 r1] = st 13 I5 (S5_13 x11 x12 (W (x14 + 1)) b7 b8 (Val.mk (Val.kind b13) (Val.n b13) (Val.step b13) (Val.text b13) (Val.list b13) (Val.columns b13) (List.set (Val.rows b13) (tN x14) (Rowd.mk ((Rowd.cells (gD (Val.rows b13) (tN x14) rd)) ++ [(W ((gD (Rowd.cells (gD (Val.rows b7) (tN x14) rd)) (tN x11) Ty.int.dflt) + (gD (Rowd.cells (gD (Val.rows b7) (tN x14) rd)) (tN x12) Ty.int.dflt)))]) (Rowd.frm (gD (Val.rows b13) (tN x14) rd)))))) [(decide ((x14 : Int) < (Ln (Val.rows b13) : Int))) = true, (0 : Int) ≤ x14 ∧ x14 < (Ln (Val.rows b7)), (0 : Int) ≤ x11 ∧ x11 < (Ln (Rowd.cells (gD (Val.rows b7) (tN x14) rd))), (0 : Int) ≤ x14 ∧ x14 < (Ln (Val.rows b7)), (0 : Int) ≤ x12 ∧ x12 < (Ln (Rowd.cells (gD (Val.rows b7) (tN x14) rd))), AbC 19 (xBT (W ((gD (Rowd.cells (gD (Val.rows b7) (tN x14) rd)) (tN x11) Ty.int.dflt) + (gD (Rowd.cells (gD (Val.rows b7) (tN x14) rd)) (tN x12) Ty.int.dflt)))) (xA3 r1), (!r1) = false, (0 : Int) ≤ x14 ∧ x14 < (Ln (Val.rows b13)), Ln (Rowd.cells (gD (Val.rows b13) (tN x14) rd)) + Ln [(W ((gD (Rowd.cells (gD (Val.rows b7) (tN x14) rd)) (tN x11) Ty.int.dflt) + (gD (Rowd.cells (gD (Val.rows b7) (tN x14) rd)) (tN x12) Ty.int.dflt)))] ≤ Lim, (0 : Int) ≤ x14 ∧ x14 < (Ln (Val.rows b13)), (27 : Nat) = 27 ∧ (6 : Nat) = 6 ∧ ([((tN x14), 0)] : List (Nat × Nat)) = [((tN x14), 0)]] := by kernel_rfl
theorem p5_13_2 (x11 x12 x14 : Int) (b7 b8 b13 : Val) : rS 13 I5 (S5_13 x11 x12 x14 b7 b8 b13) [F] [] = dn (xAo b13) [(decide ((x14 : Int) < (Ln (Val.rows b13) : Int))) = false] := by kernel_rfl
theorem p5_e_3 (a0 a1 a2 a3 : Val) (r1 : Val × Bool) : rE I5 (xAx a0 a1 a2 a3) [Y] [xA7 r1] = dn (xAo r1.1) [AbC 14 (xB4 [(Val.re a0), (Val.re a1), (Val.re a2), (Val.re a3)] [2, 2, 2, 5]) (xA7 r1), r1.2 = true] := by kernel_rfl
theorem p5_e_4 (a0 a1 a2 a3 : Val) (r1 : Val × Bool) (r2 r3 : Int) (r4 : Bool) (r5 : Val) : rE I5 (xAx a0 a1 a2 a3) [F, Y, Y, Y, Y] [xA7 r1, xAA r2, xAA r3, xAP r4, xAR r5] = dn (xAo r5) [AbC 14 (xB4 [(Val.re a0), (Val.re a1), (Val.re a2), (Val.re a3)] [2, 2, 2, 5]) (xA7 r1), r1.2 = false, AbC 15 (xAQ a3 (Val.text a1)) (xAA r2), AbC 15 (xAQ a3 (Val.text a2)) (xAA r3), AbC 16 (xBh (Val.text a0)) (xAP r4), (!r4) = true, true = true, true = true, true = true, AbC 17 (xBr 7) (xAR r5)] := by kernel_rfl
theorem p5_e_5 (a0 a1 a2 a3 : Val) (r1 : Val × Bool) (r2 r3 : Int) (r4 : Bool) (r5 : Int) (r6 : Val) : rE I5 (xAx a0 a1 a2 a3) [F, F, Y, Y, Y] [xA7 r1, xAA r2, xAA r3, xAP r4, xAA r5, xAR r6] = dn (xAo r6) [AbC 14 (xB4 [(Val.re a0), (Val.re a1), (Val.re a2), (Val.re a3)] [2, 2, 2, 5]) (xA7 r1), r1.2 = false, AbC 15 (xAQ a3 (Val.text a1)) (xAA r2), AbC 15 (xAQ a3 (Val.text a2)) (xAA r3), AbC 16 (xBh (Val.text a0)) (xAP r4), (!r4) = false, AbC 15 (xAQ a3 (Val.text a0)) (xAA r5), (decide ((r5 : Int) ≥ 0)) = true, true = true, true = true, AbC 17 (xBr 7) (xAR r6)] := by kernel_rfl
theorem p5_e_6 (a0 a1 a2 a3 : Val) (r1 : Val × Bool) (r2 r3 : Int) (r4 : Bool) (r5 : Int) (r6 : Val) : rE I5 (xAx a0 a1 a2 a3) [F, F, F, Y, Y] [xA7 r1, xAA r2, xAA r3, xAP r4, xAA r5, xAR r6] = dn (xAo r6) [AbC 14 (xB4 [(Val.re a0), (Val.re a1), (Val.re a2), (Val.re a3)] [2, 2, 2, 5]) (xA7 r1), r1.2 = false, AbC 15 (xAQ a3 (Val.text a1)) (xAA r2), AbC 15 (xAQ a3 (Val.text a2)) (xAA r3), AbC 16 (xBh (Val.text a0)) (xAP r4), (!r4) = false, AbC 15 (xAQ a3 (Val.text a0)) (xAA r5), (decide ((r5 : Int) ≥ 0)) = false, (decide ((r2 : Int) < 0)) = true, true = true, AbC 17 (xBr 7) (xAR r6)] := by kernel_rfl
theorem p5_e_7 (a0 a1 a2 a3 : Val) (r1 : Val × Bool) (r2 r3 : Int) (r4 : Bool) (r5 : Int) (r6 : Val) : rE I5 (xAx a0 a1 a2 a3) [F, F, F, F, Y] [xA7 r1, xAA r2, xAA r3, xAP r4, xAA r5, xAR r6] = dn (xAo r6) [AbC 14 (xB4 [(Val.re a0), (Val.re a1), (Val.re a2), (Val.re a3)] [2, 2, 2, 5]) (xA7 r1), r1.2 = false, AbC 15 (xAQ a3 (Val.text a1)) (xAA r2), AbC 15 (xAQ a3 (Val.text a2)) (xAA r3), AbC 16 (xBh (Val.text a0)) (xAP r4), (!r4) = false, AbC 15 (xAQ a3 (Val.text a0)) (xAA r5), (decide ((r5 : Int) ≥ 0)) = false, (decide ((r2 : Int) < 0)) = false, (decide ((r3 : Int) < 0)) = true, AbC 17 (xBr 7) (xAR r6)] := by kernel_rfl
theorem p5_e_8 (a0 a1 a2 a3 : Val) (r1 : Val × Bool) (r2 r3 : Int) (r4 : Bool) (r5 : Int) (r6 : Val) : rE I5 (xAx a0 a1 a2 a3) [F, F, F, F, F, Y] [xA7 r1, xAA r2, xAA r3, xAP r4, xAA r5, xAR r6] = dn (xAo r6) [AbC 14 (xB4 [(Val.re a0), (Val.re a1), (Val.re a2), (Val.re a3)] [2, 2, 2, 5]) (xA7 r1), r1.2 = false, AbC 15 (xAQ a3 (Val.text a1)) (xAA r2), AbC 15 (xAQ a3 (Val.text a2)) (xAA r3), AbC 16 (xBh (Val.text a0)) (xAP r4), (!r4) = false, AbC 15 (xAQ a3 (Val.text a0)) (xAA r5), (decide ((r5 : Int) ≥ 0)) = false, (decide ((r2 : Int) < 0)) = false, (decide ((r3 : Int) < 0)) = false, (((Ln (Val.columns a3) : Int) : Int) == 4) = true, AbC 17 (xBr 6) (xAR r6)] := by kernel_rfl
theorem p5_e_9 (a0 a1 a2 a3 : Val) (r1 : Val × Bool) (r2 r3 : Int) (r4 : Bool) (r5 : Int) (r6 : Val) : rE I5 (xAx a0 a1 a2 a3) [F, F, F, F, F, F] [xA7 r1, xAA r2, xAA r3, xAP r4, xAA r5, xCf r6] = st 13 I5 (S5_13 r2 r3 0 a3 (Val.mk 0 0 0 [] [] [] []) (Val.mk (Val.kind r6) (Val.n r6) (Val.step r6) (Val.text r6) (Val.list r6) ((Val.columns r6) ++ [(Val.text a0)]) (Val.rows r6))) [AbC 14 (xB4 [(Val.re a0), (Val.re a1), (Val.re a2), (Val.re a3)] [2, 2, 2, 5]) (xA7 r1), r1.2 = false, AbC 15 (xAQ a3 (Val.text a1)) (xAA r2), AbC 15 (xAQ a3 (Val.text a2)) (xAA r3), AbC 16 (xBh (Val.text a0)) (xAP r4), (!r4) = false, AbC 15 (xAQ a3 (Val.text a0)) (xAA r5), (decide ((r5 : Int) ≥ 0)) = false, (decide ((r2 : Int) < 0)) = false, (decide ((r3 : Int) < 0)) = false, (((Ln (Val.columns a3) : Int) : Int) == 4) = false, AbC 18 (xD8 a3) (xCf r6), Ln (Val.columns r6) + Ln [(Val.text a0)] ≤ Lim] := by kernel_rfl
theorem c5_13 {N : Nat} : ∀ n x11 x12 x14 b7 b8 b13 r, xCa N n x11 x12 x14 b7 b8 b13 = some r → RS Try.f5 I5 13 (S5_13 x11 x12 x14 b7 b8 b13) (xAo r) := by
 intro n
 induction n with
 | zero => exact fun _ _ _ _ _ _ _ h => nE h
 | succ n ih =>
  exact fun x11 x12 x14 b7 b8 b13 r h =>
   cE h (fun h0 h => iE h fun h1 h => iE h fun h2 h => iE h fun h4 h => bE h fun r1 h5 h => cE h (fun h6 h => bE h fun r2 h7 h => dS h fk5 (p5_13_0 x11 x12 x14 b7 b8 b13 r1 r2) (oc h0 (oc h1 (oc h2 (oc h1 (oc h4 (oc (xCN h5) (oc h6 (oc (xBY h7) on))))))))) fun h6 h =>
   iE h fun h7 h => iE h fun h8 h => tS fk5 (p5_13_1 x11 x12 x14 b7 b8 b13 r1) (oc h0 (oc h1 (oc h2 (oc h1 (oc h4 (oc (xCN h5) (oc h6 (oc h7 (oc h8 (oc h7 (oc ⟨rfl, rfl, rfl⟩ on))))))))))) (ih _ _ _ _ _ _ _ h)) fun h0 h =>
   dS h fk5 (p5_13_2 x11 x12 x14 b7 b8 b13) (oc h0 on)
theorem c5_e {N : Nat} : ∀ a0 a1 a2 a3 r, xCc N a0 a1 a2 a3 = some r → RE Try.f5 I5 (xAx a0 a1 a2 a3) (xAo r) := fun a0 a1 a2 a3 r h =>
 bE h fun r1 h0 h => cE h (fun h1 h => dE h fk5 (p5_e_3 a0 a1 a2 a3 r1) (oc (xDO h0) (oc h1 on))) fun h1 h =>
 bE h fun r2 h2 h => bE h fun r3 h3 h => bE h fun r4 h4 h => cE h (fun h5 h => bE h fun r5 h9 h => dE h fk5 (p5_e_4 a0 a1 a2 a3 r1 r2 r3 r4 r5) (oc (xDO h0) (oc h1 (oc (xAZ h2) (oc (xAZ h3) (oc (xB1 h4) (oc h5 (oc rfl (oc rfl (oc rfl (oc (xBY h9) on))))))))))) fun h5 h =>
 bE h fun r5 h6 h => cE h (fun h7 h => bE h fun r6 h10 h => dE h fk5 (p5_e_5 a0 a1 a2 a3 r1 r2 r3 r4 r5 r6) (oc (xDO h0) (oc h1 (oc (xAZ h2) (oc (xAZ h3) (oc (xB1 h4) (oc h5 (oc (xAZ h6) (oc h7 (oc rfl (oc rfl (oc (xBY h10) on)))))))))))) fun h7 h =>
 cE h (fun h8 h => bE h fun r6 h10 h => dE h fk5 (p5_e_6 a0 a1 a2 a3 r1 r2 r3 r4 r5 r6) (oc (xDO h0) (oc h1 (oc (xAZ h2) (oc (xAZ h3) (oc (xB1 h4) (oc h5 (oc (xAZ h6) (oc h7 (oc h8 (oc rfl (oc (xBY h10) on)))))))))))) fun h8 h =>
 cE h (fun h9 h => bE h fun r6 h10 h => dE h fk5 (p5_e_7 a0 a1 a2 a3 r1 r2 r3 r4 r5 r6) (oc (xDO h0) (oc h1 (oc (xAZ h2) (oc (xAZ h3) (oc (xB1 h4) (oc h5 (oc (xAZ h6) (oc h7 (oc h8 (oc h9 (oc (xBY h10) on)))))))))))) fun h9 h =>
 cE h (fun h10 h => bE h fun r6 h11 h => dE h fk5 (p5_e_8 a0 a1 a2 a3 r1 r2 r3 r4 r5 r6) (oc (xDO h0) (oc h1 (oc (xAZ h2) (oc (xAZ h3) (oc (xB1 h4) (oc h5 (oc (xAZ h6) (oc h7 (oc h8 (oc h9 (oc h10 (oc (xBY h11) on))))))))))))) fun h10 h =>
 bE h fun r6 h11 h => iE h fun h12 h => tE fk5 (p5_e_9 a0 a1 a2 a3 r1 r2 r3 r4 r5 r6) (oc (xDO h0) (oc h1 (oc (xAZ h2) (oc (xAZ h3) (oc (xB1 h4) (oc h5 (oc (xAZ h6) (oc h7 (oc h8 (oc h9 (oc h10 (oc (spec_l3Copy_ok h11) (oc h12 on))))))))))))) (c5_13 _ _ _ _ _ _ _ _ h)
theorem xAF {N : Nat} {a0 : Val} {a1 : Val} {a2 : Val} {a3 : Val} {r : Val} (h : xCc N  a0 a1 a2 a3 = some r) : AbC 5 (xAx a0 a1 a2 a3) (xAo r) :=
 AbsCalls.of_reach fk5 rfl rfl (Nat.le_of_ble_eq_true rfl) (c5_e a0 a1 a2 a3 r h)
noncomputable def I52 : Info := { body := (Try.f52.body).getD .skip, nt := 15, results := [.tmp 6], keep := [0, 2, 4, 12], live := [], modes := [(1, [(3, .take, false)])] }
theorem fk52 : FnOk Try.prog 52 Try.f52 I52 := ⟨Try.func52, by kernel_rfl, by kernel_rfl, by kernel_rfl, by kernel_rfl⟩
theorem p52_e_0 (a0 a1 a2 : Int) : rE I52 (xC0 a0 a1 a2) [Y] [] = dn (xBI (decide ((a0 : Int) ≤ a2))) [(decide ((a1 : Int) ≤ a0)) = true] := by kernel_rfl
theorem p52_e_1 (a0 a1 a2 : Int) : rE I52 (xC0 a0 a1 a2) [F] [] = dn (xBI false) [(decide ((a1 : Int) ≤ a0)) = false] := by kernel_rfl
theorem c52_e {N : Nat} : ∀ a0 a1 a2 r, xEP N a0 a1 a2 = some r → RE Try.f52 I52 (xC0 a0 a1 a2) (xBI r) := fun a0 a1 a2 r h =>
 cE h (fun h0 h => dE h fk52 (p52_e_0 a0 a1 a2) (oc h0 on)) fun h0 h =>
 dE h fk52 (p52_e_1 a0 a1 a2) (oc h0 on)
theorem xFb {N : Nat} {a0 : Int} {a1 : Int} {a2 : Int} {r : Bool} (h : xEP N  a0 a1 a2 = some r) : AbC 52 (xC0 a0 a1 a2) (xBI r) :=
 AbsCalls.of_reach fk52 rfl rfl (Nat.le_of_ble_eq_true rfl) (c52_e a0 a1 a2 r h)
end Go.Ab.T
end
