/- The statement FnTakeSkip holds: plain functions, certificates, laws. Conditions: none. -/
import Derived.Test.YtbcfnggjagchiaaChecked
import Derived.Test.YtbcfnggjagchiaaProg
import Derived.Test.YtbcfnggjagchiaaRows
import Derived.Test.YtbcfnggjagchiaaL2
set_option linter.all false
section
namespace Go.Ab
set_option linter.unusedVariables false
def xHr (N : Nat) : Nat → (List Str) → Int → Int → Option (Int)
  | 0, _, _, _ => none
  | n + 1, x0, x1, x5 =>
    bif (decide ((x5 : Int) < (List.length x0 : Int))) then (
      if (0 : Int) ≤ x5 ∧ x5 < (List.length x0) then
      bif (decide (((IntKind.i64.wrap (x1 - (List.length (List.getD x0 (Int.toNat x5) Ty.str.dflt) : Int))) : Int) < 0)) then (
        some (-1)
      ) else (
        (xHr N n x0 (IntKind.i64.wrap (x1 - (List.length (List.getD x0 (Int.toNat x5) Ty.str.dflt) : Int))) (IntKind.i64.wrap (x5 + 1)))
      )
      else none
    ) else (
      some x1
    )
def laws_szStringS (N : Nat) (a0 : List Str) (a1 : Int) : Option (Int) :=
  bif (decide (((IntKind.i64.wrap (a1 - (List.length a0 : Int))) : Int) < 0)) then (
    some (-1)
  ) else (
    (xHr N N a0 (IntKind.i64.wrap (a1 - (List.length a0 : Int))) 0)
  )
def laws_szIntS (N : Nat) (a0 : List Int) (a1 : Int) : Option (Int) :=
  bif (decide (((IntKind.i64.wrap (a1 - (List.length a0 : Int))) : Int) < 0)) then (
    some (-1)
  ) else (
    some (IntKind.i64.wrap (a1 - (List.length a0 : Int)))
  )
def laws_szOriginS (N : Nat) (a0 : List Org) (a1 : Int) : Option (Int) :=
  bif (decide (((IntKind.i64.wrap (a1 - (List.length a0 : Int))) : Int) < 0)) then (
    some (-1)
  ) else (
    some (IntKind.i64.wrap (a1 - (List.length a0 : Int)))
  )
def laws_szRow (N : Nat) (a0 : Rowd) (a1 : Int) : Option (Int) :=
  Option.bind (laws_szIntS N (Rowd.cells a0) a1) fun r1 =>
  bif (decide ((r1 : Int) < 0)) then (
    some (-1)
  ) else (
    Option.bind (laws_szOriginS N (Rowd.frm a0) r1) fun r2 =>
    bif (decide ((r2 : Int) < 0)) then (
      some (-1)
    ) else (
      some r2
    )
  )
def xIi (N : Nat) : Nat → (List Rowd) → Int → Int → Option (Int)
  | 0, _, _, _ => none
  | n + 1, x0, x1, x5 =>
    bif (decide ((x5 : Int) < (List.length x0 : Int))) then (
      if (0 : Int) ≤ x5 ∧ x5 < (List.length x0) then
      Option.bind (laws_szRow N (List.getD x0 (Int.toNat x5) Ty.row.dflt) x1) fun r1 =>
      bif (decide ((r1 : Int) < 0)) then (
        some (-1)
      ) else (
        (xIi N n x0 r1 (IntKind.i64.wrap (x5 + 1)))
      )
      else none
    ) else (
      some x1
    )
def laws_szRowS (N : Nat) (a0 : List Rowd) (a1 : Int) : Option (Int) :=
  bif (decide (((IntKind.i64.wrap (a1 - (List.length a0 : Int))) : Int) < 0)) then (
    some (-1)
  ) else (
    (xIi N N a0 (IntKind.i64.wrap (a1 - (List.length a0 : Int))) 0)
  )
def laws_szValue_body (N : Nat) (q0 : Val → Int → Option (Int)) (q1 : (List Val) → Int → Option (Int)) (a0 : Val) (a1 : Int) : Option (Int) :=
  bif (decide (((IntKind.i64.wrap (a1 - (List.length (Val.text a0) : Int))) : Int) < 0)) then (
    some (-1)
  ) else (
    Option.bind (q1 (Val.list a0) (IntKind.i64.wrap (a1 - (List.length (Val.text a0) : Int)))) fun r1 =>
    bif (decide ((r1 : Int) < 0)) then (
      some (-1)
    ) else (
      Option.bind (laws_szStringS N (Val.columns a0) r1) fun r2 =>
      bif (decide ((r2 : Int) < 0)) then (
        some (-1)
      ) else (
        Option.bind (laws_szRowS N (Val.rows a0) r2) fun r3 =>
        bif (decide ((r3 : Int) < 0)) then (
          some (-1)
        ) else (
          some r3
        )
      )
    )
  )
def xHS (N : Nat) (q0 : Val → Int → Option (Int)) (q1 : (List Val) → Int → Option (Int)) : Nat → (List Val) → Int → Int → Option (Int)
  | 0, _, _, _ => none
  | n + 1, x0, x1, x5 =>
    bif (decide ((x5 : Int) < (List.length x0 : Int))) then (
      if (0 : Int) ≤ x5 ∧ x5 < (List.length x0) then
      Option.bind (q0 (List.getD x0 (Int.toNat x5) Ty.val.dflt) x1) fun r1 =>
      bif (decide ((r1 : Int) < 0)) then (
        some (-1)
      ) else (
        (xHS N q0 q1 n x0 r1 (IntKind.i64.wrap (x5 + 1)))
      )
      else none
    ) else (
      some x1
    )
def laws_szValueS_body (N : Nat) (q0 : Val → Int → Option (Int)) (q1 : (List Val) → Int → Option (Int)) (a0 : List Val) (a1 : Int) : Option (Int) :=
  bif (decide (((IntKind.i64.wrap (a1 - (List.length a0 : Int))) : Int) < 0)) then (
    some (-1)
  ) else (
    (xHS N q0 q1 N a0 (IntKind.i64.wrap (a1 - (List.length a0 : Int))) 0)
  )
structure laws_szValue_rec where
  c_laws_szValue : Val → Int → Option (Int)
  c_laws_szValueS : (List Val) → Int → Option (Int)
def xFM (N : Nat) : Nat → laws_szValue_rec
  | 0 => ⟨fun _ _ => none, fun _ _ => none⟩
  | d + 1 => ⟨laws_szValue_body N (xFM N d).c_laws_szValue (xFM N d).c_laws_szValueS, laws_szValueS_body N (xFM N d).c_laws_szValue (xFM N d).c_laws_szValueS⟩
def laws_toStringS_b3 (N : Nat) : Nat → (List Str) → (List Str) → Int → Option ((List Str))
  | 0, _, _, _ => none
  | n + 1, x0, x3, x4 =>
    bif (decide ((x4 : Int) < (List.length x0 : Int))) then (
      if (0 : Int) ≤ x4 ∧ x4 < (List.length x0) then
      if (0 : Int) ≤ x4 ∧ x4 < (List.length x3) then
      (laws_toStringS_b3 N n x0 (List.set x3 (Int.toNat x4) (List.getD x0 (Int.toNat x4) Ty.str.dflt)) (IntKind.i64.wrap (x4 + 1)))
      else none
      else none
    ) else (
      some x3
    )
def laws_toIntS_b3 (N : Nat) : Nat → (List Int) → (List Int) → Int → Option ((List Int))
  | 0, _, _, _ => none
  | n + 1, x0, x3, x4 =>
    bif (decide ((x4 : Int) < (List.length x0 : Int))) then (
      if (0 : Int) ≤ x4 ∧ x4 < (List.length x0) then
      if (0 : Int) ≤ x4 ∧ x4 < (List.length x3) then
      (laws_toIntS_b3 N n x0 (List.set x3 (Int.toNat x4) (List.getD x0 (Int.toNat x4) Ty.int.dflt)) (IntKind.i64.wrap (x4 + 1)))
      else none
      else none
    ) else (
      some x3
    )
def laws_toOrigin (N : Nat) (a0 : Org) : Option (Org) :=
  some a0
def laws_toOriginS_b3 (N : Nat) : Nat → (List Org) → (List Org) → Int → Option ((List Org))
  | 0, _, _, _ => none
  | n + 1, x0, x3, x4 =>
    bif (decide ((x4 : Int) < (List.length x0 : Int))) then (
      if (0 : Int) ≤ x4 ∧ x4 < (List.length x0) then
      Option.bind (laws_toOrigin N (List.getD x0 (Int.toNat x4) Ty.org.dflt)) fun r1 =>
      if (0 : Int) ≤ x4 ∧ x4 < (List.length x3) then
      (laws_toOriginS_b3 N n x0 (List.set x3 (Int.toNat x4) r1) (IntKind.i64.wrap (x4 + 1)))
      else none
      else none
    ) else (
      some x3
    )
def xD3 (a0 : Int) (a1 : Int) (a2 : Int) : List Arg := [.val (.v false [.int .i64 a0]), .val (.v false [.int .i64 a1]), .val (.v false [.int .i64 a2])]
def xCz (r : Bool) : CallO := ⟨.v false [.bool r], [], []⟩
def xGF (N : Nat) (a0 : Int) (a1 : Int) (a2 : Int) : Option (Bool) :=
  bif (decide ((a0 : Int) ≥ a1)) then (
    some (decide ((a0 : Int) ≤ a2))
  ) else (
    some false
  )
def xCs (a0 : Int) : List Arg := [.val (.v false [.int .i64 a0])]
def xBk (r : Bool) : CallO := ⟨.v false [.bool r], [], []⟩
def xDY (N : Nat) (a0 : Int) : Option (Bool) :=
  Option.bind (xGF N a0 (-1000000000) 1000000000) fun r1 =>
  some r1
def xEX (a0 : Str) : List Arg := [.val (.v false [.str a0])]
def xCi (r : Bool) : CallO := ⟨.v false [.bool r], [], []⟩
def xCD (N : Nat) : Nat → Str → Int → Option (Bool)
  | 0, _, _ => none
  | n + 1, x0, x3 =>
    bif (decide ((x3 : Int) < (List.length x0 : Int))) then (
      if (0 : Int) ≤ x3 ∧ x3 < (List.length x0) then
      bif (decide ((((List.getD x0 (Int.toNat x3) 0).toNat : Int) : Int) < 32)) then (
        some false
      ) else (
        bif (decide ((((List.getD x0 (Int.toNat x3) 0).toNat : Int) : Int) > 126)) then (
          some false
        ) else (
          bif ((((List.getD x0 (Int.toNat x3) 0).toNat : Int) : Int) == 34) then (
            some false
          ) else (
            (xCD N n x0 (IntKind.i64.wrap (x3 + 1)))
          )
        )
      )
      else none
    ) else (
      some (decide (((List.length x0 : Int) : Int) ≤ 20))
    )
def xFO (N : Nat) (a0 : Str) : Option (Bool) :=
  (xCD N N a0 0)
def xC5 (a0 : Val) : List Arg := [.val (.v true [.int .i64 (Val.kind a0), .int .i64 (Val.n a0), .int .i64 (Val.step a0), .str (Val.text a0), .sl .ro .val (Val.list a0), .sl .ro .str (Val.columns a0), .sl .ro .row (Val.rows a0)])]
def xB1 (r : Bool) : CallO := ⟨.v false [.bool r], [], []⟩
def xGz (N : Nat) (a0 : Val) : Option (Bool) :=
  bif (((Val.kind a0) : Int) == 1) then (
    some true
  ) else (
    bif (((Val.kind a0) : Int) == 2) then (
      some true
    ) else (
      some (((Val.kind a0) : Int) == 3)
    )
  )
def xF7 (a0 : Int) (a1 : Int) : List Arg := [.val (.v false [.int .i64 a0]), .val (.v false [.int .i64 a1])]
def xFw (r : Int) : CallO := ⟨.v false [.int .i64 r], [], []⟩
def xHx (N : Nat) (a0 : Int) (a1 : Int) : Option (Int) :=
  bif (decide ((a0 : Int) > a1)) then (
    some a0
  ) else (
    some a1
  )
def xEn (a0 : Val) : List Arg := [.val (.v true [.int .i64 (Val.kind a0), .int .i64 (Val.n a0), .int .i64 (Val.step a0), .str (Val.text a0), .sl .ro .val (Val.list a0), .sl .ro .str (Val.columns a0), .sl .ro .row (Val.rows a0)])]
def xCQ (r : Int) : CallO := ⟨.v false [.int .i64 r], [], []⟩
def xEK (N : Nat) (q0 : Val → Option (Int)) : Nat → Int → Int → Val → Option (Int)
  | 0, _, _, _ => none
  | n + 1, x3, x4, b1 =>
    bif (decide ((x4 : Int) < (List.length (Val.list b1) : Int))) then (
      if (0 : Int) ≤ x4 ∧ x4 < (List.length (Val.list b1)) then
      Option.bind (q0 (List.getD (Val.list b1) (Int.toNat x4) Ty.val.dflt)) fun r1 =>
      Option.bind (xHx N x3 r1) fun r2 =>
      (xEK N q0 n r2 (IntKind.i64.wrap (x4 + 1)) b1)
      else none
    ) else (
      some (IntKind.i64.wrap (x3 + 1))
    )
def xGk (N : Nat) (q0 : Val → Option (Int)) (a0 : Val) : Option (Int) :=
  (xEK N q0 N 0 0 a0)
def xDO (N : Nat) : Nat → Val → Option (Int)
  | 0, _ => none
  | d + 1, a0 => xGk N (xDO N d) a0
def xHb (N : Nat) (a0 : Val) : Option (Int) := xDO N N a0
def xEN (a0 : Str) : List Arg := [.val (.v false [.str a0])]
def xBx (r : Bool) : CallO := ⟨.v false [.bool r], [], []⟩
def xCS (N : Nat) : Nat → Str → Int → Option (Bool)
  | 0, _, _ => none
  | n + 1, x0, x3 =>
    bif (decide ((x3 : Int) < (List.length x0 : Int))) then (
      if (0 : Int) ≤ x3 ∧ x3 < (List.length x0) then
      bif (decide ((((List.getD x0 (Int.toNat x3) 0).toNat : Int) : Int) ≥ 97)) then (
        bif (decide ((((List.getD x0 (Int.toNat x3) 0).toNat : Int) : Int) ≥ 48)) then (
          bif (!(decide ((((List.getD x0 (Int.toNat x3) 0).toNat : Int) : Int) ≤ 122))) then (
            bif ((x3 : Int) == 0) then (
              some false
            ) else (
              bif (!(decide ((((List.getD x0 (Int.toNat x3) 0).toNat : Int) : Int) ≤ 57))) then (
                some false
              ) else (
                (xCS N n x0 (IntKind.i64.wrap (x3 + 1)))
              )
            )
          ) else (
            (xCS N n x0 (IntKind.i64.wrap (x3 + 1)))
          )
        ) else (
          bif (!(decide ((((List.getD x0 (Int.toNat x3) 0).toNat : Int) : Int) ≤ 122))) then (
            bif ((x3 : Int) == 0) then (
              some false
            ) else (
              some false
            )
          ) else (
            (xCS N n x0 (IntKind.i64.wrap (x3 + 1)))
          )
        )
      ) else (
        bif (decide ((((List.getD x0 (Int.toNat x3) 0).toNat : Int) : Int) ≥ 48)) then (
          bif ((x3 : Int) == 0) then (
            some false
          ) else (
            bif (!(decide ((((List.getD x0 (Int.toNat x3) 0).toNat : Int) : Int) ≤ 57))) then (
              some false
            ) else (
              (xCS N n x0 (IntKind.i64.wrap (x3 + 1)))
            )
          )
        ) else (
          bif ((x3 : Int) == 0) then (
            some false
          ) else (
            some false
          )
        )
      )
      else none
    ) else (
      some (decide (((List.length x0 : Int) : Int) > 0))
    )
def xHd (N : Nat) (a0 : Str) : Option (Bool) :=
  (xCS N N a0 0)
def xFe : List Arg := []
def xEz (r : (List Str)) : CallO := ⟨.v false [.sl .own .str r], [], []⟩
def xGa (N : Nat) : Option ((List Str)) :=
  some [[108, 101, 116], [105, 110], [105, 102], [116, 104, 101, 110], [101, 108, 115, 101], [102, 111, 114], [100, 111], [108, 101, 110], [115, 117, 109], [116, 97, 107, 101], [115, 107, 105, 112], [114, 97, 110, 103, 101], [110, 116, 104], [119, 104, 101, 114, 101], [107, 101, 101, 112], [97, 100, 100], [103, 114, 111, 117, 112], [106, 111, 105, 110], [99, 111, 108, 117, 109, 110], [114, 111, 119, 115], [99, 108, 111, 99, 107], [99, 104, 97, 110, 99, 101], [102, 105, 108, 101], [116, 97, 98, 108, 101]]
def xFv (a0 : List Str) (a1 : Str) : List Arg := [.val (.v false [.sl .ro .str a0]), .val (.v false [.str a1])]
def xDf (r : Bool) : CallO := ⟨.v false [.bool r], [], []⟩
def xEZ (N : Nat) : Nat → (List Str) → Str → Int → Option (Bool)
  | 0, _, _, _ => none
  | n + 1, x0, x1, x5 =>
    bif (decide ((x5 : Int) < (List.length x0 : Int))) then (
      if (0 : Int) ≤ x5 ∧ x5 < (List.length x0) then
      bif (((List.getD x0 (Int.toNat x5) Ty.str.dflt) : Str) == x1) then (
        some true
      ) else (
        (xEZ N n x0 x1 (IntKind.i64.wrap (x5 + 1)))
      )
      else none
    ) else (
      some false
    )
def xHw (N : Nat) (a0 : List Str) (a1 : Str) : Option (Bool) :=
  (xEZ N N a0 a1 0)
def xFc (a0 : Str) : List Arg := [.val (.v false [.str a0])]
def xEy (r : Bool) : CallO := ⟨.v false [.bool r], [], []⟩
def xFl (N : Nat) (a0 : Str) : Option (Bool) :=
  Option.bind (xGa N) fun r1 =>
  Option.bind (xHw N r1 a0) fun r2 =>
  some r2
def xC0 (a0 : Str) : List Arg := [.val (.v false [.str a0])]
def xCh (r : Bool) : CallO := ⟨.v false [.bool r], [], []⟩
def xE3 (N : Nat) (a0 : Str) : Option (Bool) :=
  Option.bind (xHd N a0) fun r1 =>
  bif r1 then (
    bif (decide (((List.length a0 : Int) : Int) ≤ 8)) then (
      Option.bind (xFl N a0) fun r2 =>
      some (!r2)
    ) else (
      some false
    )
  ) else (
    some false
  )
def xEW (a0 : List Str) : List Arg := [.val (.v false [.sl .ro .str a0])]
def xCZ (r : Bool) : CallO := ⟨.v false [.bool r], [], []⟩
def xCY (N : Nat) : Nat → (List Str) → Int → Option (Bool)
  | 0, _, _ => none
  | n + 1, x0, x3 =>
    bif (decide ((x3 : Int) < (List.length x0 : Int))) then (
      if (0 : Int) ≤ x3 ∧ x3 ≤ (List.length x0) then
      if (0 : Int) ≤ x3 ∧ x3 < (List.length x0) then
      Option.bind (xHw N (List.take (Int.toNat x3) x0) (List.getD x0 (Int.toNat x3) Ty.str.dflt)) fun r1 =>
      bif r1 then (
        some false
      ) else (
        (xCY N n x0 (IntKind.i64.wrap (x3 + 1)))
      )
      else none
      else none
    ) else (
      some true
    )
def xFN (N : Nat) (a0 : List Str) : Option (Bool) :=
  (xCY N N a0 0)
def xEa (a0 : List Str) : List Arg := [.val (.v false [.sl .ro .str a0])]
def xBR (r : Bool) : CallO := ⟨.v false [.bool r], [], []⟩
def xEb (N : Nat) : Nat → (List Str) → Int → Option (Bool)
  | 0, _, _ => none
  | n + 1, x0, x3 =>
    bif (decide ((x3 : Int) < (List.length x0 : Int))) then (
      if (0 : Int) ≤ x3 ∧ x3 < (List.length x0) then
      Option.bind (xE3 N (List.getD x0 (Int.toNat x3) Ty.str.dflt)) fun r1 =>
      bif (!r1) then (
        some false
      ) else (
        (xEb N n x0 (IntKind.i64.wrap (x3 + 1)))
      )
      else none
    ) else (
      Option.bind (xGF N (List.length x0 : Int) 1 4) fun r1 =>
      bif r1 then (
        Option.bind (xFN N x0) fun r2 =>
        some r2
      ) else (
        some false
      )
    )
def xGy (N : Nat) (a0 : List Str) : Option (Bool) :=
  (xEb N N a0 0)
def xDQ (a0 : Org) (a1 : Org) : List Arg := [.val (.v true [.int .i64 (Org.cell a0), .int .i64 (Org.row a0)]), .val (.v true [.int .i64 (Org.cell a1), .int .i64 (Org.row a1)])]
def xCU (r : Bool) : CallO := ⟨.v false [.bool r], [], []⟩
def xGb (N : Nat) (a0 : Org) (a1 : Org) : Option (Bool) :=
  bif (decide (((Org.cell a0) : Int) < (Org.cell a1))) then (
    some true
  ) else (
    bif (((Org.cell a0) : Int) == (Org.cell a1)) then (
      some (decide (((Org.row a0) : Int) < (Org.row a1)))
    ) else (
      some false
    )
  )
def xEq (a0 : List Org) : List Arg := [.val (.v false [.sl .ro .org a0])]
def xBO (r : Bool) : CallO := ⟨.v false [.bool r], [], []⟩
def xCE (N : Nat) : Nat → (List Org) → Int → Option (Bool)
  | 0, _, _ => none
  | n + 1, x0, x3 =>
    bif (decide ((x3 : Int) < (List.length x0 : Int))) then (
      if (0 : Int) ≤ x3 ∧ x3 < (List.length x0) then
      bif (decide (((Org.cell (List.getD x0 (Int.toNat x3) Ty.org.dflt)) : Int) < 0)) then (
        some false
      ) else (
        bif (decide (((Org.row (List.getD x0 (Int.toNat x3) Ty.org.dflt)) : Int) < 0)) then (
          some false
        ) else (
          bif (decide ((x3 : Int) > 0)) then (
            if (0 : Int) ≤ (IntKind.i64.wrap (x3 - 1)) ∧ (IntKind.i64.wrap (x3 - 1)) < (List.length x0) then
            Option.bind (xGb N (List.getD x0 (Int.toNat (IntKind.i64.wrap (x3 - 1))) Ty.org.dflt) (List.getD x0 (Int.toNat x3) Ty.org.dflt)) fun r1 =>
            bif (!r1) then (
              some false
            ) else (
              (xCE N n x0 (IntKind.i64.wrap (x3 + 1)))
            )
            else none
          ) else (
            (xCE N n x0 (IntKind.i64.wrap (x3 + 1)))
          )
        )
      )
      else none
    ) else (
      some true
    )
def xFP (N : Nat) (a0 : List Org) : Option (Bool) :=
  (xCE N N a0 0)
def xEP (a0 : Val) : List Arg := [.val (.v true [.int .i64 (Val.kind a0), .int .i64 (Val.n a0), .int .i64 (Val.step a0), .str (Val.text a0), .sl .ro .val (Val.list a0), .sl .ro .str (Val.columns a0), .sl .ro .row (Val.rows a0)])]
def xB2 (r : Bool) : CallO := ⟨.v false [.bool r], [], []⟩
def xDS (N : Nat) (k4 : Int → Val → Option (Bool)) : Nat → Int → Int → Val → Rowd → Option (Bool)
  | 0, _, _, _, _ => none
  | n + 1, x3, x5, b1, b4 =>
    bif (decide ((x5 : Int) < (List.length (Rowd.cells b4) : Int))) then (
      if (0 : Int) ≤ x5 ∧ x5 < (List.length (Rowd.cells b4)) then
      Option.bind (xDY N (List.getD (Rowd.cells b4) (Int.toNat x5) Ty.int.dflt)) fun r1 =>
      bif (!r1) then (
        some false
      ) else (
        (xDS N k4 n x3 (IntKind.i64.wrap (x5 + 1)) b1 b4)
      )
      else none
    ) else (
      (k4 (IntKind.i64.wrap (x3 + 1)) b1)
    )
def xEt (N : Nat) : Nat → Int → Val → Option (Bool)
  | 0, _, _ => none
  | n + 1, x3, b1 =>
    bif (decide ((x3 : Int) < (List.length (Val.rows b1) : Int))) then (
      if (0 : Int) ≤ x3 ∧ x3 < (List.length (Val.rows b1)) then
      bif (((List.length (Rowd.cells (List.getD (Val.rows b1) (Int.toNat x3) Ty.row.dflt)) : Int) : Int) != (List.length (Val.columns b1) : Int)) then (
        some false
      ) else (
        Option.bind (xFP N (Rowd.frm (List.getD (Val.rows b1) (Int.toNat x3) Ty.row.dflt))) fun r1 =>
        bif (!r1) then (
          some false
        ) else (
          (xDS N (fun z0 z1 => (xEt N n z0 z1)) N x3 0 b1 (List.getD (Val.rows b1) (Int.toNat x3) Ty.row.dflt))
        )
      )
      else none
    ) else (
      some true
    )
def xGG (N : Nat) (a0 : Val) : Option (Bool) :=
  Option.bind (xGy N (Val.columns a0)) fun r1 =>
  bif (!r1) then (
    some false
  ) else (
    bif (decide (((List.length (Val.rows a0) : Int) : Int) > 12)) then (
      some false
    ) else (
      (xEt N N 0 a0)
    )
  )
def xAt (a0 : Val) : List Arg := [.val (.v true [.int .i64 (Val.kind a0), .int .i64 (Val.n a0), .int .i64 (Val.step a0), .str (Val.text a0), .sl .ro .val (Val.list a0), .sl .ro .str (Val.columns a0), .sl .ro .row (Val.rows a0)])]
def xAo (r : Bool) : CallO := ⟨.v false [.bool r], [], []⟩
def xDo (N : Nat) (q0 : Val → Option (Bool)) (q1 : Val → Option (Bool)) (a0 : Val) : Option (Bool) :=
  bif (((Val.kind a0) : Int) != 3) then (
    bif (decide (((List.length (Val.list a0) : Int) : Int) > 0)) then (
      some false
    ) else (
      bif (((Val.kind a0) : Int) != 5) then (
        bif (decide (((IntKind.i64.wrap ((List.length (Val.columns a0) : Int) + (List.length (Val.rows a0) : Int))) : Int) > 0)) then (
          some false
        ) else (
          bif (((Val.kind a0) : Int) != 2) then (
            bif (!(((Val.text a0) : Str) == [])) then (
              some false
            ) else (
              bif (((Val.kind a0) : Int) != 4) then (
                bif (((Val.step a0) : Int) != 0) then (
                  some false
                ) else (
                  bif (((Val.kind a0) : Int) == 1) then (
                    Option.bind (xDY N (Val.n a0)) fun r1 =>
                    some r1
                  ) else (
                    bif (((Val.kind a0) : Int) == 6) then (
                      Option.bind (xGF N (Val.n a0) 1 8) fun r1 =>
                      some r1
                    ) else (
                      some false
                    )
                  )
                )
              ) else (
                Option.bind (xDY N (Val.n a0)) fun r1 =>
                bif r1 then (
                  Option.bind (xDY N (Val.step a0)) fun r2 =>
                  some r2
                ) else (
                  some false
                )
              )
            )
          ) else (
            bif (((Val.step a0) : Int) != 0) then (
              some false
            ) else (
              bif (((Val.n a0) : Int) == 0) then (
                Option.bind (xFO N (Val.text a0)) fun r1 =>
                some r1
              ) else (
                some false
              )
            )
          )
        )
      ) else (
        bif (!(((Val.text a0) : Str) == [])) then (
          some false
        ) else (
          bif (((Val.step a0) : Int) != 0) then (
            some false
          ) else (
            bif (((Val.n a0) : Int) == 0) then (
              Option.bind (xGG N a0) fun r1 =>
              some r1
            ) else (
              some false
            )
          )
        )
      )
    )
  ) else (
    bif (decide (((IntKind.i64.wrap ((List.length (Val.columns a0) : Int) + (List.length (Val.rows a0) : Int))) : Int) > 0)) then (
      some false
    ) else (
      bif (!(((Val.text a0) : Str) == [])) then (
        some false
      ) else (
        bif (((Val.step a0) : Int) != 0) then (
          some false
        ) else (
          bif (((Val.n a0) : Int) == 0) then (
            Option.bind (q1 a0) fun r1 =>
            some r1
          ) else (
            some false
          )
        )
      )
    )
  )
def xFH (a0 : Val) : List Arg := [.val (.v true [.int .i64 (Val.kind a0), .int .i64 (Val.n a0), .int .i64 (Val.step a0), .str (Val.text a0), .sl .ro .val (Val.list a0), .sl .ro .str (Val.columns a0), .sl .ro .row (Val.rows a0)])]
def xC9 (r : Bool) : CallO := ⟨.v false [.bool r], [], []⟩
def xD6 (N : Nat) (q0 : Val → Option (Bool)) (q1 : Val → Option (Bool)) : Nat → Int → Val → Option (Bool)
  | 0, _, _ => none
  | n + 1, x3, b1 =>
    bif (decide ((x3 : Int) < (List.length (Val.list b1) : Int))) then (
      if (0 : Int) ≤ x3 ∧ x3 < (List.length (Val.list b1)) then
      Option.bind (xGz N (List.getD (Val.list b1) (Int.toNat x3) Ty.val.dflt)) fun r1 =>
      bif (!r1) then (
        some false
      ) else (
        Option.bind (q0 (List.getD (Val.list b1) (Int.toNat x3) Ty.val.dflt)) fun r2 =>
        bif (!r2) then (
          some false
        ) else (
          (xD6 N q0 q1 n (IntKind.i64.wrap (x3 + 1)) b1)
        )
      )
      else none
    ) else (
      bif (decide (((List.length (Val.list b1) : Int) : Int) ≤ 8)) then (
        Option.bind (xHb N b1) fun r1 =>
        some (decide ((r1 : Int) ≤ 3))
      ) else (
        some false
      )
    )
def xGK (N : Nat) (q0 : Val → Option (Bool)) (q1 : Val → Option (Bool)) (a0 : Val) : Option (Bool) :=
  (xD6 N q0 q1 N 0 a0)
structure spec_IsValidValue_rec where
  c_spec_IsValidValue : Val → Option (Bool)
  c_spec_l3List : Val → Option (Bool)
def xAG (N : Nat) : Nat → spec_IsValidValue_rec
  | 0 => ⟨fun _ => none, fun _ => none⟩
  | d + 1 => ⟨xDo N (xAG N d).c_spec_IsValidValue (xAG N d).c_spec_l3List, xGK N (xAG N d).c_spec_IsValidValue (xAG N d).c_spec_l3List⟩
def xGl (N : Nat) (a0 : Val) : Option (Bool) := (xAG N N).c_spec_IsValidValue a0
def xAA (a0 : Int) : List Arg := [.val (.v false [.int .i64 a0])]
def xAg (r : Val) : CallO := ⟨.v true [.int .i64 (Val.kind r), .int .i64 (Val.n r), .int .i64 (Val.step r), .str (Val.text r), .sl .own .val (Val.list r), .sl .own .str (Val.columns r), .sl .own .row (Val.rows r)], [], []⟩
def xAv (N : Nat) (a0 : Int) : Option (Val) :=
  some (Val.mk 6 a0 0 [] [] [] [])
def xA9 (a0 : List Val) : List Arg := [.val (.v false [.sl .ro .val a0])]
def xAr (r : Val × Bool) : CallO := ⟨.tup [(true, [.int .i64 (Val.kind r.1), .int .i64 (Val.n r.1), .int .i64 (Val.step r.1), .str (Val.text r.1), .sl .own .val (Val.list r.1), .sl .own .str (Val.columns r.1), .sl .own .row (Val.rows r.1)]), (false, [.bool r.2])], [], []⟩
def xDG (N : Nat) : Nat → (List Val) → Int → Val → Option (Val × Bool)
  | 0, _, _, _ => none
  | n + 1, x0, x4, b2 =>
    bif (decide ((x4 : Int) < (List.length x0 : Int))) then (
      if (0 : Int) ≤ x4 ∧ x4 < (List.length x0) then
      Option.bind (xGl N (List.getD x0 (Int.toNat x4) Ty.val.dflt)) fun r1 =>
      bif (!r1) then (
        Option.bind (xAv N 4) fun r2 =>
        some (r2, true)
      ) else (
        bif (((Val.kind (List.getD x0 (Int.toNat x4) Ty.val.dflt)) : Int) == 6) then (
          Option.bind (xAv N (Val.n (List.getD x0 (Int.toNat x4) Ty.val.dflt))) fun r2 =>
          some (r2, true)
        ) else (
          (xDG N n x0 (IntKind.i64.wrap (x4 + 1)) b2)
        )
      )
      else none
    ) else (
      some ((Val.mk 0 0 0 [] [] [] []), false)
    )
def xFZ (N : Nat) (a0 : List Val) : Option (Val × Bool) :=
  (xDG N N a0 0 (Val.mk 0 0 0 [] [] [] []))
def xAJ (a0 : Int) : List Arg := [.val (.v false [.int .i64 a0])]
def xAj (r : Val) : CallO := ⟨.v true [.int .i64 (Val.kind r), .int .i64 (Val.n r), .int .i64 (Val.step r), .str (Val.text r), .sl .own .val (Val.list r), .sl .own .str (Val.columns r), .sl .own .row (Val.rows r)], [], []⟩
def xAU (N : Nat) (a0 : Int) : Option (Val) :=
  some (Val.mk 1 a0 0 [] [] [] [])
def xCe (a0 : Int) : List Arg := [.val (.v false [.int .i64 a0])]
def xBs (r : Val) : CallO := ⟨.v true [.int .i64 (Val.kind r), .int .i64 (Val.n r), .int .i64 (Val.step r), .str (Val.text r), .sl .own .val (Val.list r), .sl .own .str (Val.columns r), .sl .own .row (Val.rows r)], [], []⟩
def xCK (N : Nat) (a0 : Int) : Option (Val) :=
  Option.bind (xDY N a0) fun r1 =>
  bif (!r1) then (
    Option.bind (xAv N 5) fun r2 =>
    some r2
  ) else (
    Option.bind (xAU N a0) fun r2 =>
    some r2
  )
def xDw (a0 : Str) : List Arg := [.val (.v false [.str a0])]
def xB0 (r : Val) : CallO := ⟨.v true [.int .i64 (Val.kind r), .int .i64 (Val.n r), .int .i64 (Val.step r), .str (Val.text r), .sl .own .val (Val.list r), .sl .own .str (Val.columns r), .sl .own .row (Val.rows r)], [], []⟩
def xD2 (N : Nat) (a0 : Str) : Option (Val) :=
  some (Val.mk 2 0 0 a0 [] [] [])
def xGO (a0 : Rowd) : List Arg := [.val (.v true [.sl .ro .int (Rowd.cells a0), .sl .ro .org (Rowd.frm a0)])]
def xGd (r : Rowd) : CallO := ⟨.v true [.sl .own .int (Rowd.cells r), .sl .own .org (Rowd.frm r)], [], []⟩
def xHC (N : Nat) (a0 : Rowd) : Option (Rowd) :=
  if 0 + List.length (Rowd.cells a0) ≤ Lim then
  if 0 + List.length (Rowd.frm a0) ≤ Lim then
  some (Rowd.mk ([] ++ (Rowd.cells a0)) ([] ++ (Rowd.frm a0)))
  else none
  else none
def xD5 (a0 : Val) : List Arg := [.val (.v true [.int .i64 (Val.kind a0), .int .i64 (Val.n a0), .int .i64 (Val.step a0), .str (Val.text a0), .sl .ro .val (Val.list a0), .sl .ro .str (Val.columns a0), .sl .ro .row (Val.rows a0)])]
def xCu (r : Val) : CallO := ⟨.v true [.int .i64 (Val.kind r), .int .i64 (Val.n r), .int .i64 (Val.step r), .str (Val.text r), .sl .own .val (Val.list r), .sl .own .str (Val.columns r), .sl .own .row (Val.rows r)], [], []⟩
def xEG (N : Nat) (q0 : Val → Option (Val)) : Nat → Int → Val → Val → Val → Option (Val)
  | 0, _, _, _, _ => none
  | n + 1, x5, b1, b2, b3 =>
    bif (decide ((x5 : Int) < (List.length (Val.rows b1) : Int))) then (
      if (0 : Int) ≤ x5 ∧ x5 < (List.length (Val.rows b1)) then
      Option.bind (xHC N (List.getD (Val.rows b1) (Int.toNat x5) Ty.row.dflt)) fun r1 =>
      if List.length (Val.rows b3) + List.length [r1] ≤ Lim then
      (xEG N q0 n (IntKind.i64.wrap (x5 + 1)) b1 b2 (Val.mk (Val.kind b3) (Val.n b3) (Val.step b3) (Val.text b3) (Val.list b3) (Val.columns b3) ((Val.rows b3) ++ [r1])))
      else none
      else none
    ) else (
      some b3
    )
def xE7 (N : Nat) (q0 : Val → Option (Val)) : Nat → Int → Val → Val → Val → Option (Val)
  | 0, _, _, _, _ => none
  | n + 1, x4, b1, b2, b3 =>
    bif (decide ((x4 : Int) < (List.length (Val.list b1) : Int))) then (
      if (0 : Int) ≤ x4 ∧ x4 < (List.length (Val.list b1)) then
      Option.bind (q0 (List.getD (Val.list b1) (Int.toNat x4) Ty.val.dflt)) fun r1 =>
      if List.length (Val.list b3) + List.length [(Val.re r1)] ≤ Lim then
      (xE7 N q0 n (IntKind.i64.wrap (x4 + 1)) b1 b2 (Val.mk (Val.kind b3) (Val.n b3) (Val.step b3) (Val.text b3) ((Val.list b3) ++ [(Val.re r1)]) (Val.columns b3) (Val.rows b3)))
      else none
      else none
    ) else (
      (xEG N q0 N 0 b1 b2 b3)
    )
def xE4 (N : Nat) (q0 : Val → Option (Val)) (a0 : Val) : Option (Val) :=
  if 0 + List.length (Val.columns a0) ≤ Lim then
  (xE7 N q0 N 0 a0 (Val.mk 0 0 0 [] [] [] []) (Val.mk (Val.kind a0) (Val.n a0) (Val.step a0) (Val.text a0) [] ([] ++ (Val.columns a0)) []))
  else none
def xEr (N : Nat) : Nat → Val → Option (Val)
  | 0, _ => none
  | d + 1, a0 => xE4 N (xEr N d) a0
def xGo (N : Nat) (a0 : Val) : Option (Val) := xEr N N a0
def xEL (a0 : List Val) : List Arg := [.val (.v false [.sl .ro .val a0])]
def xC4 (r : Val) : CallO := ⟨.v true [.int .i64 (Val.kind r), .int .i64 (Val.n r), .int .i64 (Val.step r), .str (Val.text r), .sl .own .val (Val.list r), .sl .own .str (Val.columns r), .sl .own .row (Val.rows r)], [], []⟩
def xD9 (N : Nat) : Nat → (List Val) → Int → Val → Val → Option (Val)
  | 0, _, _, _, _ => none
  | n + 1, x0, x4, b2, b3 =>
    bif (decide ((x4 : Int) < (List.length x0 : Int))) then (
      if (0 : Int) ≤ x4 ∧ x4 < (List.length x0) then
      Option.bind (xGo N (List.getD x0 (Int.toNat x4) Ty.val.dflt)) fun r1 =>
      if List.length (Val.list b3) + List.length [(Val.re r1)] ≤ Lim then
      (xD9 N n x0 (IntKind.i64.wrap (x4 + 1)) b2 (Val.mk (Val.kind b3) (Val.n b3) (Val.step b3) (Val.text b3) ((Val.list b3) ++ [(Val.re r1)]) (Val.columns b3) (Val.rows b3)))
      else none
      else none
    ) else (
      some b3
    )
def xFE (N : Nat) (a0 : List Val) : Option (Val) :=
  (xD9 N N a0 0 (Val.mk 0 0 0 [] [] [] []) (Val.mk 3 0 0 [] [] [] []))
def xCI (a0 : Val) (a1 : Val) : List Arg := [.val (.v true [.int .i64 (Val.kind a0), .int .i64 (Val.n a0), .int .i64 (Val.step a0), .str (Val.text a0), .sl .ro .val (Val.list a0), .sl .ro .str (Val.columns a0), .sl .ro .row (Val.rows a0)]), .val (.v true [.int .i64 (Val.kind a1), .int .i64 (Val.n a1), .int .i64 (Val.step a1), .str (Val.text a1), .sl .ro .val (Val.list a1), .sl .ro .str (Val.columns a1), .sl .ro .row (Val.rows a1)])]
def xCl (r : Val) : CallO := ⟨.v true [.int .i64 (Val.kind r), .int .i64 (Val.n r), .int .i64 (Val.step r), .str (Val.text r), .sl .own .val (Val.list r), .sl .own .str (Val.columns r), .sl .own .row (Val.rows r)], [], []⟩
def xGs (N : Nat) (a0 : Val) (a1 : Val) : Option (Val) :=
  bif (((Val.kind a0) : Int) == 1) then (
    bif (((Val.kind a1) : Int) == 1) then (
      Option.bind (xCK N (IntKind.i64.wrap ((Val.n a0) + (Val.n a1)))) fun r1 =>
      some r1
    ) else (
      Option.bind (xAv N 4) fun r1 =>
      some r1
    )
  ) else (
    bif (((Val.kind a0) : Int) == 2) then (
      bif (((Val.kind a1) : Int) == 2) then (
        bif (decide (((IntKind.i64.wrap ((List.length (Val.text a0) : Int) + (List.length (Val.text a1) : Int))) : Int) > 20)) then (
          Option.bind (xAv N 6) fun r1 =>
          some r1
        ) else (
          if List.length (Val.text a0) + List.length (Val.text a1) ≤ Lim then
          Option.bind (xD2 N ((Val.text a0) ++ (Val.text a1))) fun r1 =>
          some r1
          else none
        )
      ) else (
        Option.bind (xAv N 4) fun r1 =>
        some r1
      )
    ) else (
      bif (((Val.kind a0) : Int) == 3) then (
        bif (((Val.kind a1) : Int) == 3) then (
          bif (decide (((IntKind.i64.wrap ((List.length (Val.list a0) : Int) + (List.length (Val.list a1) : Int))) : Int) > 8)) then (
            Option.bind (xAv N 6) fun r1 =>
            some r1
          ) else (
            if 0 + List.length (Val.list a0) ≤ Lim then
            if List.length ([] ++ (Val.list a0)) + List.length (Val.list a1) ≤ Lim then
            Option.bind (xFE N (([] ++ (Val.list a0)) ++ (Val.list a1))) fun r1 =>
            some r1
            else none
            else none
          )
        ) else (
          Option.bind (xAv N 4) fun r1 =>
          some r1
        )
      ) else (
        Option.bind (xAv N 4) fun r1 =>
        some r1
      )
    )
  )
def xCL (a0 : Bool) : List Arg := [.val (.v false [.bool a0])]
def xBK (r : Val) : CallO := ⟨.v true [.int .i64 (Val.kind r), .int .i64 (Val.n r), .int .i64 (Val.step r), .str (Val.text r), .sl .own .val (Val.list r), .sl .own .str (Val.columns r), .sl .own .row (Val.rows r)], [], []⟩
def xEp (N : Nat) (a0 : Bool) : Option (Val) :=
  bif a0 then (
    Option.bind (xAU N 1) fun r1 =>
    some r1
  ) else (
    Option.bind (xAU N 0) fun r1 =>
    some r1
  )
def xDE (a0 : Val) (a1 : Val) : List Arg := [.val (.v true [.int .i64 (Val.kind a0), .int .i64 (Val.n a0), .int .i64 (Val.step a0), .str (Val.text a0), .sl .ro .val (Val.list a0), .sl .ro .str (Val.columns a0), .sl .ro .row (Val.rows a0)]), .val (.v true [.int .i64 (Val.kind a1), .int .i64 (Val.n a1), .int .i64 (Val.step a1), .str (Val.text a1), .sl .ro .val (Val.list a1), .sl .ro .str (Val.columns a1), .sl .ro .row (Val.rows a1)])]
def xCT (r : Val) : CallO := ⟨.v true [.int .i64 (Val.kind r), .int .i64 (Val.n r), .int .i64 (Val.step r), .str (Val.text r), .sl .own .val (Val.list r), .sl .own .str (Val.columns r), .sl .own .row (Val.rows r)], [], []⟩
def xGt (N : Nat) (a0 : Val) (a1 : Val) : Option (Val) :=
  bif (((Val.kind a0) : Int) == 1) then (
    bif (((Val.kind a1) : Int) == 1) then (
      Option.bind (xEp N (decide (((Val.n a0) : Int) < (Val.n a1)))) fun r1 =>
      some r1
    ) else (
      Option.bind (xAv N 4) fun r1 =>
      some r1
    )
  ) else (
    bif (((Val.kind a0) : Int) == 2) then (
      bif (((Val.kind a1) : Int) == 2) then (
        Option.bind (xEp N (Op.bytesLess (Val.text a0) (Val.text a1))) fun r1 =>
        some r1
      ) else (
        Option.bind (xAv N 4) fun r1 =>
        some r1
      )
    ) else (
      Option.bind (xAv N 4) fun r1 =>
      some r1
    )
  )
def xEu (a0 : List Str) (a1 : List Str) : List Arg := [.val (.v false [.sl .ro .str a0]), .val (.v false [.sl .ro .str a1])]
def xCt (r : Bool) : CallO := ⟨.v false [.bool r], [], []⟩
def xDh (N : Nat) : Nat → (List Str) → (List Str) → Int → Option (Bool)
  | 0, _, _, _ => none
  | n + 1, x0, x1, x5 =>
    bif (decide ((x5 : Int) < (List.length x0 : Int))) then (
      if (0 : Int) ≤ x5 ∧ x5 < (List.length x0) then
      if (0 : Int) ≤ x5 ∧ x5 < (List.length x1) then
      bif (!(((List.getD x0 (Int.toNat x5) Ty.str.dflt) : Str) == (List.getD x1 (Int.toNat x5) Ty.str.dflt))) then (
        some false
      ) else (
        (xDh N n x0 x1 (IntKind.i64.wrap (x5 + 1)))
      )
      else none
      else none
    ) else (
      some true
    )
def xFn (N : Nat) (a0 : List Str) (a1 : List Str) : Option (Bool) :=
  bif (((List.length a0 : Int) : Int) != (List.length a1 : Int)) then (
    some false
  ) else (
    (xDh N N a0 a1 0)
  )
def xD4 (a0 : List Int) (a1 : List Int) : List Arg := [.val (.v false [.sl .ro .int a0]), .val (.v false [.sl .ro .int a1])]
def xB7 (r : Bool) : CallO := ⟨.v false [.bool r], [], []⟩
def xDA (N : Nat) : Nat → (List Int) → (List Int) → Int → Option (Bool)
  | 0, _, _, _ => none
  | n + 1, x0, x1, x5 =>
    bif (decide ((x5 : Int) < (List.length x0 : Int))) then (
      if (0 : Int) ≤ x5 ∧ x5 < (List.length x0) then
      if (0 : Int) ≤ x5 ∧ x5 < (List.length x1) then
      bif (((List.getD x0 (Int.toNat x5) Ty.int.dflt) : Int) != (List.getD x1 (Int.toNat x5) Ty.int.dflt)) then (
        some false
      ) else (
        (xDA N n x0 x1 (IntKind.i64.wrap (x5 + 1)))
      )
      else none
      else none
    ) else (
      some true
    )
def xFR (N : Nat) (a0 : List Int) (a1 : List Int) : Option (Bool) :=
  bif (((List.length a0 : Int) : Int) != (List.length a1 : Int)) then (
    some false
  ) else (
    (xDA N N a0 a1 0)
  )
def xEd (a0 : List Org) (a1 : List Org) : List Arg := [.val (.v false [.sl .ro .org a0]), .val (.v false [.sl .ro .org a1])]
def xCv (r : Bool) : CallO := ⟨.v false [.bool r], [], []⟩
def xEe (N : Nat) : Nat → (List Org) → (List Org) → Int → Option (Bool)
  | 0, _, _, _ => none
  | n + 1, x0, x1, x5 =>
    bif (decide ((x5 : Int) < (List.length x0 : Int))) then (
      if (0 : Int) ≤ x5 ∧ x5 < (List.length x0) then
      if (0 : Int) ≤ x5 ∧ x5 < (List.length x1) then
      bif (!((((Org.cell (List.getD x0 (Int.toNat x5) Ty.org.dflt)) : Int) == (Org.cell (List.getD x1 (Int.toNat x5) Ty.org.dflt))) && (((Org.row (List.getD x0 (Int.toNat x5) Ty.org.dflt)) : Int) == (Org.row (List.getD x1 (Int.toNat x5) Ty.org.dflt))))) then (
        some false
      ) else (
        (xEe N n x0 x1 (IntKind.i64.wrap (x5 + 1)))
      )
      else none
      else none
    ) else (
      some true
    )
def xFJ (N : Nat) (a0 : List Org) (a1 : List Org) : Option (Bool) :=
  bif (((List.length a0 : Int) : Int) != (List.length a1 : Int)) then (
    some false
  ) else (
    (xEe N N a0 a1 0)
  )
def xBP (a0 : Val) (a1 : Val) (a2 : Bool) : List Arg := [.val (.v true [.int .i64 (Val.kind a0), .int .i64 (Val.n a0), .int .i64 (Val.step a0), .str (Val.text a0), .sl .ro .val (Val.list a0), .sl .ro .str (Val.columns a0), .sl .ro .row (Val.rows a0)]), .val (.v true [.int .i64 (Val.kind a1), .int .i64 (Val.n a1), .int .i64 (Val.step a1), .str (Val.text a1), .sl .ro .val (Val.list a1), .sl .ro .str (Val.columns a1), .sl .ro .row (Val.rows a1)]), .val (.v false [.bool a2])]
def xBa (r : Bool) : CallO := ⟨.v false [.bool r], [], []⟩
def xCw (N : Nat) (q0 : Val → Val → Bool → Option (Bool)) : Nat → Bool → Int → Val → Val → Option (Bool)
  | 0, _, _, _, _ => none
  | n + 1, x2, x8, b3, b4 =>
    bif (decide ((x8 : Int) < (List.length (Val.rows b3) : Int))) then (
      if (0 : Int) ≤ x8 ∧ x8 < (List.length (Val.rows b3)) then
      if (0 : Int) ≤ x8 ∧ x8 < (List.length (Val.rows b4)) then
      Option.bind (xFR N (Rowd.cells (List.getD (Val.rows b3) (Int.toNat x8) Ty.row.dflt)) (Rowd.cells (List.getD (Val.rows b4) (Int.toNat x8) Ty.row.dflt))) fun r1 =>
      bif (!r1) then (
        some false
      ) else (
        bif x2 then (
          Option.bind (xFJ N (Rowd.frm (List.getD (Val.rows b3) (Int.toNat x8) Ty.row.dflt)) (Rowd.frm (List.getD (Val.rows b4) (Int.toNat x8) Ty.row.dflt))) fun r2 =>
          bif (!r2) then (
            some false
          ) else (
            (xCw N q0 n x2 (IntKind.i64.wrap (x8 + 1)) b3 b4)
          )
        ) else (
          (xCw N q0 n x2 (IntKind.i64.wrap (x8 + 1)) b3 b4)
        )
      )
      else none
      else none
    ) else (
      some true
    )
def xDa (N : Nat) (q0 : Val → Val → Bool → Option (Bool)) : Nat → Bool → Int → Val → Val → Option (Bool)
  | 0, _, _, _, _ => none
  | n + 1, x2, x7, b3, b4 =>
    bif (decide ((x7 : Int) < (List.length (Val.list b3) : Int))) then (
      if (0 : Int) ≤ x7 ∧ x7 < (List.length (Val.list b3)) then
      if (0 : Int) ≤ x7 ∧ x7 < (List.length (Val.list b4)) then
      Option.bind (q0 (List.getD (Val.list b3) (Int.toNat x7) Ty.val.dflt) (List.getD (Val.list b4) (Int.toNat x7) Ty.val.dflt) x2) fun r1 =>
      bif (!r1) then (
        some false
      ) else (
        (xDa N q0 n x2 (IntKind.i64.wrap (x7 + 1)) b3 b4)
      )
      else none
      else none
    ) else (
      (xCw N q0 N x2 0 b3 b4)
    )
def xDR (N : Nat) (q0 : Val → Val → Bool → Option (Bool)) (a0 : Val) (a1 : Val) (a2 : Bool) : Option (Bool) :=
  bif (((Val.kind a0) : Int) != (Val.kind a1)) then (
    some false
  ) else (
    bif (((Val.n a0) : Int) != (Val.n a1)) then (
      some false
    ) else (
      bif (((Val.step a0) : Int) != (Val.step a1)) then (
        some false
      ) else (
        bif (!(((Val.text a0) : Str) == (Val.text a1))) then (
          some false
        ) else (
          bif (((List.length (Val.list a0) : Int) : Int) != (List.length (Val.list a1) : Int)) then (
            some false
          ) else (
            Option.bind (xFn N (Val.columns a0) (Val.columns a1)) fun r1 =>
            bif (!r1) then (
              some false
            ) else (
              bif (((List.length (Val.rows a0) : Int) : Int) != (List.length (Val.rows a1) : Int)) then (
                some false
              ) else (
                (xDa N q0 N a2 0 a0 a1)
              )
            )
          )
        )
      )
    )
  )
def xBp (N : Nat) : Nat → Val → Val → Bool → Option (Bool)
  | 0, _, _, _ => none
  | d + 1, a0, a1, a2 => xDR N (xBp N d) a0 a1 a2
def xGr (N : Nat) (a0 : Val) (a1 : Val) (a2 : Bool) : Option (Bool) := xBp N N a0 a1 a2
def xEx (a0 : Val) (a1 : Val) : List Arg := [.val (.v true [.int .i64 (Val.kind a0), .int .i64 (Val.n a0), .int .i64 (Val.step a0), .str (Val.text a0), .sl .ro .val (Val.list a0), .sl .ro .str (Val.columns a0), .sl .ro .row (Val.rows a0)]), .val (.v true [.int .i64 (Val.kind a1), .int .i64 (Val.n a1), .int .i64 (Val.step a1), .str (Val.text a1), .sl .ro .val (Val.list a1), .sl .ro .str (Val.columns a1), .sl .ro .row (Val.rows a1)])]
def xDe (r : Bool) : CallO := ⟨.v false [.bool r], [], []⟩
def xEo (N : Nat) (a0 : Val) (a1 : Val) : Option (Bool) :=
  Option.bind (xGr N a0 a1 false) fun r1 =>
  some r1
def xAw (a0 : Int) (a1 : Val) (a2 : Val) : List Arg := [.val (.v false [.int .i64 a0]), .val (.v true [.int .i64 (Val.kind a1), .int .i64 (Val.n a1), .int .i64 (Val.step a1), .str (Val.text a1), .sl .ro .val (Val.list a1), .sl .ro .str (Val.columns a1), .sl .ro .row (Val.rows a1)]), .val (.v true [.int .i64 (Val.kind a2), .int .i64 (Val.n a2), .int .i64 (Val.step a2), .str (Val.text a2), .sl .ro .val (Val.list a2), .sl .ro .str (Val.columns a2), .sl .ro .row (Val.rows a2)])]
def xAn (r : Val) : CallO := ⟨.v true [.int .i64 (Val.kind r), .int .i64 (Val.n r), .int .i64 (Val.step r), .str (Val.text r), .sl .own .val (Val.list r), .sl .own .str (Val.columns r), .sl .own .row (Val.rows r)], [], []⟩
def xBJ (N : Nat) (a0 : Int) (a1 : Val) (a2 : Val) : Option (Val) :=
  Option.bind (xFZ N [(Val.re a1), (Val.re a2)]) fun r1 =>
  bif r1.2 then (
    some r1.1
  ) else (
    bif (((Val.kind a1) : Int) == 1) then (
      bif ((a0 : Int) == 1) then (
        Option.bind (xGs N a1 a2) fun r2 =>
        some r2
      ) else (
        bif ((a0 : Int) == 4) then (
          Option.bind (xGt N a1 a2) fun r2 =>
          some r2
        ) else (
          bif ((a0 : Int) == 5) then (
            Option.bind (xEo N a1 a2) fun r2 =>
            Option.bind (xEp N r2) fun r3 =>
            some r3
          ) else (
            bif ((a0 : Int) == 2) then (
              bif (((Val.kind a2) : Int) == 1) then (
                Option.bind (xCK N (IntKind.i64.wrap ((Val.n a1) - (Val.n a2)))) fun r2 =>
                some r2
              ) else (
                Option.bind (xAv N 4) fun r2 =>
                some r2
              )
            ) else (
              bif ((a0 : Int) == 3) then (
                bif (((Val.kind a2) : Int) == 1) then (
                  Option.bind (xCK N (IntKind.i64.wrap ((Val.n a1) * (Val.n a2)))) fun r2 =>
                  some r2
                ) else (
                  Option.bind (xAv N 4) fun r2 =>
                  some r2
                )
              ) else (
                Option.bind (xAv N 4) fun r2 =>
                some r2
              )
            )
          )
        )
      )
    ) else (
      bif ((a0 : Int) == 1) then (
        Option.bind (xGs N a1 a2) fun r2 =>
        some r2
      ) else (
        bif ((a0 : Int) == 4) then (
          Option.bind (xGt N a1 a2) fun r2 =>
          some r2
        ) else (
          bif ((a0 : Int) == 5) then (
            Option.bind (xEo N a1 a2) fun r2 =>
            Option.bind (xEp N r2) fun r3 =>
            some r3
          ) else (
            bif ((a0 : Int) == 2) then (
              Option.bind (xAv N 4) fun r2 =>
              some r2
            ) else (
              bif ((a0 : Int) == 3) then (
                Option.bind (xAv N 4) fun r2 =>
                some r2
              ) else (
                Option.bind (xAv N 4) fun r2 =>
                some r2
              )
            )
          )
        )
      )
    )
  )
def xB5 (a0 : Int) (a1 : Int) (a2 : Int) : List Arg := [.val (.v false [.int .i64 a0]), .val (.v false [.int .i64 a1]), .val (.v false [.int .i64 a2])]
def xBf (r : Bool) : CallO := ⟨.v false [.bool r], [], []⟩
def xED (N : Nat) (a0 : Int) (a1 : Int) (a2 : Int) : Option (Bool) :=
  bif (decide ((a1 : Int) ≤ a0)) then (
    some (decide ((a0 : Int) ≤ a2))
  ) else (
    some false
  )
def xCr (a0 : Int) : List Arg := [.val (.v false [.int .i64 a0])]
def xBj (r : Bool) : CallO := ⟨.v false [.bool r], [], []⟩
def xDX (N : Nat) (a0 : Int) : Option (Bool) :=
  Option.bind (xED N a0 (-1000000000) 1000000000) fun r1 =>
  some r1
def xES (a0 : Str) : List Arg := [.val (.v false [.str a0])]
def xCf (r : Bool) : CallO := ⟨.v false [.bool r], [], []⟩
def xEh (N : Nat) : Nat → Str → Int → Option (Bool)
  | 0, _, _ => none
  | n + 1, x0, x3 =>
    bif (decide ((x3 : Int) < (List.length x0 : Int))) then (
      if (0 : Int) ≤ x3 ∧ x3 < (List.length x0) then
      bif (decide ((((List.getD x0 (Int.toNat x3) 0).toNat : Int) : Int) < 32)) then (
        some false
      ) else (
        bif (decide ((((List.getD x0 (Int.toNat x3) 0).toNat : Int) : Int) > 126)) then (
          some false
        ) else (
          bif ((((List.getD x0 (Int.toNat x3) 0).toNat : Int) : Int) == 34) then (
            some false
          ) else (
            (xEh N n x0 (IntKind.i64.wrap (x3 + 1)))
          )
        )
      )
      else none
    ) else (
      some (decide (((List.length x0 : Int) : Int) ≤ 20))
    )
def xFL (N : Nat) (a0 : Str) : Option (Bool) :=
  (xEh N N a0 0)
def xFD (a0 : Str) : List Arg := [.val (.v false [.str a0])]
def xB4 (r : Bool) : CallO := ⟨.v false [.bool r], [], []⟩
def xDy (N : Nat) : Nat → Str → Int → Option (Bool)
  | 0, _, _ => none
  | n + 1, x0, x3 =>
    bif (decide ((x3 : Int) < (List.length x0 : Int))) then (
      if (0 : Int) ≤ x3 ∧ x3 < (List.length x0) then
      bif (decide ((((List.getD x0 (Int.toNat x3) 0).toNat : Int) : Int) ≥ 97)) then (
        bif (!(decide ((((List.getD x0 (Int.toNat x3) 0).toNat : Int) : Int) ≤ 122))) then (
          bif ((x3 : Int) == 0) then (
            some false
          ) else (
            bif (decide ((((List.getD x0 (Int.toNat x3) 0).toNat : Int) : Int) < 48)) then (
              some false
            ) else (
              bif (decide ((((List.getD x0 (Int.toNat x3) 0).toNat : Int) : Int) > 57)) then (
                some false
              ) else (
                (xDy N n x0 (IntKind.i64.wrap (x3 + 1)))
              )
            )
          )
        ) else (
          (xDy N n x0 (IntKind.i64.wrap (x3 + 1)))
        )
      ) else (
        bif ((x3 : Int) == 0) then (
          some false
        ) else (
          bif (decide ((((List.getD x0 (Int.toNat x3) 0).toNat : Int) : Int) < 48)) then (
            some false
          ) else (
            bif (decide ((((List.getD x0 (Int.toNat x3) 0).toNat : Int) : Int) > 57)) then (
              some false
            ) else (
              (xDy N n x0 (IntKind.i64.wrap (x3 + 1)))
            )
          )
        )
      )
      else none
    ) else (
      Option.bind (xED N (List.length x0 : Int) 1 8) fun r1 =>
      some r1
    )
def xHH (N : Nat) (a0 : Str) : Option (Bool) :=
  (xDy N N a0 0)
def xAF (a0 : Str) : List Arg := [.val (.v false [.str a0])]
def xAE (r : Int) : CallO := ⟨.v false [.int .i64 r], [], []⟩
def xFb (N : Nat) (a0 : Str) : Option (Int) :=
  bif ((a0 : Str) == [99, 108, 111, 99, 107]) then (
    some 0
  ) else (
    bif ((a0 : Str) == [108, 101, 110]) then (
      some 1
    ) else (
      bif ((a0 : Str) == [115, 117, 109]) then (
        some 1
      ) else (
        bif ((a0 : Str) == [114, 111, 119, 115]) then (
          some 1
        ) else (
          bif ((a0 : Str) == [99, 104, 97, 110, 99, 101]) then (
            some 1
          ) else (
            bif ((a0 : Str) == [102, 105, 108, 101]) then (
              some 1
            ) else (
              bif ((a0 : Str) == [116, 97, 107, 101]) then (
                some 2
              ) else (
                bif ((a0 : Str) == [115, 107, 105, 112]) then (
                  some 2
                ) else (
                  bif ((a0 : Str) == [114, 97, 110, 103, 101]) then (
                    some 2
                  ) else (
                    bif ((a0 : Str) == [110, 116, 104]) then (
                      some 2
                    ) else (
                      bif ((a0 : Str) == [107, 101, 101, 112]) then (
                        some 2
                      ) else (
                        bif ((a0 : Str) == [99, 111, 108, 117, 109, 110]) then (
                          some 2
                        ) else (
                          bif ((a0 : Str) == [116, 97, 98, 108, 101]) then (
                            some 2
                          ) else (
                            bif ((a0 : Str) == [119, 104, 101, 114, 101]) then (
                              some 3
                            ) else (
                              bif ((a0 : Str) == [103, 114, 111, 117, 112]) then (
                                some 3
                              ) else (
                                bif ((a0 : Str) == [106, 111, 105, 110]) then (
                                  some 3
                                ) else (
                                  bif ((a0 : Str) == [97, 100, 100]) then (
                                    some 4
                                  ) else (
                                    some (-1)
                                  )
                                )
                              )
                            )
                          )
                        )
                      )
                    )
                  )
                )
              )
            )
          )
        )
      )
    )
  )
def xBS (a0 : Str) : List Arg := [.val (.v false [.str a0])]
def xBH (r : Bool) : CallO := ⟨.v false [.bool r], [], []⟩
def xFg (N : Nat) (a0 : Str) : Option (Bool) :=
  bif ((a0 : Str) == [108, 101, 116]) then (
    some true
  ) else (
    bif ((a0 : Str) == [105, 110]) then (
      some true
    ) else (
      bif ((a0 : Str) == [105, 102]) then (
        some true
      ) else (
        bif ((a0 : Str) == [116, 104, 101, 110]) then (
          some true
        ) else (
          bif ((a0 : Str) == [101, 108, 115, 101]) then (
            some true
          ) else (
            bif ((a0 : Str) == [102, 111, 114]) then (
              some true
            ) else (
              bif ((a0 : Str) == [100, 111]) then (
                some true
              ) else (
                Option.bind (xFb N a0) fun r1 =>
                some (decide ((r1 : Int) ≥ 0))
              )
            )
          )
        )
      )
    )
  )
def xDp (a0 : Str) : List Arg := [.val (.v false [.str a0])]
def xCB (r : Bool) : CallO := ⟨.v false [.bool r], [], []⟩
def xE1 (N : Nat) (a0 : Str) : Option (Bool) :=
  Option.bind (xHH N a0) fun r1 =>
  bif r1 then (
    Option.bind (xFg N a0) fun r2 =>
    some (!r2)
  ) else (
    some false
  )
def xFf (a0 : List Str) (a1 : Str) : List Arg := [.val (.v false [.sl .ro .str a0]), .val (.v false [.str a1])]
def xDb (r : Int) : CallO := ⟨.v false [.int .i64 r], [], []⟩
def xEg (N : Nat) : Nat → Str → (List Str) → Int → Int → Option (Int)
  | 0, _, _, _, _ => none
  | n + 1, x1, x7, x8, x9 =>
    bif (decide ((x9 : Int) < x8)) then (
      if (0 : Int) ≤ x9 ∧ x9 < (List.length x7) then
      bif (((List.getD x7 (Int.toNat x9) Ty.str.dflt) : Str) == x1) then (
        some x9
      ) else (
        (xEg N n x1 x7 x8 (IntKind.i64.wrap (x9 + 1)))
      )
      else none
    ) else (
      some (-1)
    )
def xG8 (N : Nat) (a0 : List Str) (a1 : Str) : Option (Int) :=
  (xEg N N a1 a0 (List.length a0 : Int) 0)
def xER (a0 : List Str) : List Arg := [.val (.v false [.sl .ro .str a0])]
def xCW (r : Bool) : CallO := ⟨.v false [.bool r], [], []⟩
def xCV (N : Nat) : Nat → (List Str) → (List Str) → Int → Int → Option (Bool)
  | 0, _, _, _, _ => none
  | n + 1, x0, x5, x6, x7 =>
    bif (decide ((x7 : Int) < x6)) then (
      if (0 : Int) ≤ x7 ∧ x7 < (List.length x5) then
      Option.bind (xG8 N x0 (List.getD x5 (Int.toNat x7) Ty.str.dflt)) fun r1 =>
      bif ((r1 : Int) != x7) then (
        some false
      ) else (
        (xCV N n x0 x5 x6 (IntKind.i64.wrap (x7 + 1)))
      )
      else none
    ) else (
      some true
    )
def xFK (N : Nat) (a0 : List Str) : Option (Bool) :=
  (xCV N N a0 a0 (List.length a0 : Int) 0)
def xDI (a0 : List Str) : List Arg := [.val (.v false [.sl .ro .str a0])]
def xBI (r : Bool) : CallO := ⟨.v false [.bool r], [], []⟩
def xDJ (N : Nat) : Nat → (List Str) → (List Str) → Int → Int → Option (Bool)
  | 0, _, _, _, _ => none
  | n + 1, x0, x5, x6, x7 =>
    bif (decide ((x7 : Int) < x6)) then (
      if (0 : Int) ≤ x7 ∧ x7 < (List.length x5) then
      Option.bind (xE1 N (List.getD x5 (Int.toNat x7) Ty.str.dflt)) fun r1 =>
      bif (!r1) then (
        some false
      ) else (
        (xDJ N n x0 x5 x6 (IntKind.i64.wrap (x7 + 1)))
      )
      else none
    ) else (
      Option.bind (xED N (List.length x0 : Int) 1 4) fun r1 =>
      bif r1 then (
        Option.bind (xFK N x0) fun r2 =>
        some r2
      ) else (
        some false
      )
    )
def xF3 (N : Nat) (a0 : List Str) : Option (Bool) :=
  (xDJ N N a0 a0 (List.length a0 : Int) 0)
def xCJ (a0 : Org) (a1 : Org) : List Arg := [.val (.v true [.int .i64 (Org.cell a0), .int .i64 (Org.row a0)]), .val (.v true [.int .i64 (Org.cell a1), .int .i64 (Org.row a1)])]
def xBW (r : Bool) : CallO := ⟨.v false [.bool r], [], []⟩
def xFs (N : Nat) (a0 : Org) (a1 : Org) : Option (Bool) :=
  bif (decide (((Org.cell a0) : Int) < (Org.cell a1))) then (
    some true
  ) else (
    bif (((Org.cell a0) : Int) == (Org.cell a1)) then (
      some (decide (((Org.row a0) : Int) < (Org.row a1)))
    ) else (
      some false
    )
  )
def xEj (a0 : Val) : List Arg := [.val (.v true [.int .i64 (Val.kind a0), .int .i64 (Val.n a0), .int .i64 (Val.step a0), .str (Val.text a0), .sl .ro .val (Val.list a0), .sl .ro .str (Val.columns a0), .sl .ro .row (Val.rows a0)])]
def xBn (r : Bool) : CallO := ⟨.v false [.bool r], [], []⟩
def xDk (N : Nat) (k4 : (List Rowd) → Int → Int → Val → Option (Bool)) : Nat → (List Rowd) → Int → Int → (List Org) → Int → Int → Val → Rowd → Option (Bool)
  | 0, _, _, _, _, _, _, _, _ => none
  | n + 1, x20, x21, x22, x45, x46, x47, b1, b4 =>
    bif (decide ((x47 : Int) < x46)) then (
      if (0 : Int) ≤ x47 ∧ x47 < (List.length x45) then
      bif (decide (((Org.cell (List.getD x45 (Int.toNat x47) Ty.org.dflt)) : Int) < 0)) then (
        some false
      ) else (
        bif (decide (((Org.row (List.getD x45 (Int.toNat x47) Ty.org.dflt)) : Int) < 0)) then (
          some false
        ) else (
          bif (decide ((x47 : Int) > 0)) then (
            if (0 : Int) ≤ (IntKind.i64.wrap (x47 - 1)) ∧ (IntKind.i64.wrap (x47 - 1)) < (List.length (Rowd.frm b4)) then
            Option.bind (xFs N (List.getD (Rowd.frm b4) (Int.toNat (IntKind.i64.wrap (x47 - 1))) Ty.org.dflt) (List.getD x45 (Int.toNat x47) Ty.org.dflt)) fun r1 =>
            bif (!r1) then (
              some false
            ) else (
              (xDk N k4 n x20 x21 x22 x45 x46 (IntKind.i64.wrap (x47 + 1)) b1 b4)
            )
            else none
          ) else (
            (xDk N k4 n x20 x21 x22 x45 x46 (IntKind.i64.wrap (x47 + 1)) b1 b4)
          )
        )
      )
      else none
    ) else (
      (k4 x20 x21 (IntKind.i64.wrap (x22 + 1)) b1)
    )
def xEl (N : Nat) (k4 : (List Rowd) → Int → Int → Val → Option (Bool)) : Nat → (List Rowd) → Int → Int → (List Int) → Int → Int → Val → Rowd → Option (Bool)
  | 0, _, _, _, _, _, _, _, _ => none
  | n + 1, x20, x21, x22, x34, x35, x36, b1, b4 =>
    bif (decide ((x36 : Int) < x35)) then (
      if (0 : Int) ≤ x36 ∧ x36 < (List.length x34) then
      Option.bind (xDX N (List.getD x34 (Int.toNat x36) Ty.int.dflt)) fun r1 =>
      bif (!r1) then (
        some false
      ) else (
        (xEl N k4 n x20 x21 x22 x34 x35 (IntKind.i64.wrap (x36 + 1)) b1 b4)
      )
      else none
    ) else (
      (xDk N k4 N x20 x21 x22 (Rowd.frm b4) (List.length (Rowd.frm b4) : Int) 0 b1 b4)
    )
def xEk (N : Nat) : Nat → (List Rowd) → Int → Int → Val → Option (Bool)
  | 0, _, _, _, _ => none
  | n + 1, x20, x21, x22, b1 =>
    bif (decide ((x22 : Int) < x21)) then (
      if (0 : Int) ≤ x22 ∧ x22 < (List.length x20) then
      bif (((List.length (Rowd.cells (List.getD x20 (Int.toNat x22) Ty.row.dflt)) : Int) : Int) != (List.length (Val.columns b1) : Int)) then (
        some false
      ) else (
        (xEl N (fun z0 z1 z2 z3 => (xEk N n z0 z1 z2 z3)) N x20 x21 x22 (Rowd.cells (List.getD x20 (Int.toNat x22) Ty.row.dflt)) (List.length (Rowd.cells (List.getD x20 (Int.toNat x22) Ty.row.dflt)) : Int) 0 b1 (List.getD x20 (Int.toNat x22) Ty.row.dflt))
      )
      else none
    ) else (
      some true
    )
def xFV (N : Nat) (a0 : Val) : Option (Bool) :=
  Option.bind (xF3 N (Val.columns a0)) fun r1 =>
  bif (!r1) then (
    some false
  ) else (
    bif (decide (((List.length (Val.rows a0) : Int) : Int) > 12)) then (
      some false
    ) else (
      (xEk N N (Val.rows a0) (List.length (Val.rows a0) : Int) 0 a0)
    )
  )
def xEf (a0 : Val) : List Arg := [.val (.v true [.int .i64 (Val.kind a0), .int .i64 (Val.n a0), .int .i64 (Val.step a0), .str (Val.text a0), .sl .ro .val (Val.list a0), .sl .ro .str (Val.columns a0), .sl .ro .row (Val.rows a0)])]
def xCN (r : Int) : CallO := ⟨.v false [.int .i64 r], [], []⟩
def xEI (N : Nat) (q0 : Val → Option (Int)) : Nat → Int → (List Val) → Int → Int → Option (Int)
  | 0, _, _, _, _ => none
  | n + 1, x3, x7, x8, x9 =>
    bif (decide ((x9 : Int) < x8)) then (
      if (0 : Int) ≤ x9 ∧ x9 < (List.length x7) then
      Option.bind (q0 (List.getD x7 (Int.toNat x9) Ty.val.dflt)) fun r1 =>
      (xEI N q0 n (if (r1 : Int) > x3 then r1 else x3) x7 x8 (IntKind.i64.wrap (x9 + 1)))
      else none
    ) else (
      some (IntKind.i64.wrap (x3 + 1))
    )
def xGe (N : Nat) (q0 : Val → Option (Int)) (a0 : Val) : Option (Int) :=
  (xEI N q0 N 0 (Val.list a0) (List.length (Val.list a0) : Int) 0)
def xDM (N : Nat) : Nat → Val → Option (Int)
  | 0, _ => none
  | d + 1, a0 => xGe N (xDM N d) a0
def xGD (N : Nat) (a0 : Val) : Option (Int) := xDM N N a0
def xAc (a0 : Val) : List Arg := [.val (.v true [.int .i64 (Val.kind a0), .int .i64 (Val.n a0), .int .i64 (Val.step a0), .str (Val.text a0), .sl .ro .val (Val.list a0), .sl .ro .str (Val.columns a0), .sl .ro .row (Val.rows a0)])]
def xAb (r : Bool) : CallO := ⟨.v false [.bool r], [], []⟩
def xBq (N : Nat) (q0 : Val → Option (Bool)) : Nat → (List Val) → Int → Int → Val → Option (Bool)
  | 0, _, _, _, _ => none
  | n + 1, x124, x125, x126, b1 =>
    bif (decide ((x126 : Int) < x125)) then (
      if (0 : Int) ≤ x126 ∧ x126 < (List.length x124) then
      bif (((Val.kind (List.getD x124 (Int.toNat x126) Ty.val.dflt)) : Int) != 1) then (
        bif (((Val.kind (List.getD x124 (Int.toNat x126) Ty.val.dflt)) : Int) != 2) then (
          bif (((Val.kind (List.getD x124 (Int.toNat x126) Ty.val.dflt)) : Int) != 3) then (
            some false
          ) else (
            Option.bind (q0 (List.getD x124 (Int.toNat x126) Ty.val.dflt)) fun r1 =>
            bif (!r1) then (
              some false
            ) else (
              (xBq N q0 n x124 x125 (IntKind.i64.wrap (x126 + 1)) b1)
            )
          )
        ) else (
          Option.bind (q0 (List.getD x124 (Int.toNat x126) Ty.val.dflt)) fun r1 =>
          bif (!r1) then (
            some false
          ) else (
            (xBq N q0 n x124 x125 (IntKind.i64.wrap (x126 + 1)) b1)
          )
        )
      ) else (
        Option.bind (q0 (List.getD x124 (Int.toNat x126) Ty.val.dflt)) fun r1 =>
        bif (!r1) then (
          some false
        ) else (
          (xBq N q0 n x124 x125 (IntKind.i64.wrap (x126 + 1)) b1)
        )
      )
      else none
    ) else (
      bif (((Val.n b1) : Int) == 0) then (
        bif (((Val.step b1) : Int) == 0) then (
          bif (((Val.text b1) : Str) == []) then (
            bif (((List.length (Val.columns b1) : Int) : Int) == 0) then (
              bif (((List.length (Val.rows b1) : Int) : Int) == 0) then (
                bif (decide (((List.length (Val.list b1) : Int) : Int) ≤ 8)) then (
                  Option.bind (xGD N b1) fun r1 =>
                  some (decide ((r1 : Int) ≤ 3))
                ) else (
                  some false
                )
              ) else (
                some false
              )
            ) else (
              some false
            )
          ) else (
            some false
          )
        ) else (
          some false
        )
      ) else (
        some false
      )
    )
def xDn (N : Nat) (q0 : Val → Option (Bool)) (a0 : Val) : Option (Bool) :=
  bif (((List.length (Val.list a0) : Int) : Int) == 0) then (
    bif (((List.length (Val.columns a0) : Int) : Int) == 0) then (
      bif (((Val.kind a0) : Int) == 1) then (
        bif (((List.length (Val.rows a0) : Int) : Int) == 0) then (
          bif (((Val.step a0) : Int) == 0) then (
            bif (((Val.text a0) : Str) == []) then (
              Option.bind (xDX N (Val.n a0)) fun r1 =>
              some r1
            ) else (
              some false
            )
          ) else (
            some false
          )
        ) else (
          some false
        )
      ) else (
        bif (((Val.kind a0) : Int) == 2) then (
          bif (((List.length (Val.rows a0) : Int) : Int) == 0) then (
            bif (((Val.n a0) : Int) == 0) then (
              bif (((Val.step a0) : Int) == 0) then (
                Option.bind (xFL N (Val.text a0)) fun r1 =>
                some r1
              ) else (
                some false
              )
            ) else (
              some false
            )
          ) else (
            some false
          )
        ) else (
          bif (((Val.kind a0) : Int) == 4) then (
            bif (((List.length (Val.rows a0) : Int) : Int) == 0) then (
              bif (((Val.text a0) : Str) == []) then (
                Option.bind (xDX N (Val.n a0)) fun r1 =>
                bif r1 then (
                  Option.bind (xDX N (Val.step a0)) fun r2 =>
                  some r2
                ) else (
                  some false
                )
              ) else (
                some false
              )
            ) else (
              some false
            )
          ) else (
            bif (((Val.kind a0) : Int) == 6) then (
              bif (((List.length (Val.rows a0) : Int) : Int) == 0) then (
                bif (((Val.step a0) : Int) == 0) then (
                  bif (((Val.text a0) : Str) == []) then (
                    Option.bind (xED N (Val.n a0) 1 8) fun r1 =>
                    some r1
                  ) else (
                    some false
                  )
                ) else (
                  some false
                )
              ) else (
                some false
              )
            ) else (
              bif (((Val.kind a0) : Int) == 5) then (
                bif (((Val.n a0) : Int) == 0) then (
                  bif (((Val.step a0) : Int) == 0) then (
                    bif (((Val.text a0) : Str) == []) then (
                      Option.bind (xFV N a0) fun r1 =>
                      some r1
                    ) else (
                      some false
                    )
                  ) else (
                    some false
                  )
                ) else (
                  some false
                )
              ) else (
                bif (((Val.kind a0) : Int) == 3) then (
                  (xBq N q0 N (Val.list a0) (List.length (Val.list a0) : Int) 0 a0)
                ) else (
                  some false
                )
              )
            )
          )
        )
      )
    ) else (
      bif (((Val.kind a0) : Int) == 1) then (
        some false
      ) else (
        bif (((Val.kind a0) : Int) == 2) then (
          some false
        ) else (
          bif (((Val.kind a0) : Int) == 4) then (
            some false
          ) else (
            bif (((Val.kind a0) : Int) == 6) then (
              some false
            ) else (
              bif (((Val.kind a0) : Int) == 5) then (
                bif (((Val.n a0) : Int) == 0) then (
                  bif (((Val.step a0) : Int) == 0) then (
                    bif (((Val.text a0) : Str) == []) then (
                      Option.bind (xFV N a0) fun r1 =>
                      some r1
                    ) else (
                      some false
                    )
                  ) else (
                    some false
                  )
                ) else (
                  some false
                )
              ) else (
                bif (((Val.kind a0) : Int) == 3) then (
                  (xBq N q0 N (Val.list a0) (List.length (Val.list a0) : Int) 0 a0)
                ) else (
                  some false
                )
              )
            )
          )
        )
      )
    )
  ) else (
    bif (((Val.kind a0) : Int) == 1) then (
      some false
    ) else (
      bif (((Val.kind a0) : Int) == 2) then (
        some false
      ) else (
        bif (((Val.kind a0) : Int) == 4) then (
          some false
        ) else (
          bif (((Val.kind a0) : Int) == 6) then (
            some false
          ) else (
            bif (((Val.kind a0) : Int) == 5) then (
              bif (((Val.n a0) : Int) == 0) then (
                bif (((Val.step a0) : Int) == 0) then (
                  bif (((Val.text a0) : Str) == []) then (
                    some false
                  ) else (
                    some false
                  )
                ) else (
                  some false
                )
              ) else (
                some false
              )
            ) else (
              bif (((Val.kind a0) : Int) == 3) then (
                (xBq N q0 N (Val.list a0) (List.length (Val.list a0) : Int) 0 a0)
              ) else (
                some false
              )
            )
          )
        )
      )
    )
  )
def xBr (N : Nat) : Nat → Val → Option (Bool)
  | 0, _ => none
  | d + 1, a0 => xDn N (xBr N d) a0
def xGf (N : Nat) (a0 : Val) : Option (Bool) := xBr N N a0
def xAR (a0 : Int) : List Arg := [.val (.v false [.int .i64 a0])]
def xAp (r : Val) : CallO := ⟨.v true [.int .i64 (Val.kind r), .int .i64 (Val.n r), .int .i64 (Val.step r), .str (Val.text r), .sl .own .val (Val.list r), .sl .own .str (Val.columns r), .sl .own .row (Val.rows r)], [], []⟩
def xA2 (N : Nat) (a0 : Int) : Option (Val) :=
  some (Val.mk 6 a0 0 [] [] [] [])
def xAP (a0 : List Val) : List Arg := [.val (.v false [.sl .ro .val a0])]
def xFj (r : Val × Bool × Bool) : CallO := ⟨.tup [(true, [.int .i64 (Val.kind r.1), .int .i64 (Val.n r.1), .int .i64 (Val.step r.1), .str (Val.text r.1), .sl .ro .val (Val.list r.1), .sl .ro .str (Val.columns r.1), .sl .ro .row (Val.rows r.1)]), (false, [.bool r.2.1])], [], []⟩
def xAO (r : Val × Bool × Bool) : CallO := ⟨.tup [(true, [.int .i64 (Val.kind r.1), .int .i64 (Val.n r.1), .int .i64 (Val.step r.1), .str (Val.text r.1), .sl .own .val (Val.list r.1), .sl .own .str (Val.columns r.1), .sl .own .row (Val.rows r.1)]), (false, [.bool r.2.1])], [], []⟩
def xAX (r : Val × Bool × Bool) : CallO := ⟨.tup [(true, [.int .i64 (Val.kind r.1), .int .i64 (Val.n r.1), .int .i64 (Val.step r.1), .str (Val.text r.1), .sl .ro .val [], .sl .ro .str [], .sl .ro .row []]), (false, [.bool r.2.1])], [], []⟩
def xBE (r : Val × Bool × Bool) : CallO := bif r.2.2 then xFj r else xAO r
def xCy (N : Nat) : Nat → (List Val) → Int → Int → Val → Option (Val × Bool × Bool)
  | 0, _, _, _, _ => none
  | n + 1, x6, x7, x8, b2 =>
    bif (decide ((x8 : Int) < x7)) then (
      if (0 : Int) ≤ x8 ∧ x8 < (List.length x6) then
      Option.bind (xGf N (List.getD x6 (Int.toNat x8) Ty.val.dflt)) fun r1 =>
      bif (!r1) then (
        Option.bind (xA2 N 4) fun r2 =>
        some (r2, true, false)
      ) else (
        bif (((Val.kind (List.getD x6 (Int.toNat x8) Ty.val.dflt)) : Int) == 6) then (
          some ((List.getD x6 (Int.toNat x8) Ty.val.dflt), true, true)
        ) else (
          (xCy N n x6 x7 (IntKind.i64.wrap (x8 + 1)) b2)
        )
      )
      else none
    ) else (
      some ((Val.mk 0 0 0 [] [] [] []), false, false)
    )
def xD8 (N : Nat) (a0 : List Val) : Option (Val × Bool × Bool) :=
  (xCy N N a0 (List.length a0 : Int) 0 (Val.mk 0 0 0 [] [] [] []))
def xBM (a0 : Int) : List Arg := [.val (.v false [.int .i64 a0])]
def xAZ (r : Val) : CallO := ⟨.v true [.int .i64 (Val.kind r), .int .i64 (Val.n r), .int .i64 (Val.step r), .str (Val.text r), .sl .own .val (Val.list r), .sl .own .str (Val.columns r), .sl .own .row (Val.rows r)], [], []⟩
def xCm (N : Nat) (a0 : Int) : Option (Val) :=
  some (Val.mk 1 a0 0 [] [] [] [])
def xC1 (a0 : Int) : List Arg := [.val (.v false [.int .i64 a0])]
def xCa (r : Val) : CallO := ⟨.v true [.int .i64 (Val.kind r), .int .i64 (Val.n r), .int .i64 (Val.step r), .str (Val.text r), .sl .own .val (Val.list r), .sl .own .str (Val.columns r), .sl .own .row (Val.rows r)], [], []⟩
def xDH (N : Nat) (a0 : Int) : Option (Val) :=
  Option.bind (xDX N a0) fun r1 =>
  bif (!r1) then (
    Option.bind (xA2 N 5) fun r2 =>
    some r2
  ) else (
    Option.bind (xCm N a0) fun r2 =>
    some r2
  )
def xF5 (a0 : Rowd) : List Arg := [.val (.v true [.sl .ro .int (Rowd.cells a0), .sl .ro .org (Rowd.frm a0)])]
def xFi (r : Rowd) : CallO := ⟨.v true [.sl .own .int (Rowd.cells r), .sl .own .org (Rowd.frm r)], [], []⟩
def xG9 (N : Nat) (a0 : Rowd) : Option (Rowd) :=
  if 0 + List.length (Rowd.cells a0) ≤ Lim then
  if 0 + List.length (Rowd.frm a0) ≤ Lim then
  some (Rowd.mk ([] ++ (Rowd.cells a0)) ([] ++ (Rowd.frm a0)))
  else none
  else none
def xC3 (a0 : Val) : List Arg := [.val (.v true [.int .i64 (Val.kind a0), .int .i64 (Val.n a0), .int .i64 (Val.step a0), .str (Val.text a0), .sl .ro .val (Val.list a0), .sl .ro .str (Val.columns a0), .sl .ro .row (Val.rows a0)])]
def xBQ (r : Val) : CallO := ⟨.v true [.int .i64 (Val.kind r), .int .i64 (Val.n r), .int .i64 (Val.step r), .str (Val.text r), .sl .own .val (Val.list r), .sl .own .str (Val.columns r), .sl .own .row (Val.rows r)], [], []⟩
def xDr (N : Nat) (q0 : Val → Option (Val)) (q1 : (List Val) → Option ((List Val))) : Nat → (List Rowd) → Int → Int → Val → Val → Option (Val)
  | 0, _, _, _, _, _ => none
  | n + 1, x18, x19, x20, b2, b3 =>
    bif (decide ((x20 : Int) < x19)) then (
      if (0 : Int) ≤ x20 ∧ x20 < (List.length x18) then
      Option.bind (xG9 N (List.getD x18 (Int.toNat x20) Ty.row.dflt)) fun r1 =>
      if List.length (Val.rows b3) + List.length [r1] ≤ Lim then
      (xDr N q0 q1 n x18 x19 (IntKind.i64.wrap (x20 + 1)) b2 (Val.mk (Val.kind b3) (Val.n b3) (Val.step b3) (Val.text b3) (Val.list b3) (Val.columns b3) ((Val.rows b3) ++ [r1])))
      else none
      else none
    ) else (
      some b3
    )
def xEi (N : Nat) (q0 : Val → Option (Val)) (q1 : (List Val) → Option ((List Val))) (a0 : Val) : Option (Val) :=
  Option.bind (q1 (Val.list a0)) fun r1 =>
  if 0 + List.length (Val.columns a0) ≤ Lim then
  (xDr N q0 q1 N (Val.rows a0) (List.length (Val.rows a0) : Int) 0 (Val.mk 0 0 0 [] [] [] []) (Val.mk (Val.kind a0) (Val.n a0) (Val.step a0) (Val.text a0) r1 ([] ++ (Val.columns a0)) []))
  else none
def xDc (a0 : List Val) : List Arg := [.val (.v false [.sl .ro .val a0])]
def xB3 (r : (List Val)) : CallO := ⟨.v false [.sl .own .val r], [], []⟩
def xDK (N : Nat) (q0 : Val → Option (Val)) (q1 : (List Val) → Option ((List Val))) : Nat → (List Val) → (List Val) → Int → Int → Option ((List Val))
  | 0, _, _, _, _ => none
  | n + 1, x3, x7, x8, x9 =>
    bif (decide ((x9 : Int) < x8)) then (
      if (0 : Int) ≤ x9 ∧ x9 < (List.length x7) then
      Option.bind (q0 (List.getD x7 (Int.toNat x9) Ty.val.dflt)) fun r1 =>
      if List.length x3 + List.length [(Val.re r1)] ≤ Lim then
      (xDK N q0 q1 n (x3 ++ [(Val.re r1)]) x7 x8 (IntKind.i64.wrap (x9 + 1)))
      else none
      else none
    ) else (
      some x3
    )
def xDT (N : Nat) (q0 : Val → Option (Val)) (q1 : (List Val) → Option ((List Val))) (a0 : List Val) : Option ((List Val)) :=
  (xDK N q0 q1 N [] a0 (List.length a0 : Int) 0)
structure impl_copyValue_rec where
  c_impl_copyValue : Val → Option (Val)
  c_impl_copyValues : (List Val) → Option ((List Val))
def xA1 (N : Nat) : Nat → impl_copyValue_rec
  | 0 => ⟨fun _ => none, fun _ => none⟩
  | d + 1 => ⟨xEi N (xA1 N d).c_impl_copyValue (xA1 N d).c_impl_copyValues, xDT N (xA1 N d).c_impl_copyValue (xA1 N d).c_impl_copyValues⟩
def xGu (N : Nat) (a0 : Val) : Option (Val) := (xA1 N N).c_impl_copyValue a0
def xGW (N : Nat) (a0 : List Val) : Option ((List Val)) := (xA1 N N).c_impl_copyValues a0
def xEm (N : Nat) : Nat → (List Str) → (List Str) → Int → Int → Option (Bool)
  | 0, _, _, _, _ => none
  | n + 1, x0, x1, x12, x13 =>
    bif (decide ((x13 : Int) < x12)) then (
      if (0 : Int) ≤ x13 ∧ x13 < (List.length x0) then
      if (0 : Int) ≤ x13 ∧ x13 < (List.length x1) then
      bif (!(((List.getD x0 (Int.toNat x13) Ty.str.dflt) : Str) == (List.getD x1 (Int.toNat x13) Ty.str.dflt))) then (
        some false
      ) else (
        (xEm N n x0 x1 x12 (IntKind.i64.wrap (x13 + 1)))
      )
      else none
      else none
    ) else (
      some true
    )
def xGJ (N : Nat) (a0 : List Str) (a1 : List Str) : Option (Bool) :=
  bif (((List.length a0 : Int) : Int) != (List.length a1 : Int)) then (
    some false
  ) else (
    (xEm N N a0 a1 (List.length a0 : Int) 0)
  )
def xE2 (N : Nat) : Nat → (List Int) → (List Int) → Int → Int → Option (Bool)
  | 0, _, _, _, _ => none
  | n + 1, x0, x1, x12, x13 =>
    bif (decide ((x13 : Int) < x12)) then (
      if (0 : Int) ≤ x13 ∧ x13 < (List.length x0) then
      if (0 : Int) ≤ x13 ∧ x13 < (List.length x1) then
      bif (((List.getD x0 (Int.toNat x13) Ty.int.dflt) : Int) != (List.getD x1 (Int.toNat x13) Ty.int.dflt)) then (
        some false
      ) else (
        (xE2 N n x0 x1 x12 (IntKind.i64.wrap (x13 + 1)))
      )
      else none
      else none
    ) else (
      some true
    )
def xHI (N : Nat) (a0 : List Int) (a1 : List Int) : Option (Bool) :=
  bif (((List.length a0 : Int) : Int) != (List.length a1 : Int)) then (
    some false
  ) else (
    (xE2 N N a0 a1 (List.length a0 : Int) 0)
  )
def xFW (N : Nat) : Nat → (List Org) → (List Org) → Int → Int → Option (Bool)
  | 0, _, _, _, _ => none
  | n + 1, x0, x1, x12, x13 =>
    bif (decide ((x13 : Int) < x12)) then (
      if (0 : Int) ≤ x13 ∧ x13 < (List.length x0) then
      if (0 : Int) ≤ x13 ∧ x13 < (List.length x1) then
      bif (!((((Org.cell (List.getD x0 (Int.toNat x13) Ty.org.dflt)) : Int) == (Org.cell (List.getD x1 (Int.toNat x13) Ty.org.dflt))) && (((Org.row (List.getD x0 (Int.toNat x13) Ty.org.dflt)) : Int) == (Org.row (List.getD x1 (Int.toNat x13) Ty.org.dflt))))) then (
        some false
      ) else (
        (xFW N n x0 x1 x12 (IntKind.i64.wrap (x13 + 1)))
      )
      else none
      else none
    ) else (
      some true
    )
def xH5 (N : Nat) (a0 : List Org) (a1 : List Org) : Option (Bool) :=
  bif (((List.length a0 : Int) : Int) != (List.length a1 : Int)) then (
    some false
  ) else (
    (xFW N N a0 a1 (List.length a0 : Int) 0)
  )
def xD1 (N : Nat) (q0 : Val → Val → Bool → Option (Bool)) : Nat → Bool → Int → Int → Val → Val → Option (Bool)
  | 0, _, _, _, _, _ => none
  | n + 1, x2, x83, x84, b3, b4 =>
    bif (decide ((x84 : Int) < x83)) then (
      if (0 : Int) ≤ x84 ∧ x84 < (List.length (Val.rows b3)) then
      if (0 : Int) ≤ x84 ∧ x84 < (List.length (Val.rows b4)) then
      Option.bind (xHI N (Rowd.cells (List.getD (Val.rows b3) (Int.toNat x84) Ty.row.dflt)) (Rowd.cells (List.getD (Val.rows b4) (Int.toNat x84) Ty.row.dflt))) fun r1 =>
      bif (!r1) then (
        some false
      ) else (
        bif x2 then (
          Option.bind (xH5 N (Rowd.frm (List.getD (Val.rows b3) (Int.toNat x84) Ty.row.dflt)) (Rowd.frm (List.getD (Val.rows b4) (Int.toNat x84) Ty.row.dflt))) fun r2 =>
          bif (!r2) then (
            some false
          ) else (
            (xD1 N q0 n x2 x83 (IntKind.i64.wrap (x84 + 1)) b3 b4)
          )
        ) else (
          (xD1 N q0 n x2 x83 (IntKind.i64.wrap (x84 + 1)) b3 b4)
        )
      )
      else none
      else none
    ) else (
      some true
    )
def xFr (N : Nat) (q0 : Val → Val → Bool → Option (Bool)) : Nat → Bool → Int → Int → Val → Val → Option (Bool)
  | 0, _, _, _, _, _ => none
  | n + 1, x2, x63, x64, b3, b4 =>
    bif (decide ((x64 : Int) < x63)) then (
      if (0 : Int) ≤ x64 ∧ x64 < (List.length (Val.list b3)) then
      if (0 : Int) ≤ x64 ∧ x64 < (List.length (Val.list b4)) then
      Option.bind (q0 (List.getD (Val.list b3) (Int.toNat x64) Ty.val.dflt) (List.getD (Val.list b4) (Int.toNat x64) Ty.val.dflt) x2) fun r1 =>
      bif (!r1) then (
        some false
      ) else (
        (xFr N q0 n x2 x63 (IntKind.i64.wrap (x64 + 1)) b3 b4)
      )
      else none
      else none
    ) else (
      (xD1 N q0 N x2 (List.length (Val.rows b3) : Int) 0 b3 b4)
    )
def xGX (N : Nat) (q0 : Val → Val → Bool → Option (Bool)) (a0 : Val) (a1 : Val) (a2 : Bool) : Option (Bool) :=
  bif (((Val.kind a0) : Int) != (Val.kind a1)) then (
    some false
  ) else (
    bif (((Val.n a0) : Int) != (Val.n a1)) then (
      some false
    ) else (
      bif (((Val.step a0) : Int) != (Val.step a1)) then (
        some false
      ) else (
        bif (!(((Val.text a0) : Str) == (Val.text a1))) then (
          some false
        ) else (
          Option.bind (xGJ N (Val.columns a0) (Val.columns a1)) fun r1 =>
          bif (!r1) then (
            some false
          ) else (
            bif (((List.length (Val.list a0) : Int) : Int) != (List.length (Val.list a1) : Int)) then (
              some false
            ) else (
              bif (((List.length (Val.rows a0) : Int) : Int) != (List.length (Val.rows a1) : Int)) then (
                some false
              ) else (
                (xFr N q0 N a2 (List.length (Val.list a0) : Int) 0 a0 a1)
              )
            )
          )
        )
      )
    )
  )
def xCP (N : Nat) : Nat → Val → Val → Bool → Option (Bool)
  | 0, _, _, _ => none
  | d + 1, a0, a1, a2 => xGX N (xCP N d) a0 a1 a2
def impl_equal (N : Nat) (a0 : Val) (a1 : Val) (a2 : Bool) : Option (Bool) := xCP N N a0 a1 a2
def xH1 (N : Nat) (a0 : Val) (a1 : Val) : Option (Bool) :=
  Option.bind (impl_equal N a0 a1 false) fun r1 =>
  some r1
def laws_markIntS_b2 (N : Nat) : Nat → (List Int) → Int → Int → Option (Int × (List Int))
  | 0, _, _, _ => none
  | n + 1, x0, x1, x5 =>
    bif (decide ((x5 : Int) < (List.length x0 : Int))) then (
      if (0 : Int) ≤ x5 ∧ x5 < (List.length x0) then
      (laws_markIntS_b2 N n (List.set x0 (Int.toNat x5) x1) (IntKind.i64.wrap (x1 + 1)) (IntKind.i64.wrap (x5 + 1)))
      else none
    ) else (
      some (x1, x0)
    )
def xBt (a0 : List Int) : List Arg := [.val (.v false [.sl .ro .byte a0])]
def xAB (r : Bool) : CallO := ⟨.v false [.bool r], [], []⟩
def laws_big (N : Nat) (a0 : List Int) : Option (Bool) :=
  some (decide (((List.length a0 : Int) : Int) > 1048576))
def xGN (a0 : List Int) : List Arg := [.val (.v false [.sl .ro .byte a0])]
def xE0 (r : Cur) : CallO := ⟨.tup [(false, [.ptr 0 0]), (true, [.sl .ro .byte (Cur.b r), .int .i64 (Cur.i r), .int .i64 (Cur.h r)])], [], []⟩
def xFy (N : Nat) : Nat → (List Int) → Int → Int → Option (Cur)
  | 0, _, _, _ => none
  | n + 1, x0, x3, x4 =>
    bif (decide ((x4 : Int) < (List.length x0 : Int))) then (
      bif (decide ((x4 : Int) < 4000)) then (
        if (0 : Int) ≤ x4 ∧ x4 < (List.length x0) then
        (xFy N n x0 (andI .i64 (IntKind.i64.wrap ((IntKind.i64.wrap ((IntKind.i64.wrap (x3 * 131)) + (IntKind.i64.wrap ((List.getD x0 (Int.toNat x4) Ty.byte.dflt))))) + 7)) 1073741823) (IntKind.i64.wrap (x4 + 1)))
        else none
      ) else (
        some (Cur.mk x0 0 x3)
      )
    ) else (
      some (Cur.mk x0 0 x3)
    )
def xGP (N : Nat) (a0 : List Int) : Option (Cur) :=
  (xFy N N a0 (IntKind.i64.wrap (26583 + (List.length a0 : Int))) 0)
def xDz (a0 : Cur) : List Arg := [.box [.sl .ro .byte (Cur.b a0), .int .i64 (Cur.i a0), .int .i64 (Cur.h a0)]]
def xB6 (r : Int × Cur) : CallO := ⟨.v false [.int .i64 r.1], [[.sl .ro .byte (Cur.b r.2), .int .i64 (Cur.i r.2), .int .i64 (Cur.h r.2)]], []⟩
def xEY (N : Nat) (a0 : Cur) : Option (Int × Cur) :=
  bif (decide (((Cur.i a0) : Int) < (List.length (Cur.b a0) : Int))) then (
    if (0 : Int) ≤ (Cur.i a0) ∧ (Cur.i a0) < (List.length (Cur.b a0)) then
    some ((andI .i64 (IntKind.i64.wrap ((andI .i64 (xorI .i64 (Int.fdiv (IntKind.i64.wrap ((IntKind.i64.wrap ((Cur.h a0) * 6364136223846793005)) + 1442695040888963407)) ((2 : Int) ^ (Int.toNat 33))) (Int.fdiv (IntKind.i64.wrap ((IntKind.i64.wrap ((Cur.h a0) * 6364136223846793005)) + 1442695040888963407)) ((2 : Int) ^ (Int.toNat 45)))) 255) + (IntKind.i64.wrap ((List.getD (Cur.b a0) (Int.toNat (Cur.i a0)) Ty.byte.dflt))))) 255), (Cur.mk (Cur.b a0) (IntKind.i64.wrap ((Cur.i a0) + 1)) (IntKind.i64.wrap ((IntKind.i64.wrap ((Cur.h a0) * 6364136223846793005)) + 1442695040888963407))))
    else none
  ) else (
    some ((andI .i64 (xorI .i64 (Int.fdiv (IntKind.i64.wrap ((IntKind.i64.wrap ((Cur.h a0) * 6364136223846793005)) + 1442695040888963407)) ((2 : Int) ^ (Int.toNat 33))) (Int.fdiv (IntKind.i64.wrap ((IntKind.i64.wrap ((Cur.h a0) * 6364136223846793005)) + 1442695040888963407)) ((2 : Int) ^ (Int.toNat 45)))) 255), (Cur.mk (Cur.b a0) (Cur.i a0) (IntKind.i64.wrap ((IntKind.i64.wrap ((Cur.h a0) * 6364136223846793005)) + 1442695040888963407))))
  )
def xAu (a0 : Cur) (a1 : Int) : List Arg := [.box [.sl .ro .byte (Cur.b a0), .int .i64 (Cur.i a0), .int .i64 (Cur.h a0)], .val (.v false [.int .i64 a1])]
def xAd (r : Int × Cur) : CallO := ⟨.v false [.int .i64 r.1], [[.sl .ro .byte (Cur.b r.2), .int .i64 (Cur.i r.2), .int .i64 (Cur.h r.2)]], []⟩
def xBy (N : Nat) (a0 : Cur) (a1 : Int) : Option (Int × Cur) :=
  bif (decide ((a1 : Int) ≤ 0)) then (
    some (0, a0)
  ) else (
    bif (decide ((a1 : Int) ≤ 256)) then (
      Option.bind (xEY N a0) fun r1 =>
      if a1 ≠ (0 : Int) then
      some ((Int.tmod r1.1 a1), r1.2)
      else none
    ) else (
      Option.bind (xEY N a0) fun r1 =>
      Option.bind (xEY N r1.2) fun r2 =>
      Option.bind (xEY N r2.2) fun r3 =>
      Option.bind (xEY N r3.2) fun r4 =>
      if a1 ≠ (0 : Int) then
      some ((Int.tmod (IntKind.i64.wrap ((IntKind.i64.wrap ((IntKind.i64.wrap ((IntKind.i64.wrap (r1.1 * 16777216)) + (IntKind.i64.wrap (r2.1 * 65536)))) + (IntKind.i64.wrap (r3.1 * 256)))) + r4.1)) a1), r4.2)
      else none
    )
  )
def xBA (a0 : Cur) (a1 : Int) : List Arg := [.box [.sl .ro .byte (Cur.b a0), .int .i64 (Cur.i a0), .int .i64 (Cur.h a0)], .val (.v false [.int .i64 a1])]
def xAM (r : Bool × Cur) : CallO := ⟨.v false [.bool r.1], [[.sl .ro .byte (Cur.b r.2), .int .i64 (Cur.i r.2), .int .i64 (Cur.h r.2)]], []⟩
def xDP (N : Nat) (a0 : Cur) (a1 : Int) : Option (Bool × Cur) :=
  Option.bind (xBy N a0 a1) fun r1 =>
  some (((r1.1 : Int) == 0), r1.2)
def xEM (a0 : Cur) (a1 : List Int) : List Arg := [.box [.sl .ro .byte (Cur.b a0), .int .i64 (Cur.i a0), .int .i64 (Cur.h a0)], .val (.v false [.sl .ro .int a1])]
def xDx (r : Int × Cur) : CallO := ⟨.v false [.int .i64 r.1], [[.sl .ro .byte (Cur.b r.2), .int .i64 (Cur.i r.2), .int .i64 (Cur.h r.2)]], []⟩
def xEF (N : Nat) (a0 : Cur) (a1 : List Int) : Option (Int × Cur) :=
  Option.bind (xBy N a0 (List.length a1 : Int)) fun r1 =>
  if (0 : Int) ≤ r1.1 ∧ r1.1 < (List.length a1) then
  some ((List.getD a1 (Int.toNat r1.1) Ty.int.dflt), r1.2)
  else none
def xE6 (a0 : Cur) (a1 : List Str) : List Arg := [.box [.sl .ro .byte (Cur.b a0), .int .i64 (Cur.i a0), .int .i64 (Cur.h a0)], .val (.v false [.sl .ro .str a1])]
def xDB (r : Str × Cur) : CallO := ⟨.v false [.str r.1], [[.sl .ro .byte (Cur.b r.2), .int .i64 (Cur.i r.2), .int .i64 (Cur.h r.2)]], []⟩
def xFm (N : Nat) (a0 : Cur) (a1 : List Str) : Option (Str × Cur) :=
  Option.bind (xBy N a0 (List.length a1 : Int)) fun r1 =>
  if (0 : Int) ≤ r1.1 ∧ r1.1 < (List.length a1) then
  some ((List.getD a1 (Int.toNat r1.1) Ty.str.dflt), r1.2)
  else none
def xCk (a0 : Cur) : List Arg := [.box [.sl .ro .byte (Cur.b a0), .int .i64 (Cur.i a0), .int .i64 (Cur.h a0)]]
def xBi (r : Int × Cur) : CallO := ⟨.v false [.int .i64 r.1], [[.sl .ro .byte (Cur.b r.2), .int .i64 (Cur.i r.2), .int .i64 (Cur.h r.2)]], []⟩
def xC6 (N : Nat) (a0 : Cur) : Option (Int × Cur) :=
  Option.bind (xDP N a0 12) fun r1 =>
  bif r1.1 then (
    Option.bind (xEF N r1.2 [1000000000, (-1000000000), 999999999, 500000000, 40000]) fun r2 =>
    some (r2.1, r2.2)
  ) else (
    Option.bind (xBy N r1.2 12) fun r2 =>
    some ((IntKind.i64.wrap (r2.1 - 3)), r2.2)
  )
def xAe (a0 : Val) (a1 : Val) : List Arg := [.val (.v true [.int .i64 (Val.kind a0), .int .i64 (Val.n a0), .int .i64 (Val.step a0), .str (Val.text a0), .sl .ro .val (Val.list a0), .sl .ro .str (Val.columns a0), .sl .ro .row (Val.rows a0)]), .val (.v true [.int .i64 (Val.kind a1), .int .i64 (Val.n a1), .int .i64 (Val.step a1), .str (Val.text a1), .sl .ro .val (Val.list a1), .sl .ro .str (Val.columns a1), .sl .ro .row (Val.rows a1)])]
def xAa (r : Bool) : CallO := ⟨.v false [.bool r], [], []⟩
def xAI (N : Nat) (a0 : Val) (a1 : Val) : Option (Bool) :=
  Option.bind (xGr N a0 a1 true) fun r1 =>
  some r1
def xFa (a0 : Cur) : List Arg := [.box [.sl .ro .byte (Cur.b a0), .int .i64 (Cur.i a0), .int .i64 (Cur.h a0)]]
def xDD (r : Str × Cur) : CallO := ⟨.v false [.str r.1], [[.sl .ro .byte (Cur.b r.2), .int .i64 (Cur.i r.2), .int .i64 (Cur.h r.2)]], []⟩
def xFS (N : Nat) (a0 : Cur) : Option (Str × Cur) :=
  Option.bind (xFm N a0 [[], [97], [98], [97, 98], [104, 101, 108, 108, 111], [116, 119, 101, 110, 116, 121, 32, 99, 104, 97, 114, 97, 99, 116, 101, 114, 115, 32, 111, 107], [110, 105, 110, 101, 116, 101, 101, 110, 32, 99, 104, 97, 114, 97, 99, 116, 101, 114, 46]]) fun r1 =>
  some (r1.1, r1.2)
def xCM (a0 : Cur) (a1 : Int) : List Arg := [.box [.sl .ro .byte (Cur.b a0), .int .i64 (Cur.i a0), .int .i64 (Cur.h a0)], .val (.v false [.int .i64 a1])]
def xBL (r : Val × Cur) : CallO := ⟨.v true [.int .i64 (Val.kind r.1), .int .i64 (Val.n r.1), .int .i64 (Val.step r.1), .str (Val.text r.1), .sl .own .val (Val.list r.1), .sl .own .str (Val.columns r.1), .sl .own .row (Val.rows r.1)], [[.sl .ro .byte (Cur.b r.2), .int .i64 (Cur.i r.2), .int .i64 (Cur.h r.2)]], []⟩
def xDL (N : Nat) (q0 : Cur → Int → Option (Val × Cur)) (q1 : Cur → Int → Option (Val × Cur)) : Nat → Int → Int → Int → Cur → Val → Val → Option (Val × Cur)
  | 0, _, _, _, _, _, _ => none
  | n + 1, x1, x6, x7, b0, b4, b5 =>
    bif (decide ((x7 : Int) < x6)) then (
      Option.bind (q1 b0 x1) fun r1 =>
      if List.length (Val.list b5) + List.length [(Val.re r1.1)] ≤ Lim then
      (xDL N q0 q1 n x1 x6 (IntKind.i64.wrap (x7 + 1)) r1.2 b4 (Val.mk (Val.kind b5) (Val.n b5) (Val.step b5) (Val.text b5) ((Val.list b5) ++ [(Val.re r1.1)]) (Val.columns b5) (Val.rows b5)))
      else none
    ) else (
      some (b5, b0)
    )
def xDU (N : Nat) (q0 : Cur → Int → Option (Val × Cur)) (q1 : Cur → Int → Option (Val × Cur)) (a0 : Cur) (a1 : Int) : Option (Val × Cur) :=
  Option.bind (xEF N a0 [0, 1, 2, 3, 3, 4, 5, 8]) fun r1 =>
  (xDL N q0 q1 N a1 r1.1 0 r1.2 (Val.mk 0 0 0 [] [] [] []) (Val.mk 3 0 0 [] [] [] []))
def xCA (a0 : Cur) (a1 : Int) : List Arg := [.box [.sl .ro .byte (Cur.b a0), .int .i64 (Cur.i a0), .int .i64 (Cur.h a0)], .val (.v false [.int .i64 a1])]
def xB9 (r : Val × Cur) : CallO := ⟨.v true [.int .i64 (Val.kind r.1), .int .i64 (Val.n r.1), .int .i64 (Val.step r.1), .str (Val.text r.1), .sl .own .val (Val.list r.1), .sl .own .str (Val.columns r.1), .sl .own .row (Val.rows r.1)], [[.sl .ro .byte (Cur.b r.2), .int .i64 (Cur.i r.2), .int .i64 (Cur.h r.2)]], []⟩
def xDV (N : Nat) (q0 : Cur → Int → Option (Val × Cur)) (q1 : Cur → Int → Option (Val × Cur)) (a0 : Cur) (a1 : Int) : Option (Val × Cur) :=
  bif (decide ((a1 : Int) > 1)) then (
    Option.bind (xDP N a0 4) fun r1 =>
    bif r1.1 then (
      Option.bind (q0 r1.2 (IntKind.i64.wrap (a1 - 1))) fun r2 =>
      some (r2.1, r2.2)
    ) else (
      Option.bind (xDP N r1.2 4) fun r2 =>
      bif r2.1 then (
        Option.bind (xFS N r2.2) fun r3 =>
        Option.bind (xD2 N r3.1) fun r4 =>
        some (r4, r3.2)
      ) else (
        Option.bind (xC6 N r2.2) fun r3 =>
        Option.bind (xAU N r3.1) fun r4 =>
        some (r4, r3.2)
      )
    )
  ) else (
    Option.bind (xDP N a0 4) fun r1 =>
    bif r1.1 then (
      Option.bind (xFS N r1.2) fun r2 =>
      Option.bind (xD2 N r2.1) fun r3 =>
      some (r3, r2.2)
    ) else (
      Option.bind (xC6 N r1.2) fun r2 =>
      Option.bind (xAU N r2.1) fun r3 =>
      some (r3, r2.2)
    )
  )
structure spec_l3DrawList_rec where
  c_spec_l3DrawList : Cur → Int → Option (Val × Cur)
  c_spec_l3Element2 : Cur → Int → Option (Val × Cur)
def xA0 (N : Nat) : Nat → spec_l3DrawList_rec
  | 0 => ⟨fun _ _ => none, fun _ _ => none⟩
  | d + 1 => ⟨xDU N (xA0 N d).c_spec_l3DrawList (xA0 N d).c_spec_l3Element2, xDV N (xA0 N d).c_spec_l3DrawList (xA0 N d).c_spec_l3Element2⟩
def xGc (N : Nat) (a0 : Cur) (a1 : Int) : Option (Val × Cur) := (xA0 N N).c_spec_l3DrawList a0 a1
def xEO (a0 : Cur) : List Arg := [.box [.sl .ro .byte (Cur.b a0), .int .i64 (Cur.i a0), .int .i64 (Cur.h a0)]]
def xC7 (r : Val × Cur) : CallO := ⟨.v true [.int .i64 (Val.kind r.1), .int .i64 (Val.n r.1), .int .i64 (Val.step r.1), .str (Val.text r.1), .sl .own .val (Val.list r.1), .sl .own .str (Val.columns r.1), .sl .own .row (Val.rows r.1)], [[.sl .ro .byte (Cur.b r.2), .int .i64 (Cur.i r.2), .int .i64 (Cur.h r.2)]], []⟩
def xEc (N : Nat) : Nat → Int → Int → Cur → Val → Val → Option (Val × Cur)
  | 0, _, _, _, _, _ => none
  | n + 1, x4, x5, b0, b2, b3 =>
    bif (decide ((x5 : Int) < x4)) then (
      Option.bind (xC6 N b0) fun r1 =>
      Option.bind (xAU N r1.1) fun r2 =>
      if List.length (Val.list b3) + List.length [(Val.re r2)] ≤ Lim then
      (xEc N n x4 (IntKind.i64.wrap (x5 + 1)) r1.2 b2 (Val.mk (Val.kind b3) (Val.n b3) (Val.step b3) (Val.text b3) ((Val.list b3) ++ [(Val.re r2)]) (Val.columns b3) (Val.rows b3)))
      else none
    ) else (
      some (b3, b0)
    )
def xFI (N : Nat) (a0 : Cur) : Option (Val × Cur) :=
  Option.bind (xBy N a0 9) fun r1 =>
  (xEc N N r1.1 0 r1.2 (Val.mk 0 0 0 [] [] [] []) (Val.mk 3 0 0 [] [] [] []))
def xDu (a0 : Int) (a1 : Int) : List Arg := [.val (.v false [.int .i64 a0]), .val (.v false [.int .i64 a1])]
def xCj (r : Val) : CallO := ⟨.v true [.int .i64 (Val.kind r), .int .i64 (Val.n r), .int .i64 (Val.step r), .str (Val.text r), .sl .own .val (Val.list r), .sl .own .str (Val.columns r), .sl .own .row (Val.rows r)], [], []⟩
def xEv (N : Nat) (a0 : Int) (a1 : Int) : Option (Val) :=
  some (Val.mk 4 a0 a1 [] [] [] [])
def xGA (a0 : Cur) : List Arg := [.box [.sl .ro .byte (Cur.b a0), .int .i64 (Cur.i a0), .int .i64 (Cur.h a0)]]
def xE9 (r : (List Org) × Cur) : CallO := ⟨.v false [.sl .own .org r.1], [[.sl .ro .byte (Cur.b r.2), .int .i64 (Cur.i r.2), .int .i64 (Cur.h r.2)]], []⟩
def xE8 (N : Nat) : Nat → (List Org) → Int → Int → Int → Cur → Option ((List Org) × Cur)
  | 0, _, _, _, _, _ => none
  | n + 1, x3, x4, x5, x6, b0 =>
    bif (decide ((x6 : Int) < x5)) then (
      Option.bind (xBy N b0 2) fun r1 =>
      if List.length x3 + List.length [(Org.mk x4 (IntKind.i64.wrap (x6 + (IntKind.i64.wrap (r1.1 * 2)))))] ≤ Lim then
      Option.bind (xBy N r1.2 2) fun r2 =>
      (xE8 N n (x3 ++ [(Org.mk x4 (IntKind.i64.wrap (x6 + (IntKind.i64.wrap (r1.1 * 2)))))]) (IntKind.i64.wrap ((IntKind.i64.wrap (x4 + 1)) + r2.1)) x5 (IntKind.i64.wrap (x6 + 1)) r2.2)
      else none
    ) else (
      some (x3, b0)
    )
def xHO (N : Nat) (a0 : Cur) : Option ((List Org) × Cur) :=
  Option.bind (xBy N a0 3) fun r1 =>
  (xE8 N N [] 1 r1.1 0 r1.2)
def xEs (a0 : Cur) : List Arg := [.box [.sl .ro .byte (Cur.b a0), .int .i64 (Cur.i a0), .int .i64 (Cur.h a0)]]
def xCF (r : Val × Cur) : CallO := ⟨.v true [.int .i64 (Val.kind r.1), .int .i64 (Val.n r.1), .int .i64 (Val.step r.1), .str (Val.text r.1), .sl .own .val (Val.list r.1), .sl .own .str (Val.columns r.1), .sl .own .row (Val.rows r.1)], [[.sl .ro .byte (Cur.b r.2), .int .i64 (Cur.i r.2), .int .i64 (Cur.h r.2)]], []⟩
def xDi (N : Nat) (k10 : Int → Int → Int → Cur → Val → Val → Option (Val × Cur)) : Nat → Int → Int → Int → Int → Cur → Val → Val → Rowd → Option (Val × Cur)
  | 0, _, _, _, _, _, _, _, _ => none
  | n + 1, x4, x6, x7, x9, b0, b2, b5, b8 =>
    bif (decide ((x9 : Int) < x4)) then (
      Option.bind (xC6 N b0) fun r1 =>
      if List.length (Rowd.cells b8) + List.length [r1.1] ≤ Lim then
      (xDi N k10 n x4 x6 x7 (IntKind.i64.wrap (x9 + 1)) r1.2 b2 b5 (Rowd.mk ((Rowd.cells b8) ++ [r1.1]) (Rowd.frm b8)))
      else none
    ) else (
      if List.length (Val.rows b5) + List.length [b8] ≤ Lim then
      (k10 x4 x6 (IntKind.i64.wrap (x7 + 1)) b0 b2 (Val.mk (Val.kind b5) (Val.n b5) (Val.step b5) (Val.text b5) (Val.list b5) (Val.columns b5) ((Val.rows b5) ++ [b8])))
      else none
    )
def xBX (N : Nat) : Nat → Int → Int → Int → Cur → Val → Val → Option (Val × Cur)
  | 0, _, _, _, _, _, _ => none
  | n + 1, x4, x6, x7, b0, b2, b5 =>
    bif (decide ((x7 : Int) < x6)) then (
      Option.bind (xHO N b0) fun r1 =>
      (xDi N (fun z0 z1 z2 z3 z4 z5 => (xBX N n z0 z1 z2 z3 z4 z5)) N x4 x6 x7 0 r1.2 b2 b5 (Rowd.mk [] r1.1))
    ) else (
      some (b5, b0)
    )
def xE5 (N : Nat) (a0 : Cur) : Option (Val × Cur) :=
  Option.bind (xBy N a0 3) fun r1 =>
  if (0 : Int) ≤ (IntKind.i64.wrap (1 + r1.1)) ∧ (IntKind.i64.wrap (1 + r1.1)) ≤ (List.length ([[97], [98], [99], [120]] : List Str)) then
  if 0 + List.length (List.take (Int.toNat (IntKind.i64.wrap (1 + r1.1))) ([[97], [98], [99], [120]] : List Str)) ≤ Lim then
  Option.bind (xDP N r1.2 5) fun r2 =>
  bif r2.1 then (
    if (0 : Int) ≤ 0 ∧ (0 : Int) < (List.length ([] ++ (List.take (Int.toNat (IntKind.i64.wrap (1 + r1.1))) ([[97], [98], [99], [120]] : List Str)))) then
    if (0 : Int) ≤ 1 ∧ (1 : Int) ≤ (List.length ((fun (z8 : List Str) => List.set z8 (Int.toNat 0) [120]) ([] ++ (List.take (Int.toNat (IntKind.i64.wrap (1 + r1.1))) ([[97], [98], [99], [120]] : List Str))))) then
    Option.bind (xBy N r2.2 6) fun r3 =>
    (xBX N N 1 r3.1 0 r3.2 (Val.mk 0 0 0 [] [] [] []) (Val.mk 5 0 0 [] [] (List.take (Int.toNat 1) ((fun (z8 : List Str) => List.set z8 (Int.toNat 0) [120]) ([] ++ (List.take (Int.toNat (IntKind.i64.wrap (1 + r1.1))) ([[97], [98], [99], [120]] : List Str))))) []))
    else none
    else none
  ) else (
    Option.bind (xBy N r2.2 6) fun r3 =>
    (xBX N N (IntKind.i64.wrap (1 + r1.1)) r3.1 0 r3.2 (Val.mk 0 0 0 [] [] [] []) (Val.mk 5 0 0 [] [] ([] ++ (List.take (Int.toNat (IntKind.i64.wrap (1 + r1.1))) ([[97], [98], [99], [120]] : List Str))) []))
  )
  else none
  else none
def xBv (a0 : Cur) : List Arg := [.box [.sl .ro .byte (Cur.b a0), .int .i64 (Cur.i a0), .int .i64 (Cur.h a0)]]
def xAT (r : Val × Cur) : CallO := ⟨.v true [.int .i64 (Val.kind r.1), .int .i64 (Val.n r.1), .int .i64 (Val.step r.1), .str (Val.text r.1), .sl .own .val (Val.list r.1), .sl .own .str (Val.columns r.1), .sl .own .row (Val.rows r.1)], [[.sl .ro .byte (Cur.b r.2), .int .i64 (Cur.i r.2), .int .i64 (Cur.h r.2)]], []⟩
def xGp (N : Nat) (a0 : Cur) : Option (Val × Cur) :=
  Option.bind (xBy N a0 10) fun r1 =>
  bif ((r1.1 : Int) == 0) then (
    Option.bind (xC6 N r1.2) fun r2 =>
    Option.bind (xAU N r2.1) fun r3 =>
    some (r3, r2.2)
  ) else (
    bif ((r1.1 : Int) == 1) then (
      Option.bind (xC6 N r1.2) fun r2 =>
      Option.bind (xAU N r2.1) fun r3 =>
      some (r3, r2.2)
    ) else (
      bif ((r1.1 : Int) == 2) then (
        Option.bind (xC6 N r1.2) fun r2 =>
        Option.bind (xAU N r2.1) fun r3 =>
        some (r3, r2.2)
      ) else (
        bif ((r1.1 : Int) == 3) then (
          Option.bind (xFS N r1.2) fun r2 =>
          Option.bind (xD2 N r2.1) fun r3 =>
          some (r3, r2.2)
        ) else (
          bif ((r1.1 : Int) == 4) then (
            Option.bind (xGc N r1.2 3) fun r2 =>
            some (r2.1, r2.2)
          ) else (
            bif ((r1.1 : Int) == 5) then (
              Option.bind (xFI N r1.2) fun r2 =>
              some (r2.1, r2.2)
            ) else (
              bif ((r1.1 : Int) == 6) then (
                Option.bind (xC6 N r1.2) fun r2 =>
                Option.bind (xC6 N r2.2) fun r3 =>
                Option.bind (xEv N r2.1 r3.1) fun r4 =>
                some (r4, r3.2)
              ) else (
                bif ((r1.1 : Int) == 7) then (
                  Option.bind (xBy N r1.2 8) fun r2 =>
                  Option.bind (xAv N (IntKind.i64.wrap (1 + r2.1))) fun r3 =>
                  some (r3, r2.2)
                ) else (
                  Option.bind (xE5 N r1.2) fun r2 =>
                  some (r2.1, r2.2)
                )
              )
            )
          )
        )
      )
    )
  )
def xGx (a0 : Cur) : List Arg := [.box [.sl .ro .byte (Cur.b a0), .int .i64 (Cur.i a0), .int .i64 (Cur.h a0)]]
def xFG (r : Str × Cur) : CallO := ⟨.v false [.str r.1], [[.sl .ro .byte (Cur.b r.2), .int .i64 (Cur.i r.2), .int .i64 (Cur.h r.2)]], []⟩
def xIB (N : Nat) (a0 : Cur) : Option (Str × Cur) :=
  Option.bind (xFm N a0 [[97], [98], [99], [100], [120], [121], [116], [117]]) fun r1 =>
  some (r1.1, r1.2)
def xF9 (a0 : Cur) : List Arg := [.box [.sl .ro .byte (Cur.b a0), .int .i64 (Cur.i a0), .int .i64 (Cur.h a0)]]
def xFz (r : Str × Cur) : CallO := ⟨.v false [.str r.1], [[.sl .ro .byte (Cur.b r.2), .int .i64 (Cur.i r.2), .int .i64 (Cur.h r.2)]], []⟩
def xH8 (N : Nat) (a0 : Cur) : Option (Str × Cur) :=
  Option.bind (xDP N a0 2) fun r1 =>
  bif r1.1 then (
    Option.bind (xIB N r1.2) fun r2 =>
    some (r2.1, r2.2)
  ) else (
    Option.bind (xFm N r1.2 [[], [49, 97], [97, 49], [97, 98, 99, 100, 101, 102, 103, 104], [97, 98, 99, 100, 101, 102, 103, 104, 105], [108, 101, 116], [116, 97, 98, 108, 101], [115, 117, 109], [115, 117, 109, 115], [65], [97, 95, 98], [108, 101, 110]]) fun r2 =>
    some (r2.1, r2.2)
  )
def xCG (a0 : Cur) : List Arg := [.box [.sl .ro .byte (Cur.b a0), .int .i64 (Cur.i a0), .int .i64 (Cur.h a0)]]
def xB8 (r : Val × Cur) : CallO := ⟨.v true [.int .i64 (Val.kind r.1), .int .i64 (Val.n r.1), .int .i64 (Val.step r.1), .str (Val.text r.1), .sl .own .val (Val.list r.1), .sl .own .str (Val.columns r.1), .sl .own .row (Val.rows r.1)], [[.sl .ro .byte (Cur.b r.2), .int .i64 (Cur.i r.2), .int .i64 (Cur.h r.2)]], []⟩
def xGm (N : Nat) (a0 : Cur) : Option (Val × Cur) :=
  Option.bind (xGp N a0) fun r1 =>
  Option.bind (xBy N r1.2 16) fun r2 =>
  bif ((r2.1 : Int) == 0) then (
    some ((Val.mk (Val.kind r1.1) (IntKind.i64.wrap ((Val.n r1.1) + 1000000000)) (Val.step r1.1) (Val.text r1.1) (Val.list r1.1) (Val.columns r1.1) (Val.rows r1.1)), r2.2)
  ) else (
    bif ((r2.1 : Int) == 1) then (
      if List.length (Val.text r1.1) + List.length [120, 34, 121] ≤ Lim then
      some ((Val.mk (Val.kind r1.1) (Val.n r1.1) (Val.step r1.1) ((Val.text r1.1) ++ [120, 34, 121]) (Val.list r1.1) (Val.columns r1.1) (Val.rows r1.1)), r2.2)
      else none
    ) else (
      bif ((r2.1 : Int) == 2) then (
        Option.bind (xBy N r2.2 8) fun r3 =>
        some ((Val.mk r3.1 (Val.n r1.1) (Val.step r1.1) (Val.text r1.1) (Val.list r1.1) (Val.columns r1.1) (Val.rows r1.1)), r3.2)
      ) else (
        bif ((r2.1 : Int) == 3) then (
          Option.bind (xGp N r2.2) fun r3 =>
          if List.length (Val.list r1.1) + List.length [(Val.re r3.1)] ≤ Lim then
          some ((Val.mk (Val.kind r1.1) (Val.n r1.1) (Val.step r1.1) (Val.text r1.1) ((Val.list r1.1) ++ [(Val.re r3.1)]) (Val.columns r1.1) (Val.rows r1.1)), r3.2)
          else none
        ) else (
          bif ((r2.1 : Int) == 4) then (
            if List.length (Val.rows r1.1) + List.length [(Rowd.mk [1] [(Org.mk 2 1), (Org.mk 1 1)])] ≤ Lim then
            some ((Val.mk (Val.kind r1.1) (Val.n r1.1) (Val.step r1.1) (Val.text r1.1) (Val.list r1.1) (Val.columns r1.1) ((Val.rows r1.1) ++ [(Rowd.mk [1] [(Org.mk 2 1), (Org.mk 1 1)])])), r2.2)
            else none
          ) else (
            bif ((r2.1 : Int) == 5) then (
              Option.bind (xH8 N r2.2) fun r3 =>
              if List.length (Val.columns r1.1) + List.length [r3.1] ≤ Lim then
              some ((Val.mk (Val.kind r1.1) (Val.n r1.1) (Val.step r1.1) (Val.text r1.1) (Val.list r1.1) ((Val.columns r1.1) ++ [r3.1]) (Val.rows r1.1)), r3.2)
              else none
            ) else (
              bif ((r2.1 : Int) == 6) then (
                some ((Val.mk (Val.kind r1.1) (Val.n r1.1) 7 (Val.text r1.1) (Val.list r1.1) (Val.columns r1.1) (Val.rows r1.1)), r2.2)
              ) else (
                some (r1.1, r2.2)
              )
            )
          )
        )
      )
    )
  )
def xFo (a0 : Cur) : List Arg := [.box [.sl .ro .byte (Cur.b a0), .int .i64 (Cur.i a0), .int .i64 (Cur.h a0)]]
def xEQ (r : Val × Cur) : CallO := ⟨.v true [.int .i64 (Val.kind r.1), .int .i64 (Val.n r.1), .int .i64 (Val.step r.1), .str (Val.text r.1), .sl .own .val (Val.list r.1), .sl .own .str (Val.columns r.1), .sl .own .row (Val.rows r.1)], [[.sl .ro .byte (Cur.b r.2), .int .i64 (Cur.i r.2), .int .i64 (Cur.h r.2)]], []⟩
def xGH (N : Nat) (a0 : Cur) : Option (Val × Cur) :=
  Option.bind (xDP N a0 8) fun r1 =>
  bif r1.1 then (
    Option.bind (xGm N r1.2) fun r2 =>
    some (r2.1, r2.2)
  ) else (
    Option.bind (xBy N r1.2 12) fun r2 =>
    Option.bind (xAU N (IntKind.i64.wrap (r2.1 - 1))) fun r3 =>
    some (r3, r2.2)
  )
def xEH (a0 : Cur) : List Arg := [.box [.sl .ro .byte (Cur.b a0), .int .i64 (Cur.i a0), .int .i64 (Cur.h a0)]]
def xD7 (r : Val × Cur) : CallO := ⟨.v true [.int .i64 (Val.kind r.1), .int .i64 (Val.n r.1), .int .i64 (Val.step r.1), .str (Val.text r.1), .sl .own .val (Val.list r.1), .sl .own .str (Val.columns r.1), .sl .own .row (Val.rows r.1)], [[.sl .ro .byte (Cur.b r.2), .int .i64 (Cur.i r.2), .int .i64 (Cur.h r.2)]], []⟩
def xG6 (N : Nat) (a0 : Cur) : Option (Val × Cur) :=
  Option.bind (xBy N a0 5) fun r1 =>
  bif ((r1.1 : Int) == 0) then (
    Option.bind (xFI N r1.2) fun r2 =>
    some (r2.1, r2.2)
  ) else (
    bif ((r1.1 : Int) == 1) then (
      Option.bind (xGc N r1.2 3) fun r2 =>
      some (r2.1, r2.2)
    ) else (
      bif ((r1.1 : Int) == 2) then (
        Option.bind (xC6 N r1.2) fun r2 =>
        Option.bind (xC6 N r2.2) fun r3 =>
        Option.bind (xEv N r2.1 r3.1) fun r4 =>
        some (r4, r3.2)
      ) else (
        Option.bind (xGm N r1.2) fun r2 =>
        some (r2.1, r2.2)
      )
    )
  )
def xAD (a0 : List Int) : List Arg := [.val (.v false [.sl .ro .byte a0])]
def xAh (r : Val × Val) : CallO := ⟨.tup [(true, [.int .i64 (Val.kind r.1), .int .i64 (Val.n r.1), .int .i64 (Val.step r.1), .str (Val.text r.1), .sl .own .val (Val.list r.1), .sl .own .str (Val.columns r.1), .sl .own .row (Val.rows r.1)]), (true, [.int .i64 (Val.kind r.2), .int .i64 (Val.n r.2), .int .i64 (Val.step r.2), .str (Val.text r.2), .sl .own .val (Val.list r.2), .sl .own .str (Val.columns r.2), .sl .own .row (Val.rows r.2)])], [], []⟩
def xF6 (N : Nat) (a0 : List Int) : Option (Val × Val) :=
  Option.bind (xGP N a0) fun r1 =>
  Option.bind (xGH N r1) fun r2 =>
  Option.bind (xG6 N r2.2) fun r3 =>
  some (r2.1, r3.1)
def xAi (a0 : Val) (a1 : Val) : List Arg := [.val (.v true [.int .i64 (Val.kind a0), .int .i64 (Val.n a0), .int .i64 (Val.step a0), .str (Val.text a0), .sl .ro .val (Val.list a0), .sl .ro .str (Val.columns a0), .sl .ro .row (Val.rows a0)]), .val (.v true [.int .i64 (Val.kind a1), .int .i64 (Val.n a1), .int .i64 (Val.step a1), .str (Val.text a1), .sl .ro .val (Val.list a1), .sl .ro .str (Val.columns a1), .sl .ro .row (Val.rows a1)])]
def xAm (r : Val × Bool × Bool) : CallO := ⟨.tup [(true, [.int .i64 (Val.kind r.1), .int .i64 (Val.n r.1), .int .i64 (Val.step r.1), .str (Val.text r.1), .sl .ro .val (Val.list r.1), .sl .ro .str (Val.columns r.1), .sl .ro .row (Val.rows r.1)]), (false, [.bool r.2.1])], [], []⟩
def xAk (r : Val × Bool × Bool) : CallO := ⟨.tup [(true, [.int .i64 (Val.kind r.1), .int .i64 (Val.n r.1), .int .i64 (Val.step r.1), .str (Val.text r.1), .sl .own .val (Val.list r.1), .sl .own .str (Val.columns r.1), .sl .own .row (Val.rows r.1)]), (false, [.bool r.2.1])], [], []⟩
def xBh (r : Val × Bool × Bool) : CallO := bif r.2.2 then xAm r else xAk r
def xDd (N : Nat) (a0 : Val) (a1 : Val) : Option (Val × Bool × Bool) :=
  Option.bind (xD8 N [(Val.re a0), (Val.re a1)]) fun r1 =>
  bif r1.2.2 then (
    if List.isEmpty (Val.list r1.1) = true then
    if List.isEmpty (Val.columns r1.1) = true then
    if List.isEmpty (Val.rows r1.1) = true then
    bif r1.2.1 then (
      some ((Val.mk (Val.kind r1.1) (Val.n r1.1) (Val.step r1.1) (Val.text r1.1) [] [] []), true, true)
    ) else (
      Option.bind (xA2 N 4) fun r2 =>
      bif (((Val.kind a0) : Int) != 1) then (
        some (r2, true, false)
      ) else (
        bif (((Val.kind a1) : Int) != 3) then (
          some (r2, (((Val.kind a1) : Int) != 4), false)
        ) else (
          some (r2, false, false)
        )
      )
    )
    else none
    else none
    else none
  ) else (
    bif r1.2.1 then (
      some (r1.1, true, false)
    ) else (
      Option.bind (xA2 N 4) fun r2 =>
      bif (((Val.kind a0) : Int) != 1) then (
        some (r2, true, false)
      ) else (
        bif (((Val.kind a1) : Int) != 3) then (
          some (r2, (((Val.kind a1) : Int) != 4), false)
        ) else (
          some (r2, false, false)
        )
      )
    )
  )
def xDq (a0 : List Val) : List Arg := [.val (.v false [.sl .ro .val a0])]
def xBZ (r : Val) : CallO := ⟨.v true [.int .i64 (Val.kind r), .int .i64 (Val.n r), .int .i64 (Val.step r), .str (Val.text r), .sl .own .val (Val.list r), .sl .own .str (Val.columns r), .sl .own .row (Val.rows r)], [], []⟩
def xDZ (N : Nat) (a0 : List Val) : Option (Val) :=
  Option.bind (xGW N a0) fun r1 =>
  some (Val.mk 3 0 0 [] r1 [] [])
def xBc (a0 : Val) (a1 : Val) : List Arg := [.val (.v true [.int .i64 (Val.kind a0), .int .i64 (Val.n a0), .int .i64 (Val.step a0), .str (Val.text a0), .sl .ro .val (Val.list a0), .sl .ro .str (Val.columns a0), .sl .ro .row (Val.rows a0)]), .val (.v true [.int .i64 (Val.kind a1), .int .i64 (Val.n a1), .int .i64 (Val.step a1), .str (Val.text a1), .sl .ro .val (Val.list a1), .sl .ro .str (Val.columns a1), .sl .ro .row (Val.rows a1)])]
def xCO (r : Val × Bool) : CallO := ⟨.v true [.int .i64 (Val.kind r.1), .int .i64 (Val.n r.1), .int .i64 (Val.step r.1), .str (Val.text r.1), .sl .ro .val (Val.list r.1), .sl .ro .str (Val.columns r.1), .sl .ro .row (Val.rows r.1)], [], []⟩
def xBz (r : Val × Bool) : CallO := ⟨.v true [.int .i64 (Val.kind r.1), .int .i64 (Val.n r.1), .int .i64 (Val.step r.1), .str (Val.text r.1), .sl .own .val (Val.list r.1), .sl .own .str (Val.columns r.1), .sl .own .row (Val.rows r.1)], [], []⟩
def xEC (r : Val × Bool) : CallO := ⟨.v true [.int .i64 (Val.kind r.1), .int .i64 (Val.n r.1), .int .i64 (Val.step r.1), .str (Val.text r.1), .sl .ro .val [], .sl .ro .str [], .sl .ro .row []], [], []⟩
def xBT (r : Val × Bool) : CallO := bif r.2 then xCO r else xBz r
def xC2 (N : Nat) (a0 : Val) (a1 : Val) : Option (Val × Bool) :=
  Option.bind (xDd N a0 a1) fun r1 =>
  bif r1.2.2 then (
    bif r1.2.1 then (
      some (r1.1, true)
    ) else (
      bif (decide (((Val.n a0) : Int) < 0)) then (
        Option.bind (xA2 N 5) fun r2 =>
        some (r2, false)
      ) else (
        bif (((Val.kind a1) : Int) == 3) then (
          bif (decide (((Val.n a0) : Int) ≥ (List.length (Val.list a1) : Int))) then (
            Option.bind (xA2 N 5) fun r2 =>
            some (r2, false)
          ) else (
            if (0 : Int) ≤ (Val.n a0) ∧ (Val.n a0) < (List.length (Val.list a1)) then
            Option.bind (xGu N (List.getD (Val.list a1) (Int.toNat (Val.n a0)) Ty.val.dflt)) fun r2 =>
            some (r2, false)
            else none
          )
        ) else (
          Option.bind (xDH N (IntKind.i64.wrap ((Val.n a1) + (IntKind.i64.wrap ((Val.n a0) * (Val.step a1)))))) fun r2 =>
          some (r2, false)
        )
      )
    )
  ) else (
    bif r1.2.1 then (
      some (r1.1, false)
    ) else (
      bif (decide (((Val.n a0) : Int) < 0)) then (
        Option.bind (xA2 N 5) fun r2 =>
        some (r2, false)
      ) else (
        bif (((Val.kind a1) : Int) == 3) then (
          bif (decide (((Val.n a0) : Int) ≥ (List.length (Val.list a1) : Int))) then (
            Option.bind (xA2 N 5) fun r2 =>
            some (r2, false)
          ) else (
            if (0 : Int) ≤ (Val.n a0) ∧ (Val.n a0) < (List.length (Val.list a1)) then
            Option.bind (xGu N (List.getD (Val.list a1) (Int.toNat (Val.n a0)) Ty.val.dflt)) fun r2 =>
            some (r2, false)
            else none
          )
        ) else (
          Option.bind (xDH N (IntKind.i64.wrap ((Val.n a1) + (IntKind.i64.wrap ((Val.n a0) * (Val.step a1)))))) fun r2 =>
          some (r2, false)
        )
      )
    )
  )
def xAL (a0 : Val) (a1 : Val) : List Arg := [.val (.v true [.int .i64 (Val.kind a0), .int .i64 (Val.n a0), .int .i64 (Val.step a0), .str (Val.text a0), .sl .ro .val (Val.list a0), .sl .ro .str (Val.columns a0), .sl .ro .row (Val.rows a0)]), .val (.v true [.int .i64 (Val.kind a1), .int .i64 (Val.n a1), .int .i64 (Val.step a1), .str (Val.text a1), .sl .ro .val (Val.list a1), .sl .ro .str (Val.columns a1), .sl .ro .row (Val.rows a1)])]
def xGV (r : Val × Bool) : CallO := ⟨.v true [.int .i64 (Val.kind r.1), .int .i64 (Val.n r.1), .int .i64 (Val.step r.1), .str (Val.text r.1), .sl .ro .val (Val.list r.1), .sl .ro .str (Val.columns r.1), .sl .ro .row (Val.rows r.1)], [], []⟩
def xAW (r : Val × Bool) : CallO := ⟨.v true [.int .i64 (Val.kind r.1), .int .i64 (Val.n r.1), .int .i64 (Val.step r.1), .str (Val.text r.1), .sl .own .val (Val.list r.1), .sl .own .str (Val.columns r.1), .sl .own .row (Val.rows r.1)], [], []⟩
def xA4 (r : Val × Bool) : CallO := ⟨.v true [.int .i64 (Val.kind r.1), .int .i64 (Val.n r.1), .int .i64 (Val.step r.1), .str (Val.text r.1), .sl .ro .val [], .sl .ro .str [], .sl .ro .row []], [], []⟩
def xBG (r : Val × Bool) : CallO := bif r.2 then xGV r else xAW r
def xEJ (N : Nat) : Nat → Int → Val → Val → Val → Val → Option (Val × Bool)
  | 0, _, _, _, _, _ => none
  | n + 1, x8, b2, b3, b4, b7 =>
    bif (decide ((x8 : Int) < (Val.n b2))) then (
      Option.bind (xCm N x8) fun r1 =>
      Option.bind (xC2 N r1 b3) fun r2 =>
      bif r2.2 then (
        if List.isEmpty (Val.list r2.1) = true then
        if List.isEmpty (Val.columns r2.1) = true then
        if List.isEmpty (Val.rows r2.1) = true then
        bif (((Val.kind r2.1) : Int) == 6) then (
          some ((Val.mk (Val.kind r2.1) (Val.n r2.1) (Val.step r2.1) (Val.text r2.1) [] [] []), true)
        ) else (
          if List.length (Val.list b7) + List.length [(Val.mk (Val.kind r2.1) (Val.n r2.1) (Val.step r2.1) (Val.text r2.1) [] [] [])] ≤ Lim then
          none
          else none
        )
        else none
        else none
        else none
      ) else (
        bif (((Val.kind r2.1) : Int) == 6) then (
          some (r2.1, false)
        ) else (
          if List.length (Val.list b7) + List.length [(Val.re r2.1)] ≤ Lim then
          (xEJ N n (IntKind.i64.wrap (x8 + 1)) b2 b3 b4 (Val.mk (Val.kind b7) (Val.n b7) (Val.step b7) (Val.text b7) ((Val.list b7) ++ [(Val.re r2.1)]) (Val.columns b7) (Val.rows b7)))
          else none
        )
      )
    ) else (
      some (b7, false)
    )
def xFh (N : Nat) (a0 : Val) (a1 : Val) : Option (Val × Bool) :=
  Option.bind (xDd N a0 a1) fun r1 =>
  bif r1.2.2 then (
    bif r1.2.1 then (
      some (r1.1, true)
    ) else (
      Option.bind (xED N (Val.n a0) 0 8) fun r2 =>
      bif (!r2) then (
        Option.bind (xA2 N 5) fun r3 =>
        some (r3, false)
      ) else (
        bif (((Val.kind a1) : Int) == 3) then (
          if (0 : Int) ≤ (if ((List.length (Val.list a1) : Int) : Int) < (Val.n a0) then (List.length (Val.list a1) : Int) else (Val.n a0)) ∧ (if ((List.length (Val.list a1) : Int) : Int) < (Val.n a0) then (List.length (Val.list a1) : Int) else (Val.n a0)) ≤ (List.length (Val.list a1)) then
          Option.bind (xDZ N (List.take (Int.toNat (if ((List.length (Val.list a1) : Int) : Int) < (Val.n a0) then (List.length (Val.list a1) : Int) else (Val.n a0))) (Val.list a1))) fun r3 =>
          some (r3, false)
          else none
        ) else (
          none
        )
      )
    )
  ) else (
    bif r1.2.1 then (
      some (r1.1, false)
    ) else (
      Option.bind (xED N (Val.n a0) 0 8) fun r2 =>
      bif (!r2) then (
        Option.bind (xA2 N 5) fun r3 =>
        some (r3, false)
      ) else (
        bif (((Val.kind a1) : Int) == 3) then (
          if (0 : Int) ≤ (if ((List.length (Val.list a1) : Int) : Int) < (Val.n a0) then (List.length (Val.list a1) : Int) else (Val.n a0)) ∧ (if ((List.length (Val.list a1) : Int) : Int) < (Val.n a0) then (List.length (Val.list a1) : Int) else (Val.n a0)) ≤ (List.length (Val.list a1)) then
          Option.bind (xDZ N (List.take (Int.toNat (if ((List.length (Val.list a1) : Int) : Int) < (Val.n a0) then (List.length (Val.list a1) : Int) else (Val.n a0))) (Val.list a1))) fun r3 =>
          some (r3, false)
          else none
        ) else (
          (xEJ N N 0 a0 a1 (Val.mk 0 0 0 [] [] [] []) (Val.mk 3 0 0 [] [] [] []))
        )
      )
    )
  )
def xCX (a0 : Int) (a1 : Int) : List Arg := [.val (.v false [.int .i64 a0]), .val (.v false [.int .i64 a1])]
def xBN (r : Val) : CallO := ⟨.v true [.int .i64 (Val.kind r), .int .i64 (Val.n r), .int .i64 (Val.step r), .str (Val.text r), .sl .own .val (Val.list r), .sl .own .str (Val.columns r), .sl .own .row (Val.rows r)], [], []⟩
def xDN (N : Nat) (a0 : Int) (a1 : Int) : Option (Val) :=
  some (Val.mk 4 a0 a1 [] [] [] [])
def xAx (a0 : Val) (a1 : Val) : List Arg := [.val (.v true [.int .i64 (Val.kind a0), .int .i64 (Val.n a0), .int .i64 (Val.step a0), .str (Val.text a0), .sl .ro .val (Val.list a0), .sl .ro .str (Val.columns a0), .sl .ro .row (Val.rows a0)]), .val (.v true [.int .i64 (Val.kind a1), .int .i64 (Val.n a1), .int .i64 (Val.step a1), .str (Val.text a1), .sl .ro .val (Val.list a1), .sl .ro .str (Val.columns a1), .sl .ro .row (Val.rows a1)])]
def xGU (r : Val × Bool) : CallO := ⟨.v true [.int .i64 (Val.kind r.1), .int .i64 (Val.n r.1), .int .i64 (Val.step r.1), .str (Val.text r.1), .sl .ro .val (Val.list r.1), .sl .ro .str (Val.columns r.1), .sl .ro .row (Val.rows r.1)], [], []⟩
def xAV (r : Val × Bool) : CallO := ⟨.v true [.int .i64 (Val.kind r.1), .int .i64 (Val.n r.1), .int .i64 (Val.step r.1), .str (Val.text r.1), .sl .own .val (Val.list r.1), .sl .own .str (Val.columns r.1), .sl .own .row (Val.rows r.1)], [], []⟩
def xA3 (r : Val × Bool) : CallO := ⟨.v true [.int .i64 (Val.kind r.1), .int .i64 (Val.n r.1), .int .i64 (Val.step r.1), .str (Val.text r.1), .sl .ro .val [], .sl .ro .str [], .sl .ro .row []], [], []⟩
def xBm (r : Val × Bool) : CallO := bif r.2 then xGU r else xAV r
def xET (N : Nat) (a0 : Val) (a1 : Val) : Option (Val × Bool) :=
  Option.bind (xDd N a0 a1) fun r1 =>
  bif r1.2.2 then (
    bif r1.2.1 then (
      some (r1.1, true)
    ) else (
      bif (decide (((Val.n a0) : Int) < 0)) then (
        Option.bind (xA2 N 5) fun r2 =>
        some (r2, false)
      ) else (
        bif (((Val.kind a1) : Int) == 3) then (
          if (0 : Int) ≤ (if ((List.length (Val.list a1) : Int) : Int) < (Val.n a0) then (List.length (Val.list a1) : Int) else (Val.n a0)) ∧ (if ((List.length (Val.list a1) : Int) : Int) < (Val.n a0) then (List.length (Val.list a1) : Int) else (Val.n a0)) ≤ (List.length (Val.list a1)) then
          Option.bind (xDZ N (List.drop (Int.toNat (if ((List.length (Val.list a1) : Int) : Int) < (Val.n a0) then (List.length (Val.list a1) : Int) else (Val.n a0))) (Val.list a1))) fun r2 =>
          some (r2, false)
          else none
        ) else (
          Option.bind (xC2 N a0 a1) fun r2 =>
          bif r2.2 then (
            bif (((Val.kind r2.1) : Int) == 6) then (
              some (r2.1, true)
            ) else (
              Option.bind (xDN N (Val.n r2.1) (Val.step a1)) fun r3 =>
              some (r3, false)
            )
          ) else (
            bif (((Val.kind r2.1) : Int) == 6) then (
              some (r2.1, false)
            ) else (
              Option.bind (xDN N (Val.n r2.1) (Val.step a1)) fun r3 =>
              some (r3, false)
            )
          )
        )
      )
    )
  ) else (
    bif r1.2.1 then (
      some (r1.1, false)
    ) else (
      bif (decide (((Val.n a0) : Int) < 0)) then (
        Option.bind (xA2 N 5) fun r2 =>
        some (r2, false)
      ) else (
        bif (((Val.kind a1) : Int) == 3) then (
          if (0 : Int) ≤ (if ((List.length (Val.list a1) : Int) : Int) < (Val.n a0) then (List.length (Val.list a1) : Int) else (Val.n a0)) ∧ (if ((List.length (Val.list a1) : Int) : Int) < (Val.n a0) then (List.length (Val.list a1) : Int) else (Val.n a0)) ≤ (List.length (Val.list a1)) then
          Option.bind (xDZ N (List.drop (Int.toNat (if ((List.length (Val.list a1) : Int) : Int) < (Val.n a0) then (List.length (Val.list a1) : Int) else (Val.n a0))) (Val.list a1))) fun r2 =>
          some (r2, false)
          else none
        ) else (
          Option.bind (xC2 N a0 a1) fun r2 =>
          bif r2.2 then (
            bif (((Val.kind r2.1) : Int) == 6) then (
              some (r2.1, true)
            ) else (
              Option.bind (xDN N (Val.n r2.1) (Val.step a1)) fun r3 =>
              some (r3, false)
            )
          ) else (
            bif (((Val.kind r2.1) : Int) == 6) then (
              some (r2.1, false)
            ) else (
              Option.bind (xDN N (Val.n r2.1) (Val.step a1)) fun r3 =>
              some (r3, false)
            )
          )
        )
      )
    )
  )
def xBw (a0 : Val) (a1 : Val) : List Arg := [.val (.v true [.int .i64 (Val.kind a0), .int .i64 (Val.n a0), .int .i64 (Val.step a0), .str (Val.text a0), .sl .ro .val (Val.list a0), .sl .ro .str (Val.columns a0), .sl .ro .row (Val.rows a0)]), .val (.v true [.int .i64 (Val.kind a1), .int .i64 (Val.n a1), .int .i64 (Val.step a1), .str (Val.text a1), .sl .ro .val (Val.list a1), .sl .ro .str (Val.columns a1), .sl .ro .row (Val.rows a1)])]
def xAN (r : Val × Bool) : CallO := ⟨.tup [(true, [.int .i64 (Val.kind r.1), .int .i64 (Val.n r.1), .int .i64 (Val.step r.1), .str (Val.text r.1), .sl .own .val (Val.list r.1), .sl .own .str (Val.columns r.1), .sl .own .row (Val.rows r.1)]), (false, [.bool r.2])], [], []⟩
def xFT (N : Nat) (a0 : Val) (a1 : Val) : Option (Val × Bool) :=
  Option.bind (xFZ N [(Val.re a0), (Val.re a1)]) fun r1 =>
  bif r1.2 then (
    some (r1.1, true)
  ) else (
    bif (((Val.kind a0) : Int) != 1) then (
      Option.bind (xAv N 4) fun r2 =>
      some (r2, true)
    ) else (
      bif (((Val.kind a1) : Int) != 3) then (
        bif (((Val.kind a1) : Int) != 4) then (
          Option.bind (xAv N 4) fun r2 =>
          some (r2, true)
        ) else (
          some ((Val.mk 0 0 0 [] [] [] []), false)
        )
      ) else (
        some ((Val.mk 0 0 0 [] [] [] []), false)
      )
    )
  )
def xCH (a0 : Val) (a1 : Val) : List Arg := [.val (.v true [.int .i64 (Val.kind a0), .int .i64 (Val.n a0), .int .i64 (Val.step a0), .str (Val.text a0), .sl .ro .val (Val.list a0), .sl .ro .str (Val.columns a0), .sl .ro .row (Val.rows a0)]), .val (.v true [.int .i64 (Val.kind a1), .int .i64 (Val.n a1), .int .i64 (Val.step a1), .str (Val.text a1), .sl .ro .val (Val.list a1), .sl .ro .str (Val.columns a1), .sl .ro .row (Val.rows a1)])]
def xBF (r : Val) : CallO := ⟨.v true [.int .i64 (Val.kind r), .int .i64 (Val.n r), .int .i64 (Val.step r), .str (Val.text r), .sl .own .val (Val.list r), .sl .own .str (Val.columns r), .sl .own .row (Val.rows r)], [], []⟩
def xDs (N : Nat) (a0 : Val) (a1 : Val) : Option (Val) :=
  Option.bind (xFT N a0 a1) fun r1 =>
  bif r1.2 then (
    some r1.1
  ) else (
    bif (decide (((Val.n a0) : Int) < 0)) then (
      Option.bind (xAv N 5) fun r2 =>
      some r2
    ) else (
      bif (((Val.kind a1) : Int) == 3) then (
        bif (decide (((Val.n a0) : Int) ≥ (List.length (Val.list a1) : Int))) then (
          Option.bind (xAv N 5) fun r2 =>
          some r2
        ) else (
          if (0 : Int) ≤ (Val.n a0) ∧ (Val.n a0) < (List.length (Val.list a1)) then
          Option.bind (xGo N (List.getD (Val.list a1) (Int.toNat (Val.n a0)) Ty.val.dflt)) fun r2 =>
          some r2
          else none
        )
      ) else (
        Option.bind (xCK N (IntKind.i64.wrap ((Val.n a1) + (IntKind.i64.wrap ((Val.n a0) * (Val.step a1)))))) fun r2 =>
        some r2
      )
    )
  )
def xAS (a0 : Val) (a1 : Val) : List Arg := [.val (.v true [.int .i64 (Val.kind a0), .int .i64 (Val.n a0), .int .i64 (Val.step a0), .str (Val.text a0), .sl .ro .val (Val.list a0), .sl .ro .str (Val.columns a0), .sl .ro .row (Val.rows a0)]), .val (.v true [.int .i64 (Val.kind a1), .int .i64 (Val.n a1), .int .i64 (Val.step a1), .str (Val.text a1), .sl .ro .val (Val.list a1), .sl .ro .str (Val.columns a1), .sl .ro .row (Val.rows a1)])]
def xAl (r : Val) : CallO := ⟨.v true [.int .i64 (Val.kind r), .int .i64 (Val.n r), .int .i64 (Val.step r), .str (Val.text r), .sl .own .val (Val.list r), .sl .own .str (Val.columns r), .sl .own .row (Val.rows r)], [], []⟩
def xCR (N : Nat) : Nat → Int → Val → Val → Val → Val → Option (Val)
  | 0, _, _, _, _, _ => none
  | n + 1, x8, b2, b3, b4, b7 =>
    bif (decide ((x8 : Int) < (Val.n b2))) then (
      bif (((Val.kind b3) : Int) == 3) then (
        bif ((x8 : Int) == (List.length (Val.list b3) : Int)) then (
          some b7
        ) else (
          Option.bind (xAU N x8) fun r1 =>
          Option.bind (xDs N r1 b3) fun r2 =>
          bif (((Val.kind r2) : Int) == 6) then (
            some r2
          ) else (
            if List.length (Val.list b7) + List.length [(Val.re r2)] ≤ Lim then
            (xCR N n (IntKind.i64.wrap (x8 + 1)) b2 b3 b4 (Val.mk (Val.kind b7) (Val.n b7) (Val.step b7) (Val.text b7) ((Val.list b7) ++ [(Val.re r2)]) (Val.columns b7) (Val.rows b7)))
            else none
          )
        )
      ) else (
        Option.bind (xAU N x8) fun r1 =>
        Option.bind (xDs N r1 b3) fun r2 =>
        bif (((Val.kind r2) : Int) == 6) then (
          some r2
        ) else (
          if List.length (Val.list b7) + List.length [(Val.re r2)] ≤ Lim then
          (xCR N n (IntKind.i64.wrap (x8 + 1)) b2 b3 b4 (Val.mk (Val.kind b7) (Val.n b7) (Val.step b7) (Val.text b7) ((Val.list b7) ++ [(Val.re r2)]) (Val.columns b7) (Val.rows b7)))
          else none
        )
      )
    ) else (
      some b7
    )
def xDv (N : Nat) (a0 : Val) (a1 : Val) : Option (Val) :=
  Option.bind (xFT N a0 a1) fun r1 =>
  bif r1.2 then (
    some r1.1
  ) else (
    Option.bind (xGF N (Val.n a0) 0 8) fun r2 =>
    bif (!r2) then (
      Option.bind (xAv N 5) fun r3 =>
      some r3
    ) else (
      (xCR N N 0 a0 a1 (Val.mk 0 0 0 [] [] [] []) (Val.mk 3 0 0 [] [] [] []))
    )
  )
def xF8 (a0 : Int) (a1 : Int) : List Arg := [.val (.v false [.int .i64 a0]), .val (.v false [.int .i64 a1])]
def xFx (r : Int) : CallO := ⟨.v false [.int .i64 r], [], []⟩
def xHy (N : Nat) (a0 : Int) (a1 : Int) : Option (Int) :=
  bif (decide ((a0 : Int) < a1)) then (
    some a0
  ) else (
    some a1
  )
def xA5 (a0 : Val) (a1 : Val) : List Arg := [.val (.v true [.int .i64 (Val.kind a0), .int .i64 (Val.n a0), .int .i64 (Val.step a0), .str (Val.text a0), .sl .ro .val (Val.list a0), .sl .ro .str (Val.columns a0), .sl .ro .row (Val.rows a0)]), .val (.v true [.int .i64 (Val.kind a1), .int .i64 (Val.n a1), .int .i64 (Val.step a1), .str (Val.text a1), .sl .ro .val (Val.list a1), .sl .ro .str (Val.columns a1), .sl .ro .row (Val.rows a1)])]
def xAs (r : Val) : CallO := ⟨.v true [.int .i64 (Val.kind r), .int .i64 (Val.n r), .int .i64 (Val.step r), .str (Val.text r), .sl .own .val (Val.list r), .sl .own .str (Val.columns r), .sl .own .row (Val.rows r)], [], []⟩
def xDt (N : Nat) (a0 : Val) (a1 : Val) : Option (Val) :=
  Option.bind (xFT N a0 a1) fun r1 =>
  bif r1.2 then (
    some r1.1
  ) else (
    bif (decide (((Val.n a0) : Int) < 0)) then (
      Option.bind (xAv N 5) fun r2 =>
      some r2
    ) else (
      bif (((Val.kind a1) : Int) == 3) then (
        Option.bind (xHy N (Val.n a0) (List.length (Val.list a1) : Int)) fun r2 =>
        if (0 : Int) ≤ r2 ∧ r2 ≤ (List.length (Val.list a1)) then
        Option.bind (xFE N (List.drop (Int.toNat r2) (Val.list a1))) fun r3 =>
        some r3
        else none
      ) else (
        Option.bind (xDs N a0 a1) fun r2 =>
        bif (((Val.kind r2) : Int) == 6) then (
          some r2
        ) else (
          Option.bind (xEv N (Val.n r2) (Val.step a1)) fun r3 =>
          some r3
        )
      )
    )
  )
def xBY (a0 : Val) : List Arg := [.val (.v true [.int .i64 (Val.kind a0), .int .i64 (Val.n a0), .int .i64 (Val.step a0), .str (Val.text a0), .sl .ro .val (Val.list a0), .sl .ro .str (Val.columns a0), .sl .ro .row (Val.rows a0)])]
def xGh (r : Val × Bool) : CallO := ⟨.v true [.int .i64 (Val.kind r.1), .int .i64 (Val.n r.1), .int .i64 (Val.step r.1), .str (Val.text r.1), .sl .ro .val (Val.list r.1), .sl .ro .str (Val.columns r.1), .sl .ro .row (Val.rows r.1)], [], []⟩
def xFp (r : Val × Bool) : CallO := ⟨.v true [.int .i64 (Val.kind r.1), .int .i64 (Val.n r.1), .int .i64 (Val.step r.1), .str (Val.text r.1), .sl .own .val (Val.list r.1), .sl .own .str (Val.columns r.1), .sl .own .row (Val.rows r.1)], [], []⟩
def xGg (r : Val × Bool) : CallO := ⟨.v true [.int .i64 (Val.kind r.1), .int .i64 (Val.n r.1), .int .i64 (Val.step r.1), .str (Val.text r.1), .sl .ro .val [], .sl .ro .str [], .sl .ro .row []], [], []⟩
def xBC (r : Val × Bool) : CallO := bif r.2 then xGh r else xFp r
def xF2 (N : Nat) (a0 : Val) : Option (Val × Bool) :=
  Option.bind (xD8 N [(Val.re a0)]) fun r1 =>
  bif r1.2.2 then (
    if List.isEmpty (Val.list r1.1) = true then
    if List.isEmpty (Val.columns r1.1) = true then
    if List.isEmpty (Val.rows r1.1) = true then
    bif r1.2.1 then (
      some ((Val.mk (Val.kind r1.1) (Val.n r1.1) (Val.step r1.1) (Val.text r1.1) [] [] []), true)
    ) else (
      bif (((Val.kind a0) : Int) == 3) then (
        Option.bind (xCm N (List.length (Val.list a0) : Int)) fun r2 =>
        some (r2, false)
      ) else (
        bif (((Val.kind a0) : Int) == 2) then (
          Option.bind (xCm N (List.length (Val.text a0) : Int)) fun r2 =>
          some (r2, false)
        ) else (
          Option.bind (xA2 N 4) fun r2 =>
          some (r2, false)
        )
      )
    )
    else none
    else none
    else none
  ) else (
    bif r1.2.1 then (
      some (r1.1, false)
    ) else (
      bif (((Val.kind a0) : Int) == 3) then (
        Option.bind (xCm N (List.length (Val.list a0) : Int)) fun r2 =>
        some (r2, false)
      ) else (
        bif (((Val.kind a0) : Int) == 2) then (
          Option.bind (xCm N (List.length (Val.text a0) : Int)) fun r2 =>
          some (r2, false)
        ) else (
          Option.bind (xA2 N 4) fun r2 =>
          some (r2, false)
        )
      )
    )
  )
def xAC (a0 : List Int) : List Arg := [.val (.v false [.sl .ro .byte a0])]
def xAz (r : Bool) : CallO := ⟨.v false [.bool r], [], []⟩
def xBo (N : Nat) : Nat → Int → Val → Val → Val → Option (Bool)
  | 0, _, _, _, _ => none
  | n + 1, x7, b4, b5, b6 =>
    bif (decide ((x7 : Int) < (List.length (Val.list b5) : Int))) then (
      Option.bind (xAU N x7) fun r1 =>
      Option.bind (xC2 N r1 b4) fun r2 =>
      bif r2.2 then (
        if List.isEmpty (Val.list r2.1) = true then
        if List.isEmpty (Val.columns r2.1) = true then
        if List.isEmpty (Val.rows r2.1) = true then
        if (0 : Int) ≤ x7 ∧ x7 < (List.length (Val.list b5)) then
        Option.bind (xAI N (Val.mk (Val.kind r2.1) (Val.n r2.1) (Val.step r2.1) (Val.text r2.1) [] [] []) (List.getD (Val.list b5) (Int.toNat x7) Ty.val.dflt)) fun r3 =>
        bif (!r3) then (
          some false
        ) else (
          (xBo N n (IntKind.i64.wrap (x7 + 1)) b4 b5 b6)
        )
        else none
        else none
        else none
        else none
      ) else (
        if (0 : Int) ≤ x7 ∧ x7 < (List.length (Val.list b5)) then
        Option.bind (xAI N r2.1 (List.getD (Val.list b5) (Int.toNat x7) Ty.val.dflt)) fun r3 =>
        bif (!r3) then (
          some false
        ) else (
          (xBo N n (IntKind.i64.wrap (x7 + 1)) b4 b5 b6)
        )
        else none
      )
    ) else (
      Option.bind (xF2 N b4) fun r1 =>
      bif r1.2 then (
        if List.isEmpty (Val.list r1.1) = true then
        if List.isEmpty (Val.columns r1.1) = true then
        if List.isEmpty (Val.rows r1.1) = true then
        Option.bind (xAU N (IntKind.i64.wrap ((List.length (Val.list b5) : Int) + (List.length (Val.list b6) : Int)))) fun r2 =>
        Option.bind (xAI N (Val.mk (Val.kind r1.1) (Val.n r1.1) (Val.step r1.1) (Val.text r1.1) [] [] []) r2) fun r3 =>
        some r3
        else none
        else none
        else none
      ) else (
        Option.bind (xAU N (IntKind.i64.wrap ((List.length (Val.list b5) : Int) + (List.length (Val.list b6) : Int)))) fun r2 =>
        Option.bind (xAI N r1.1 r2) fun r3 =>
        some r3
      )
    )
def xFk (N : Nat) (a0 : List Int) : Option (Bool) :=
  Option.bind (laws_big N a0) fun r1 =>
  bif r1 then (
    some true
  ) else (
    Option.bind (xF6 N a0) fun r2 =>
    Option.bind (xFh N r2.1 r2.2) fun r3 =>
    bif r3.2 then (
      if List.isEmpty (Val.list r3.1) = true then
      if List.isEmpty (Val.columns r3.1) = true then
      if List.isEmpty (Val.rows r3.1) = true then
      Option.bind (xET N r2.1 r2.2) fun r4 =>
      bif r4.2 then (
        if List.isEmpty (Val.list r4.1) = true then
        if List.isEmpty (Val.columns r4.1) = true then
        if List.isEmpty (Val.rows r4.1) = true then
        Option.bind (xDv N r2.1 r2.2) fun r5 =>
        Option.bind (xAI N (Val.mk (Val.kind r3.1) (Val.n r3.1) (Val.step r3.1) (Val.text r3.1) [] [] []) r5) fun r6 =>
        bif (!r6) then (
          some false
        ) else (
          Option.bind (xDt N r2.1 r2.2) fun r7 =>
          Option.bind (xAI N (Val.mk (Val.kind r4.1) (Val.n r4.1) (Val.step r4.1) (Val.text r4.1) [] [] []) r7) fun r8 =>
          bif (!r8) then (
            some false
          ) else (
            bif (((Val.kind r3.1) : Int) != 3) then (
              some true
            ) else (
              bif (((Val.kind r4.1) : Int) != 3) then (
                some true
              ) else (
                Option.bind (xBJ N 1 (Val.mk (Val.kind r3.1) (Val.n r3.1) (Val.step r3.1) (Val.text r3.1) [] [] []) (Val.mk (Val.kind r4.1) (Val.n r4.1) (Val.step r4.1) (Val.text r4.1) [] [] [])) fun r9 =>
                Option.bind (xAI N r9 r2.2) fun r10 =>
                bif (!r10) then (
                  some false
                ) else (
                  (xBo N N 0 r2.2 (Val.mk (Val.kind r3.1) (Val.n r3.1) (Val.step r3.1) (Val.text r3.1) [] [] []) (Val.mk (Val.kind r4.1) (Val.n r4.1) (Val.step r4.1) (Val.text r4.1) [] [] []))
                )
              )
            )
          )
        )
        else none
        else none
        else none
      ) else (
        Option.bind (xDv N r2.1 r2.2) fun r5 =>
        Option.bind (xAI N (Val.mk (Val.kind r3.1) (Val.n r3.1) (Val.step r3.1) (Val.text r3.1) [] [] []) r5) fun r6 =>
        bif (!r6) then (
          some false
        ) else (
          Option.bind (xDt N r2.1 r2.2) fun r7 =>
          Option.bind (xAI N r4.1 r7) fun r8 =>
          bif (!r8) then (
            some false
          ) else (
            bif (((Val.kind r3.1) : Int) != 3) then (
              some true
            ) else (
              bif (((Val.kind r4.1) : Int) != 3) then (
                some true
              ) else (
                Option.bind (xBJ N 1 (Val.mk (Val.kind r3.1) (Val.n r3.1) (Val.step r3.1) (Val.text r3.1) [] [] []) r4.1) fun r9 =>
                Option.bind (xAI N r9 r2.2) fun r10 =>
                bif (!r10) then (
                  some false
                ) else (
                  (xBo N N 0 r2.2 (Val.mk (Val.kind r3.1) (Val.n r3.1) (Val.step r3.1) (Val.text r3.1) [] [] []) r4.1)
                )
              )
            )
          )
        )
      )
      else none
      else none
      else none
    ) else (
      Option.bind (xET N r2.1 r2.2) fun r4 =>
      bif r4.2 then (
        if List.isEmpty (Val.list r4.1) = true then
        if List.isEmpty (Val.columns r4.1) = true then
        if List.isEmpty (Val.rows r4.1) = true then
        Option.bind (xDv N r2.1 r2.2) fun r5 =>
        Option.bind (xAI N r3.1 r5) fun r6 =>
        bif (!r6) then (
          some false
        ) else (
          Option.bind (xDt N r2.1 r2.2) fun r7 =>
          Option.bind (xAI N (Val.mk (Val.kind r4.1) (Val.n r4.1) (Val.step r4.1) (Val.text r4.1) [] [] []) r7) fun r8 =>
          bif (!r8) then (
            some false
          ) else (
            bif (((Val.kind r3.1) : Int) != 3) then (
              some true
            ) else (
              bif (((Val.kind r4.1) : Int) != 3) then (
                some true
              ) else (
                Option.bind (xBJ N 1 r3.1 (Val.mk (Val.kind r4.1) (Val.n r4.1) (Val.step r4.1) (Val.text r4.1) [] [] [])) fun r9 =>
                Option.bind (xAI N r9 r2.2) fun r10 =>
                bif (!r10) then (
                  some false
                ) else (
                  (xBo N N 0 r2.2 r3.1 (Val.mk (Val.kind r4.1) (Val.n r4.1) (Val.step r4.1) (Val.text r4.1) [] [] []))
                )
              )
            )
          )
        )
        else none
        else none
        else none
      ) else (
        Option.bind (xDv N r2.1 r2.2) fun r5 =>
        Option.bind (xAI N r3.1 r5) fun r6 =>
        bif (!r6) then (
          some false
        ) else (
          Option.bind (xDt N r2.1 r2.2) fun r7 =>
          Option.bind (xAI N r4.1 r7) fun r8 =>
          bif (!r8) then (
            some false
          ) else (
            bif (((Val.kind r3.1) : Int) != 3) then (
              some true
            ) else (
              bif (((Val.kind r4.1) : Int) != 3) then (
                some true
              ) else (
                Option.bind (xBJ N 1 r3.1 r4.1) fun r9 =>
                Option.bind (xAI N r9 r2.2) fun r10 =>
                bif (!r10) then (
                  some false
                ) else (
                  (xBo N N 0 r2.2 r3.1 r4.1)
                )
              )
            )
          )
        )
      )
    )
  )
end Go.Ab
end
section
open Go.Proofs
namespace Go.Ab.T
abbrev AbC (f : FuncId) (a : List Arg) (r : CallO) : Prop := AbsCalls Try.prog f a r
abbrev W (x : Int) : Int := IntKind.i64.wrap x
abbrev Ln {α : Type} (l : List α) : Nat := List.length l
abbrev tN (x : Int) : Nat := Int.toNat x
abbrev gD {α : Type} (l : List α) (i : Nat) (d : α) : α := List.getD l i d
abbrev vd : Val := Ty.val.dflt
abbrev rd : Rowd := Ty.row.dflt
end Go.Ab.T
end
section
open Go.Proofs
namespace Go.Ab.T
set_option linter.unusedVariables false
set_option maxRecDepth 100000
def tt : TT := [(3, { zero := some [.int .i64 0], ik := some .i64 }),
 (4, { zero := some [.bool false], isBool := true }),
 (5, { zero := some [.int .u8 0], ik := some .u8 }),
 (9, { zero := some [.str []], isStr := true }),
 (22, { zero := some [.sl .own .val []], elem := some (26, .val) }),
 (23, { zero := some [.sl .own .str []], elem := some (9, .str) }),
 (24, { zero := some [.sl .own .row []], elem := some (133, .row) }),
 (26, { sz := 7, agg := true, zero := some [.int .i64 0, .int .i64 0, .int .i64 0, .str [], .sl .own .val [], .sl .own .str [], .sl .own .row []], offs := [0, 1, 2, 3, 4, 5, 6], fsz := [1, 1, 1, 1, 1, 1, 1] }),
 (28, { zero := some [.sl .own .val []], elem := some (31, .val) }),
 (29, { zero := some [.sl .own .row []], elem := some (107, .row) }),
 (31, { sz := 7, agg := true, zero := some [.int .i64 0, .int .i64 0, .int .i64 0, .str [], .sl .own .val [], .sl .own .str [], .sl .own .row []], offs := [0, 1, 2, 3, 4, 5, 6], fsz := [1, 1, 1, 1, 1, 1, 1] }),
 (49, { sz := 11, agg := true, zero := some [.int .i64 0, .int .i64 0, .int .i64 0, .str [], .int .i64 0, .int .i64 0, .int .i64 0, .str [], .sl .own .val [], .sl .own .str [], .sl .own .row []], offs := [0, 1, 2, 3, 4], fsz := [1, 1, 1, 1, 7] }),
 (56, { zero := some [.sl .own .byte []], elem := some (5, .byte) }),
 (58, { zero := some [.sl .own .fil []], elem := some (69, .fil) }),
 (60, { sz := 3, agg := true, zero := some [.int .i64 0, .int .i64 0, .sl .own .fil []], offs := [0, 1, 2], fsz := [1, 1, 1] }),
 (69, { sz := 2, agg := true, zero := some [.str [], .int .i64 0], offs := [0, 1], fsz := [1, 1] }),
 (75, { zero := some [.sl .own .bnd []], elem := some (125, .bnd) }),
 (102, { zero := some [.sl .own .int []], elem := some (3, .int) }),
 (105, { zero := some [.sl .own .org []], elem := some (156, .org) }),
 (107, { sz := 2, agg := true, zero := some [.sl .own .int [], .sl .own .org []], offs := [0, 1], fsz := [1, 1] }),
 (125, { sz := 8, agg := true, zero := some [.str [], .int .i64 0, .int .i64 0, .int .i64 0, .str [], .sl .own .val [], .sl .own .str [], .sl .own .row []], offs := [0, 1], fsz := [1, 7] }),
 (131, { zero := some [.sl .own .org []], elem := some (165, .org) }),
 (133, { sz := 2, agg := true, zero := some [.sl .own .int [], .sl .own .org []], offs := [0, 1], fsz := [1, 1] }),
 (141, { sz := 3, agg := true, zero := some [.sl .own .byte [], .int .i64 0, .int .i64 0], offs := [0, 1, 2], fsz := [1, 1, 1] }),
 (156, { sz := 2, agg := true, zero := some [.int .i64 0, .int .i64 0], offs := [0, 1], fsz := [1, 1], same := true }),
 (165, { sz := 2, agg := true, zero := some [.int .i64 0, .int .i64 0], offs := [0, 1], fsz := [1, 1], same := true })]
theorem ttok : TTok Try.prog tt := ttChk_ok (by kernel_rfl)
theorem mix : Try.prog.follows .mixedOrders = true := by kernel_rfl
def F : Bool := false
def Y : Bool := true
noncomputable def rE (I : Info) (ag : List Arg) (bs : List Bool) (cs : List CallO) : Option Res := run tt (AbsCalls Try.prog) I 3000 false [.code I.body] ⟨zBn 0 ag, bs, cs, []⟩
noncomputable def rS (k : Nat) (I : Info) (σ : St) (bs : List Bool) (cs : List CallO) : Option Res := run tt (AbsCalls Try.prog) I 3000 true (stkAt k I.body) ⟨σ, bs, cs, []⟩
noncomputable def dn (r : CallO) (ob : List Prop) : Option Res := some (.done r ob)
noncomputable def st (k : Nat) (I : Info) (σ : St) (ob : List Prop) : Option Res := some (.stop (stkAt k I.body) σ ob)
def RE (fn : Func) (I : Info) (ag : List Arg) (r : CallO) : Prop := Reach Try.prog fn I [.code I.body] (zBn 0 ag) r
def RS (fn : Func) (I : Info) (k : Nat) (σ : St) (r : CallO) : Prop := Reach Try.prog fn I (stkAt k I.body) σ r
section
variable {ρ : Type} {f : FuncId} {fn : Func} {I : Info} {ag : List Arg} {bs : List Bool} {cs : List CallO} {k j : Nat} {σ σ' : St} {ob : List Prop} {ro : ρ → CallO} {x r : ρ} {q : CallO}
theorem dE (e : some x = some r) (hf : FnOk Try.prog f fn I) (h : rE I ag bs cs = dn (ro x) ob) (o : ∀ p ∈ ob, p) : RE fn I ag (ro r) := by
 cases e; exact Reach.done ttok mix hf h o
theorem dS (e : some x = some r) (hf : FnOk Try.prog f fn I) (h : rS k I σ bs cs = dn (ro x) ob) (o : ∀ p ∈ ob, p) : RS fn I k σ (ro r) := by
 cases e; exact Reach.done ttok mix hf h o
theorem tE (hf : FnOk Try.prog f fn I) (h : rE I ag bs cs = st k I σ ob) (o : ∀ p ∈ ob, p) (t : RS fn I k σ q) : RE fn I ag q := Reach.stop ttok mix hf h o t
theorem tS (hf : FnOk Try.prog f fn I) (h : rS j I σ' bs cs = st k I σ ob) (o : ∀ p ∈ ob, p) (t : RS fn I k σ q) : RS fn I j σ' q := Reach.stop ttok mix hf h o t
end
theorem oc {p : Prop} {l : List Prop} (h : p) (t : ∀ q ∈ l, q) : ∀ q ∈ p :: l, q := obs_cons h t
theorem on : ∀ q ∈ ([] : List Prop), q := obs_nil
theorem cE {α : Type} {C : Prop} {b : Bool} {x y : Option α} {r : α} (h : cond b x y = some r) (f : b = true → x = some r → C) (g : b = false → y = some r → C) : C := (cond_inv h).elim (fun h => f h.1 h.2) fun h => g h.1 h.2
theorem bE {α β : Type} {C : Prop} {o : Option α} {f : α → Option β} {r : β} (h : Option.bind o f = some r) (g : ∀ a, o = some a → f a = some r → C) : C := (bind_inv h).elim fun a h => g a h.1 h.2
theorem iE {α : Type} {C p : Prop} [Decidable p] {x : Option α} {r : α} (h : (if p then x else none) = some r) (g : p → x = some r → C) : C := (ite_inv h).elim g
theorem nE {α : Type} {C : Prop} {r : α} (h : none = some r) : C := nomatch h
noncomputable def I64 : Info := { body := (Try.f64.body).getD .skip, nt := 23, results := [.tmp 2], keep := [0, 4, 6, 8, 22], live := [(3, [0, 6, 8])], modes := [(5, [(0, .ref, false)]), (6, [(0, .take, false)])] }
noncomputable def I108 : Info := { body := (Try.f108.body).getD .skip, nt := 15, results := [.tmp 6], keep := [0, 2, 4, 12], live := [], modes := [(1, [(3, .take, false)])] }
theorem fk108 : FnOk Try.prog 108 Try.f108 I108 := ⟨Try.func108, by kernel_rfl, by kernel_rfl, by kernel_rfl, by kernel_rfl⟩
theorem p108_e_0 (a0 a1 a2 : Int) : rE I108 (xD3 a0 a1 a2) [Y] [] = dn (xCz (decide ((a0 : Int) ≤ a2))) [(decide ((a0 : Int) ≥ a1)) = true] := by kernel_rfl
theorem p108_e_1 (a0 a1 a2 : Int) : rE I108 (xD3 a0 a1 a2) [F] [] = dn (xCz false) [(decide ((a0 : Int) ≥ a1)) = false] := by kernel_rfl
theorem c108_e {N : Nat} : ∀ a0 a1 a2 r, xGF N a0 a1 a2 = some r → RE Try.f108 I108 (xD3 a0 a1 a2) (xCz r) := fun a0 a1 a2 r h =>
 cE h (fun h0 h => dE h fk108 (p108_e_0 a0 a1 a2) (oc h0 on)) fun h0 h =>
 dE h fk108 (p108_e_1 a0 a1 a2) (oc h0 on)
theorem xFY {N : Nat} {a0 : Int} {a1 : Int} {a2 : Int} {r : Bool} (h : xGF N  a0 a1 a2 = some r) : AbC 108 (xD3 a0 a1 a2) (xCz r) :=
 AbsCalls.of_reach fk108 rfl rfl (Nat.le_of_ble_eq_true rfl) (c108_e a0 a1 a2 r h)
noncomputable def I85 : Info := { body := (Try.f85.body).getD .skip, nt := 5, results := [.tmp 2], keep := [0, 4], live := [], modes := [] }
theorem fk85 : FnOk Try.prog 85 Try.f85 I85 := ⟨Try.func85, by kernel_rfl, by kernel_rfl, by kernel_rfl, by kernel_rfl⟩
theorem p85_e_0 (a0 : Int) (r1 : Bool) : rE I85 (xCs a0) [] [xCz r1] = dn (xBk r1) [AbC 108 (xD3 a0 (-1000000000) 1000000000) (xCz r1)] := by kernel_rfl
theorem c85_e {N : Nat} : ∀ a0 r, xDY N a0 = some r → RE Try.f85 I85 (xCs a0) (xBk r) := fun a0 r h =>
 bE h fun r1 h0 h => dE h fk85 (p85_e_0 a0 r1) (oc (xFY h0) on)
theorem xDl {N : Nat} {a0 : Int} {r : Bool} (h : xDY N  a0 = some r) : AbC 85 (xCs a0) (xBk r) :=
 AbsCalls.of_reach fk85 rfl rfl (Nat.le_of_ble_eq_true rfl) (c85_e a0 r h)
noncomputable def I111 : Info := { body := (Try.f111.body).getD .skip, nt := 29, results := [.tmp 2], keep := [0, 4, 6, 14, 50], live := [(2, [0, 6])], modes := [(4, [(4, .take, false), (10, .take, false)])] }
theorem fk111 : FnOk Try.prog 111 Try.f111 I111 := ⟨Try.func111, by kernel_rfl, by kernel_rfl, by kernel_rfl, by kernel_rfl⟩
def S111_2 (x0 : Str) (x3 : Int) : St := [(0, .v false [.str x0]), (6, .v false [.int .i64 x3])]
theorem p111_2_0 (x0 : Str) (x3 : Int) : rS 2 I111 (S111_2 x0 x3) [Y, Y, Y, Y] [] = dn (xCi false) [(decide ((x3 : Int) < (Ln x0 : Int))) = true, (0 : Int) ≤ x3 ∧ x3 < (Ln x0), (decide ((((gD x0 (tN x3) 0).toNat : Int) : Int) < 32)) = true, true = true, true = true] := by kernel_rfl
theorem p111_2_1 (x0 : Str) (x3 : Int) : rS 2 I111 (S111_2 x0 x3) [Y, F, Y, Y] [] = dn (xCi false) [(decide ((x3 : Int) < (Ln x0 : Int))) = true, (0 : Int) ≤ x3 ∧ x3 < (Ln x0), (decide ((((gD x0 (tN x3) 0).toNat : Int) : Int) < 32)) = false, (0 : Int) ≤ x3 ∧ x3 < (Ln x0), (decide ((((gD x0 (tN x3) 0).toNat : Int) : Int) > 126)) = true, true = true] := by kernel_rfl
theorem p111_2_2 (x0 : Str) (x3 : Int) : rS 2 I111 (S111_2 x0 x3) [Y, F, F, Y] [] = dn (xCi false) [(decide ((x3 : Int) < (Ln x0 : Int))) = true, (0 : Int) ≤ x3 ∧ x3 < (Ln x0), (decide ((((gD x0 (tN x3) 0).toNat : Int) : Int) < 32)) = false, (0 : Int) ≤ x3 ∧ x3 < (Ln x0), (decide ((((gD x0 (tN x3) 0).toNat : Int) : Int) > 126)) = false, (0 : Int) ≤ x3 ∧ x3 < (Ln x0), ((((gD x0 (tN x3) 0).toNat : Int) : Int) == 34) = true] := by kernel_rfl
theorem p111_2_3 (x0 : Str) (x3 : Int) : rS 2 I111 (S111_2 x0 x3) [Y, F, F, F] [] = st 2 I111 (S111_2 x0 (W (x3 + 1))) [(decide ((x3 : Int) < (Ln x0 : Int))) = true, (0 : Int) ≤ x3 ∧ x3 < (Ln x0), (decide ((((gD x0 (tN x3) 0).toNat : Int) : Int) < 32)) = false, (0 : Int) ≤ x3 ∧ x3 < (Ln x0), (decide ((((gD x0 (tN x3) 0).toNat : Int) : Int) > 126)) = false, (0 : Int) ≤ x3 ∧ x3 < (Ln x0), ((((gD x0 (tN x3) 0).toNat : Int) : Int) == 34) = false] := by kernel_rfl
theorem p111_2_4 (x0 : Str) (x3 : Int) : rS 2 I111 (S111_2 x0 x3) [F] [] = dn (xCi (decide (((Ln x0 : Int) : Int) ≤ 20))) [(decide ((x3 : Int) < (Ln x0 : Int))) = false] := by kernel_rfl
theorem p111_e_5 (a0 : Str) : rE I111 (xEX a0) [] [] = st 2 I111 (S111_2 a0 0) [] := by kernel_rfl
theorem c111_2 {N : Nat} : ∀ n x0 x3 r, xCD N n x0 x3 = some r → RS Try.f111 I111 2 (S111_2 x0 x3) (xCi r) := by
 intro n
 induction n with
 | zero => exact fun _ _ _ h => nE h
 | succ n ih =>
  exact fun x0 x3 r h =>
   cE h (fun h0 h => iE h fun h1 h => cE h (fun h2 h => dS h fk111 (p111_2_0 x0 x3) (oc h0 (oc h1 (oc h2 (oc rfl (oc rfl on)))))) fun h2 h =>
   cE h (fun h4 h => dS h fk111 (p111_2_1 x0 x3) (oc h0 (oc h1 (oc h2 (oc h1 (oc h4 (oc rfl on))))))) fun h4 h =>
   cE h (fun h6 h => dS h fk111 (p111_2_2 x0 x3) (oc h0 (oc h1 (oc h2 (oc h1 (oc h4 (oc h1 (oc h6 on)))))))) fun h6 h =>
   tS fk111 (p111_2_3 x0 x3) (oc h0 (oc h1 (oc h2 (oc h1 (oc h4 (oc h1 (oc h6 on))))))) (ih _ _ _ h)) fun h0 h =>
   dS h fk111 (p111_2_4 x0 x3) (oc h0 on)
theorem c111_e {N : Nat} : ∀ a0 r, xFO N a0 = some r → RE Try.f111 I111 (xEX a0) (xCi r) := fun a0 r h =>
 tE fk111 (p111_e_5 a0) on (c111_2 _ _ _ _ h)
theorem xIz {N : Nat} {a0 : Str} {r : Bool} (h : xFO N  a0 = some r) : AbC 111 (xEX a0) (xCi r) :=
 AbsCalls.of_reach fk111 rfl rfl (Nat.le_of_ble_eq_true rfl) (c111_e a0 r h)
noncomputable def I152 : Info := { body := (Try.f152.body).getD .skip, nt := 16, results := [.tmp 2], keep := [0, 2, 4, 3], live := [], modes := [(1, [(3, .take, false), (8, .take, false)])] }
theorem fk152 : FnOk Try.prog 152 Try.f152 I152 := ⟨Try.func152, by kernel_rfl, by kernel_rfl, by kernel_rfl, by kernel_rfl⟩
theorem p152_e_0 (a0 : Val) : rE I152 (xC5 a0) [Y, Y] [] = dn (xB1 true) [(((Val.kind a0) : Int) == 1) = true, true = true] := by kernel_rfl
theorem p152_e_1 (a0 : Val) : rE I152 (xC5 a0) [F, Y] [] = dn (xB1 true) [(((Val.kind a0) : Int) == 1) = false, (((Val.kind a0) : Int) == 2) = true] := by kernel_rfl
theorem p152_e_2 (a0 : Val) : rE I152 (xC5 a0) [F, F] [] = dn (xB1 (((Val.kind a0) : Int) == 3)) [(((Val.kind a0) : Int) == 1) = false, (((Val.kind a0) : Int) == 2) = false] := by kernel_rfl
theorem c152_e {N : Nat} : ∀ a0 r, xGz N a0 = some r → RE Try.f152 I152 (xC5 a0) (xB1 r) := fun a0 r h =>
 cE h (fun h0 h => dE h fk152 (p152_e_0 a0) (oc h0 (oc rfl on))) fun h0 h =>
 cE h (fun h1 h => dE h fk152 (p152_e_1 a0) (oc h0 (oc h1 on))) fun h1 h =>
 dE h fk152 (p152_e_2 a0) (oc h0 (oc h1 on))
theorem xGq {N : Nat} {a0 : Val} {r : Bool} (h : xGz N  a0 = some r) : AbC 152 (xC5 a0) (xB1 r) :=
 AbsCalls.of_reach fk152 rfl rfl (Nat.le_of_ble_eq_true rfl) (c152_e a0 r h)
noncomputable def I177 : Info := { body := (Try.f177.body).getD .skip, nt := 10, results := [.tmp 4], keep := [0, 2, 8, 14], live := [], modes := [] }
theorem fk177 : FnOk Try.prog 177 Try.f177 I177 := ⟨Try.func177, by kernel_rfl, by kernel_rfl, by kernel_rfl, by kernel_rfl⟩
theorem p177_e_0 (a0 a1 : Int) : rE I177 (xF7 a0 a1) [Y] [] = dn (xFw a0) [(decide ((a0 : Int) > a1)) = true] := by kernel_rfl
theorem p177_e_1 (a0 a1 : Int) : rE I177 (xF7 a0 a1) [F] [] = dn (xFw a1) [(decide ((a0 : Int) > a1)) = false] := by kernel_rfl
theorem c177_e {N : Nat} : ∀ a0 a1 r, xHx N a0 a1 = some r → RE Try.f177 I177 (xF7 a0 a1) (xFw r) := fun a0 a1 r h =>
 cE h (fun h0 h => dE h fk177 (p177_e_0 a0 a1) (oc h0 on)) fun h0 h =>
 dE h fk177 (p177_e_1 a0 a1) (oc h0 on)
theorem spec_l1Max_ok {N : Nat} {a0 : Int} {a1 : Int} {r : Int} (h : xHx N  a0 a1 = some r) : AbC 177 (xF7 a0 a1) (xFw r) :=
 AbsCalls.of_reach fk177 rfl rfl (Nat.le_of_ble_eq_true rfl) (c177_e a0 a1 r h)
def G153 (q : Val → Option (Int)) : Prop := ∀ a0 r, q a0 = some r → AbC 153 (xEn a0) (xCQ r)
noncomputable def I153 : Info := { body := (Try.f153.body).getD .skip, nt := 22, results := [.tmp 2], keep := [0, 2, 4, 6, 8, 18, 3], live := [(3, [2, 6, 8, 3])], modes := [] }
theorem fk153 : FnOk Try.prog 153 Try.f153 I153 := ⟨Try.func153, by kernel_rfl, by kernel_rfl, by kernel_rfl, by kernel_rfl⟩
def S153_3 (x3 x4 : Int) (b1 : Val) : St := [(2, .v false [.ptr 1 0]), (6, .v false [.int .i64 x3]), (8, .v false [.int .i64 x4]), (3, .v true [.int .i64 (Val.kind b1), .int .i64 (Val.n b1), .int .i64 (Val.step b1), .str (Val.text b1), .sl .ro .val (Val.list b1), .sl .ro .str (Val.columns b1), .sl .ro .row (Val.rows b1)])]
theorem p153_3_0 (x3 x4 : Int) (b1 : Val) (r1 r2 : Int) : rS 3 I153 (S153_3 x3 x4 b1) [Y] [xCQ r1, xFw r2] = st 3 I153 (S153_3 r2 (W (x4 + 1)) b1) [(decide ((x4 : Int) < (Ln (Val.list b1) : Int))) = true, (0 : Int) ≤ x4 ∧ x4 < (Ln (Val.list b1)), AbC 153 (xEn (gD (Val.list b1) (tN x4) vd)) (xCQ r1), AbC 177 (xF7 x3 r1) (xFw r2)] := by kernel_rfl
theorem p153_3_1 (x3 x4 : Int) (b1 : Val) : rS 3 I153 (S153_3 x3 x4 b1) [F] [] = dn (xCQ (W (x3 + 1))) [(decide ((x4 : Int) < (Ln (Val.list b1) : Int))) = false] := by kernel_rfl
theorem p153_e_2 (a0 : Val) : rE I153 (xEn a0) [] [] = st 3 I153 (S153_3 0 0 a0) [] := by kernel_rfl
theorem c153_3 {N : Nat} {q0 : Val → Option (Int)} (g0 : G153 q0) : ∀ n x3 x4 b1 r, xEK N q0 n x3 x4 b1 = some r → RS Try.f153 I153 3 (S153_3 x3 x4 b1) (xCQ r) := by
 intro n
 induction n with
 | zero => exact fun _ _ _ _ h => nE h
 | succ n ih =>
  exact fun x3 x4 b1 r h =>
   cE h (fun h0 h => iE h fun h1 h => bE h fun r1 h2 h => bE h fun r2 h3 h => tS fk153 (p153_3_0 x3 x4 b1 r1 r2) (oc h0 (oc h1 (oc (g0 _ _ h2) (oc (spec_l1Max_ok h3) on)))) (ih _ _ _ _ h)) fun h0 h =>
   dS h fk153 (p153_3_1 x3 x4 b1) (oc h0 on)
theorem c153_e {N : Nat} {q0 : Val → Option (Int)} (g0 : G153 q0) : ∀ a0 r, xGk N q0 a0 = some r → RE Try.f153 I153 (xEn a0) (xCQ r) := fun a0 r h =>
 tE fk153 (p153_e_2 a0) on (c153_3 g0 _ _ _ _ _ h)
theorem xIe {N : Nat} {q0 : Val → Option (Int)} (g0 : G153 q0) {a0 : Val} {r : Int} (h : xGk N q0 a0 = some r) : AbC 153 (xEn a0) (xCQ r) :=
 AbsCalls.of_reach fk153 rfl rfl (Nat.le_of_ble_eq_true rfl) (c153_e g0 a0 r h)
theorem xG0 {N : Nat} : ∀ d, G153 (xDO N d)
 | 0 => fun _ _ h => nE h
 | d + 1 => fun _ _ h => xIe (N := N) (xG0 d) h
theorem spec_DepthOf_ok {N : Nat} {a0 : Val} {r : Int} (h : xHb N a0 = some r) : AbC 153 (xEn a0) (xCQ r) := xG0 N _ r h
noncomputable def I137 : Info := { body := (Try.f137.body).getD .skip, nt := 45, results := [.tmp 2], keep := [0, 4, 6, 8, 10, 18, 82], live := [(2, [0, 6])], modes := [(4, [(4, .take, false)]), (5, [(4, .take, false)]), (6, [(0, .take, false), (2, .take, false), (5, .take, false), (6, .take, false)])] }
theorem xIo : FnOk Try.prog 137 Try.f137 I137 := ⟨Try.func137, by kernel_rfl, by kernel_rfl, by kernel_rfl, by kernel_rfl⟩
def xF0 (x0 : Str) (x3 : Int) : St := [(0, .v false [.str x0]), (6, .v false [.int .i64 x3])]
theorem p137_2_0 (x0 : Str) (x3 : Int) : rS 2 I137 (xF0 x0 x3) [Y, Y, Y, Y, Y, Y] [] = dn (xBx false) [(decide ((x3 : Int) < (Ln x0 : Int))) = true, (0 : Int) ≤ x3 ∧ x3 < (Ln x0), (decide ((((gD x0 (tN x3) 0).toNat : Int) : Int) ≥ 97)) = true, (0 : Int) ≤ x3 ∧ x3 < (Ln x0), (0 : Int) ≤ x3 ∧ x3 < (Ln x0), (decide ((((gD x0 (tN x3) 0).toNat : Int) : Int) ≥ 48)) = true, (0 : Int) ≤ x3 ∧ x3 < (Ln x0), (!(decide ((((gD x0 (tN x3) 0).toNat : Int) : Int) ≤ 122))) = true, ((x3 : Int) == 0) = true, true = true] := by kernel_rfl
theorem p137_2_1 (x0 : Str) (x3 : Int) : rS 2 I137 (xF0 x0 x3) [Y, Y, Y, Y, F, Y] [] = dn (xBx false) [(decide ((x3 : Int) < (Ln x0 : Int))) = true, (0 : Int) ≤ x3 ∧ x3 < (Ln x0), (decide ((((gD x0 (tN x3) 0).toNat : Int) : Int) ≥ 97)) = true, (0 : Int) ≤ x3 ∧ x3 < (Ln x0), (0 : Int) ≤ x3 ∧ x3 < (Ln x0), (decide ((((gD x0 (tN x3) 0).toNat : Int) : Int) ≥ 48)) = true, (0 : Int) ≤ x3 ∧ x3 < (Ln x0), (!(decide ((((gD x0 (tN x3) 0).toNat : Int) : Int) ≤ 122))) = true, ((x3 : Int) == 0) = false, (!(decide ((((gD x0 (tN x3) 0).toNat : Int) : Int) ≤ 57))) = true] := by kernel_rfl
theorem p137_2_2 (x0 : Str) (x3 : Int) : rS 2 I137 (xF0 x0 x3) [Y, Y, Y, Y, F, F] [] = st 2 I137 (xF0 x0 (W (x3 + 1))) [(decide ((x3 : Int) < (Ln x0 : Int))) = true, (0 : Int) ≤ x3 ∧ x3 < (Ln x0), (decide ((((gD x0 (tN x3) 0).toNat : Int) : Int) ≥ 97)) = true, (0 : Int) ≤ x3 ∧ x3 < (Ln x0), (0 : Int) ≤ x3 ∧ x3 < (Ln x0), (decide ((((gD x0 (tN x3) 0).toNat : Int) : Int) ≥ 48)) = true, (0 : Int) ≤ x3 ∧ x3 < (Ln x0), (!(decide ((((gD x0 (tN x3) 0).toNat : Int) : Int) ≤ 122))) = true, ((x3 : Int) == 0) = false, (!(decide ((((gD x0 (tN x3) 0).toNat : Int) : Int) ≤ 57))) = false] := by kernel_rfl
theorem p137_2_3 (x0 : Str) (x3 : Int) : rS 2 I137 (xF0 x0 x3) [Y, Y, Y, F, F] [] = st 2 I137 (xF0 x0 (W (x3 + 1))) [(decide ((x3 : Int) < (Ln x0 : Int))) = true, (0 : Int) ≤ x3 ∧ x3 < (Ln x0), (decide ((((gD x0 (tN x3) 0).toNat : Int) : Int) ≥ 97)) = true, (0 : Int) ≤ x3 ∧ x3 < (Ln x0), (0 : Int) ≤ x3 ∧ x3 < (Ln x0), (decide ((((gD x0 (tN x3) 0).toNat : Int) : Int) ≥ 48)) = true, (0 : Int) ≤ x3 ∧ x3 < (Ln x0), (!(decide ((((gD x0 (tN x3) 0).toNat : Int) : Int) ≤ 122))) = false, false = false] := by kernel_rfl
theorem p137_2_4 (x0 : Str) (x3 : Int) : rS 2 I137 (xF0 x0 x3) [Y, Y, F, Y, Y, Y] [] = dn (xBx false) [(decide ((x3 : Int) < (Ln x0 : Int))) = true, (0 : Int) ≤ x3 ∧ x3 < (Ln x0), (decide ((((gD x0 (tN x3) 0).toNat : Int) : Int) ≥ 97)) = true, (0 : Int) ≤ x3 ∧ x3 < (Ln x0), (0 : Int) ≤ x3 ∧ x3 < (Ln x0), (decide ((((gD x0 (tN x3) 0).toNat : Int) : Int) ≥ 48)) = false, (!(decide ((((gD x0 (tN x3) 0).toNat : Int) : Int) ≤ 122))) = true, ((x3 : Int) == 0) = true, true = true] := by kernel_rfl
theorem p137_2_5 (x0 : Str) (x3 : Int) : rS 2 I137 (xF0 x0 x3) [Y, Y, F, Y, F, Y] [] = dn (xBx false) [(decide ((x3 : Int) < (Ln x0 : Int))) = true, (0 : Int) ≤ x3 ∧ x3 < (Ln x0), (decide ((((gD x0 (tN x3) 0).toNat : Int) : Int) ≥ 97)) = true, (0 : Int) ≤ x3 ∧ x3 < (Ln x0), (0 : Int) ≤ x3 ∧ x3 < (Ln x0), (decide ((((gD x0 (tN x3) 0).toNat : Int) : Int) ≥ 48)) = false, (!(decide ((((gD x0 (tN x3) 0).toNat : Int) : Int) ≤ 122))) = true, ((x3 : Int) == 0) = false, (!false) = true] := by kernel_rfl
theorem p137_2_6 (x0 : Str) (x3 : Int) : rS 2 I137 (xF0 x0 x3) [Y, Y, F, F, F] [] = st 2 I137 (xF0 x0 (W (x3 + 1))) [(decide ((x3 : Int) < (Ln x0 : Int))) = true, (0 : Int) ≤ x3 ∧ x3 < (Ln x0), (decide ((((gD x0 (tN x3) 0).toNat : Int) : Int) ≥ 97)) = true, (0 : Int) ≤ x3 ∧ x3 < (Ln x0), (0 : Int) ≤ x3 ∧ x3 < (Ln x0), (decide ((((gD x0 (tN x3) 0).toNat : Int) : Int) ≥ 48)) = false, (!(decide ((((gD x0 (tN x3) 0).toNat : Int) : Int) ≤ 122))) = false, false = false] := by kernel_rfl
theorem p137_2_7 (x0 : Str) (x3 : Int) : rS 2 I137 (xF0 x0 x3) [Y, F, Y, Y, Y, Y] [] = dn (xBx false) [(decide ((x3 : Int) < (Ln x0 : Int))) = true, (0 : Int) ≤ x3 ∧ x3 < (Ln x0), (decide ((((gD x0 (tN x3) 0).toNat : Int) : Int) ≥ 97)) = false, (0 : Int) ≤ x3 ∧ x3 < (Ln x0), (decide ((((gD x0 (tN x3) 0).toNat : Int) : Int) ≥ 48)) = true, (0 : Int) ≤ x3 ∧ x3 < (Ln x0), (!false) = true, ((x3 : Int) == 0) = true, true = true] := by kernel_rfl
theorem p137_2_8 (x0 : Str) (x3 : Int) : rS 2 I137 (xF0 x0 x3) [Y, F, Y, Y, F, Y] [] = dn (xBx false) [(decide ((x3 : Int) < (Ln x0 : Int))) = true, (0 : Int) ≤ x3 ∧ x3 < (Ln x0), (decide ((((gD x0 (tN x3) 0).toNat : Int) : Int) ≥ 97)) = false, (0 : Int) ≤ x3 ∧ x3 < (Ln x0), (decide ((((gD x0 (tN x3) 0).toNat : Int) : Int) ≥ 48)) = true, (0 : Int) ≤ x3 ∧ x3 < (Ln x0), (!false) = true, ((x3 : Int) == 0) = false, (!(decide ((((gD x0 (tN x3) 0).toNat : Int) : Int) ≤ 57))) = true] := by kernel_rfl
theorem p137_2_9 (x0 : Str) (x3 : Int) : rS 2 I137 (xF0 x0 x3) [Y, F, Y, Y, F, F] [] = st 2 I137 (xF0 x0 (W (x3 + 1))) [(decide ((x3 : Int) < (Ln x0 : Int))) = true, (0 : Int) ≤ x3 ∧ x3 < (Ln x0), (decide ((((gD x0 (tN x3) 0).toNat : Int) : Int) ≥ 97)) = false, (0 : Int) ≤ x3 ∧ x3 < (Ln x0), (decide ((((gD x0 (tN x3) 0).toNat : Int) : Int) ≥ 48)) = true, (0 : Int) ≤ x3 ∧ x3 < (Ln x0), (!false) = true, ((x3 : Int) == 0) = false, (!(decide ((((gD x0 (tN x3) 0).toNat : Int) : Int) ≤ 57))) = false] := by kernel_rfl
theorem p137_2_10 (x0 : Str) (x3 : Int) : rS 2 I137 (xF0 x0 x3) [Y, F, F, Y, Y, Y] [] = dn (xBx false) [(decide ((x3 : Int) < (Ln x0 : Int))) = true, (0 : Int) ≤ x3 ∧ x3 < (Ln x0), (decide ((((gD x0 (tN x3) 0).toNat : Int) : Int) ≥ 97)) = false, (0 : Int) ≤ x3 ∧ x3 < (Ln x0), (decide ((((gD x0 (tN x3) 0).toNat : Int) : Int) ≥ 48)) = false, (!false) = true, ((x3 : Int) == 0) = true, true = true] := by kernel_rfl
theorem p137_2_11 (x0 : Str) (x3 : Int) : rS 2 I137 (xF0 x0 x3) [Y, F, F, Y, F, Y] [] = dn (xBx false) [(decide ((x3 : Int) < (Ln x0 : Int))) = true, (0 : Int) ≤ x3 ∧ x3 < (Ln x0), (decide ((((gD x0 (tN x3) 0).toNat : Int) : Int) ≥ 97)) = false, (0 : Int) ≤ x3 ∧ x3 < (Ln x0), (decide ((((gD x0 (tN x3) 0).toNat : Int) : Int) ≥ 48)) = false, (!false) = true, ((x3 : Int) == 0) = false, (!false) = true] := by kernel_rfl
theorem p137_2_12 (x0 : Str) (x3 : Int) : rS 2 I137 (xF0 x0 x3) [F] [] = dn (xBx (decide (((Ln x0 : Int) : Int) > 0))) [(decide ((x3 : Int) < (Ln x0 : Int))) = false] := by kernel_rfl
theorem p137_e_13 (a0 : Str) : rE I137 (xEN a0) [] [] = st 2 I137 (xF0 a0 0) [] := by kernel_rfl
theorem c137_2 {N : Nat} : ∀ n x0 x3 r, xCS N n x0 x3 = some r → RS Try.f137 I137 2 (xF0 x0 x3) (xBx r) := by
 intro n
 induction n with
 | zero => exact fun _ _ _ h => nE h
 | succ n ih =>
  exact fun x0 x3 r h =>
   cE h (fun h0 h => iE h fun h1 h => cE h (fun h2 h => cE h (fun h5 h => cE h (fun h7 h => cE h (fun h8 h => dS h xIo (p137_2_0 x0 x3) (oc h0 (oc h1 (oc h2 (oc h1 (oc h1 (oc h5 (oc h1 (oc h7 (oc h8 (oc rfl on))))))))))) fun h8 h =>
   cE h (fun h9 h => dS h xIo (p137_2_1 x0 x3) (oc h0 (oc h1 (oc h2 (oc h1 (oc h1 (oc h5 (oc h1 (oc h7 (oc h8 (oc h9 on))))))))))) fun h9 h =>
   tS xIo (p137_2_2 x0 x3) (oc h0 (oc h1 (oc h2 (oc h1 (oc h1 (oc h5 (oc h1 (oc h7 (oc h8 (oc h9 on)))))))))) (ih _ _ _ h)) fun h7 h =>
   tS xIo (p137_2_3 x0 x3) (oc h0 (oc h1 (oc h2 (oc h1 (oc h1 (oc h5 (oc h1 (oc h7 (oc rfl on))))))))) (ih _ _ _ h)) fun h5 h =>
   cE h (fun h6 h => cE h (fun h7 h => dS h xIo (p137_2_4 x0 x3) (oc h0 (oc h1 (oc h2 (oc h1 (oc h1 (oc h5 (oc h6 (oc h7 (oc rfl on)))))))))) fun h7 h =>
   dS h xIo (p137_2_5 x0 x3) (oc h0 (oc h1 (oc h2 (oc h1 (oc h1 (oc h5 (oc h6 (oc h7 (oc rfl on)))))))))) fun h6 h =>
   tS xIo (p137_2_6 x0 x3) (oc h0 (oc h1 (oc h2 (oc h1 (oc h1 (oc h5 (oc h6 (oc rfl on)))))))) (ih _ _ _ h)) fun h2 h =>
   cE h (fun h4 h => cE h (fun h7 h => dS h xIo (p137_2_7 x0 x3) (oc h0 (oc h1 (oc h2 (oc h1 (oc h4 (oc h1 (oc rfl (oc h7 (oc rfl on)))))))))) fun h7 h =>
   cE h (fun h8 h => dS h xIo (p137_2_8 x0 x3) (oc h0 (oc h1 (oc h2 (oc h1 (oc h4 (oc h1 (oc rfl (oc h7 (oc h8 on)))))))))) fun h8 h =>
   tS xIo (p137_2_9 x0 x3) (oc h0 (oc h1 (oc h2 (oc h1 (oc h4 (oc h1 (oc rfl (oc h7 (oc h8 on))))))))) (ih _ _ _ h)) fun h4 h =>
   cE h (fun h6 h => dS h xIo (p137_2_10 x0 x3) (oc h0 (oc h1 (oc h2 (oc h1 (oc h4 (oc rfl (oc h6 (oc rfl on))))))))) fun h6 h =>
   dS h xIo (p137_2_11 x0 x3) (oc h0 (oc h1 (oc h2 (oc h1 (oc h4 (oc rfl (oc h6 (oc rfl on))))))))) fun h0 h =>
   dS h xIo (p137_2_12 x0 x3) (oc h0 on)
theorem c137_e {N : Nat} : ∀ a0 r, xHd N a0 = some r → RE Try.f137 I137 (xEN a0) (xBx r) := fun a0 r h =>
 tE xIo (p137_e_13 a0) on (c137_2 _ _ _ _ h)
theorem xG3 {N : Nat} {a0 : Str} {r : Bool} (h : xHd N  a0 = some r) : AbC 137 (xEN a0) (xBx r) :=
 AbsCalls.of_reach xIo rfl rfl (Nat.le_of_ble_eq_true rfl) (c137_e a0 r h)
noncomputable def I175 : Info := { body := (Try.f175.body).getD .skip, nt := 2, results := [.tmp 0], keep := [0], live := [], modes := [] }
theorem fk175 : FnOk Try.prog 175 Try.f175 I175 := ⟨Try.func175, by kernel_rfl, by kernel_rfl, by kernel_rfl, by kernel_rfl⟩
theorem p175_e_0 : rE I175 (xFe ) [] [] = dn (xEz [[108, 101, 116], [105, 110], [105, 102], [116, 104, 101, 110], [101, 108, 115, 101], [102, 111, 114], [100, 111], [108, 101, 110], [115, 117, 109], [116, 97, 107, 101], [115, 107, 105, 112], [114, 97, 110, 103, 101], [110, 116, 104], [119, 104, 101, 114, 101], [107, 101, 101, 112], [97, 100, 100], [103, 114, 111, 117, 112], [106, 111, 105, 110], [99, 111, 108, 117, 109, 110], [114, 111, 119, 115], [99, 108, 111, 99, 107], [99, 104, 97, 110, 99, 101], [102, 105, 108, 101], [116, 97, 98, 108, 101]]) [] := by kernel_rfl
theorem c175_e {N : Nat} : ∀ r, xGa N = some r → RE Try.f175 I175 (xFe ) (xEz r) := fun r h =>
 dE h fk175 (p175_e_0) on
theorem spec_l2Reserved_ok {N : Nat} {r : (List Str)} (h : xGa N   = some r) : AbC 175 (xFe ) (xEz r) :=
 AbsCalls.of_reach fk175 rfl rfl (Nat.le_of_ble_eq_true rfl) (c175_e  r h)
noncomputable def I174 : Info := { body := (Try.f174.body).getD .skip, nt := 18, results := [.tmp 4], keep := [0, 2, 8, 10, 18, 34], live := [(2, [0, 2, 10])], modes := [] }
theorem fk174 : FnOk Try.prog 174 Try.f174 I174 := ⟨Try.func174, by kernel_rfl, by kernel_rfl, by kernel_rfl, by kernel_rfl⟩
def S174_2 (x0 : List Str) (x1 : Str) (x5 : Int) : St := [(0, .v false [.sl .ro .str x0]), (2, .v false [.str x1]), (10, .v false [.int .i64 x5])]
theorem p174_2_0 (x0 : List Str) (x1 : Str) (x5 : Int) : rS 2 I174 (S174_2 x0 x1 x5) [Y, Y] [] = dn (xDf true) [(decide ((x5 : Int) < (Ln x0 : Int))) = true, (0 : Int) ≤ x5 ∧ x5 < (Ln x0), (((gD x0 (tN x5) Ty.str.dflt) : Str) == x1) = true] := by kernel_rfl
theorem p174_2_1 (x0 : List Str) (x1 : Str) (x5 : Int) : rS 2 I174 (S174_2 x0 x1 x5) [Y, F] [] = st 2 I174 (S174_2 x0 x1 (W (x5 + 1))) [(decide ((x5 : Int) < (Ln x0 : Int))) = true, (0 : Int) ≤ x5 ∧ x5 < (Ln x0), (((gD x0 (tN x5) Ty.str.dflt) : Str) == x1) = false] := by kernel_rfl
theorem p174_2_2 (x0 : List Str) (x1 : Str) (x5 : Int) : rS 2 I174 (S174_2 x0 x1 x5) [F] [] = dn (xDf false) [(decide ((x5 : Int) < (Ln x0 : Int))) = false] := by kernel_rfl
theorem p174_e_3 (a0 : List Str) (a1 : Str) : rE I174 (xFv a0 a1) [] [] = st 2 I174 (S174_2 a0 a1 0) [] := by kernel_rfl
theorem c174_2 {N : Nat} : ∀ n x0 x1 x5 r, xEZ N n x0 x1 x5 = some r → RS Try.f174 I174 2 (S174_2 x0 x1 x5) (xDf r) := by
 intro n
 induction n with
 | zero => exact fun _ _ _ _ h => nE h
 | succ n ih =>
  exact fun x0 x1 x5 r h =>
   cE h (fun h0 h => iE h fun h1 h => cE h (fun h2 h => dS h fk174 (p174_2_0 x0 x1 x5) (oc h0 (oc h1 (oc h2 on)))) fun h2 h =>
   tS fk174 (p174_2_1 x0 x1 x5) (oc h0 (oc h1 (oc h2 on))) (ih _ _ _ _ h)) fun h0 h =>
   dS h fk174 (p174_2_2 x0 x1 x5) (oc h0 on)
theorem c174_e {N : Nat} : ∀ a0 a1 r, xHw N a0 a1 = some r → RE Try.f174 I174 (xFv a0 a1) (xDf r) := fun a0 a1 r h =>
 tE fk174 (p174_e_3 a0 a1) on (c174_2 _ _ _ _ _ h)
theorem xHL {N : Nat} {a0 : List Str} {a1 : Str} {r : Bool} (h : xHw N  a0 a1 = some r) : AbC 174 (xFv a0 a1) (xDf r) :=
 AbsCalls.of_reach fk174 rfl rfl (Nat.le_of_ble_eq_true rfl) (c174_e a0 a1 r h)
noncomputable def I138 : Info := { body := (Try.f138.body).getD .skip, nt := 6, results := [.tmp 2], keep := [0, 4], live := [], modes := [] }
theorem fk138 : FnOk Try.prog 138 Try.f138 I138 := ⟨Try.func138, by kernel_rfl, by kernel_rfl, by kernel_rfl, by kernel_rfl⟩
theorem p138_e_0 (a0 : Str) (r1 : (List Str)) (r2 : Bool) : rE I138 (xFc a0) [] [xEz r1, xDf r2] = dn (xEy r2) [AbC 175 xFe (xEz r1), AbC 174 (xFv r1 a0) (xDf r2)] := by kernel_rfl
theorem c138_e {N : Nat} : ∀ a0 r, xFl N a0 = some r → RE Try.f138 I138 (xFc a0) (xEy r) := fun a0 r h =>
 bE h fun r1 h0 h => bE h fun r2 h1 h => dE h fk138 (p138_e_0 a0 r1 r2) (oc (spec_l2Reserved_ok h0) (oc (xHL h1) on))
theorem spec_IsReserved_ok {N : Nat} {a0 : Str} {r : Bool} (h : xFl N  a0 = some r) : AbC 138 (xFc a0) (xEy r) :=
 AbsCalls.of_reach fk138 rfl rfl (Nat.le_of_ble_eq_true rfl) (c138_e a0 r h)
noncomputable def I83 : Info := { body := (Try.f83.body).getD .skip, nt := 15, results := [.tmp 2], keep := [0, 4], live := [], modes := [(1, [(2, .take, false), (7, .take, false)])] }
theorem fk83 : FnOk Try.prog 83 Try.f83 I83 := ⟨Try.func83, by kernel_rfl, by kernel_rfl, by kernel_rfl, by kernel_rfl⟩
theorem p83_e_0 (a0 : Str) (r1 r2 : Bool) : rE I83 (xC0 a0) [Y, Y] [xBx r1, xEy r2] = dn (xCh (!r2)) [AbC 137 (xEN a0) (xBx r1), r1 = true, (decide (((Ln a0 : Int) : Int) ≤ 8)) = true, AbC 138 (xFc a0) (xEy r2)] := by kernel_rfl
theorem p83_e_1 (a0 : Str) (r1 : Bool) : rE I83 (xC0 a0) [Y, F] [xBx r1] = dn (xCh false) [AbC 137 (xEN a0) (xBx r1), r1 = true, (decide (((Ln a0 : Int) : Int) ≤ 8)) = false] := by kernel_rfl
theorem p83_e_2 (a0 : Str) (r1 : Bool) : rE I83 (xC0 a0) [F, F] [xBx r1] = dn (xCh false) [AbC 137 (xEN a0) (xBx r1), r1 = false, false = false] := by kernel_rfl
theorem c83_e {N : Nat} : ∀ a0 r, xE3 N a0 = some r → RE Try.f83 I83 (xC0 a0) (xCh r) := fun a0 r h =>
 bE h fun r1 h0 h => cE h (fun h1 h => cE h (fun h2 h => bE h fun r2 h3 h => dE h fk83 (p83_e_0 a0 r1 r2) (oc (xG3 h0) (oc h1 (oc h2 (oc (spec_IsReserved_ok h3) on))))) fun h2 h =>
 dE h fk83 (p83_e_1 a0 r1) (oc (xG3 h0) (oc h1 (oc h2 on)))) fun h1 h =>
 dE h fk83 (p83_e_2 a0 r1) (oc (xG3 h0) (oc h1 (oc rfl on)))
theorem xG1 {N : Nat} {a0 : Str} {r : Bool} (h : xE3 N  a0 = some r) : AbC 83 (xC0 a0) (xCh r) :=
 AbsCalls.of_reach fk83 rfl rfl (Nat.le_of_ble_eq_true rfl) (c83_e a0 r h)
noncomputable def I178 : Info := { body := (Try.f178.body).getD .skip, nt := 18, results := [.tmp 2], keep := [0, 4, 6, 14, 34], live := [(2, [0, 6])], modes := [] }
theorem fk178 : FnOk Try.prog 178 Try.f178 I178 := ⟨Try.func178, by kernel_rfl, by kernel_rfl, by kernel_rfl, by kernel_rfl⟩
def S178_2 (x0 : List Str) (x3 : Int) : St := [(0, .v false [.sl .ro .str x0]), (6, .v false [.int .i64 x3])]
theorem p178_2_0 (x0 : List Str) (x3 : Int) (r1 : Bool) : rS 2 I178 (S178_2 x0 x3) [Y, Y] [xDf r1] = dn (xCZ false) [(decide ((x3 : Int) < (Ln x0 : Int))) = true, (0 : Int) ≤ x3 ∧ x3 ≤ (Ln x0), (0 : Int) ≤ x3 ∧ x3 < (Ln x0), AbC 174 (xFv (List.take (tN x3) x0) (gD x0 (tN x3) Ty.str.dflt)) (xDf r1), r1 = true] := by kernel_rfl
theorem p178_2_1 (x0 : List Str) (x3 : Int) (r1 : Bool) : rS 2 I178 (S178_2 x0 x3) [Y, F] [xDf r1] = st 2 I178 (S178_2 x0 (W (x3 + 1))) [(decide ((x3 : Int) < (Ln x0 : Int))) = true, (0 : Int) ≤ x3 ∧ x3 ≤ (Ln x0), (0 : Int) ≤ x3 ∧ x3 < (Ln x0), AbC 174 (xFv (List.take (tN x3) x0) (gD x0 (tN x3) Ty.str.dflt)) (xDf r1), r1 = false] := by kernel_rfl
theorem p178_2_2 (x0 : List Str) (x3 : Int) : rS 2 I178 (S178_2 x0 x3) [F] [] = dn (xCZ true) [(decide ((x3 : Int) < (Ln x0 : Int))) = false] := by kernel_rfl
theorem p178_e_3 (a0 : List Str) : rE I178 (xEW a0) [] [] = st 2 I178 (S178_2 a0 0) [] := by kernel_rfl
theorem c178_2 {N : Nat} : ∀ n x0 x3 r, xCY N n x0 x3 = some r → RS Try.f178 I178 2 (S178_2 x0 x3) (xCZ r) := by
 intro n
 induction n with
 | zero => exact fun _ _ _ h => nE h
 | succ n ih =>
  exact fun x0 x3 r h =>
   cE h (fun h0 h => iE h fun h1 h => iE h fun h2 h => bE h fun r1 h3 h => cE h (fun h4 h => dS h fk178 (p178_2_0 x0 x3 r1) (oc h0 (oc h1 (oc h2 (oc (xHL h3) (oc h4 on)))))) fun h4 h =>
   tS fk178 (p178_2_1 x0 x3 r1) (oc h0 (oc h1 (oc h2 (oc (xHL h3) (oc h4 on))))) (ih _ _ _ h)) fun h0 h =>
   dS h fk178 (p178_2_2 x0 x3) (oc h0 on)
theorem c178_e {N : Nat} : ∀ a0 r, xFN N a0 = some r → RE Try.f178 I178 (xEW a0) (xCZ r) := fun a0 r h =>
 tE fk178 (p178_e_3 a0) on (c178_2 _ _ _ _ h)
theorem xIx {N : Nat} {a0 : List Str} {r : Bool} (h : xFN N  a0 = some r) : AbC 178 (xEW a0) (xCZ r) :=
 AbsCalls.of_reach fk178 rfl rfl (Nat.le_of_ble_eq_true rfl) (c178_e a0 r h)
noncomputable def I154 : Info := { body := (Try.f154.body).getD .skip, nt := 23, results := [.tmp 2], keep := [0, 4, 6, 14, 30], live := [(2, [0, 6])], modes := [(6, [(3, .take, false)])] }
theorem fk154 : FnOk Try.prog 154 Try.f154 I154 := ⟨Try.func154, by kernel_rfl, by kernel_rfl, by kernel_rfl, by kernel_rfl⟩
def S154_2 (x0 : List Str) (x3 : Int) : St := [(0, .v false [.sl .ro .str x0]), (6, .v false [.int .i64 x3])]
theorem p154_2_0 (x0 : List Str) (x3 : Int) (r1 : Bool) : rS 2 I154 (S154_2 x0 x3) [Y, Y] [xCh r1] = dn (xBR false) [(decide ((x3 : Int) < (Ln x0 : Int))) = true, (0 : Int) ≤ x3 ∧ x3 < (Ln x0), AbC 83 (xC0 (gD x0 (tN x3) Ty.str.dflt)) (xCh r1), (!r1) = true] := by kernel_rfl
theorem p154_2_1 (x0 : List Str) (x3 : Int) (r1 : Bool) : rS 2 I154 (S154_2 x0 x3) [Y, F] [xCh r1] = st 2 I154 (S154_2 x0 (W (x3 + 1))) [(decide ((x3 : Int) < (Ln x0 : Int))) = true, (0 : Int) ≤ x3 ∧ x3 < (Ln x0), AbC 83 (xC0 (gD x0 (tN x3) Ty.str.dflt)) (xCh r1), (!r1) = false] := by kernel_rfl
theorem p154_2_2 (x0 : List Str) (x3 : Int) (r1 r2 : Bool) : rS 2 I154 (S154_2 x0 x3) [F, Y] [xCz r1, xCZ r2] = dn (xBR r2) [(decide ((x3 : Int) < (Ln x0 : Int))) = false, AbC 108 (xD3 (Ln x0 : Int) 1 4) (xCz r1), r1 = true, AbC 178 (xEW x0) (xCZ r2)] := by kernel_rfl
theorem p154_2_3 (x0 : List Str) (x3 : Int) (r1 : Bool) : rS 2 I154 (S154_2 x0 x3) [F, F] [xCz r1] = dn (xBR false) [(decide ((x3 : Int) < (Ln x0 : Int))) = false, AbC 108 (xD3 (Ln x0 : Int) 1 4) (xCz r1), r1 = false] := by kernel_rfl
theorem p154_e_4 (a0 : List Str) : rE I154 (xEa a0) [] [] = st 2 I154 (S154_2 a0 0) [] := by kernel_rfl
theorem c154_2 {N : Nat} : ∀ n x0 x3 r, xEb N n x0 x3 = some r → RS Try.f154 I154 2 (S154_2 x0 x3) (xBR r) := by
 intro n
 induction n with
 | zero => exact fun _ _ _ h => nE h
 | succ n ih =>
  exact fun x0 x3 r h =>
   cE h (fun h0 h => iE h fun h1 h => bE h fun r1 h2 h => cE h (fun h3 h => dS h fk154 (p154_2_0 x0 x3 r1) (oc h0 (oc h1 (oc (xG1 h2) (oc h3 on))))) fun h3 h =>
   tS fk154 (p154_2_1 x0 x3 r1) (oc h0 (oc h1 (oc (xG1 h2) (oc h3 on)))) (ih _ _ _ h)) fun h0 h =>
   bE h fun r1 h1 h => cE h (fun h2 h => bE h fun r2 h3 h => dS h fk154 (p154_2_2 x0 x3 r1 r2) (oc h0 (oc (xFY h1) (oc h2 (oc (xIx h3) on))))) fun h2 h =>
   dS h fk154 (p154_2_3 x0 x3 r1) (oc h0 (oc (xFY h1) (oc h2 on)))
theorem c154_e {N : Nat} : ∀ a0 r, xGy N a0 = some r → RE Try.f154 I154 (xEa a0) (xBR r) := fun a0 r h =>
 tE fk154 (p154_e_4 a0) on (c154_2 _ _ _ _ h)
theorem xGn {N : Nat} {a0 : List Str} {r : Bool} (h : xGy N  a0 = some r) : AbC 154 (xEa a0) (xBR r) :=
 AbsCalls.of_reach fk154 rfl rfl (Nat.le_of_ble_eq_true rfl) (c154_e a0 r h)
noncomputable def I179 : Info := { body := (Try.f179.body).getD .skip, nt := 24, results := [.tmp 4], keep := [0, 2, 4, 6, 8, 5, 7], live := [], modes := [(1, [(5, .take, false), (11, .take, false)])] }
theorem fk179 : FnOk Try.prog 179 Try.f179 I179 := ⟨Try.func179, by kernel_rfl, by kernel_rfl, by kernel_rfl, by kernel_rfl⟩
theorem p179_e_0 (a0 a1 : Org) : rE I179 (xDQ a0 a1) [Y] [] = dn (xCU true) [(decide (((Org.cell a0) : Int) < (Org.cell a1))) = true] := by kernel_rfl
theorem p179_e_1 (a0 a1 : Org) : rE I179 (xDQ a0 a1) [F, Y] [] = dn (xCU (decide (((Org.row a0) : Int) < (Org.row a1)))) [(decide (((Org.cell a0) : Int) < (Org.cell a1))) = false, (((Org.cell a0) : Int) == (Org.cell a1)) = true] := by kernel_rfl
theorem p179_e_2 (a0 a1 : Org) : rE I179 (xDQ a0 a1) [F, F] [] = dn (xCU false) [(decide (((Org.cell a0) : Int) < (Org.cell a1))) = false, (((Org.cell a0) : Int) == (Org.cell a1)) = false] := by kernel_rfl
theorem c179_e {N : Nat} : ∀ a0 a1 r, xGb N a0 a1 = some r → RE Try.f179 I179 (xDQ a0 a1) (xCU r) := fun a0 a1 r h =>
 cE h (fun h0 h => dE h fk179 (p179_e_0 a0 a1) (oc h0 on)) fun h0 h =>
 cE h (fun h1 h => dE h fk179 (p179_e_1 a0 a1) (oc h0 (oc h1 on))) fun h1 h =>
 dE h fk179 (p179_e_2 a0 a1) (oc h0 (oc h1 on))
theorem xHU {N : Nat} {a0 : Org} {a1 : Org} {r : Bool} (h : xGb N  a0 a1 = some r) : AbC 179 (xDQ a0 a1) (xCU r) :=
 AbsCalls.of_reach fk179 rfl rfl (Nat.le_of_ble_eq_true rfl) (c179_e a0 a1 r h)
noncomputable def I155 : Info := { body := (Try.f155.body).getD .skip, nt := 41, results := [.tmp 2], keep := [0, 4, 6, 14, 80], live := [(2, [0, 6])], modes := [(4, [(6, .take, false), (14, .take, false), (17, .take, false)])] }
theorem fk155 : FnOk Try.prog 155 Try.f155 I155 := ⟨Try.func155, by kernel_rfl, by kernel_rfl, by kernel_rfl, by kernel_rfl⟩
def xIf (x0 : List Org) (x3 : Int) : St := [(0, .v false [.sl .ro .org x0]), (6, .v false [.int .i64 x3])]
theorem p155_2_0 (x0 : List Org) (x3 : Int) : rS 2 I155 (xIf x0 x3) [Y, Y, Y, Y] [] = dn (xBO false) [(decide ((x3 : Int) < (Ln x0 : Int))) = true, (0 : Int) ≤ x3 ∧ x3 < (Ln x0), (decide (((Org.cell (gD x0 (tN x3) Ty.org.dflt)) : Int) < 0)) = true, true = true, true = true] := by kernel_rfl
theorem p155_2_1 (x0 : List Org) (x3 : Int) : rS 2 I155 (xIf x0 x3) [Y, F, Y, Y] [] = dn (xBO false) [(decide ((x3 : Int) < (Ln x0 : Int))) = true, (0 : Int) ≤ x3 ∧ x3 < (Ln x0), (decide (((Org.cell (gD x0 (tN x3) Ty.org.dflt)) : Int) < 0)) = false, (0 : Int) ≤ x3 ∧ x3 < (Ln x0), (decide (((Org.row (gD x0 (tN x3) Ty.org.dflt)) : Int) < 0)) = true, true = true] := by kernel_rfl
theorem p155_2_2 (x0 : List Org) (x3 : Int) (r1 : Bool) : rS 2 I155 (xIf x0 x3) [Y, F, F, Y, Y] [xCU r1] = dn (xBO false) [(decide ((x3 : Int) < (Ln x0 : Int))) = true, (0 : Int) ≤ x3 ∧ x3 < (Ln x0), (decide (((Org.cell (gD x0 (tN x3) Ty.org.dflt)) : Int) < 0)) = false, (0 : Int) ≤ x3 ∧ x3 < (Ln x0), (decide (((Org.row (gD x0 (tN x3) Ty.org.dflt)) : Int) < 0)) = false, (decide ((x3 : Int) > 0)) = true, (0 : Int) ≤ (W (x3 - 1)) ∧ (W (x3 - 1)) < (Ln x0), (0 : Int) ≤ x3 ∧ x3 < (Ln x0), AbC 179 (xDQ (gD x0 (tN (W (x3 - 1))) Ty.org.dflt) (gD x0 (tN x3) Ty.org.dflt)) (xCU r1), (!r1) = true] := by kernel_rfl
theorem p155_2_3 (x0 : List Org) (x3 : Int) (r1 : Bool) : rS 2 I155 (xIf x0 x3) [Y, F, F, Y, F] [xCU r1] = st 2 I155 (xIf x0 (W (x3 + 1))) [(decide ((x3 : Int) < (Ln x0 : Int))) = true, (0 : Int) ≤ x3 ∧ x3 < (Ln x0), (decide (((Org.cell (gD x0 (tN x3) Ty.org.dflt)) : Int) < 0)) = false, (0 : Int) ≤ x3 ∧ x3 < (Ln x0), (decide (((Org.row (gD x0 (tN x3) Ty.org.dflt)) : Int) < 0)) = false, (decide ((x3 : Int) > 0)) = true, (0 : Int) ≤ (W (x3 - 1)) ∧ (W (x3 - 1)) < (Ln x0), (0 : Int) ≤ x3 ∧ x3 < (Ln x0), AbC 179 (xDQ (gD x0 (tN (W (x3 - 1))) Ty.org.dflt) (gD x0 (tN x3) Ty.org.dflt)) (xCU r1), (!r1) = false] := by kernel_rfl
theorem p155_2_4 (x0 : List Org) (x3 : Int) : rS 2 I155 (xIf x0 x3) [Y, F, F, F, F] [] = st 2 I155 (xIf x0 (W (x3 + 1))) [(decide ((x3 : Int) < (Ln x0 : Int))) = true, (0 : Int) ≤ x3 ∧ x3 < (Ln x0), (decide (((Org.cell (gD x0 (tN x3) Ty.org.dflt)) : Int) < 0)) = false, (0 : Int) ≤ x3 ∧ x3 < (Ln x0), (decide (((Org.row (gD x0 (tN x3) Ty.org.dflt)) : Int) < 0)) = false, (decide ((x3 : Int) > 0)) = false, false = false] := by kernel_rfl
theorem p155_2_5 (x0 : List Org) (x3 : Int) : rS 2 I155 (xIf x0 x3) [F] [] = dn (xBO true) [(decide ((x3 : Int) < (Ln x0 : Int))) = false] := by kernel_rfl
theorem p155_e_6 (a0 : List Org) : rE I155 (xEq a0) [] [] = st 2 I155 (xIf a0 0) [] := by kernel_rfl
theorem c155_2 {N : Nat} : ∀ n x0 x3 r, xCE N n x0 x3 = some r → RS Try.f155 I155 2 (xIf x0 x3) (xBO r) := by
 intro n
 induction n with
 | zero => exact fun _ _ _ h => nE h
 | succ n ih =>
  exact fun x0 x3 r h =>
   cE h (fun h0 h => iE h fun h1 h => cE h (fun h2 h => dS h fk155 (p155_2_0 x0 x3) (oc h0 (oc h1 (oc h2 (oc rfl (oc rfl on)))))) fun h2 h =>
   cE h (fun h4 h => dS h fk155 (p155_2_1 x0 x3) (oc h0 (oc h1 (oc h2 (oc h1 (oc h4 (oc rfl on))))))) fun h4 h =>
   cE h (fun h5 h => iE h fun h6 h => bE h fun r1 h8 h => cE h (fun h9 h => dS h fk155 (p155_2_2 x0 x3 r1) (oc h0 (oc h1 (oc h2 (oc h1 (oc h4 (oc h5 (oc h6 (oc h1 (oc (xHU h8) (oc h9 on))))))))))) fun h9 h =>
   tS fk155 (p155_2_3 x0 x3 r1) (oc h0 (oc h1 (oc h2 (oc h1 (oc h4 (oc h5 (oc h6 (oc h1 (oc (xHU h8) (oc h9 on)))))))))) (ih _ _ _ h)) fun h5 h =>
   tS fk155 (p155_2_4 x0 x3) (oc h0 (oc h1 (oc h2 (oc h1 (oc h4 (oc h5 (oc rfl on))))))) (ih _ _ _ h)) fun h0 h =>
   dS h fk155 (p155_2_5 x0 x3) (oc h0 on)
theorem c155_e {N : Nat} : ∀ a0 r, xFP N a0 = some r → RE Try.f155 I155 (xEq a0) (xBO r) := fun a0 r h =>
 tE fk155 (p155_e_6 a0) on (c155_2 _ _ _ _ h)
theorem xG4 {N : Nat} {a0 : List Org} {r : Bool} (h : xFP N  a0 = some r) : AbC 155 (xEq a0) (xBO r) :=
 AbsCalls.of_reach fk155 rfl rfl (Nat.le_of_ble_eq_true rfl) (c155_e a0 r h)
noncomputable def I113 : Info := { body := (Try.f113.body).getD .skip, nt := 55, results := [.tmp 2], keep := [0, 2, 4, 6, 8, 10, 30, 40, 80, 90, 108, 3, 9], live := [(4, [2, 6, 3]), (10, [2, 6, 8, 10, 3, 9])], modes := [(1, [(4, .take, false)]), (7, [(7, .take, false)])] }
theorem fk113 : FnOk Try.prog 113 Try.f113 I113 := ⟨Try.func113, by kernel_rfl, by kernel_rfl, by kernel_rfl, by kernel_rfl⟩
def S113_4 (x3 : Int) (b1 : Val) : St := [(2, .v false [.ptr 1 0]), (6, .v false [.int .i64 x3]), (3, .v true [.int .i64 (Val.kind b1), .int .i64 (Val.n b1), .int .i64 (Val.step b1), .str (Val.text b1), .sl .ro .val (Val.list b1), .sl .ro .str (Val.columns b1), .sl .ro .row (Val.rows b1)])]
def S113_10 (x3 x5 : Int) (b1 : Val) (b4 : Rowd) : St := [(2, .v false [.ptr 1 0]), (6, .v false [.int .i64 x3]), (8, .v false [.ptr 4 0]), (10, .v false [.int .i64 x5]), (3, .v true [.int .i64 (Val.kind b1), .int .i64 (Val.n b1), .int .i64 (Val.step b1), .str (Val.text b1), .sl .ro .val (Val.list b1), .sl .ro .str (Val.columns b1), .sl .ro .row (Val.rows b1)]), (9, .v true [.sl .ro .int (Rowd.cells b4), .sl .ro .org (Rowd.frm b4)])]
theorem p113_10_0 (x3 x5 : Int) (b1 : Val) (b4 : Rowd) (r1 : Bool) : rS 10 I113 (S113_10 x3 x5 b1 b4) [Y, Y] [xBk r1] = dn (xB2 false) [(decide ((x5 : Int) < (Ln (Rowd.cells b4) : Int))) = true, (0 : Int) ≤ x5 ∧ x5 < (Ln (Rowd.cells b4)), AbC 85 (xCs (gD (Rowd.cells b4) (tN x5) Ty.int.dflt)) (xBk r1), (!r1) = true] := by kernel_rfl
theorem p113_10_1 (x3 x5 : Int) (b1 : Val) (b4 : Rowd) (r1 : Bool) : rS 10 I113 (S113_10 x3 x5 b1 b4) [Y, F] [xBk r1] = st 10 I113 (S113_10 x3 (W (x5 + 1)) b1 b4) [(decide ((x5 : Int) < (Ln (Rowd.cells b4) : Int))) = true, (0 : Int) ≤ x5 ∧ x5 < (Ln (Rowd.cells b4)), AbC 85 (xCs (gD (Rowd.cells b4) (tN x5) Ty.int.dflt)) (xBk r1), (!r1) = false] := by kernel_rfl
theorem p113_10_2 (x3 x5 : Int) (b1 : Val) (b4 : Rowd) : rS 10 I113 (S113_10 x3 x5 b1 b4) [F] [] = st 4 I113 (S113_4 (W (x3 + 1)) b1) [(decide ((x5 : Int) < (Ln (Rowd.cells b4) : Int))) = false] := by kernel_rfl
theorem p113_4_3 (x3 : Int) (b1 : Val) : rS 4 I113 (S113_4 x3 b1) [Y, Y, Y] [] = dn (xB2 false) [(decide ((x3 : Int) < (Ln (Val.rows b1) : Int))) = true, (0 : Int) ≤ x3 ∧ x3 < (Ln (Val.rows b1)), (((Ln (Rowd.cells (gD (Val.rows b1) (tN x3) rd)) : Int) : Int) != (Ln (Val.columns b1) : Int)) = true, true = true] := by kernel_rfl
theorem p113_4_4 (x3 : Int) (b1 : Val) (r1 : Bool) : rS 4 I113 (S113_4 x3 b1) [Y, F, Y] [xBO r1] = dn (xB2 false) [(decide ((x3 : Int) < (Ln (Val.rows b1) : Int))) = true, (0 : Int) ≤ x3 ∧ x3 < (Ln (Val.rows b1)), (((Ln (Rowd.cells (gD (Val.rows b1) (tN x3) rd)) : Int) : Int) != (Ln (Val.columns b1) : Int)) = false, AbC 155 (xEq (Rowd.frm (gD (Val.rows b1) (tN x3) rd))) (xBO r1), (!r1) = true] := by kernel_rfl
theorem p113_4_5 (x3 : Int) (b1 : Val) (r1 : Bool) : rS 4 I113 (S113_4 x3 b1) [Y, F, F] [xBO r1] = st 10 I113 (S113_10 x3 0 b1 (gD (Val.rows b1) (tN x3) rd)) [(decide ((x3 : Int) < (Ln (Val.rows b1) : Int))) = true, (0 : Int) ≤ x3 ∧ x3 < (Ln (Val.rows b1)), (((Ln (Rowd.cells (gD (Val.rows b1) (tN x3) rd)) : Int) : Int) != (Ln (Val.columns b1) : Int)) = false, AbC 155 (xEq (Rowd.frm (gD (Val.rows b1) (tN x3) rd))) (xBO r1), (!r1) = false] := by kernel_rfl
theorem p113_4_6 (x3 : Int) (b1 : Val) : rS 4 I113 (S113_4 x3 b1) [F] [] = dn (xB2 true) [(decide ((x3 : Int) < (Ln (Val.rows b1) : Int))) = false] := by kernel_rfl
theorem p113_e_7 (a0 : Val) (r1 : Bool) : rE I113 (xEP a0) [Y, Y] [xBR r1] = dn (xB2 false) [AbC 154 (xEa (Val.columns a0)) (xBR r1), (!r1) = true, true = true] := by kernel_rfl
theorem p113_e_8 (a0 : Val) (r1 : Bool) : rE I113 (xEP a0) [F, Y] [xBR r1] = dn (xB2 false) [AbC 154 (xEa (Val.columns a0)) (xBR r1), (!r1) = false, (decide (((Ln (Val.rows a0) : Int) : Int) > 12)) = true] := by kernel_rfl
theorem p113_e_9 (a0 : Val) (r1 : Bool) : rE I113 (xEP a0) [F, F] [xBR r1] = st 4 I113 (S113_4 0 a0) [AbC 154 (xEa (Val.columns a0)) (xBR r1), (!r1) = false, (decide (((Ln (Val.rows a0) : Int) : Int) > 12)) = false] := by kernel_rfl
theorem c113_10 {N : Nat} {k4 : Int → Val → Option (Bool)} (hk4 : ∀ z0 z1 r, k4 z0 z1 = some r → RS Try.f113 I113 4 (S113_4 z0 z1) (xB2 r)) : ∀ n x3 x5 b1 b4 r, xDS N k4 n x3 x5 b1 b4 = some r → RS Try.f113 I113 10 (S113_10 x3 x5 b1 b4) (xB2 r) := by
 intro n
 induction n with
 | zero => exact fun _ _ _ _ _ h => nE h
 | succ n ih =>
  exact fun x3 x5 b1 b4 r h =>
   cE h (fun h0 h => iE h fun h1 h => bE h fun r1 h2 h => cE h (fun h3 h => dS h fk113 (p113_10_0 x3 x5 b1 b4 r1) (oc h0 (oc h1 (oc (xDl h2) (oc h3 on))))) fun h3 h =>
   tS fk113 (p113_10_1 x3 x5 b1 b4 r1) (oc h0 (oc h1 (oc (xDl h2) (oc h3 on)))) (ih _ _ _ _ _ h)) fun h0 h =>
   tS fk113 (p113_10_2 x3 x5 b1 b4) (oc h0 on) (hk4 _ _ _ h)
theorem c113_4 {N : Nat} : ∀ n x3 b1 r, xEt N n x3 b1 = some r → RS Try.f113 I113 4 (S113_4 x3 b1) (xB2 r) := by
 intro n
 induction n with
 | zero => exact fun _ _ _ h => nE h
 | succ n ih =>
  exact fun x3 b1 r h =>
   cE h (fun h0 h => iE h fun h1 h => cE h (fun h2 h => dS h fk113 (p113_4_3 x3 b1) (oc h0 (oc h1 (oc h2 (oc rfl on))))) fun h2 h =>
   bE h fun r1 h3 h => cE h (fun h4 h => dS h fk113 (p113_4_4 x3 b1 r1) (oc h0 (oc h1 (oc h2 (oc (xG4 h3) (oc h4 on)))))) fun h4 h =>
   tS fk113 (p113_4_5 x3 b1 r1) (oc h0 (oc h1 (oc h2 (oc (xG4 h3) (oc h4 on))))) (c113_10 ih _ _ _ _ _ _ h)) fun h0 h =>
   dS h fk113 (p113_4_6 x3 b1) (oc h0 on)
theorem c113_e {N : Nat} : ∀ a0 r, xGG N a0 = some r → RE Try.f113 I113 (xEP a0) (xB2 r) := fun a0 r h =>
 bE h fun r1 h0 h => cE h (fun h1 h => dE h fk113 (p113_e_7 a0 r1) (oc (xGn h0) (oc h1 (oc rfl on)))) fun h1 h =>
 cE h (fun h2 h => dE h fk113 (p113_e_8 a0 r1) (oc (xGn h0) (oc h1 (oc h2 on)))) fun h2 h =>
 tE fk113 (p113_e_9 a0 r1) (oc (xGn h0) (oc h1 (oc h2 on))) (c113_4 _ _ _ _ h)
theorem spec_l3Table_ok {N : Nat} {a0 : Val} {r : Bool} (h : xGG N  a0 = some r) : AbC 113 (xEP a0) (xB2 r) :=
 AbsCalls.of_reach fk113 rfl rfl (Nat.le_of_ble_eq_true rfl) (c113_e a0 r h)
def G40 (q : Val → Option (Bool)) : Prop := ∀ a0 r, q a0 = some r → AbC 40 (xAt a0) (xAo r)
def G112 (q : Val → Option (Bool)) : Prop := ∀ a0 r, q a0 = some r → AbC 112 (xFH a0) (xC9 r)
noncomputable def I40 : Info := { body := (Try.f40.body).getD .skip, nt := 95, results := [.tmp 2], keep := [0, 2, 4, 52, 88, 92, 94, 104, 124, 142, 162, 180, 3], live := [], modes := [(1, [(3, .take, false), (9, .take, false), (13, .take, false)]), (3, [(3, .take, false), (8, .take, false), (12, .take, false)]), (9, [(3, .take, false)]), (11, [(3, .take, false)]), (13, [(3, .take, false)]), (15, [(3, .take, false)])] }
theorem fk40 : FnOk Try.prog 40 Try.f40 I40 := ⟨Try.func40, by kernel_rfl, by kernel_rfl, by kernel_rfl, by kernel_rfl⟩
theorem p40_e_0 (a0 : Val) : rE I40 (xAt a0) [Y, Y, Y] [] = dn (xAo false) [(((Val.kind a0) : Int) != 3) = true, (decide (((Ln (Val.list a0) : Int) : Int) > 0)) = true, true = true] := by kernel_rfl
theorem p40_e_1 (a0 : Val) : rE I40 (xAt a0) [Y, F, Y, Y] [] = dn (xAo false) [(((Val.kind a0) : Int) != 3) = true, (decide (((Ln (Val.list a0) : Int) : Int) > 0)) = false, (((Val.kind a0) : Int) != 5) = true, (decide (((W ((Ln (Val.columns a0) : Int) + (Ln (Val.rows a0) : Int))) : Int) > 0)) = true] := by kernel_rfl
theorem p40_e_2 (a0 : Val) : rE I40 (xAt a0) [Y, F, Y, F, Y, Y, Y] [] = dn (xAo false) [(((Val.kind a0) : Int) != 3) = true, (decide (((Ln (Val.list a0) : Int) : Int) > 0)) = false, (((Val.kind a0) : Int) != 5) = true, (decide (((W ((Ln (Val.columns a0) : Int) + (Ln (Val.rows a0) : Int))) : Int) > 0)) = false, (((Val.kind a0) : Int) != 2) = true, (!(((Val.text a0) : Str) == [])) = true, true = true] := by kernel_rfl
theorem p40_e_3 (a0 : Val) : rE I40 (xAt a0) [Y, F, Y, F, Y, F, Y, Y] [] = dn (xAo false) [(((Val.kind a0) : Int) != 3) = true, (decide (((Ln (Val.list a0) : Int) : Int) > 0)) = false, (((Val.kind a0) : Int) != 5) = true, (decide (((W ((Ln (Val.columns a0) : Int) + (Ln (Val.rows a0) : Int))) : Int) > 0)) = false, (((Val.kind a0) : Int) != 2) = true, (!(((Val.text a0) : Str) == [])) = false, (((Val.kind a0) : Int) != 4) = true, (((Val.step a0) : Int) != 0) = true] := by kernel_rfl
theorem p40_e_4 (a0 : Val) (r1 : Bool) : rE I40 (xAt a0) [Y, F, Y, F, Y, F, Y, F, Y] [xBk r1] = dn (xAo r1) [(((Val.kind a0) : Int) != 3) = true, (decide (((Ln (Val.list a0) : Int) : Int) > 0)) = false, (((Val.kind a0) : Int) != 5) = true, (decide (((W ((Ln (Val.columns a0) : Int) + (Ln (Val.rows a0) : Int))) : Int) > 0)) = false, (((Val.kind a0) : Int) != 2) = true, (!(((Val.text a0) : Str) == [])) = false, (((Val.kind a0) : Int) != 4) = true, (((Val.step a0) : Int) != 0) = false, (((Val.kind a0) : Int) == 1) = true, AbC 85 (xCs (Val.n a0)) (xBk r1)] := by kernel_rfl
theorem p40_e_5 (a0 : Val) (r1 : Bool) : rE I40 (xAt a0) [Y, F, Y, F, Y, F, Y, F, F, F, F, F, F, Y] [xCz r1] = dn (xAo r1) [(((Val.kind a0) : Int) != 3) = true, (decide (((Ln (Val.list a0) : Int) : Int) > 0)) = false, (((Val.kind a0) : Int) != 5) = true, (decide (((W ((Ln (Val.columns a0) : Int) + (Ln (Val.rows a0) : Int))) : Int) > 0)) = false, (((Val.kind a0) : Int) != 2) = true, (!(((Val.text a0) : Str) == [])) = false, (((Val.kind a0) : Int) != 4) = true, (((Val.step a0) : Int) != 0) = false, (((Val.kind a0) : Int) == 1) = false, (((Val.kind a0) : Int) == 2) = false, (((Val.kind a0) : Int) == 3) = false, (((Val.kind a0) : Int) == 4) = false, (((Val.kind a0) : Int) == 5) = false, (((Val.kind a0) : Int) == 6) = true, AbC 108 (xD3 (Val.n a0) 1 8) (xCz r1)] := by kernel_rfl
theorem p40_e_6 (a0 : Val) : rE I40 (xAt a0) [Y, F, Y, F, Y, F, Y, F, F, F, F, F, F, F] [] = dn (xAo false) [(((Val.kind a0) : Int) != 3) = true, (decide (((Ln (Val.list a0) : Int) : Int) > 0)) = false, (((Val.kind a0) : Int) != 5) = true, (decide (((W ((Ln (Val.columns a0) : Int) + (Ln (Val.rows a0) : Int))) : Int) > 0)) = false, (((Val.kind a0) : Int) != 2) = true, (!(((Val.text a0) : Str) == [])) = false, (((Val.kind a0) : Int) != 4) = true, (((Val.step a0) : Int) != 0) = false, (((Val.kind a0) : Int) == 1) = false, (((Val.kind a0) : Int) == 2) = false, (((Val.kind a0) : Int) == 3) = false, (((Val.kind a0) : Int) == 4) = false, (((Val.kind a0) : Int) == 5) = false, (((Val.kind a0) : Int) == 6) = false] := by kernel_rfl
theorem p40_e_7 (a0 : Val) (r1 r2 : Bool) : rE I40 (xAt a0) [Y, F, Y, F, Y, F, F, F, F, F, F, Y, Y] [xBk r1, xBk r2] = dn (xAo r2) [(((Val.kind a0) : Int) != 3) = true, (decide (((Ln (Val.list a0) : Int) : Int) > 0)) = false, (((Val.kind a0) : Int) != 5) = true, (decide (((W ((Ln (Val.columns a0) : Int) + (Ln (Val.rows a0) : Int))) : Int) > 0)) = false, (((Val.kind a0) : Int) != 2) = true, (!(((Val.text a0) : Str) == [])) = false, (((Val.kind a0) : Int) != 4) = false, false = false, (((Val.kind a0) : Int) == 1) = false, (((Val.kind a0) : Int) == 2) = false, (((Val.kind a0) : Int) == 3) = false, (((Val.kind a0) : Int) == 4) = true, AbC 85 (xCs (Val.n a0)) (xBk r1), r1 = true, AbC 85 (xCs (Val.step a0)) (xBk r2)] := by kernel_rfl
theorem p40_e_8 (a0 : Val) (r1 : Bool) : rE I40 (xAt a0) [Y, F, Y, F, Y, F, F, F, F, F, F, Y, F] [xBk r1] = dn (xAo false) [(((Val.kind a0) : Int) != 3) = true, (decide (((Ln (Val.list a0) : Int) : Int) > 0)) = false, (((Val.kind a0) : Int) != 5) = true, (decide (((W ((Ln (Val.columns a0) : Int) + (Ln (Val.rows a0) : Int))) : Int) > 0)) = false, (((Val.kind a0) : Int) != 2) = true, (!(((Val.text a0) : Str) == [])) = false, (((Val.kind a0) : Int) != 4) = false, false = false, (((Val.kind a0) : Int) == 1) = false, (((Val.kind a0) : Int) == 2) = false, (((Val.kind a0) : Int) == 3) = false, (((Val.kind a0) : Int) == 4) = true, AbC 85 (xCs (Val.n a0)) (xBk r1), r1 = false] := by kernel_rfl
theorem p40_e_9 (a0 : Val) : rE I40 (xAt a0) [Y, F, Y, F, F, F, Y, Y] [] = dn (xAo false) [(((Val.kind a0) : Int) != 3) = true, (decide (((Ln (Val.list a0) : Int) : Int) > 0)) = false, (((Val.kind a0) : Int) != 5) = true, (decide (((W ((Ln (Val.columns a0) : Int) + (Ln (Val.rows a0) : Int))) : Int) > 0)) = false, (((Val.kind a0) : Int) != 2) = false, false = false, (((Val.kind a0) : Int) != 4) = true, (((Val.step a0) : Int) != 0) = true] := by kernel_rfl
theorem p40_e_10 (a0 : Val) (r1 : Bool) : rE I40 (xAt a0) [Y, F, Y, F, F, F, Y, F, F, Y, Y] [xCi r1] = dn (xAo r1) [(((Val.kind a0) : Int) != 3) = true, (decide (((Ln (Val.list a0) : Int) : Int) > 0)) = false, (((Val.kind a0) : Int) != 5) = true, (decide (((W ((Ln (Val.columns a0) : Int) + (Ln (Val.rows a0) : Int))) : Int) > 0)) = false, (((Val.kind a0) : Int) != 2) = false, false = false, (((Val.kind a0) : Int) != 4) = true, (((Val.step a0) : Int) != 0) = false, (((Val.kind a0) : Int) == 1) = false, (((Val.kind a0) : Int) == 2) = true, (((Val.n a0) : Int) == 0) = true, AbC 111 (xEX (Val.text a0)) (xCi r1)] := by kernel_rfl
theorem p40_e_11 (a0 : Val) : rE I40 (xAt a0) [Y, F, Y, F, F, F, Y, F, F, Y, F] [] = dn (xAo false) [(((Val.kind a0) : Int) != 3) = true, (decide (((Ln (Val.list a0) : Int) : Int) > 0)) = false, (((Val.kind a0) : Int) != 5) = true, (decide (((W ((Ln (Val.columns a0) : Int) + (Ln (Val.rows a0) : Int))) : Int) > 0)) = false, (((Val.kind a0) : Int) != 2) = false, false = false, (((Val.kind a0) : Int) != 4) = true, (((Val.step a0) : Int) != 0) = false, (((Val.kind a0) : Int) == 1) = false, (((Val.kind a0) : Int) == 2) = true, (((Val.n a0) : Int) == 0) = false] := by kernel_rfl
theorem p40_e_12 (a0 : Val) : rE I40 (xAt a0) [Y, F, F, F, Y, Y, Y] [] = dn (xAo false) [(((Val.kind a0) : Int) != 3) = true, (decide (((Ln (Val.list a0) : Int) : Int) > 0)) = false, (((Val.kind a0) : Int) != 5) = false, false = false, (((Val.kind a0) : Int) != 2) = true, (!(((Val.text a0) : Str) == [])) = true, true = true] := by kernel_rfl
theorem p40_e_13 (a0 : Val) : rE I40 (xAt a0) [Y, F, F, F, Y, F, Y, Y] [] = dn (xAo false) [(((Val.kind a0) : Int) != 3) = true, (decide (((Ln (Val.list a0) : Int) : Int) > 0)) = false, (((Val.kind a0) : Int) != 5) = false, false = false, (((Val.kind a0) : Int) != 2) = true, (!(((Val.text a0) : Str) == [])) = false, (((Val.kind a0) : Int) != 4) = true, (((Val.step a0) : Int) != 0) = true] := by kernel_rfl
theorem p40_e_14 (a0 : Val) (r1 : Bool) : rE I40 (xAt a0) [Y, F, F, F, Y, F, Y, F, F, F, F, F, Y, Y] [xB2 r1] = dn (xAo r1) [(((Val.kind a0) : Int) != 3) = true, (decide (((Ln (Val.list a0) : Int) : Int) > 0)) = false, (((Val.kind a0) : Int) != 5) = false, false = false, (((Val.kind a0) : Int) != 2) = true, (!(((Val.text a0) : Str) == [])) = false, (((Val.kind a0) : Int) != 4) = true, (((Val.step a0) : Int) != 0) = false, (((Val.kind a0) : Int) == 1) = false, (((Val.kind a0) : Int) == 2) = false, (((Val.kind a0) : Int) == 3) = false, (((Val.kind a0) : Int) == 4) = false, (((Val.kind a0) : Int) == 5) = true, (((Val.n a0) : Int) == 0) = true, AbC 113 (xEP a0) (xB2 r1)] := by kernel_rfl
theorem p40_e_15 (a0 : Val) : rE I40 (xAt a0) [Y, F, F, F, Y, F, Y, F, F, F, F, F, Y, F] [] = dn (xAo false) [(((Val.kind a0) : Int) != 3) = true, (decide (((Ln (Val.list a0) : Int) : Int) > 0)) = false, (((Val.kind a0) : Int) != 5) = false, false = false, (((Val.kind a0) : Int) != 2) = true, (!(((Val.text a0) : Str) == [])) = false, (((Val.kind a0) : Int) != 4) = true, (((Val.step a0) : Int) != 0) = false, (((Val.kind a0) : Int) == 1) = false, (((Val.kind a0) : Int) == 2) = false, (((Val.kind a0) : Int) == 3) = false, (((Val.kind a0) : Int) == 4) = false, (((Val.kind a0) : Int) == 5) = true, (((Val.n a0) : Int) == 0) = false] := by kernel_rfl
theorem p40_e_16 (a0 : Val) : rE I40 (xAt a0) [F, F, Y, Y] [] = dn (xAo false) [(((Val.kind a0) : Int) != 3) = false, false = false, (((Val.kind a0) : Int) != 5) = true, (decide (((W ((Ln (Val.columns a0) : Int) + (Ln (Val.rows a0) : Int))) : Int) > 0)) = true] := by kernel_rfl
theorem p40_e_17 (a0 : Val) : rE I40 (xAt a0) [F, F, Y, F, Y, Y, Y] [] = dn (xAo false) [(((Val.kind a0) : Int) != 3) = false, false = false, (((Val.kind a0) : Int) != 5) = true, (decide (((W ((Ln (Val.columns a0) : Int) + (Ln (Val.rows a0) : Int))) : Int) > 0)) = false, (((Val.kind a0) : Int) != 2) = true, (!(((Val.text a0) : Str) == [])) = true, true = true] := by kernel_rfl
theorem p40_e_18 (a0 : Val) : rE I40 (xAt a0) [F, F, Y, F, Y, F, Y, Y] [] = dn (xAo false) [(((Val.kind a0) : Int) != 3) = false, false = false, (((Val.kind a0) : Int) != 5) = true, (decide (((W ((Ln (Val.columns a0) : Int) + (Ln (Val.rows a0) : Int))) : Int) > 0)) = false, (((Val.kind a0) : Int) != 2) = true, (!(((Val.text a0) : Str) == [])) = false, (((Val.kind a0) : Int) != 4) = true, (((Val.step a0) : Int) != 0) = true] := by kernel_rfl
theorem p40_e_19 (a0 : Val) (r1 : Bool) : rE I40 (xAt a0) [F, F, Y, F, Y, F, Y, F, F, F, Y, Y] [xC9 r1] = dn (xAo r1) [(((Val.kind a0) : Int) != 3) = false, false = false, (((Val.kind a0) : Int) != 5) = true, (decide (((W ((Ln (Val.columns a0) : Int) + (Ln (Val.rows a0) : Int))) : Int) > 0)) = false, (((Val.kind a0) : Int) != 2) = true, (!(((Val.text a0) : Str) == [])) = false, (((Val.kind a0) : Int) != 4) = true, (((Val.step a0) : Int) != 0) = false, (((Val.kind a0) : Int) == 1) = false, (((Val.kind a0) : Int) == 2) = false, (((Val.kind a0) : Int) == 3) = true, (((Val.n a0) : Int) == 0) = true, AbC 112 (xFH a0) (xC9 r1)] := by kernel_rfl
theorem p40_e_20 (a0 : Val) : rE I40 (xAt a0) [F, F, Y, F, Y, F, Y, F, F, F, Y, F] [] = dn (xAo false) [(((Val.kind a0) : Int) != 3) = false, false = false, (((Val.kind a0) : Int) != 5) = true, (decide (((W ((Ln (Val.columns a0) : Int) + (Ln (Val.rows a0) : Int))) : Int) > 0)) = false, (((Val.kind a0) : Int) != 2) = true, (!(((Val.text a0) : Str) == [])) = false, (((Val.kind a0) : Int) != 4) = true, (((Val.step a0) : Int) != 0) = false, (((Val.kind a0) : Int) == 1) = false, (((Val.kind a0) : Int) == 2) = false, (((Val.kind a0) : Int) == 3) = true, (((Val.n a0) : Int) == 0) = false] := by kernel_rfl
theorem c40_e {N : Nat} {q0 : Val → Option (Bool)} (g0 : G40 q0) {q1 : Val → Option (Bool)} (g1 : G112 q1) : ∀ a0 r, xDo N q0 q1 a0 = some r → RE Try.f40 I40 (xAt a0) (xAo r) := fun a0 r h =>
 cE h (fun h0 h => cE h (fun h1 h => dE h fk40 (p40_e_0 a0) (oc h0 (oc h1 (oc rfl on)))) fun h1 h =>
 cE h (fun h2 h => cE h (fun h3 h => dE h fk40 (p40_e_1 a0) (oc h0 (oc h1 (oc h2 (oc h3 on))))) fun h3 h =>
 cE h (fun h4 h => cE h (fun h5 h => dE h fk40 (p40_e_2 a0) (oc h0 (oc h1 (oc h2 (oc h3 (oc h4 (oc h5 (oc rfl on)))))))) fun h5 h =>
 cE h (fun h6 h => cE h (fun h7 h => dE h fk40 (p40_e_3 a0) (oc h0 (oc h1 (oc h2 (oc h3 (oc h4 (oc h5 (oc h6 (oc h7 on))))))))) fun h7 h =>
 cE h (fun h8 h => bE h fun r1 h9 h => dE h fk40 (p40_e_4 a0 r1) (oc h0 (oc h1 (oc h2 (oc h3 (oc h4 (oc h5 (oc h6 (oc h7 (oc h8 (oc (xDl h9) on))))))))))) fun h8 h =>
 cE h (fun h13 h => bE h fun r1 h14 h => dE h fk40 (p40_e_5 a0 r1) (oc h0 (oc h1 (oc h2 (oc h3 (oc h4 (oc h5 (oc h6 (oc h7 (oc h8 (oc (of_not h4) (oc (of_not h0) (oc (of_not h6) (oc (of_not h2) (oc h13 (oc (xFY h14) on)))))))))))))))) fun h13 h =>
 dE h fk40 (p40_e_6 a0) (oc h0 (oc h1 (oc h2 (oc h3 (oc h4 (oc h5 (oc h6 (oc h7 (oc h8 (oc (of_not h4) (oc (of_not h0) (oc (of_not h6) (oc (of_not h2) (oc h13 on))))))))))))))) fun h6 h =>
 bE h fun r1 h12 h => cE h (fun h13 h => bE h fun r2 h14 h => dE h fk40 (p40_e_7 a0 r1 r2) (oc h0 (oc h1 (oc h2 (oc h3 (oc h4 (oc h5 (oc h6 (oc rfl (oc (eq_ne (of_not h6) rfl) (oc (of_not h4) (oc (of_not h0) (oc (of_not h6) (oc (xDl h12) (oc h13 (oc (xDl h14) on)))))))))))))))) fun h13 h =>
 dE h fk40 (p40_e_8 a0 r1) (oc h0 (oc h1 (oc h2 (oc h3 (oc h4 (oc h5 (oc h6 (oc rfl (oc (eq_ne (of_not h6) rfl) (oc (of_not h4) (oc (of_not h0) (oc (of_not h6) (oc (xDl h12) (oc h13 on))))))))))))))) fun h4 h =>
 cE h (fun h7 h => dE h fk40 (p40_e_9 a0) (oc h0 (oc h1 (oc h2 (oc h3 (oc h4 (oc rfl (oc (not_of (eq_ne (of_not h4) rfl)) (oc h7 on))))))))) fun h7 h =>
 cE h (fun h10 h => bE h fun r1 h11 h => dE h fk40 (p40_e_10 a0 r1) (oc h0 (oc h1 (oc h2 (oc h3 (oc h4 (oc rfl (oc (not_of (eq_ne (of_not h4) rfl)) (oc h7 (oc (eq_ne (of_not h4) rfl) (oc (of_not h4) (oc h10 (oc (xIz h11) on))))))))))))) fun h10 h =>
 dE h fk40 (p40_e_11 a0) (oc h0 (oc h1 (oc h2 (oc h3 (oc h4 (oc rfl (oc (not_of (eq_ne (of_not h4) rfl)) (oc h7 (oc (eq_ne (of_not h4) rfl) (oc (of_not h4) (oc h10 on)))))))))))) fun h2 h =>
 cE h (fun h5 h => dE h fk40 (p40_e_12 a0) (oc h0 (oc h1 (oc h2 (oc rfl (oc (not_of (eq_ne (of_not h2) rfl)) (oc h5 (oc rfl on)))))))) fun h5 h =>
 cE h (fun h7 h => dE h fk40 (p40_e_13 a0) (oc h0 (oc h1 (oc h2 (oc rfl (oc (not_of (eq_ne (of_not h2) rfl)) (oc h5 (oc (not_of (eq_ne (of_not h2) rfl)) (oc h7 on))))))))) fun h7 h =>
 cE h (fun h13 h => bE h fun r1 h14 h => dE h fk40 (p40_e_14 a0 r1) (oc h0 (oc h1 (oc h2 (oc rfl (oc (not_of (eq_ne (of_not h2) rfl)) (oc h5 (oc (not_of (eq_ne (of_not h2) rfl)) (oc h7 (oc (eq_ne (of_not h2) rfl) (oc (eq_ne (of_not h2) rfl) (oc (of_not h0) (oc (eq_ne (of_not h2) rfl) (oc (of_not h2) (oc h13 (oc (spec_l3Table_ok h14) on)))))))))))))))) fun h13 h =>
 dE h fk40 (p40_e_15 a0) (oc h0 (oc h1 (oc h2 (oc rfl (oc (not_of (eq_ne (of_not h2) rfl)) (oc h5 (oc (not_of (eq_ne (of_not h2) rfl)) (oc h7 (oc (eq_ne (of_not h2) rfl) (oc (eq_ne (of_not h2) rfl) (oc (of_not h0) (oc (eq_ne (of_not h2) rfl) (oc (of_not h2) (oc h13 on))))))))))))))) fun h0 h =>
 cE h (fun h3 h => dE h fk40 (p40_e_16 a0) (oc h0 (oc rfl (oc (not_of (eq_ne (of_not h0) rfl)) (oc h3 on))))) fun h3 h =>
 cE h (fun h5 h => dE h fk40 (p40_e_17 a0) (oc h0 (oc rfl (oc (not_of (eq_ne (of_not h0) rfl)) (oc h3 (oc (not_of (eq_ne (of_not h0) rfl)) (oc h5 (oc rfl on)))))))) fun h5 h =>
 cE h (fun h7 h => dE h fk40 (p40_e_18 a0) (oc h0 (oc rfl (oc (not_of (eq_ne (of_not h0) rfl)) (oc h3 (oc (not_of (eq_ne (of_not h0) rfl)) (oc h5 (oc (not_of (eq_ne (of_not h0) rfl)) (oc h7 on))))))))) fun h7 h =>
 cE h (fun h11 h => bE h fun r1 h12 h => dE h fk40 (p40_e_19 a0 r1) (oc h0 (oc rfl (oc (not_of (eq_ne (of_not h0) rfl)) (oc h3 (oc (not_of (eq_ne (of_not h0) rfl)) (oc h5 (oc (not_of (eq_ne (of_not h0) rfl)) (oc h7 (oc (eq_ne (of_not h0) rfl) (oc (eq_ne (of_not h0) rfl) (oc (of_not h0) (oc h11 (oc (g1 _ _ h12) on)))))))))))))) fun h11 h =>
 dE h fk40 (p40_e_20 a0) (oc h0 (oc rfl (oc (not_of (eq_ne (of_not h0) rfl)) (oc h3 (oc (not_of (eq_ne (of_not h0) rfl)) (oc h5 (oc (not_of (eq_ne (of_not h0) rfl)) (oc h7 (oc (eq_ne (of_not h0) rfl) (oc (eq_ne (of_not h0) rfl) (oc (of_not h0) (oc h11 on))))))))))))
theorem xHl {N : Nat} {q0 : Val → Option (Bool)} (g0 : G40 q0) {q1 : Val → Option (Bool)} (g1 : G112 q1) {a0 : Val} {r : Bool} (h : xDo N q0 q1 a0 = some r) : AbC 40 (xAt a0) (xAo r) :=
 AbsCalls.of_reach fk40 rfl rfl (Nat.le_of_ble_eq_true rfl) (c40_e g0 g1 a0 r h)
noncomputable def I112 : Info := { body := (Try.f112.body).getD .skip, nt := 36, results := [.tmp 2], keep := [0, 2, 4, 6, 16, 52, 3], live := [(2, [2, 6, 3])], modes := [(4, [(7, .take, false)]), (6, [(4, .take, false)])] }
theorem fk112 : FnOk Try.prog 112 Try.f112 I112 := ⟨Try.func112, by kernel_rfl, by kernel_rfl, by kernel_rfl, by kernel_rfl⟩
def S112_2 (x3 : Int) (b1 : Val) : St := [(2, .v false [.ptr 1 0]), (6, .v false [.int .i64 x3]), (3, .v true [.int .i64 (Val.kind b1), .int .i64 (Val.n b1), .int .i64 (Val.step b1), .str (Val.text b1), .sl .ro .val (Val.list b1), .sl .ro .str (Val.columns b1), .sl .ro .row (Val.rows b1)])]
theorem p112_2_0 (x3 : Int) (b1 : Val) (r1 : Bool) : rS 2 I112 (S112_2 x3 b1) [Y, Y, Y] [xB1 r1] = dn (xC9 false) [(decide ((x3 : Int) < (Ln (Val.list b1) : Int))) = true, (0 : Int) ≤ x3 ∧ x3 < (Ln (Val.list b1)), AbC 152 (xC5 (gD (Val.list b1) (tN x3) vd)) (xB1 r1), (!r1) = true, true = true] := by kernel_rfl
theorem p112_2_1 (x3 : Int) (b1 : Val) (r1 r2 : Bool) : rS 2 I112 (S112_2 x3 b1) [Y, F, Y] [xB1 r1, xAo r2] = dn (xC9 false) [(decide ((x3 : Int) < (Ln (Val.list b1) : Int))) = true, (0 : Int) ≤ x3 ∧ x3 < (Ln (Val.list b1)), AbC 152 (xC5 (gD (Val.list b1) (tN x3) vd)) (xB1 r1), (!r1) = false, (0 : Int) ≤ x3 ∧ x3 < (Ln (Val.list b1)), AbC 40 (xAt (gD (Val.list b1) (tN x3) vd)) (xAo r2), (!r2) = true] := by kernel_rfl
theorem p112_2_2 (x3 : Int) (b1 : Val) (r1 r2 : Bool) : rS 2 I112 (S112_2 x3 b1) [Y, F, F] [xB1 r1, xAo r2] = st 2 I112 (S112_2 (W (x3 + 1)) b1) [(decide ((x3 : Int) < (Ln (Val.list b1) : Int))) = true, (0 : Int) ≤ x3 ∧ x3 < (Ln (Val.list b1)), AbC 152 (xC5 (gD (Val.list b1) (tN x3) vd)) (xB1 r1), (!r1) = false, (0 : Int) ≤ x3 ∧ x3 < (Ln (Val.list b1)), AbC 40 (xAt (gD (Val.list b1) (tN x3) vd)) (xAo r2), (!r2) = false] := by kernel_rfl
theorem p112_2_3 (x3 : Int) (b1 : Val) (r1 : Int) : rS 2 I112 (S112_2 x3 b1) [F, Y] [xCQ r1] = dn (xC9 (decide ((r1 : Int) ≤ 3))) [(decide ((x3 : Int) < (Ln (Val.list b1) : Int))) = false, (decide (((Ln (Val.list b1) : Int) : Int) ≤ 8)) = true, AbC 153 (xEn b1) (xCQ r1)] := by kernel_rfl
theorem p112_2_4 (x3 : Int) (b1 : Val) : rS 2 I112 (S112_2 x3 b1) [F, F] [] = dn (xC9 false) [(decide ((x3 : Int) < (Ln (Val.list b1) : Int))) = false, (decide (((Ln (Val.list b1) : Int) : Int) ≤ 8)) = false] := by kernel_rfl
theorem p112_e_5 (a0 : Val) : rE I112 (xFH a0) [] [] = st 2 I112 (S112_2 0 a0) [] := by kernel_rfl
theorem c112_2 {N : Nat} {q0 : Val → Option (Bool)} (g0 : G40 q0) {q1 : Val → Option (Bool)} (g1 : G112 q1) : ∀ n x3 b1 r, xD6 N q0 q1 n x3 b1 = some r → RS Try.f112 I112 2 (S112_2 x3 b1) (xC9 r) := by
 intro n
 induction n with
 | zero => exact fun _ _ _ h => nE h
 | succ n ih =>
  exact fun x3 b1 r h =>
   cE h (fun h0 h => iE h fun h1 h => bE h fun r1 h2 h => cE h (fun h3 h => dS h fk112 (p112_2_0 x3 b1 r1) (oc h0 (oc h1 (oc (xGq h2) (oc h3 (oc rfl on)))))) fun h3 h =>
   bE h fun r2 h5 h => cE h (fun h6 h => dS h fk112 (p112_2_1 x3 b1 r1 r2) (oc h0 (oc h1 (oc (xGq h2) (oc h3 (oc h1 (oc (g0 _ _ h5) (oc h6 on)))))))) fun h6 h =>
   tS fk112 (p112_2_2 x3 b1 r1 r2) (oc h0 (oc h1 (oc (xGq h2) (oc h3 (oc h1 (oc (g0 _ _ h5) (oc h6 on))))))) (ih _ _ _ h)) fun h0 h =>
   cE h (fun h1 h => bE h fun r1 h2 h => dS h fk112 (p112_2_3 x3 b1 r1) (oc h0 (oc h1 (oc (spec_DepthOf_ok h2) on)))) fun h1 h =>
   dS h fk112 (p112_2_4 x3 b1) (oc h0 (oc h1 on))
theorem c112_e {N : Nat} {q0 : Val → Option (Bool)} (g0 : G40 q0) {q1 : Val → Option (Bool)} (g1 : G112 q1) : ∀ a0 r, xGK N q0 q1 a0 = some r → RE Try.f112 I112 (xFH a0) (xC9 r) := fun a0 r h =>
 tE fk112 (p112_e_5 a0) on (c112_2 g0 g1 _ _ _ _ h)
theorem xIF {N : Nat} {q0 : Val → Option (Bool)} (g0 : G40 q0) {q1 : Val → Option (Bool)} (g1 : G112 q1) {a0 : Val} {r : Bool} (h : xGK N q0 q1 a0 = some r) : AbC 112 (xFH a0) (xC9 r) :=
 AbsCalls.of_reach fk112 rfl rfl (Nat.le_of_ble_eq_true rfl) (c112_e g0 g1 a0 r h)
theorem xHt {N : Nat} : ∀ d, G40 (xAG N d).c_spec_IsValidValue ∧ G112 (xAG N d).c_spec_l3List := by
 intro d
 induction d with
 | zero => exact ⟨fun _ _ h => nE h, fun _ _ h => nE h⟩
 | succ d ih =>
  obtain ⟨ih0, ih1⟩ := ih
  exact ⟨fun _ _ h => xHl (N := N) ih0 ih1 h, fun _ _ h => xIF (N := N) ih0 ih1 h⟩
theorem xFB {N : Nat} {a0 : Val} {r : Bool} (h : xGl N a0 = some r) : AbC 40 (xAt a0) (xAo r) := (xHt N).1 _ r h
noncomputable def I44 : Info := { body := (Try.f44.body).getD .skip, nt := 5, results := [.cell 2 31], keep := [0, 4, 5], live := [], modes := [] }
theorem fk44 : FnOk Try.prog 44 Try.f44 I44 := ⟨Try.func44, by kernel_rfl, by kernel_rfl, by kernel_rfl, by kernel_rfl⟩
theorem p44_e_0 (a0 : Int) : rE I44 (xAA a0) [] [] = dn (xAg (Val.mk 6 a0 0 [] [] [] [])) [] := by kernel_rfl
theorem c44_e {N : Nat} : ∀ a0 r, xAv N a0 = some r → RE Try.f44 I44 (xAA a0) (xAg r) := fun a0 r h =>
 dE h fk44 (p44_e_0 a0) on
theorem xAH {N : Nat} {a0 : Int} {r : Val} (h : xAv N  a0 = some r) : AbC 44 (xAA a0) (xAg r) :=
 AbsCalls.of_reach fk44 rfl rfl (Nat.le_of_ble_eq_true rfl) (c44_e a0 r h)
noncomputable def I56 : Info := { body := (Try.f56.body).getD .skip, nt := 31, results := [.cell 2 31, .tmp 3], keep := [0, 4, 6, 8, 16, 32, 46, 5], live := [(2, [0, 4, 8, 5])], modes := [] }
theorem fk56 : FnOk Try.prog 56 Try.f56 I56 := ⟨Try.func56, by kernel_rfl, by kernel_rfl, by kernel_rfl, by kernel_rfl⟩
def S56_2 (x0 : List Val) (x4 : Int) (b2 : Val) : St := [(0, .v false [.sl .ro .val x0]), (4, .v false [.ptr 2 0]), (8, .v false [.int .i64 x4]), (5, .v true [.int .i64 (Val.kind b2), .int .i64 (Val.n b2), .int .i64 (Val.step b2), .str (Val.text b2), .sl .own .val (Val.list b2), .sl .own .str (Val.columns b2), .sl .own .row (Val.rows b2)])]
theorem p56_2_0 (x0 : List Val) (x4 : Int) (b2 : Val) (r1 : Bool) (r2 : Val) : rS 2 I56 (S56_2 x0 x4 b2) [Y, Y] [xAo r1, xAg r2] = dn (xAr (r2, true)) [(decide ((x4 : Int) < (Ln x0 : Int))) = true, (0 : Int) ≤ x4 ∧ x4 < (Ln x0), AbC 40 (xAt (gD x0 (tN x4) vd)) (xAo r1), (!r1) = true, AbC 44 (xAA 4) (xAg r2)] := by kernel_rfl
theorem p56_2_1 (x0 : List Val) (x4 : Int) (b2 : Val) (r1 : Bool) (r2 : Val) : rS 2 I56 (S56_2 x0 x4 b2) [Y, F, Y] [xAo r1, xAg r2] = dn (xAr (r2, true)) [(decide ((x4 : Int) < (Ln x0 : Int))) = true, (0 : Int) ≤ x4 ∧ x4 < (Ln x0), AbC 40 (xAt (gD x0 (tN x4) vd)) (xAo r1), (!r1) = false, (0 : Int) ≤ x4 ∧ x4 < (Ln x0), (((Val.kind (gD x0 (tN x4) vd)) : Int) == 6) = true, (0 : Int) ≤ x4 ∧ x4 < (Ln x0), AbC 44 (xAA (Val.n (gD x0 (tN x4) vd))) (xAg r2)] := by kernel_rfl
theorem p56_2_2 (x0 : List Val) (x4 : Int) (b2 : Val) (r1 : Bool) : rS 2 I56 (S56_2 x0 x4 b2) [Y, F, F] [xAo r1] = st 2 I56 (S56_2 x0 (W (x4 + 1)) b2) [(decide ((x4 : Int) < (Ln x0 : Int))) = true, (0 : Int) ≤ x4 ∧ x4 < (Ln x0), AbC 40 (xAt (gD x0 (tN x4) vd)) (xAo r1), (!r1) = false, (0 : Int) ≤ x4 ∧ x4 < (Ln x0), (((Val.kind (gD x0 (tN x4) vd)) : Int) == 6) = false] := by kernel_rfl
theorem p56_2_3 (x0 : List Val) (x4 : Int) (b2 : Val) : rS 2 I56 (S56_2 x0 x4 b2) [F] [] = dn (xAr ((Val.mk 0 0 0 [] [] [] []), false)) [(decide ((x4 : Int) < (Ln x0 : Int))) = false] := by kernel_rfl
theorem p56_e_4 (a0 : List Val) : rE I56 (xA9 a0) [] [] = st 2 I56 (S56_2 a0 0 (Val.mk 0 0 0 [] [] [] [])) [] := by kernel_rfl
theorem c56_2 {N : Nat} : ∀ n x0 x4 b2 r, xDG N n x0 x4 b2 = some r → RS Try.f56 I56 2 (S56_2 x0 x4 b2) (xAr r) := by
 intro n
 induction n with
 | zero => exact fun _ _ _ _ h => nE h
 | succ n ih =>
  exact fun x0 x4 b2 r h =>
   cE h (fun h0 h => iE h fun h1 h => bE h fun r1 h2 h => cE h (fun h3 h => bE h fun r2 h4 h => dS h fk56 (p56_2_0 x0 x4 b2 r1 r2) (oc h0 (oc h1 (oc (xFB h2) (oc h3 (oc (xAH h4) on)))))) fun h3 h =>
   cE h (fun h5 h => bE h fun r2 h7 h => dS h fk56 (p56_2_1 x0 x4 b2 r1 r2) (oc h0 (oc h1 (oc (xFB h2) (oc h3 (oc h1 (oc h5 (oc h1 (oc (xAH h7) on))))))))) fun h5 h =>
   tS fk56 (p56_2_2 x0 x4 b2 r1) (oc h0 (oc h1 (oc (xFB h2) (oc h3 (oc h1 (oc h5 on)))))) (ih _ _ _ _ h)) fun h0 h =>
   dS h fk56 (p56_2_3 x0 x4 b2) (oc h0 on)
theorem c56_e {N : Nat} : ∀ a0 r, xFZ N a0 = some r → RE Try.f56 I56 (xA9 a0) (xAr r) := fun a0 r h =>
 tE fk56 (p56_e_4 a0) on (c56_2 _ _ _ _ _ h)
theorem xBl {N : Nat} {a0 : List Val} {r : Val × Bool} (h : xFZ N  a0 = some r) : AbC 56 (xA9 a0) (xAr r) :=
 AbsCalls.of_reach fk56 rfl rfl (Nat.le_of_ble_eq_true rfl) (c56_e a0 r h)
noncomputable def I51 : Info := { body := (Try.f51.body).getD .skip, nt := 5, results := [.cell 2 31], keep := [0, 4, 5], live := [], modes := [] }
theorem fk51 : FnOk Try.prog 51 Try.f51 I51 := ⟨Try.func51, by kernel_rfl, by kernel_rfl, by kernel_rfl, by kernel_rfl⟩
theorem p51_e_0 (a0 : Int) : rE I51 (xAJ a0) [] [] = dn (xAj (Val.mk 1 a0 0 [] [] [] [])) [] := by kernel_rfl
theorem c51_e {N : Nat} : ∀ a0 r, xAU N a0 = some r → RE Try.f51 I51 (xAJ a0) (xAj r) := fun a0 r h =>
 dE h fk51 (p51_e_0 a0) on
theorem xAQ {N : Nat} {a0 : Int} {r : Val} (h : xAU N  a0 = some r) : AbC 51 (xAJ a0) (xAj r) :=
 AbsCalls.of_reach fk51 rfl rfl (Nat.le_of_ble_eq_true rfl) (c51_e a0 r h)
noncomputable def I61 : Info := { body := (Try.f61.body).getD .skip, nt := 9, results := [.cell 2 31], keep := [0, 4, 10, 5], live := [], modes := [] }
theorem fk61 : FnOk Try.prog 61 Try.f61 I61 := ⟨Try.func61, by kernel_rfl, by kernel_rfl, by kernel_rfl, by kernel_rfl⟩
theorem p61_e_0 (a0 : Int) (r1 : Bool) (r2 : Val) : rE I61 (xCe a0) [Y] [xBk r1, xAg r2] = dn (xBs r2) [AbC 85 (xCs a0) (xBk r1), (!r1) = true, AbC 44 (xAA 5) (xAg r2)] := by kernel_rfl
theorem p61_e_1 (a0 : Int) (r1 : Bool) (r2 : Val) : rE I61 (xCe a0) [F] [xBk r1, xAj r2] = dn (xBs r2) [AbC 85 (xCs a0) (xBk r1), (!r1) = false, AbC 51 (xAJ a0) (xAj r2)] := by kernel_rfl
theorem c61_e {N : Nat} : ∀ a0 r, xCK N a0 = some r → RE Try.f61 I61 (xCe a0) (xBs r) := fun a0 r h =>
 bE h fun r1 h0 h => cE h (fun h1 h => bE h fun r2 h2 h => dE h fk61 (p61_e_0 a0 r1 r2) (oc (xDl h0) (oc h1 (oc (xAH h2) on)))) fun h1 h =>
 bE h fun r2 h2 h => dE h fk61 (p61_e_1 a0 r1 r2) (oc (xDl h0) (oc h1 (oc (xAQ h2) on)))
theorem xEw {N : Nat} {a0 : Int} {r : Val} (h : xCK N  a0 = some r) : AbC 61 (xCe a0) (xBs r) :=
 AbsCalls.of_reach fk61 rfl rfl (Nat.le_of_ble_eq_true rfl) (c61_e a0 r h)
noncomputable def I127 : Info := { body := (Try.f127.body).getD .skip, nt := 5, results := [.cell 2 31], keep := [0, 4, 5], live := [], modes := [] }
theorem fk127 : FnOk Try.prog 127 Try.f127 I127 := ⟨Try.func127, by kernel_rfl, by kernel_rfl, by kernel_rfl, by kernel_rfl⟩
theorem p127_e_0 (a0 : Str) : rE I127 (xDw a0) [] [] = dn (xB0 (Val.mk 2 0 0 a0 [] [] [])) [] := by kernel_rfl
theorem c127_e {N : Nat} : ∀ a0 r, xD2 N a0 = some r → RE Try.f127 I127 (xDw a0) (xB0 r) := fun a0 r h =>
 dE h fk127 (p127_e_0 a0) on
theorem xFu {N : Nat} {a0 : Str} {r : Val} (h : xD2 N  a0 = some r) : AbC 127 (xDw a0) (xB0 r) :=
 AbsCalls.of_reach fk127 rfl rfl (Nat.le_of_ble_eq_true rfl) (c127_e a0 r h)
noncomputable def I139 : Info := { body := (Try.f139.body).getD .skip, nt := 12, results := [.cell 2 107], keep := [0, 2, 4, 3, 5], live := [], modes := [] }
theorem fk139 : FnOk Try.prog 139 Try.f139 I139 := ⟨Try.func139, by kernel_rfl, by kernel_rfl, by kernel_rfl, by kernel_rfl⟩
theorem p139_e_0 (a0 : Rowd) : rE I139 (xGO a0) [] [] = dn (xGd (Rowd.mk ([] ++ (Rowd.cells a0)) ([] ++ (Rowd.frm a0)))) [0 + Ln (Rowd.cells a0) ≤ Lim, 0 + Ln (Rowd.frm a0) ≤ Lim] := by kernel_rfl
theorem c139_e {N : Nat} : ∀ a0 r, xHC N a0 = some r → RE Try.f139 I139 (xGO a0) (xGd r) := fun a0 r h =>
 iE h fun h0 h => iE h fun h1 h => dE h fk139 (p139_e_0 a0) (oc h0 (oc h1 on))
theorem spec_l3Row_ok {N : Nat} {a0 : Rowd} {r : Rowd} (h : xHC N  a0 = some r) : AbC 139 (xGO a0) (xGd r) :=
 AbsCalls.of_reach fk139 rfl rfl (Nat.le_of_ble_eq_true rfl) (c139_e a0 r h)
def G84 (q : Val → Option (Val)) : Prop := ∀ a0 r, q a0 = some r → AbC 84 (xD5 a0) (xCu r)
noncomputable def I84 : Info := { body := (Try.f84.body).getD .skip, nt := 56, results := [.cell 2 31], keep := [0, 2, 4, 6, 8, 10, 46, 82, 3, 5, 7], live := [(3, [2, 4, 6, 8, 3, 5, 7]), (7, [2, 4, 6, 10, 3, 5, 7])], modes := [(5, [(1, .take, false), (9, .take, false)]), (9, [(1, .take, false), (9, .take, false)]), (10, [(0, .take, false)])] }
theorem fk84 : FnOk Try.prog 84 Try.f84 I84 := ⟨Try.func84, by kernel_rfl, by kernel_rfl, by kernel_rfl, by kernel_rfl⟩
def S84_3 (x4 : Int) (b1 b2 b3 : Val) : St := [(2, .v false [.ptr 1 0]), (4, .v false [.ptr 2 0]), (6, .v false [.ptr 3 0]), (8, .v false [.int .i64 x4]), (3, .v true [.int .i64 (Val.kind b1), .int .i64 (Val.n b1), .int .i64 (Val.step b1), .str (Val.text b1), .sl .ro .val (Val.list b1), .sl .ro .str (Val.columns b1), .sl .ro .row (Val.rows b1)]), (5, .v true [.int .i64 (Val.kind b2), .int .i64 (Val.n b2), .int .i64 (Val.step b2), .str (Val.text b2), .sl .own .val (Val.list b2), .sl .own .str (Val.columns b2), .sl .own .row (Val.rows b2)]), (7, .v true [.int .i64 (Val.kind b3), .int .i64 (Val.n b3), .int .i64 (Val.step b3), .str (Val.text b3), .sl .own .val (Val.list b3), .sl .own .str (Val.columns b3), .sl .own .row (Val.rows b3)])]
def S84_7 (x5 : Int) (b1 b2 b3 : Val) : St := [(2, .v false [.ptr 1 0]), (4, .v false [.ptr 2 0]), (6, .v false [.ptr 3 0]), (10, .v false [.int .i64 x5]), (3, .v true [.int .i64 (Val.kind b1), .int .i64 (Val.n b1), .int .i64 (Val.step b1), .str (Val.text b1), .sl .ro .val (Val.list b1), .sl .ro .str (Val.columns b1), .sl .ro .row (Val.rows b1)]), (5, .v true [.int .i64 (Val.kind b2), .int .i64 (Val.n b2), .int .i64 (Val.step b2), .str (Val.text b2), .sl .own .val (Val.list b2), .sl .own .str (Val.columns b2), .sl .own .row (Val.rows b2)]), (7, .v true [.int .i64 (Val.kind b3), .int .i64 (Val.n b3), .int .i64 (Val.step b3), .str (Val.text b3), .sl .own .val (Val.list b3), .sl .own .str (Val.columns b3), .sl .own .row (Val.rows b3)])]
theorem p84_7_0 (x5 : Int) (b1 b2 b3 : Val) (r1 : Rowd) : rS 7 I84 (S84_7 x5 b1 b2 b3) [Y] [xGd r1] = st 7 I84 (S84_7 (W (x5 + 1)) b1 b2 (Val.mk (Val.kind b3) (Val.n b3) (Val.step b3) (Val.text b3) (Val.list b3) (Val.columns b3) ((Val.rows b3) ++ [r1]))) [(decide ((x5 : Int) < (Ln (Val.rows b1) : Int))) = true, (0 : Int) ≤ x5 ∧ x5 < (Ln (Val.rows b1)), AbC 139 (xGO (gD (Val.rows b1) (tN x5) rd)) (xGd r1), Ln (Val.rows b3) + Ln [r1] ≤ Lim] := by kernel_rfl
theorem p84_7_1 (x5 : Int) (b1 b2 b3 : Val) : rS 7 I84 (S84_7 x5 b1 b2 b3) [F] [] = dn (xCu b3) [(decide ((x5 : Int) < (Ln (Val.rows b1) : Int))) = false] := by kernel_rfl
theorem p84_3_2 (x4 : Int) (b1 b2 b3 r1 : Val) : rS 3 I84 (S84_3 x4 b1 b2 b3) [Y] [xCu r1] = st 3 I84 (S84_3 (W (x4 + 1)) b1 b2 (Val.mk (Val.kind b3) (Val.n b3) (Val.step b3) (Val.text b3) ((Val.list b3) ++ [(Val.re r1)]) (Val.columns b3) (Val.rows b3))) [(decide ((x4 : Int) < (Ln (Val.list b1) : Int))) = true, (0 : Int) ≤ x4 ∧ x4 < (Ln (Val.list b1)), AbC 84 (xD5 (gD (Val.list b1) (tN x4) vd)) (xCu r1), Ln (Val.list b3) + Ln [(Val.re r1)] ≤ Lim] := by kernel_rfl
theorem p84_3_3 (x4 : Int) (b1 b2 b3 : Val) : rS 3 I84 (S84_3 x4 b1 b2 b3) [F] [] = st 7 I84 (S84_7 0 b1 b2 b3) [(decide ((x4 : Int) < (Ln (Val.list b1) : Int))) = false] := by kernel_rfl
theorem p84_e_4 (a0 : Val) : rE I84 (xD5 a0) [] [] = st 3 I84 (S84_3 0 a0 (Val.mk 0 0 0 [] [] [] []) (Val.mk (Val.kind a0) (Val.n a0) (Val.step a0) (Val.text a0) [] ([] ++ (Val.columns a0)) [])) [0 + Ln (Val.columns a0) ≤ Lim] := by kernel_rfl
theorem c84_7 {N : Nat} {q0 : Val → Option (Val)} (g0 : G84 q0) : ∀ n x5 b1 b2 b3 r, xEG N q0 n x5 b1 b2 b3 = some r → RS Try.f84 I84 7 (S84_7 x5 b1 b2 b3) (xCu r) := by
 intro n
 induction n with
 | zero => exact fun _ _ _ _ _ h => nE h
 | succ n ih =>
  exact fun x5 b1 b2 b3 r h =>
   cE h (fun h0 h => iE h fun h1 h => bE h fun r1 h2 h => iE h fun h3 h => tS fk84 (p84_7_0 x5 b1 b2 b3 r1) (oc h0 (oc h1 (oc (spec_l3Row_ok h2) (oc h3 on)))) (ih _ _ _ _ _ h)) fun h0 h =>
   dS h fk84 (p84_7_1 x5 b1 b2 b3) (oc h0 on)
theorem c84_3 {N : Nat} {q0 : Val → Option (Val)} (g0 : G84 q0) : ∀ n x4 b1 b2 b3 r, xE7 N q0 n x4 b1 b2 b3 = some r → RS Try.f84 I84 3 (S84_3 x4 b1 b2 b3) (xCu r) := by
 intro n
 induction n with
 | zero => exact fun _ _ _ _ _ h => nE h
 | succ n ih =>
  exact fun x4 b1 b2 b3 r h =>
   cE h (fun h0 h => iE h fun h1 h => bE h fun r1 h2 h => iE h fun h3 h => tS fk84 (p84_3_2 x4 b1 b2 b3 r1) (oc h0 (oc h1 (oc (g0 _ _ h2) (oc h3 on)))) (ih _ _ _ _ _ h)) fun h0 h =>
   tS fk84 (p84_3_3 x4 b1 b2 b3) (oc h0 on) (c84_7 g0 _ _ _ _ _ _ h)
theorem c84_e {N : Nat} {q0 : Val → Option (Val)} (g0 : G84 q0) : ∀ a0 r, xE4 N q0 a0 = some r → RE Try.f84 I84 (xD5 a0) (xCu r) := fun a0 r h =>
 iE h fun h0 h => tE fk84 (p84_e_4 a0) (oc h0 on) (c84_3 g0 _ _ _ _ _ _ h)
theorem xID {N : Nat} {q0 : Val → Option (Val)} (g0 : G84 q0) {a0 : Val} {r : Val} (h : xE4 N q0 a0 = some r) : AbC 84 (xD5 a0) (xCu r) :=
 AbsCalls.of_reach fk84 rfl rfl (Nat.le_of_ble_eq_true rfl) (c84_e g0 a0 r h)
theorem xHe {N : Nat} : ∀ d, G84 (xEr N d)
 | 0 => fun _ _ h => nE h
 | d + 1 => fun _ _ h => xID (N := N) (xHe d) h
theorem xIk {N : Nat} {a0 : Val} {r : Val} (h : xGo N a0 = some r) : AbC 84 (xD5 a0) (xCu r) := xHe N _ r h
noncomputable def I123 : Info := { body := (Try.f123.body).getD .skip, nt := 23, results := [.cell 2 31], keep := [0, 4, 6, 8, 18, 5, 7], live := [(3, [0, 4, 6, 8, 5, 7])], modes := [(5, [(1, .take, false), (8, .take, false)]), (6, [(0, .take, false)])] }
theorem fk123 : FnOk Try.prog 123 Try.f123 I123 := ⟨Try.func123, by kernel_rfl, by kernel_rfl, by kernel_rfl, by kernel_rfl⟩
def S123_3 (x0 : List Val) (x4 : Int) (b2 b3 : Val) : St := [(0, .v false [.sl .ro .val x0]), (4, .v false [.ptr 2 0]), (6, .v false [.ptr 3 0]), (8, .v false [.int .i64 x4]), (5, .v true [.int .i64 (Val.kind b2), .int .i64 (Val.n b2), .int .i64 (Val.step b2), .str (Val.text b2), .sl .own .val (Val.list b2), .sl .own .str (Val.columns b2), .sl .own .row (Val.rows b2)]), (7, .v true [.int .i64 (Val.kind b3), .int .i64 (Val.n b3), .int .i64 (Val.step b3), .str (Val.text b3), .sl .own .val (Val.list b3), .sl .own .str (Val.columns b3), .sl .own .row (Val.rows b3)])]
theorem p123_3_0 (x0 : List Val) (x4 : Int) (b2 b3 r1 : Val) : rS 3 I123 (S123_3 x0 x4 b2 b3) [Y] [xCu r1] = st 3 I123 (S123_3 x0 (W (x4 + 1)) b2 (Val.mk (Val.kind b3) (Val.n b3) (Val.step b3) (Val.text b3) ((Val.list b3) ++ [(Val.re r1)]) (Val.columns b3) (Val.rows b3))) [(decide ((x4 : Int) < (Ln x0 : Int))) = true, (0 : Int) ≤ x4 ∧ x4 < (Ln x0), AbC 84 (xD5 (gD x0 (tN x4) vd)) (xCu r1), Ln (Val.list b3) + Ln [(Val.re r1)] ≤ Lim] := by kernel_rfl
theorem p123_3_1 (x0 : List Val) (x4 : Int) (b2 b3 : Val) : rS 3 I123 (S123_3 x0 x4 b2 b3) [F] [] = dn (xC4 b3) [(decide ((x4 : Int) < (Ln x0 : Int))) = false] := by kernel_rfl
theorem p123_e_2 (a0 : List Val) : rE I123 (xEL a0) [] [] = st 3 I123 (S123_3 a0 0 (Val.mk 0 0 0 [] [] [] []) (Val.mk 3 0 0 [] [] [] [])) [] := by kernel_rfl
theorem c123_3 {N : Nat} : ∀ n x0 x4 b2 b3 r, xD9 N n x0 x4 b2 b3 = some r → RS Try.f123 I123 3 (S123_3 x0 x4 b2 b3) (xC4 r) := by
 intro n
 induction n with
 | zero => exact fun _ _ _ _ _ h => nE h
 | succ n ih =>
  exact fun x0 x4 b2 b3 r h =>
   cE h (fun h0 h => iE h fun h1 h => bE h fun r1 h2 h => iE h fun h3 h => tS fk123 (p123_3_0 x0 x4 b2 b3 r1) (oc h0 (oc h1 (oc (xIk h2) (oc h3 on)))) (ih _ _ _ _ _ h)) fun h0 h =>
   dS h fk123 (p123_3_1 x0 x4 b2 b3) (oc h0 on)
theorem c123_e {N : Nat} : ∀ a0 r, xFE N a0 = some r → RE Try.f123 I123 (xEL a0) (xC4 r) := fun a0 r h =>
 tE fk123 (p123_e_2 a0) on (c123_3 _ _ _ _ _ _ h)
theorem xHv {N : Nat} {a0 : List Val} {r : Val} (h : xFE N  a0 = some r) : AbC 123 (xEL a0) (xC4 r) :=
 AbsCalls.of_reach fk123 rfl rfl (Nat.le_of_ble_eq_true rfl) (c123_e a0 r h)
noncomputable def I57 : Info := { body := (Try.f57.body).getD .skip, nt := 71, results := [.cell 4 31], keep := [0, 2, 4, 6, 8, 10, 40, 72, 88, 120, 5, 7, 9], live := [], modes := [(1, [(3, .take, false)]), (3, [(3, .take, false)]), (7, [(3, .take, false)])] }
theorem fk57 : FnOk Try.prog 57 Try.f57 I57 := ⟨Try.func57, by kernel_rfl, by kernel_rfl, by kernel_rfl, by kernel_rfl⟩
theorem p57_e_0 (a0 a1 r1 : Val) : rE I57 (xCI a0 a1) [Y, Y] [xBs r1] = dn (xCl r1) [(((Val.kind a0) : Int) == 1) = true, (((Val.kind a1) : Int) == 1) = true, AbC 61 (xCe (W ((Val.n a0) + (Val.n a1)))) (xBs r1)] := by kernel_rfl
theorem p57_e_1 (a0 a1 r1 : Val) : rE I57 (xCI a0 a1) [Y, F, F, F, F, F] [xAg r1] = dn (xCl r1) [(((Val.kind a0) : Int) == 1) = true, (((Val.kind a1) : Int) == 1) = false, (((Val.kind a0) : Int) == 2) = false, false = false, (((Val.kind a0) : Int) == 3) = false, false = false, AbC 44 (xAA 4) (xAg r1)] := by kernel_rfl
theorem p57_e_2 (a0 a1 r1 : Val) : rE I57 (xCI a0 a1) [F, F, Y, Y, Y] [xAg r1] = dn (xCl r1) [(((Val.kind a0) : Int) == 1) = false, false = false, (((Val.kind a0) : Int) == 2) = true, (((Val.kind a1) : Int) == 2) = true, (decide (((W ((Ln (Val.text a0) : Int) + (Ln (Val.text a1) : Int))) : Int) > 20)) = true, AbC 44 (xAA 6) (xAg r1)] := by kernel_rfl
theorem p57_e_3 (a0 a1 r1 : Val) : rE I57 (xCI a0 a1) [F, F, Y, Y, F] [xB0 r1] = dn (xCl r1) [(((Val.kind a0) : Int) == 1) = false, false = false, (((Val.kind a0) : Int) == 2) = true, (((Val.kind a1) : Int) == 2) = true, (decide (((W ((Ln (Val.text a0) : Int) + (Ln (Val.text a1) : Int))) : Int) > 20)) = false, Ln (Val.text a0) + Ln (Val.text a1) ≤ Lim, AbC 127 (xDw ((Val.text a0) ++ (Val.text a1))) (xB0 r1)] := by kernel_rfl
theorem p57_e_4 (a0 a1 r1 : Val) : rE I57 (xCI a0 a1) [F, F, Y, F, F, F] [xAg r1] = dn (xCl r1) [(((Val.kind a0) : Int) == 1) = false, false = false, (((Val.kind a0) : Int) == 2) = true, (((Val.kind a1) : Int) == 2) = false, (((Val.kind a0) : Int) == 3) = false, false = false, AbC 44 (xAA 4) (xAg r1)] := by kernel_rfl
theorem p57_e_5 (a0 a1 r1 : Val) : rE I57 (xCI a0 a1) [F, F, F, F, Y, Y, Y] [xAg r1] = dn (xCl r1) [(((Val.kind a0) : Int) == 1) = false, false = false, (((Val.kind a0) : Int) == 2) = false, false = false, (((Val.kind a0) : Int) == 3) = true, (((Val.kind a1) : Int) == 3) = true, (decide (((W ((Ln (Val.list a0) : Int) + (Ln (Val.list a1) : Int))) : Int) > 8)) = true, AbC 44 (xAA 6) (xAg r1)] := by kernel_rfl
theorem p57_e_6 (a0 a1 r1 : Val) : rE I57 (xCI a0 a1) [F, F, F, F, Y, Y, F] [xC4 r1] = dn (xCl r1) [(((Val.kind a0) : Int) == 1) = false, false = false, (((Val.kind a0) : Int) == 2) = false, false = false, (((Val.kind a0) : Int) == 3) = true, (((Val.kind a1) : Int) == 3) = true, (decide (((W ((Ln (Val.list a0) : Int) + (Ln (Val.list a1) : Int))) : Int) > 8)) = false, 0 + Ln (Val.list a0) ≤ Lim, Ln ([] ++ (Val.list a0)) + Ln (Val.list a1) ≤ Lim, AbC 123 (xEL (([] ++ (Val.list a0)) ++ (Val.list a1))) (xC4 r1)] := by kernel_rfl
theorem p57_e_7 (a0 a1 r1 : Val) : rE I57 (xCI a0 a1) [F, F, F, F, Y, F] [xAg r1] = dn (xCl r1) [(((Val.kind a0) : Int) == 1) = false, false = false, (((Val.kind a0) : Int) == 2) = false, false = false, (((Val.kind a0) : Int) == 3) = true, (((Val.kind a1) : Int) == 3) = false, AbC 44 (xAA 4) (xAg r1)] := by kernel_rfl
theorem p57_e_8 (a0 a1 r1 : Val) : rE I57 (xCI a0 a1) [F, F, F, F, F, F] [xAg r1] = dn (xCl r1) [(((Val.kind a0) : Int) == 1) = false, false = false, (((Val.kind a0) : Int) == 2) = false, false = false, (((Val.kind a0) : Int) == 3) = false, false = false, AbC 44 (xAA 4) (xAg r1)] := by kernel_rfl
theorem c57_e {N : Nat} : ∀ a0 a1 r, xGs N a0 a1 = some r → RE Try.f57 I57 (xCI a0 a1) (xCl r) := fun a0 a1 r h =>
 cE h (fun h0 h => cE h (fun h1 h => bE h fun r1 h2 h => dE h fk57 (p57_e_0 a0 a1 r1) (oc h0 (oc h1 (oc (xEw h2) on)))) fun h1 h =>
 bE h fun r1 h6 h => dE h fk57 (p57_e_1 a0 a1 r1) (oc h0 (oc h1 (oc (eq_ne h0 rfl) (oc rfl (oc (eq_ne h0 rfl) (oc rfl (oc (xAH h6) on)))))))) fun h0 h =>
 cE h (fun h2 h => cE h (fun h3 h => cE h (fun h4 h => bE h fun r1 h5 h => dE h fk57 (p57_e_2 a0 a1 r1) (oc h0 (oc rfl (oc h2 (oc h3 (oc h4 (oc (xAH h5) on))))))) fun h4 h =>
 iE h fun h5 h => bE h fun r1 h6 h => dE h fk57 (p57_e_3 a0 a1 r1) (oc h0 (oc rfl (oc h2 (oc h3 (oc h4 (oc h5 (oc (xFu h6) on)))))))) fun h3 h =>
 bE h fun r1 h6 h => dE h fk57 (p57_e_4 a0 a1 r1) (oc h0 (oc rfl (oc h2 (oc h3 (oc (eq_ne h2 rfl) (oc rfl (oc (xAH h6) on)))))))) fun h2 h =>
 cE h (fun h4 h => cE h (fun h5 h => cE h (fun h6 h => bE h fun r1 h7 h => dE h fk57 (p57_e_5 a0 a1 r1) (oc h0 (oc rfl (oc h2 (oc rfl (oc h4 (oc h5 (oc h6 (oc (xAH h7) on))))))))) fun h6 h =>
 iE h fun h7 h => iE h fun h8 h => bE h fun r1 h9 h => dE h fk57 (p57_e_6 a0 a1 r1) (oc h0 (oc rfl (oc h2 (oc rfl (oc h4 (oc h5 (oc h6 (oc h7 (oc h8 (oc (xHv h9) on))))))))))) fun h5 h =>
 bE h fun r1 h6 h => dE h fk57 (p57_e_7 a0 a1 r1) (oc h0 (oc rfl (oc h2 (oc rfl (oc h4 (oc h5 (oc (xAH h6) on)))))))) fun h4 h =>
 bE h fun r1 h6 h => dE h fk57 (p57_e_8 a0 a1 r1) (oc h0 (oc rfl (oc h2 (oc rfl (oc h4 (oc rfl (oc (xAH h6) on)))))))
theorem spec_l5Add_ok {N : Nat} {a0 : Val} {a1 : Val} {r : Val} (h : xGs N  a0 a1 = some r) : AbC 57 (xCI a0 a1) (xCl r) :=
 AbsCalls.of_reach fk57 rfl rfl (Nat.le_of_ble_eq_true rfl) (c57_e a0 a1 r h)
noncomputable def I59 : Info := { body := (Try.f59.body).getD .skip, nt := 6, results := [.cell 2 31], keep := [0, 4, 6, 5], live := [], modes := [] }
theorem fk59 : FnOk Try.prog 59 Try.f59 I59 := ⟨Try.func59, by kernel_rfl, by kernel_rfl, by kernel_rfl, by kernel_rfl⟩
theorem p59_e_0 (a0 : Bool) (r1 : Val) : rE I59 (xCL a0) [Y] [xAj r1] = dn (xBK r1) [a0 = true, AbC 51 (xAJ 1) (xAj r1)] := by kernel_rfl
theorem p59_e_1 (a0 : Bool) (r1 : Val) : rE I59 (xCL a0) [F] [xAj r1] = dn (xBK r1) [a0 = false, AbC 51 (xAJ 0) (xAj r1)] := by kernel_rfl
theorem c59_e {N : Nat} : ∀ a0 r, xEp N a0 = some r → RE Try.f59 I59 (xCL a0) (xBK r) := fun a0 r h =>
 cE h (fun h0 h => bE h fun r1 h1 h => dE h fk59 (p59_e_0 a0 r1) (oc h0 (oc (xAQ h1) on))) fun h0 h =>
 bE h fun r1 h1 h => dE h fk59 (p59_e_1 a0 r1) (oc h0 (oc (xAQ h1) on))
theorem xFd {N : Nat} {a0 : Bool} {r : Val} (h : xEp N  a0 = some r) : AbC 59 (xCL a0) (xBK r) :=
 AbsCalls.of_reach fk59 rfl rfl (Nat.le_of_ble_eq_true rfl) (c59_e a0 r h)
noncomputable def I58 : Info := { body := (Try.f58.body).getD .skip, nt := 34, results := [.cell 4 31], keep := [0, 2, 4, 6, 8, 24, 52, 5, 7, 9], live := [], modes := [(1, [(3, .take, false)]), (3, [(3, .take, false)])] }
theorem fk58 : FnOk Try.prog 58 Try.f58 I58 := ⟨Try.func58, by kernel_rfl, by kernel_rfl, by kernel_rfl, by kernel_rfl⟩
theorem p58_e_0 (a0 a1 r1 : Val) : rE I58 (xDE a0 a1) [Y, Y] [xBK r1] = dn (xCT r1) [(((Val.kind a0) : Int) == 1) = true, (((Val.kind a1) : Int) == 1) = true, AbC 59 (xCL (decide (((Val.n a0) : Int) < (Val.n a1)))) (xBK r1)] := by kernel_rfl
theorem p58_e_1 (a0 a1 r1 : Val) : rE I58 (xDE a0 a1) [Y, F, F, F] [xAg r1] = dn (xCT r1) [(((Val.kind a0) : Int) == 1) = true, (((Val.kind a1) : Int) == 1) = false, (((Val.kind a0) : Int) == 2) = false, false = false, AbC 44 (xAA 4) (xAg r1)] := by kernel_rfl
theorem p58_e_2 (a0 a1 r1 : Val) : rE I58 (xDE a0 a1) [F, F, Y, Y] [xBK r1] = dn (xCT r1) [(((Val.kind a0) : Int) == 1) = false, false = false, (((Val.kind a0) : Int) == 2) = true, (((Val.kind a1) : Int) == 2) = true, AbC 59 (xCL (Op.bytesLess (Val.text a0) (Val.text a1))) (xBK r1)] := by kernel_rfl
theorem p58_e_3 (a0 a1 r1 : Val) : rE I58 (xDE a0 a1) [F, F, Y, F] [xAg r1] = dn (xCT r1) [(((Val.kind a0) : Int) == 1) = false, false = false, (((Val.kind a0) : Int) == 2) = true, (((Val.kind a1) : Int) == 2) = false, AbC 44 (xAA 4) (xAg r1)] := by kernel_rfl
theorem p58_e_4 (a0 a1 r1 : Val) : rE I58 (xDE a0 a1) [F, F, F, F] [xAg r1] = dn (xCT r1) [(((Val.kind a0) : Int) == 1) = false, false = false, (((Val.kind a0) : Int) == 2) = false, false = false, AbC 44 (xAA 4) (xAg r1)] := by kernel_rfl
theorem c58_e {N : Nat} : ∀ a0 a1 r, xGt N a0 a1 = some r → RE Try.f58 I58 (xDE a0 a1) (xCT r) := fun a0 a1 r h =>
 cE h (fun h0 h => cE h (fun h1 h => bE h fun r1 h2 h => dE h fk58 (p58_e_0 a0 a1 r1) (oc h0 (oc h1 (oc (xFd h2) on)))) fun h1 h =>
 bE h fun r1 h4 h => dE h fk58 (p58_e_1 a0 a1 r1) (oc h0 (oc h1 (oc (eq_ne h0 rfl) (oc rfl (oc (xAH h4) on)))))) fun h0 h =>
 cE h (fun h2 h => cE h (fun h3 h => bE h fun r1 h4 h => dE h fk58 (p58_e_2 a0 a1 r1) (oc h0 (oc rfl (oc h2 (oc h3 (oc (xFd h4) on)))))) fun h3 h =>
 bE h fun r1 h4 h => dE h fk58 (p58_e_3 a0 a1 r1) (oc h0 (oc rfl (oc h2 (oc h3 (oc (xAH h4) on)))))) fun h2 h =>
 bE h fun r1 h4 h => dE h fk58 (p58_e_4 a0 a1 r1) (oc h0 (oc rfl (oc h2 (oc rfl (oc (xAH h4) on)))))
theorem xIm {N : Nat} {a0 : Val} {a1 : Val} {r : Val} (h : xGt N  a0 a1 = some r) : AbC 58 (xDE a0 a1) (xCT r) :=
 AbsCalls.of_reach fk58 rfl rfl (Nat.le_of_ble_eq_true rfl) (c58_e a0 a1 r h)
noncomputable def I148 : Info := { body := (Try.f148.body).getD .skip, nt := 26, results := [.tmp 4], keep := [0, 2, 8, 10, 20, 28, 50], live := [(4, [0, 2, 10])], modes := [] }
theorem fk148 : FnOk Try.prog 148 Try.f148 I148 := ⟨Try.func148, by kernel_rfl, by kernel_rfl, by kernel_rfl, by kernel_rfl⟩
def S148_4 (x0 x1 : List Str) (x5 : Int) : St := [(0, .v false [.sl .ro .str x0]), (2, .v false [.sl .ro .str x1]), (10, .v false [.int .i64 x5])]
theorem p148_4_0 (x0 x1 : List Str) (x5 : Int) : rS 4 I148 (S148_4 x0 x1 x5) [Y, Y] [] = dn (xCt false) [(decide ((x5 : Int) < (Ln x0 : Int))) = true, (0 : Int) ≤ x5 ∧ x5 < (Ln x0), (0 : Int) ≤ x5 ∧ x5 < (Ln x1), (!(((gD x0 (tN x5) Ty.str.dflt) : Str) == (gD x1 (tN x5) Ty.str.dflt))) = true] := by kernel_rfl
theorem p148_4_1 (x0 x1 : List Str) (x5 : Int) : rS 4 I148 (S148_4 x0 x1 x5) [Y, F] [] = st 4 I148 (S148_4 x0 x1 (W (x5 + 1))) [(decide ((x5 : Int) < (Ln x0 : Int))) = true, (0 : Int) ≤ x5 ∧ x5 < (Ln x0), (0 : Int) ≤ x5 ∧ x5 < (Ln x1), (!(((gD x0 (tN x5) Ty.str.dflt) : Str) == (gD x1 (tN x5) Ty.str.dflt))) = false] := by kernel_rfl
theorem p148_4_2 (x0 x1 : List Str) (x5 : Int) : rS 4 I148 (S148_4 x0 x1 x5) [F] [] = dn (xCt true) [(decide ((x5 : Int) < (Ln x0 : Int))) = false] := by kernel_rfl
theorem p148_e_3 (a0 a1 : List Str) : rE I148 (xEu a0 a1) [Y] [] = dn (xCt false) [(((Ln a0 : Int) : Int) != (Ln a1 : Int)) = true] := by kernel_rfl
theorem p148_e_4 (a0 a1 : List Str) : rE I148 (xEu a0 a1) [F] [] = st 4 I148 (S148_4 a0 a1 0) [(((Ln a0 : Int) : Int) != (Ln a1 : Int)) = false] := by kernel_rfl
theorem c148_4 {N : Nat} : ∀ n x0 x1 x5 r, xDh N n x0 x1 x5 = some r → RS Try.f148 I148 4 (S148_4 x0 x1 x5) (xCt r) := by
 intro n
 induction n with
 | zero => exact fun _ _ _ _ h => nE h
 | succ n ih =>
  exact fun x0 x1 x5 r h =>
   cE h (fun h0 h => iE h fun h1 h => iE h fun h2 h => cE h (fun h3 h => dS h fk148 (p148_4_0 x0 x1 x5) (oc h0 (oc h1 (oc h2 (oc h3 on))))) fun h3 h =>
   tS fk148 (p148_4_1 x0 x1 x5) (oc h0 (oc h1 (oc h2 (oc h3 on)))) (ih _ _ _ _ h)) fun h0 h =>
   dS h fk148 (p148_4_2 x0 x1 x5) (oc h0 on)
theorem c148_e {N : Nat} : ∀ a0 a1 r, xFn N a0 a1 = some r → RE Try.f148 I148 (xEu a0 a1) (xCt r) := fun a0 a1 r h =>
 cE h (fun h0 h => dE h fk148 (p148_e_3 a0 a1) (oc h0 on)) fun h0 h =>
 tE fk148 (p148_e_4 a0 a1) (oc h0 on) (c148_4 _ _ _ _ _ h)
theorem xG5 {N : Nat} {a0 : List Str} {a1 : List Str} {r : Bool} (h : xFn N  a0 a1 = some r) : AbC 148 (xEu a0 a1) (xCt r) :=
 AbsCalls.of_reach fk148 rfl rfl (Nat.le_of_ble_eq_true rfl) (c148_e a0 a1 r h)
end Go.Ab.T
end
