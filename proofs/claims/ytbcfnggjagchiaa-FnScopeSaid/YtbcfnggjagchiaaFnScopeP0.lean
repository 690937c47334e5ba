/- The statement FnScope holds: plain functions, certificates, laws. Conditions: none. -/
import Derived.Test.YtbcfnggjagchiaaChecked
import Derived.Test.YtbcfnggjagchiaaProg
import Derived.Test.YtbcfnggjagchiaaRows
import Derived.Test.YtbcfnggjagchiaaL2
set_option linter.all false
section
namespace Go.Ab
set_option linter.unusedVariables false
def xEs (N : Nat) : Nat → (List Str) → Int → Int → Option (Int)
  | 0, _, _, _ => none
  | n + 1, x0, x1, x5 =>
    bif (decide ((x5 : Int) < (List.length x0 : Int))) then (
      if (0 : Int) ≤ x5 ∧ x5 < (List.length x0) then
      bif (decide (((IntKind.i64.wrap (x1 - (List.length (List.getD x0 (Int.toNat x5) Ty.str.dflt) : Int))) : Int) < 0)) then (
        some (-1)
      ) else (
        (xEs N n x0 (IntKind.i64.wrap (x1 - (List.length (List.getD x0 (Int.toNat x5) Ty.str.dflt) : Int))) (IntKind.i64.wrap (x5 + 1)))
      )
      else none
    ) else (
      some x1
    )
def laws_szStringS (N : Nat) (a0 : List Str) (a1 : Int) : Option (Int) :=
  bif (decide (((IntKind.i64.wrap (a1 - (List.length a0 : Int))) : Int) < 0)) then (
    some (-1)
  ) else (
    (xEs N N a0 (IntKind.i64.wrap (a1 - (List.length a0 : Int))) 0)
  )
def laws_szIntS (N : Nat) (a0 : List Int) (a1 : Int) : Option (Int) :=
  bif (decide (((IntKind.i64.wrap (a1 - (List.length a0 : Int))) : Int) < 0)) then (
    some (-1)
  ) else (
    some (IntKind.i64.wrap (a1 - (List.length a0 : Int)))
  )
def laws_szOriginS (N : Nat) (a0 : List Org) (a1 : Int) : Option (Int) :=
  bif (decide (((IntKind.i64.wrap (a1 - (List.length a0 : Int))) : Int) < 0)) then (
    some (-1)
  ) else (
    some (IntKind.i64.wrap (a1 - (List.length a0 : Int)))
  )
def laws_szRow (N : Nat) (a0 : Rowd) (a1 : Int) : Option (Int) :=
  Option.bind (laws_szIntS N (Rowd.cells a0) a1) fun r1 =>
  bif (decide ((r1 : Int) < 0)) then (
    some (-1)
  ) else (
    Option.bind (laws_szOriginS N (Rowd.frm a0) r1) fun r2 =>
    bif (decide ((r2 : Int) < 0)) then (
      some (-1)
    ) else (
      some r2
    )
  )
def xFa (N : Nat) : Nat → (List Rowd) → Int → Int → Option (Int)
  | 0, _, _, _ => none
  | n + 1, x0, x1, x5 =>
    bif (decide ((x5 : Int) < (List.length x0 : Int))) then (
      if (0 : Int) ≤ x5 ∧ x5 < (List.length x0) then
      Option.bind (laws_szRow N (List.getD x0 (Int.toNat x5) Ty.row.dflt) x1) fun r1 =>
      bif (decide ((r1 : Int) < 0)) then (
        some (-1)
      ) else (
        (xFa N n x0 r1 (IntKind.i64.wrap (x5 + 1)))
      )
      else none
    ) else (
      some x1
    )
def laws_szRowS (N : Nat) (a0 : List Rowd) (a1 : Int) : Option (Int) :=
  bif (decide (((IntKind.i64.wrap (a1 - (List.length a0 : Int))) : Int) < 0)) then (
    some (-1)
  ) else (
    (xFa N N a0 (IntKind.i64.wrap (a1 - (List.length a0 : Int))) 0)
  )
def laws_szValue_body (N : Nat) (q0 : Val → Int → Option (Int)) (q1 : (List Val) → Int → Option (Int)) (a0 : Val) (a1 : Int) : Option (Int) :=
  bif (decide (((IntKind.i64.wrap (a1 - (List.length (Val.text a0) : Int))) : Int) < 0)) then (
    some (-1)
  ) else (
    Option.bind (q1 (Val.list a0) (IntKind.i64.wrap (a1 - (List.length (Val.text a0) : Int)))) fun r1 =>
    bif (decide ((r1 : Int) < 0)) then (
      some (-1)
    ) else (
      Option.bind (laws_szStringS N (Val.columns a0) r1) fun r2 =>
      bif (decide ((r2 : Int) < 0)) then (
        some (-1)
      ) else (
        Option.bind (laws_szRowS N (Val.rows a0) r2) fun r3 =>
        bif (decide ((r3 : Int) < 0)) then (
          some (-1)
        ) else (
          some r3
        )
      )
    )
  )
def xEP (N : Nat) (q0 : Val → Int → Option (Int)) (q1 : (List Val) → Int → Option (Int)) : Nat → (List Val) → Int → Int → Option (Int)
  | 0, _, _, _ => none
  | n + 1, x0, x1, x5 =>
    bif (decide ((x5 : Int) < (List.length x0 : Int))) then (
      if (0 : Int) ≤ x5 ∧ x5 < (List.length x0) then
      Option.bind (q0 (List.getD x0 (Int.toNat x5) Ty.val.dflt) x1) fun r1 =>
      bif (decide ((r1 : Int) < 0)) then (
        some (-1)
      ) else (
        (xEP N q0 q1 n x0 r1 (IntKind.i64.wrap (x5 + 1)))
      )
      else none
    ) else (
      some x1
    )
def laws_szValueS_body (N : Nat) (q0 : Val → Int → Option (Int)) (q1 : (List Val) → Int → Option (Int)) (a0 : List Val) (a1 : Int) : Option (Int) :=
  bif (decide (((IntKind.i64.wrap (a1 - (List.length a0 : Int))) : Int) < 0)) then (
    some (-1)
  ) else (
    (xEP N q0 q1 N a0 (IntKind.i64.wrap (a1 - (List.length a0 : Int))) 0)
  )
structure laws_szValue_rec where
  c_laws_szValue : Val → Int → Option (Int)
  c_laws_szValueS : (List Val) → Int → Option (Int)
def xDf (N : Nat) : Nat → laws_szValue_rec
  | 0 => ⟨fun _ _ => none, fun _ _ => none⟩
  | d + 1 => ⟨laws_szValue_body N (xDf N d).c_laws_szValue (xDf N d).c_laws_szValueS, laws_szValueS_body N (xDf N d).c_laws_szValue (xDf N d).c_laws_szValueS⟩
def laws_toStringS_b3 (N : Nat) : Nat → (List Str) → (List Str) → Int → Option ((List Str))
  | 0, _, _, _ => none
  | n + 1, x0, x3, x4 =>
    bif (decide ((x4 : Int) < (List.length x0 : Int))) then (
      if (0 : Int) ≤ x4 ∧ x4 < (List.length x0) then
      if (0 : Int) ≤ x4 ∧ x4 < (List.length x3) then
      (laws_toStringS_b3 N n x0 (List.set x3 (Int.toNat x4) (List.getD x0 (Int.toNat x4) Ty.str.dflt)) (IntKind.i64.wrap (x4 + 1)))
      else none
      else none
    ) else (
      some x3
    )
def laws_toIntS_b3 (N : Nat) : Nat → (List Int) → (List Int) → Int → Option ((List Int))
  | 0, _, _, _ => none
  | n + 1, x0, x3, x4 =>
    bif (decide ((x4 : Int) < (List.length x0 : Int))) then (
      if (0 : Int) ≤ x4 ∧ x4 < (List.length x0) then
      if (0 : Int) ≤ x4 ∧ x4 < (List.length x3) then
      (laws_toIntS_b3 N n x0 (List.set x3 (Int.toNat x4) (List.getD x0 (Int.toNat x4) Ty.int.dflt)) (IntKind.i64.wrap (x4 + 1)))
      else none
      else none
    ) else (
      some x3
    )
def laws_toOrigin (N : Nat) (a0 : Org) : Option (Org) :=
  some a0
def laws_toOriginS_b3 (N : Nat) : Nat → (List Org) → (List Org) → Int → Option ((List Org))
  | 0, _, _, _ => none
  | n + 1, x0, x3, x4 =>
    bif (decide ((x4 : Int) < (List.length x0 : Int))) then (
      if (0 : Int) ≤ x4 ∧ x4 < (List.length x0) then
      Option.bind (laws_toOrigin N (List.getD x0 (Int.toNat x4) Ty.org.dflt)) fun r1 =>
      if (0 : Int) ≤ x4 ∧ x4 < (List.length x3) then
      (laws_toOriginS_b3 N n x0 (List.set x3 (Int.toNat x4) r1) (IntKind.i64.wrap (x4 + 1)))
      else none
      else none
    ) else (
      some x3
    )
def xCB (a0 : Int) (a1 : Int) (a2 : Int) : List Arg := [.val (.v false [.int .i64 a0]), .val (.v false [.int .i64 a1]), .val (.v false [.int .i64 a2])]
def xBn (r : Bool) : CallO := ⟨.v false [.bool r], [], []⟩
def xD4 (N : Nat) (a0 : Int) (a1 : Int) (a2 : Int) : Option (Bool) :=
  bif (decide ((a0 : Int) ≥ a1)) then (
    some (decide ((a0 : Int) ≤ a2))
  ) else (
    some false
  )
def xBa (a0 : Int) : List Arg := [.val (.v false [.int .i64 a0])]
def xAu (r : Bool) : CallO := ⟨.v false [.bool r], [], []⟩
def xCm (N : Nat) (a0 : Int) : Option (Bool) :=
  Option.bind (xD4 N a0 (-1000000000) 1000000000) fun r1 =>
  some r1
def xCE (a0 : Str) : List Arg := [.val (.v false [.str a0])]
def xAL (r : Bool) : CallO := ⟨.v false [.bool r], [], []⟩
def xAV (N : Nat) : Nat → Str → Int → Option (Bool)
  | 0, _, _ => none
  | n + 1, x0, x3 =>
    bif (decide ((x3 : Int) < (List.length x0 : Int))) then (
      if (0 : Int) ≤ x3 ∧ x3 < (List.length x0) then
      bif (decide ((((List.getD x0 (Int.toNat x3) 0).toNat : Int) : Int) < 32)) then (
        some false
      ) else (
        bif (decide ((((List.getD x0 (Int.toNat x3) 0).toNat : Int) : Int) > 126)) then (
          some false
        ) else (
          bif ((((List.getD x0 (Int.toNat x3) 0).toNat : Int) : Int) == 34) then (
            some false
          ) else (
            (xAV N n x0 (IntKind.i64.wrap (x3 + 1)))
          )
        )
      )
      else none
    ) else (
      some (decide (((List.length x0 : Int) : Int) ≤ 20))
    )
def xDh (N : Nat) (a0 : Str) : Option (Bool) :=
  (xAV N N a0 0)
def xBf (a0 : Val) : List Arg := [.val (.v true [.int .i64 (Val.kind a0), .int .i64 (Val.n a0), .int .i64 (Val.step a0), .str (Val.text a0), .sl .ro .val (Val.list a0), .sl .ro .str (Val.columns a0), .sl .ro .row (Val.rows a0)])]
def xAC (r : Bool) : CallO := ⟨.v false [.bool r], [], []⟩
def xDL (N : Nat) (a0 : Val) : Option (Bool) :=
  bif (((Val.kind a0) : Int) == 1) then (
    some true
  ) else (
    bif (((Val.kind a0) : Int) == 2) then (
      some true
    ) else (
      some (((Val.kind a0) : Int) == 3)
    )
  )
def xDu (a0 : Int) (a1 : Int) : List Arg := [.val (.v false [.int .i64 a0]), .val (.v false [.int .i64 a1])]
def xC7 (r : Int) : CallO := ⟨.v false [.int .i64 r], [], []⟩
def xEw (N : Nat) (a0 : Int) (a1 : Int) : Option (Int) :=
  bif (decide ((a0 : Int) > a1)) then (
    some a0
  ) else (
    some a1
  )
def xB4 (a0 : Val) : List Arg := [.val (.v true [.int .i64 (Val.kind a0), .int .i64 (Val.n a0), .int .i64 (Val.step a0), .str (Val.text a0), .sl .ro .val (Val.list a0), .sl .ro .str (Val.columns a0), .sl .ro .row (Val.rows a0)])]
def xA3 (r : Int) : CallO := ⟨.v false [.int .i64 r], [], []⟩
def xCv (N : Nat) (q0 : Val → Option (Int)) : Nat → Int → Int → Val → Option (Int)
  | 0, _, _, _ => none
  | n + 1, x3, x4, b1 =>
    bif (decide ((x4 : Int) < (List.length (Val.list b1) : Int))) then (
      if (0 : Int) ≤ x4 ∧ x4 < (List.length (Val.list b1)) then
      Option.bind (q0 (List.getD (Val.list b1) (Int.toNat x4) Ty.val.dflt)) fun r1 =>
      Option.bind (xEw N x3 r1) fun r2 =>
      (xCv N q0 n r2 (IntKind.i64.wrap (x4 + 1)) b1)
      else none
    ) else (
      some (IntKind.i64.wrap (x3 + 1))
    )
def xDC (N : Nat) (q0 : Val → Option (Int)) (a0 : Val) : Option (Int) :=
  (xCv N q0 N 0 0 a0)
def xCa (N : Nat) : Nat → Val → Option (Int)
  | 0, _ => none
  | d + 1, a0 => xDC N (xCa N d) a0
def xEi (N : Nat) (a0 : Val) : Option (Int) := xCa N N a0
def xCx (a0 : Str) : List Arg := [.val (.v false [.str a0])]
def xAp (r : Bool) : CallO := ⟨.v false [.bool r], [], []⟩
def xA5 (N : Nat) : Nat → Str → Int → Option (Bool)
  | 0, _, _ => none
  | n + 1, x0, x3 =>
    bif (decide ((x3 : Int) < (List.length x0 : Int))) then (
      if (0 : Int) ≤ x3 ∧ x3 < (List.length x0) then
      bif (decide ((((List.getD x0 (Int.toNat x3) 0).toNat : Int) : Int) ≥ 97)) then (
        bif (decide ((((List.getD x0 (Int.toNat x3) 0).toNat : Int) : Int) ≥ 48)) then (
          bif (!(decide ((((List.getD x0 (Int.toNat x3) 0).toNat : Int) : Int) ≤ 122))) then (
            bif ((x3 : Int) == 0) then (
              some false
            ) else (
              bif (!(decide ((((List.getD x0 (Int.toNat x3) 0).toNat : Int) : Int) ≤ 57))) then (
                some false
              ) else (
                (xA5 N n x0 (IntKind.i64.wrap (x3 + 1)))
              )
            )
          ) else (
            (xA5 N n x0 (IntKind.i64.wrap (x3 + 1)))
          )
        ) else (
          bif (!(decide ((((List.getD x0 (Int.toNat x3) 0).toNat : Int) : Int) ≤ 122))) then (
            bif ((x3 : Int) == 0) then (
              some false
            ) else (
              some false
            )
          ) else (
            (xA5 N n x0 (IntKind.i64.wrap (x3 + 1)))
          )
        )
      ) else (
        bif (decide ((((List.getD x0 (Int.toNat x3) 0).toNat : Int) : Int) ≥ 48)) then (
          bif ((x3 : Int) == 0) then (
            some false
          ) else (
            bif (!(decide ((((List.getD x0 (Int.toNat x3) 0).toNat : Int) : Int) ≤ 57))) then (
              some false
            ) else (
              (xA5 N n x0 (IntKind.i64.wrap (x3 + 1)))
            )
          )
        ) else (
          bif ((x3 : Int) == 0) then (
            some false
          ) else (
            some false
          )
        )
      )
      else none
    ) else (
      some (decide (((List.length x0 : Int) : Int) > 0))
    )
def xEk (N : Nat) (a0 : Str) : Option (Bool) :=
  (xA5 N N a0 0)
def xC0 : List Arg := []
def xCl (r : (List Str)) : CallO := ⟨.v false [.sl .own .str r], [], []⟩
def xDv (N : Nat) : Option ((List Str)) :=
  some [[108, 101, 116], [105, 110], [105, 102], [116, 104, 101, 110], [101, 108, 115, 101], [102, 111, 114], [100, 111], [108, 101, 110], [115, 117, 109], [116, 97, 107, 101], [115, 107, 105, 112], [114, 97, 110, 103, 101], [110, 116, 104], [119, 104, 101, 114, 101], [107, 101, 101, 112], [97, 100, 100], [103, 114, 111, 117, 112], [106, 111, 105, 110], [99, 111, 108, 117, 109, 110], [114, 111, 119, 115], [99, 108, 111, 99, 107], [99, 104, 97, 110, 99, 101], [102, 105, 108, 101], [116, 97, 98, 108, 101]]
def xC6 (a0 : List Str) (a1 : Str) : List Arg := [.val (.v false [.sl .ro .str a0]), .val (.v false [.str a1])]
def xBk (r : Bool) : CallO := ⟨.v false [.bool r], [], []⟩
def xCH (N : Nat) : Nat → (List Str) → Str → Int → Option (Bool)
  | 0, _, _, _ => none
  | n + 1, x0, x1, x5 =>
    bif (decide ((x5 : Int) < (List.length x0 : Int))) then (
      if (0 : Int) ≤ x5 ∧ x5 < (List.length x0) then
      bif (((List.getD x0 (Int.toNat x5) Ty.str.dflt) : Str) == x1) then (
        some true
      ) else (
        (xCH N n x0 x1 (IntKind.i64.wrap (x5 + 1)))
      )
      else none
    ) else (
      some false
    )
def xEv (N : Nat) (a0 : List Str) (a1 : Str) : Option (Bool) :=
  (xCH N N a0 a1 0)
def xCZ (a0 : Str) : List Arg := [.val (.v false [.str a0])]
def xCk (r : Bool) : CallO := ⟨.v false [.bool r], [], []⟩
def xC3 (N : Nat) (a0 : Str) : Option (Bool) :=
  Option.bind (xDv N) fun r1 =>
  Option.bind (xEv N r1 a0) fun r2 =>
  some r2
def xBd (a0 : Str) : List Arg := [.val (.v false [.str a0])]
def xAK (r : Bool) : CallO := ⟨.v false [.bool r], [], []⟩
def xCL (N : Nat) (a0 : Str) : Option (Bool) :=
  Option.bind (xEk N a0) fun r1 =>
  bif r1 then (
    bif (decide (((List.length a0 : Int) : Int) ≤ 8)) then (
      Option.bind (xC3 N a0) fun r2 =>
      some (!r2)
    ) else (
      some false
    )
  ) else (
    some false
  )
def xCD (a0 : List Str) : List Arg := [.val (.v false [.sl .ro .str a0])]
def xBc (r : Bool) : CallO := ⟨.v false [.bool r], [], []⟩
def xBb (N : Nat) : Nat → (List Str) → Int → Option (Bool)
  | 0, _, _ => none
  | n + 1, x0, x3 =>
    bif (decide ((x3 : Int) < (List.length x0 : Int))) then (
      if (0 : Int) ≤ x3 ∧ x3 ≤ (List.length x0) then
      if (0 : Int) ≤ x3 ∧ x3 < (List.length x0) then
      Option.bind (xEv N (List.take (Int.toNat x3) x0) (List.getD x0 (Int.toNat x3) Ty.str.dflt)) fun r1 =>
      bif r1 then (
        some false
      ) else (
        (xBb N n x0 (IntKind.i64.wrap (x3 + 1)))
      )
      else none
      else none
    ) else (
      some true
    )
def xDg (N : Nat) (a0 : List Str) : Option (Bool) :=
  (xBb N N a0 0)
def xBV (a0 : List Str) : List Arg := [.val (.v false [.sl .ro .str a0])]
def xAy (r : Bool) : CallO := ⟨.v false [.bool r], [], []⟩
def xBW (N : Nat) : Nat → (List Str) → Int → Option (Bool)
  | 0, _, _ => none
  | n + 1, x0, x3 =>
    bif (decide ((x3 : Int) < (List.length x0 : Int))) then (
      if (0 : Int) ≤ x3 ∧ x3 < (List.length x0) then
      Option.bind (xCL N (List.getD x0 (Int.toNat x3) Ty.str.dflt)) fun r1 =>
      bif (!r1) then (
        some false
      ) else (
        (xBW N n x0 (IntKind.i64.wrap (x3 + 1)))
      )
      else none
    ) else (
      Option.bind (xD4 N (List.length x0 : Int) 1 4) fun r1 =>
      bif r1 then (
        Option.bind (xDg N x0) fun r2 =>
        some r2
      ) else (
        some false
      )
    )
def xDK (N : Nat) (a0 : List Str) : Option (Bool) :=
  (xBW N N a0 0)
def xBF (a0 : Org) (a1 : Org) : List Arg := [.val (.v true [.int .i64 (Org.cell a0), .int .i64 (Org.row a0)]), .val (.v true [.int .i64 (Org.cell a1), .int .i64 (Org.row a1)])]
def xA9 (r : Bool) : CallO := ⟨.v false [.bool r], [], []⟩
def xDw (N : Nat) (a0 : Org) (a1 : Org) : Option (Bool) :=
  bif (decide (((Org.cell a0) : Int) < (Org.cell a1))) then (
    some true
  ) else (
    bif (((Org.cell a0) : Int) == (Org.cell a1)) then (
      some (decide (((Org.row a0) : Int) < (Org.row a1)))
    ) else (
      some false
    )
  )
def xB7 (a0 : List Org) : List Arg := [.val (.v false [.sl .ro .org a0])]
def xAw (r : Bool) : CallO := ⟨.v false [.bool r], [], []⟩
def xAW (N : Nat) : Nat → (List Org) → Int → Option (Bool)
  | 0, _, _ => none
  | n + 1, x0, x3 =>
    bif (decide ((x3 : Int) < (List.length x0 : Int))) then (
      if (0 : Int) ≤ x3 ∧ x3 < (List.length x0) then
      bif (decide (((Org.cell (List.getD x0 (Int.toNat x3) Ty.org.dflt)) : Int) < 0)) then (
        some false
      ) else (
        bif (decide (((Org.row (List.getD x0 (Int.toNat x3) Ty.org.dflt)) : Int) < 0)) then (
          some false
        ) else (
          bif (decide ((x3 : Int) > 0)) then (
            if (0 : Int) ≤ (IntKind.i64.wrap (x3 - 1)) ∧ (IntKind.i64.wrap (x3 - 1)) < (List.length x0) then
            Option.bind (xDw N (List.getD x0 (Int.toNat (IntKind.i64.wrap (x3 - 1))) Ty.org.dflt) (List.getD x0 (Int.toNat x3) Ty.org.dflt)) fun r1 =>
            bif (!r1) then (
              some false
            ) else (
              (xAW N n x0 (IntKind.i64.wrap (x3 + 1)))
            )
            else none
          ) else (
            (xAW N n x0 (IntKind.i64.wrap (x3 + 1)))
          )
        )
      )
      else none
    ) else (
      some true
    )
def xDj (N : Nat) (a0 : List Org) : Option (Bool) :=
  (xAW N N a0 0)
def xCz (a0 : Val) : List Arg := [.val (.v true [.int .i64 (Val.kind a0), .int .i64 (Val.n a0), .int .i64 (Val.step a0), .str (Val.text a0), .sl .ro .val (Val.list a0), .sl .ro .str (Val.columns a0), .sl .ro .row (Val.rows a0)])]
def xAD (r : Bool) : CallO := ⟨.v false [.bool r], [], []⟩
def xBG (N : Nat) (k4 : Int → Val → Option (Bool)) : Nat → Int → Int → Val → Rowd → Option (Bool)
  | 0, _, _, _, _ => none
  | n + 1, x3, x5, b1, b4 =>
    bif (decide ((x5 : Int) < (List.length (Rowd.cells b4) : Int))) then (
      if (0 : Int) ≤ x5 ∧ x5 < (List.length (Rowd.cells b4)) then
      Option.bind (xCm N (List.getD (Rowd.cells b4) (Int.toNat x5) Ty.int.dflt)) fun r1 =>
      bif (!r1) then (
        some false
      ) else (
        (xBG N k4 n x3 (IntKind.i64.wrap (x5 + 1)) b1 b4)
      )
      else none
    ) else (
      (k4 (IntKind.i64.wrap (x3 + 1)) b1)
    )
def xB8 (N : Nat) : Nat → Int → Val → Option (Bool)
  | 0, _, _ => none
  | n + 1, x3, b1 =>
    bif (decide ((x3 : Int) < (List.length (Val.rows b1) : Int))) then (
      if (0 : Int) ≤ x3 ∧ x3 < (List.length (Val.rows b1)) then
      bif (((List.length (Rowd.cells (List.getD (Val.rows b1) (Int.toNat x3) Ty.row.dflt)) : Int) : Int) != (List.length (Val.columns b1) : Int)) then (
        some false
      ) else (
        Option.bind (xDj N (Rowd.frm (List.getD (Val.rows b1) (Int.toNat x3) Ty.row.dflt))) fun r1 =>
        bif (!r1) then (
          some false
        ) else (
          (xBG N (fun z0 z1 => (xB8 N n z0 z1)) N x3 0 b1 (List.getD (Val.rows b1) (Int.toNat x3) Ty.row.dflt))
        )
      )
      else none
    ) else (
      some true
    )
def xDP (N : Nat) (a0 : Val) : Option (Bool) :=
  Option.bind (xDK N (Val.columns a0)) fun r1 =>
  bif (!r1) then (
    some false
  ) else (
    bif (decide (((List.length (Val.rows a0) : Int) : Int) > 12)) then (
      some false
    ) else (
      (xB8 N N 0 a0)
    )
  )
def xAc (a0 : Val) : List Arg := [.val (.v true [.int .i64 (Val.kind a0), .int .i64 (Val.n a0), .int .i64 (Val.step a0), .str (Val.text a0), .sl .ro .val (Val.list a0), .sl .ro .str (Val.columns a0), .sl .ro .row (Val.rows a0)])]
def xAb (r : Bool) : CallO := ⟨.v false [.bool r], [], []⟩
def xBp (N : Nat) (q0 : Val → Option (Bool)) (q1 : Val → Option (Bool)) (a0 : Val) : Option (Bool) :=
  bif (((Val.kind a0) : Int) != 3) then (
    bif (decide (((List.length (Val.list a0) : Int) : Int) > 0)) then (
      some false
    ) else (
      bif (((Val.kind a0) : Int) != 5) then (
        bif (decide (((IntKind.i64.wrap ((List.length (Val.columns a0) : Int) + (List.length (Val.rows a0) : Int))) : Int) > 0)) then (
          some false
        ) else (
          bif (((Val.kind a0) : Int) != 2) then (
            bif (!(((Val.text a0) : Str) == [])) then (
              some false
            ) else (
              bif (((Val.kind a0) : Int) != 4) then (
                bif (((Val.step a0) : Int) != 0) then (
                  some false
                ) else (
                  bif (((Val.kind a0) : Int) == 1) then (
                    Option.bind (xCm N (Val.n a0)) fun r1 =>
                    some r1
                  ) else (
                    bif (((Val.kind a0) : Int) == 6) then (
                      Option.bind (xD4 N (Val.n a0) 1 8) fun r1 =>
                      some r1
                    ) else (
                      some false
                    )
                  )
                )
              ) else (
                Option.bind (xCm N (Val.n a0)) fun r1 =>
                bif r1 then (
                  Option.bind (xCm N (Val.step a0)) fun r2 =>
                  some r2
                ) else (
                  some false
                )
              )
            )
          ) else (
            bif (((Val.step a0) : Int) != 0) then (
              some false
            ) else (
              bif (((Val.n a0) : Int) == 0) then (
                Option.bind (xDh N (Val.text a0)) fun r1 =>
                some r1
              ) else (
                some false
              )
            )
          )
        )
      ) else (
        bif (!(((Val.text a0) : Str) == [])) then (
          some false
        ) else (
          bif (((Val.step a0) : Int) != 0) then (
            some false
          ) else (
            bif (((Val.n a0) : Int) == 0) then (
              Option.bind (xDP N a0) fun r1 =>
              some r1
            ) else (
              some false
            )
          )
        )
      )
    )
  ) else (
    bif (decide (((IntKind.i64.wrap ((List.length (Val.columns a0) : Int) + (List.length (Val.rows a0) : Int))) : Int) > 0)) then (
      some false
    ) else (
      bif (!(((Val.text a0) : Str) == [])) then (
        some false
      ) else (
        bif (((Val.step a0) : Int) != 0) then (
          some false
        ) else (
          bif (((Val.n a0) : Int) == 0) then (
            Option.bind (q1 a0) fun r1 =>
            some r1
          ) else (
            some false
          )
        )
      )
    )
  )
def xDd (a0 : Val) : List Arg := [.val (.v true [.int .i64 (Val.kind a0), .int .i64 (Val.n a0), .int .i64 (Val.step a0), .str (Val.text a0), .sl .ro .val (Val.list a0), .sl .ro .str (Val.columns a0), .sl .ro .row (Val.rows a0)])]
def xBg (r : Bool) : CallO := ⟨.v false [.bool r], [], []⟩
def xBS (N : Nat) (q0 : Val → Option (Bool)) (q1 : Val → Option (Bool)) : Nat → Int → Val → Option (Bool)
  | 0, _, _ => none
  | n + 1, x3, b1 =>
    bif (decide ((x3 : Int) < (List.length (Val.list b1) : Int))) then (
      if (0 : Int) ≤ x3 ∧ x3 < (List.length (Val.list b1)) then
      Option.bind (xDL N (List.getD (Val.list b1) (Int.toNat x3) Ty.val.dflt)) fun r1 =>
      bif (!r1) then (
        some false
      ) else (
        Option.bind (q0 (List.getD (Val.list b1) (Int.toNat x3) Ty.val.dflt)) fun r2 =>
        bif (!r2) then (
          some false
        ) else (
          (xBS N q0 q1 n (IntKind.i64.wrap (x3 + 1)) b1)
        )
      )
      else none
    ) else (
      bif (decide (((List.length (Val.list b1) : Int) : Int) ≤ 8)) then (
        Option.bind (xEi N b1) fun r1 =>
        some (decide ((r1 : Int) ≤ 3))
      ) else (
        some false
      )
    )
def xDV (N : Nat) (q0 : Val → Option (Bool)) (q1 : Val → Option (Bool)) (a0 : Val) : Option (Bool) :=
  (xBS N q0 q1 N 0 a0)
structure spec_IsValidValue_rec where
  c_spec_IsValidValue : Val → Option (Bool)
  c_spec_l3List : Val → Option (Bool)
def xAe (N : Nat) : Nat → spec_IsValidValue_rec
  | 0 => ⟨fun _ => none, fun _ => none⟩
  | d + 1 => ⟨xBp N (xAe N d).c_spec_IsValidValue (xAe N d).c_spec_l3List, xDV N (xAe N d).c_spec_IsValidValue (xAe N d).c_spec_l3List⟩
def xC5 (N : Nat) (a0 : Val) : Option (Bool) := (xAe N N).c_spec_IsValidValue a0
def xA1 (a0 : Int) : List Arg := [.val (.v false [.int .i64 a0])]
def xAt (r : Val) : CallO := ⟨.v true [.int .i64 (Val.kind r), .int .i64 (Val.n r), .int .i64 (Val.step r), .str (Val.text r), .sl .own .val (Val.list r), .sl .own .str (Val.columns r), .sl .own .row (Val.rows r)], [], []⟩
def xBj (N : Nat) (a0 : Int) : Option (Val) :=
  some (Val.mk 6 a0 0 [] [] [] [])
def xAM (a0 : Int) : List Arg := [.val (.v false [.int .i64 a0])]
def xAl (r : Val) : CallO := ⟨.v true [.int .i64 (Val.kind r), .int .i64 (Val.n r), .int .i64 (Val.step r), .str (Val.text r), .sl .own .val (Val.list r), .sl .own .str (Val.columns r), .sl .own .row (Val.rows r)], [], []⟩
def xAX (N : Nat) (a0 : Int) : Option (Val) :=
  some (Val.mk 1 a0 0 [] [] [] [])
def xBU (a0 : Str) : List Arg := [.val (.v false [.str a0])]
def xAZ (r : Val) : CallO := ⟨.v true [.int .i64 (Val.kind r), .int .i64 (Val.n r), .int .i64 (Val.step r), .str (Val.text r), .sl .own .val (Val.list r), .sl .own .str (Val.columns r), .sl .own .row (Val.rows r)], [], []⟩
def xCQ (N : Nat) (a0 : Str) : Option (Val) :=
  some (Val.mk 2 0 0 a0 [] [] [])
def xDY (a0 : Rowd) : List Arg := [.val (.v true [.sl .ro .int (Rowd.cells a0), .sl .ro .org (Rowd.frm a0)])]
def xDx (r : Rowd) : CallO := ⟨.v true [.sl .own .int (Rowd.cells r), .sl .own .org (Rowd.frm r)], [], []⟩
def xEz (N : Nat) (a0 : Rowd) : Option (Rowd) :=
  if 0 + List.length (Rowd.cells a0) ≤ Lim then
  if 0 + List.length (Rowd.frm a0) ≤ Lim then
  some (Rowd.mk ([] ++ (Rowd.cells a0)) ([] ++ (Rowd.frm a0)))
  else none
  else none
def xCp (a0 : Val) : List Arg := [.val (.v true [.int .i64 (Val.kind a0), .int .i64 (Val.n a0), .int .i64 (Val.step a0), .str (Val.text a0), .sl .ro .val (Val.list a0), .sl .ro .str (Val.columns a0), .sl .ro .row (Val.rows a0)])]
def xA6 (r : Val) : CallO := ⟨.v true [.int .i64 (Val.kind r), .int .i64 (Val.n r), .int .i64 (Val.step r), .str (Val.text r), .sl .own .val (Val.list r), .sl .own .str (Val.columns r), .sl .own .row (Val.rows r)], [], []⟩
def xCq (N : Nat) (q0 : Val → Option (Val)) : Nat → Int → Val → Val → Val → Option (Val)
  | 0, _, _, _, _ => none
  | n + 1, x5, b1, b2, b3 =>
    bif (decide ((x5 : Int) < (List.length (Val.rows b1) : Int))) then (
      if (0 : Int) ≤ x5 ∧ x5 < (List.length (Val.rows b1)) then
      Option.bind (xEz N (List.getD (Val.rows b1) (Int.toNat x5) Ty.row.dflt)) fun r1 =>
      if List.length (Val.rows b3) + List.length [r1] ≤ Lim then
      (xCq N q0 n (IntKind.i64.wrap (x5 + 1)) b1 b2 (Val.mk (Val.kind b3) (Val.n b3) (Val.step b3) (Val.text b3) (Val.list b3) (Val.columns b3) ((Val.rows b3) ++ [r1])))
      else none
      else none
    ) else (
      some b3
    )
def xCS (N : Nat) (q0 : Val → Option (Val)) : Nat → Int → Val → Val → Val → Option (Val)
  | 0, _, _, _, _ => none
  | n + 1, x4, b1, b2, b3 =>
    bif (decide ((x4 : Int) < (List.length (Val.list b1) : Int))) then (
      if (0 : Int) ≤ x4 ∧ x4 < (List.length (Val.list b1)) then
      Option.bind (q0 (List.getD (Val.list b1) (Int.toNat x4) Ty.val.dflt)) fun r1 =>
      if List.length (Val.list b3) + List.length [(Val.re r1)] ≤ Lim then
      (xCS N q0 n (IntKind.i64.wrap (x4 + 1)) b1 b2 (Val.mk (Val.kind b3) (Val.n b3) (Val.step b3) (Val.text b3) ((Val.list b3) ++ [(Val.re r1)]) (Val.columns b3) (Val.rows b3)))
      else none
      else none
    ) else (
      (xCq N q0 N 0 b1 b2 b3)
    )
def xCN (N : Nat) (q0 : Val → Option (Val)) (a0 : Val) : Option (Val) :=
  if 0 + List.length (Val.columns a0) ≤ Lim then
  (xCS N q0 N 0 a0 (Val.mk 0 0 0 [] [] [] []) (Val.mk (Val.kind a0) (Val.n a0) (Val.step a0) (Val.text a0) [] ([] ++ (Val.columns a0)) []))
  else none
def xCy (N : Nat) : Nat → Val → Option (Val)
  | 0, _ => none
  | d + 1, a0 => xCN N (xCy N d) a0
def xEG (N : Nat) (a0 : Val) : Option (Val) := xCy N N a0
def xB9 (a0 : List Str) (a1 : List Str) : List Arg := [.val (.v false [.sl .ro .str a0]), .val (.v false [.sl .ro .str a1])]
def xAP (r : Bool) : CallO := ⟨.v false [.bool r], [], []⟩
def xCA (N : Nat) : Nat → (List Str) → (List Str) → Int → Option (Bool)
  | 0, _, _, _ => none
  | n + 1, x0, x1, x5 =>
    bif (decide ((x5 : Int) < (List.length x0 : Int))) then (
      if (0 : Int) ≤ x5 ∧ x5 < (List.length x0) then
      if (0 : Int) ≤ x5 ∧ x5 < (List.length x1) then
      bif (!(((List.getD x0 (Int.toNat x5) Ty.str.dflt) : Str) == (List.getD x1 (Int.toNat x5) Ty.str.dflt))) then (
        some false
      ) else (
        (xCA N n x0 x1 (IntKind.i64.wrap (x5 + 1)))
      )
      else none
      else none
    ) else (
      some true
    )
def xDQ (N : Nat) (a0 : List Str) (a1 : List Str) : Option (Bool) :=
  bif (((List.length a0 : Int) : Int) != (List.length a1 : Int)) then (
    some false
  ) else (
    (xCA N N a0 a1 0)
  )
def xBR (a0 : List Int) (a1 : List Int) : List Arg := [.val (.v false [.sl .ro .int a0]), .val (.v false [.sl .ro .int a1])]
def xAF (r : Bool) : CallO := ⟨.v false [.bool r], [], []⟩
def xCR (N : Nat) : Nat → (List Int) → (List Int) → Int → Option (Bool)
  | 0, _, _, _ => none
  | n + 1, x0, x1, x5 =>
    bif (decide ((x5 : Int) < (List.length x0 : Int))) then (
      if (0 : Int) ≤ x5 ∧ x5 < (List.length x0) then
      if (0 : Int) ≤ x5 ∧ x5 < (List.length x1) then
      bif (((List.getD x0 (Int.toNat x5) Ty.int.dflt) : Int) != (List.getD x1 (Int.toNat x5) Ty.int.dflt)) then (
        some false
      ) else (
        (xCR N n x0 x1 (IntKind.i64.wrap (x5 + 1)))
      )
      else none
      else none
    ) else (
      some true
    )
def xD5 (N : Nat) (a0 : List Int) (a1 : List Int) : Option (Bool) :=
  bif (((List.length a0 : Int) : Int) != (List.length a1 : Int)) then (
    some false
  ) else (
    (xCR N N a0 a1 0)
  )
def xBZ (a0 : List Org) (a1 : List Org) : List Arg := [.val (.v false [.sl .ro .org a0]), .val (.v false [.sl .ro .org a1])]
def xAR (r : Bool) : CallO := ⟨.v false [.bool r], [], []⟩
def xB0 (N : Nat) : Nat → (List Org) → (List Org) → Int → Option (Bool)
  | 0, _, _, _ => none
  | n + 1, x0, x1, x5 =>
    bif (decide ((x5 : Int) < (List.length x0 : Int))) then (
      if (0 : Int) ≤ x5 ∧ x5 < (List.length x0) then
      if (0 : Int) ≤ x5 ∧ x5 < (List.length x1) then
      bif (!((((Org.cell (List.getD x0 (Int.toNat x5) Ty.org.dflt)) : Int) == (Org.cell (List.getD x1 (Int.toNat x5) Ty.org.dflt))) && (((Org.row (List.getD x0 (Int.toNat x5) Ty.org.dflt)) : Int) == (Org.row (List.getD x1 (Int.toNat x5) Ty.org.dflt))))) then (
        some false
      ) else (
        (xB0 N n x0 x1 (IntKind.i64.wrap (x5 + 1)))
      )
      else none
      else none
    ) else (
      some true
    )
def xDe (N : Nat) (a0 : List Org) (a1 : List Org) : Option (Bool) :=
  bif (((List.length a0 : Int) : Int) != (List.length a1 : Int)) then (
    some false
  ) else (
    (xB0 N N a0 a1 0)
  )
def xAA (a0 : Val) (a1 : Val) (a2 : Bool) : List Arg := [.val (.v true [.int .i64 (Val.kind a0), .int .i64 (Val.n a0), .int .i64 (Val.step a0), .str (Val.text a0), .sl .ro .val (Val.list a0), .sl .ro .str (Val.columns a0), .sl .ro .row (Val.rows a0)]), .val (.v true [.int .i64 (Val.kind a1), .int .i64 (Val.n a1), .int .i64 (Val.step a1), .str (Val.text a1), .sl .ro .val (Val.list a1), .sl .ro .str (Val.columns a1), .sl .ro .row (Val.rows a1)]), .val (.v false [.bool a2])]
def xAj (r : Bool) : CallO := ⟨.v false [.bool r], [], []⟩
def xBT (N : Nat) (q0 : Val → Val → Bool → Option (Bool)) : Nat → Bool → Int → Val → Val → Option (Bool)
  | 0, _, _, _, _ => none
  | n + 1, x2, x8, b3, b4 =>
    bif (decide ((x8 : Int) < (List.length (Val.rows b3) : Int))) then (
      if (0 : Int) ≤ x8 ∧ x8 < (List.length (Val.rows b3)) then
      if (0 : Int) ≤ x8 ∧ x8 < (List.length (Val.rows b4)) then
      Option.bind (xD5 N (Rowd.cells (List.getD (Val.rows b3) (Int.toNat x8) Ty.row.dflt)) (Rowd.cells (List.getD (Val.rows b4) (Int.toNat x8) Ty.row.dflt))) fun r1 =>
      bif (!r1) then (
        some false
      ) else (
        bif x2 then (
          Option.bind (xDe N (Rowd.frm (List.getD (Val.rows b3) (Int.toNat x8) Ty.row.dflt)) (Rowd.frm (List.getD (Val.rows b4) (Int.toNat x8) Ty.row.dflt))) fun r2 =>
          bif (!r2) then (
            some false
          ) else (
            (xBT N q0 n x2 (IntKind.i64.wrap (x8 + 1)) b3 b4)
          )
        ) else (
          (xBT N q0 n x2 (IntKind.i64.wrap (x8 + 1)) b3 b4)
        )
      )
      else none
      else none
    ) else (
      some true
    )
def xCV (N : Nat) (q0 : Val → Val → Bool → Option (Bool)) : Nat → Bool → Int → Val → Val → Option (Bool)
  | 0, _, _, _, _ => none
  | n + 1, x2, x7, b3, b4 =>
    bif (decide ((x7 : Int) < (List.length (Val.list b3) : Int))) then (
      if (0 : Int) ≤ x7 ∧ x7 < (List.length (Val.list b3)) then
      if (0 : Int) ≤ x7 ∧ x7 < (List.length (Val.list b4)) then
      Option.bind (q0 (List.getD (Val.list b3) (Int.toNat x7) Ty.val.dflt) (List.getD (Val.list b4) (Int.toNat x7) Ty.val.dflt) x2) fun r1 =>
      bif (!r1) then (
        some false
      ) else (
        (xCV N q0 n x2 (IntKind.i64.wrap (x7 + 1)) b3 b4)
      )
      else none
      else none
    ) else (
      (xBT N q0 N x2 0 b3 b4)
    )
def xCO (N : Nat) (q0 : Val → Val → Bool → Option (Bool)) (a0 : Val) (a1 : Val) (a2 : Bool) : Option (Bool) :=
  bif (((Val.kind a0) : Int) != (Val.kind a1)) then (
    some false
  ) else (
    bif (((Val.n a0) : Int) != (Val.n a1)) then (
      some false
    ) else (
      bif (((Val.step a0) : Int) != (Val.step a1)) then (
        some false
      ) else (
        bif (!(((Val.text a0) : Str) == (Val.text a1))) then (
          some false
        ) else (
          bif (((List.length (Val.list a0) : Int) : Int) != (List.length (Val.list a1) : Int)) then (
            some false
          ) else (
            Option.bind (xDQ N (Val.columns a0) (Val.columns a1)) fun r1 =>
            bif (!r1) then (
              some false
            ) else (
              bif (((List.length (Val.rows a0) : Int) : Int) != (List.length (Val.rows a1) : Int)) then (
                some false
              ) else (
                (xCV N q0 N a2 0 a0 a1)
              )
            )
          )
        )
      )
    )
  )
def xA7 (N : Nat) : Nat → Val → Val → Bool → Option (Bool)
  | 0, _, _, _ => none
  | d + 1, a0, a1, a2 => xCO N (xA7 N d) a0 a1 a2
def xEK (N : Nat) (a0 : Val) (a1 : Val) (a2 : Bool) : Option (Bool) := xA7 N N a0 a1 a2
def xDB (N : Nat) (a0 : Int) (a1 : Int) (a2 : Int) : Option (Bool) :=
  bif (decide ((a1 : Int) ≤ a0)) then (
    some (decide ((a0 : Int) ≤ a2))
  ) else (
    some false
  )
def xC4 (N : Nat) (a0 : Int) : Option (Bool) :=
  Option.bind (xDB N a0 (-1000000000) 1000000000) fun r1 =>
  some r1
def xCC (N : Nat) : Nat → Str → Int → Option (Bool)
  | 0, _, _ => none
  | n + 1, x0, x3 =>
    bif (decide ((x3 : Int) < (List.length x0 : Int))) then (
      if (0 : Int) ≤ x3 ∧ x3 < (List.length x0) then
      bif (decide ((((List.getD x0 (Int.toNat x3) 0).toNat : Int) : Int) < 32)) then (
        some false
      ) else (
        bif (decide ((((List.getD x0 (Int.toNat x3) 0).toNat : Int) : Int) > 126)) then (
          some false
        ) else (
          bif ((((List.getD x0 (Int.toNat x3) 0).toNat : Int) : Int) == 34) then (
            some false
          ) else (
            (xCC N n x0 (IntKind.i64.wrap (x3 + 1)))
          )
        )
      )
      else none
    ) else (
      some (decide (((List.length x0 : Int) : Int) ≤ 20))
    )
def xEN (N : Nat) (a0 : Str) : Option (Bool) :=
  (xCC N N a0 0)
def xBQ (N : Nat) : Nat → Str → Int → Option (Bool)
  | 0, _, _ => none
  | n + 1, x0, x3 =>
    bif (decide ((x3 : Int) < (List.length x0 : Int))) then (
      if (0 : Int) ≤ x3 ∧ x3 < (List.length x0) then
      bif (decide ((((List.getD x0 (Int.toNat x3) 0).toNat : Int) : Int) ≥ 97)) then (
        bif (!(decide ((((List.getD x0 (Int.toNat x3) 0).toNat : Int) : Int) ≤ 122))) then (
          bif ((x3 : Int) == 0) then (
            some false
          ) else (
            bif (decide ((((List.getD x0 (Int.toNat x3) 0).toNat : Int) : Int) < 48)) then (
              some false
            ) else (
              bif (decide ((((List.getD x0 (Int.toNat x3) 0).toNat : Int) : Int) > 57)) then (
                some false
              ) else (
                (xBQ N n x0 (IntKind.i64.wrap (x3 + 1)))
              )
            )
          )
        ) else (
          (xBQ N n x0 (IntKind.i64.wrap (x3 + 1)))
        )
      ) else (
        bif ((x3 : Int) == 0) then (
          some false
        ) else (
          bif (decide ((((List.getD x0 (Int.toNat x3) 0).toNat : Int) : Int) < 48)) then (
            some false
          ) else (
            bif (decide ((((List.getD x0 (Int.toNat x3) 0).toNat : Int) : Int) > 57)) then (
              some false
            ) else (
              (xBQ N n x0 (IntKind.i64.wrap (x3 + 1)))
            )
          )
        )
      )
      else none
    ) else (
      Option.bind (xDB N (List.length x0 : Int) 1 8) fun r1 =>
      some r1
    )
def impl_isWord (N : Nat) (a0 : Str) : Option (Bool) :=
  (xBQ N N a0 0)
def xEd (N : Nat) (a0 : Str) : Option (Int) :=
  bif ((a0 : Str) == [99, 108, 111, 99, 107]) then (
    some 0
  ) else (
    bif ((a0 : Str) == [108, 101, 110]) then (
      some 1
    ) else (
      bif ((a0 : Str) == [115, 117, 109]) then (
        some 1
      ) else (
        bif ((a0 : Str) == [114, 111, 119, 115]) then (
          some 1
        ) else (
          bif ((a0 : Str) == [99, 104, 97, 110, 99, 101]) then (
            some 1
          ) else (
            bif ((a0 : Str) == [102, 105, 108, 101]) then (
              some 1
            ) else (
              bif ((a0 : Str) == [116, 97, 107, 101]) then (
                some 2
              ) else (
                bif ((a0 : Str) == [115, 107, 105, 112]) then (
                  some 2
                ) else (
                  bif ((a0 : Str) == [114, 97, 110, 103, 101]) then (
                    some 2
                  ) else (
                    bif ((a0 : Str) == [110, 116, 104]) then (
                      some 2
                    ) else (
                      bif ((a0 : Str) == [107, 101, 101, 112]) then (
                        some 2
                      ) else (
                        bif ((a0 : Str) == [99, 111, 108, 117, 109, 110]) then (
                          some 2
                        ) else (
                          bif ((a0 : Str) == [116, 97, 98, 108, 101]) then (
                            some 2
                          ) else (
                            bif ((a0 : Str) == [119, 104, 101, 114, 101]) then (
                              some 3
                            ) else (
                              bif ((a0 : Str) == [103, 114, 111, 117, 112]) then (
                                some 3
                              ) else (
                                bif ((a0 : Str) == [106, 111, 105, 110]) then (
                                  some 3
                                ) else (
                                  bif ((a0 : Str) == [97, 100, 100]) then (
                                    some 4
                                  ) else (
                                    some (-1)
                                  )
                                )
                              )
                            )
                          )
                        )
                      )
                    )
                  )
                )
              )
            )
          )
        )
      )
    )
  )
def xD0 (N : Nat) (a0 : Str) : Option (Bool) :=
  bif ((a0 : Str) == [108, 101, 116]) then (
    some true
  ) else (
    bif ((a0 : Str) == [105, 110]) then (
      some true
    ) else (
      bif ((a0 : Str) == [105, 102]) then (
        some true
      ) else (
        bif ((a0 : Str) == [116, 104, 101, 110]) then (
          some true
        ) else (
          bif ((a0 : Str) == [101, 108, 115, 101]) then (
            some true
          ) else (
            bif ((a0 : Str) == [102, 111, 114]) then (
              some true
            ) else (
              bif ((a0 : Str) == [100, 111]) then (
                some true
              ) else (
                Option.bind (xEd N a0) fun r1 =>
                some (decide ((r1 : Int) ≥ 0))
              )
            )
          )
        )
      )
    )
  )
def xDS (N : Nat) (a0 : Str) : Option (Bool) :=
  Option.bind (impl_isWord N a0) fun r1 =>
  bif r1 then (
    Option.bind (xD0 N a0) fun r2 =>
    some (!r2)
  ) else (
    some false
  )
def xCr (N : Nat) : Nat → Str → (List Str) → Int → Int → Option (Int)
  | 0, _, _, _, _ => none
  | n + 1, x1, x7, x8, x9 =>
    bif (decide ((x9 : Int) < x8)) then (
      if (0 : Int) ≤ x9 ∧ x9 < (List.length x7) then
      bif (((List.getD x7 (Int.toNat x9) Ty.str.dflt) : Str) == x1) then (
        some x9
      ) else (
        (xCr N n x1 x7 x8 (IntKind.i64.wrap (x9 + 1)))
      )
      else none
    ) else (
      some (-1)
    )
def impl_IndexOf (N : Nat) (a0 : List Str) (a1 : Str) : Option (Int) :=
  (xCr N N a1 a0 (List.length a0 : Int) 0)
def xBq (N : Nat) : Nat → (List Str) → (List Str) → Int → Int → Option (Bool)
  | 0, _, _, _, _ => none
  | n + 1, x0, x5, x6, x7 =>
    bif (decide ((x7 : Int) < x6)) then (
      if (0 : Int) ≤ x7 ∧ x7 < (List.length x5) then
      Option.bind (impl_IndexOf N x0 (List.getD x5 (Int.toNat x7) Ty.str.dflt)) fun r1 =>
      bif ((r1 : Int) != x7) then (
        some false
      ) else (
        (xBq N n x0 x5 x6 (IntKind.i64.wrap (x7 + 1)))
      )
      else none
    ) else (
      some true
    )
def xEM (N : Nat) (a0 : List Str) : Option (Bool) :=
  (xBq N N a0 a0 (List.length a0 : Int) 0)
def xCh (N : Nat) : Nat → (List Str) → (List Str) → Int → Int → Option (Bool)
  | 0, _, _, _, _ => none
  | n + 1, x0, x5, x6, x7 =>
    bif (decide ((x7 : Int) < x6)) then (
      if (0 : Int) ≤ x7 ∧ x7 < (List.length x5) then
      Option.bind (xDS N (List.getD x5 (Int.toNat x7) Ty.str.dflt)) fun r1 =>
      bif (!r1) then (
        some false
      ) else (
        (xCh N n x0 x5 x6 (IntKind.i64.wrap (x7 + 1)))
      )
      else none
    ) else (
      Option.bind (xDB N (List.length x0 : Int) 1 4) fun r1 =>
      bif r1 then (
        Option.bind (xEM N x0) fun r2 =>
        some r2
      ) else (
        some false
      )
    )
def xE2 (N : Nat) (a0 : List Str) : Option (Bool) :=
  (xCh N N a0 a0 (List.length a0 : Int) 0)
def xEr (N : Nat) (a0 : Org) (a1 : Org) : Option (Bool) :=
  bif (decide (((Org.cell a0) : Int) < (Org.cell a1))) then (
    some true
  ) else (
    bif (((Org.cell a0) : Int) == (Org.cell a1)) then (
      some (decide (((Org.row a0) : Int) < (Org.row a1)))
    ) else (
      some false
    )
  )
def xBD (N : Nat) (k4 : (List Rowd) → Int → Int → Val → Option (Bool)) : Nat → (List Rowd) → Int → Int → (List Org) → Int → Int → Val → Rowd → Option (Bool)
  | 0, _, _, _, _, _, _, _, _ => none
  | n + 1, x20, x21, x22, x45, x46, x47, b1, b4 =>
    bif (decide ((x47 : Int) < x46)) then (
      if (0 : Int) ≤ x47 ∧ x47 < (List.length x45) then
      bif (decide (((Org.cell (List.getD x45 (Int.toNat x47) Ty.org.dflt)) : Int) < 0)) then (
        some false
      ) else (
        bif (decide (((Org.row (List.getD x45 (Int.toNat x47) Ty.org.dflt)) : Int) < 0)) then (
          some false
        ) else (
          bif (decide ((x47 : Int) > 0)) then (
            if (0 : Int) ≤ (IntKind.i64.wrap (x47 - 1)) ∧ (IntKind.i64.wrap (x47 - 1)) < (List.length (Rowd.frm b4)) then
            Option.bind (xEr N (List.getD (Rowd.frm b4) (Int.toNat (IntKind.i64.wrap (x47 - 1))) Ty.org.dflt) (List.getD x45 (Int.toNat x47) Ty.org.dflt)) fun r1 =>
            bif (!r1) then (
              some false
            ) else (
              (xBD N k4 n x20 x21 x22 x45 x46 (IntKind.i64.wrap (x47 + 1)) b1 b4)
            )
            else none
          ) else (
            (xBD N k4 n x20 x21 x22 x45 x46 (IntKind.i64.wrap (x47 + 1)) b1 b4)
          )
        )
      )
      else none
    ) else (
      (k4 x20 x21 (IntKind.i64.wrap (x22 + 1)) b1)
    )
def xCt (N : Nat) (k4 : (List Rowd) → Int → Int → Val → Option (Bool)) : Nat → (List Rowd) → Int → Int → (List Int) → Int → Int → Val → Rowd → Option (Bool)
  | 0, _, _, _, _, _, _, _, _ => none
  | n + 1, x20, x21, x22, x34, x35, x36, b1, b4 =>
    bif (decide ((x36 : Int) < x35)) then (
      if (0 : Int) ≤ x36 ∧ x36 < (List.length x34) then
      Option.bind (xC4 N (List.getD x34 (Int.toNat x36) Ty.int.dflt)) fun r1 =>
      bif (!r1) then (
        some false
      ) else (
        (xCt N k4 n x20 x21 x22 x34 x35 (IntKind.i64.wrap (x36 + 1)) b1 b4)
      )
      else none
    ) else (
      (xBD N k4 N x20 x21 x22 (Rowd.frm b4) (List.length (Rowd.frm b4) : Int) 0 b1 b4)
    )
def xCs (N : Nat) : Nat → (List Rowd) → Int → Int → Val → Option (Bool)
  | 0, _, _, _, _ => none
  | n + 1, x20, x21, x22, b1 =>
    bif (decide ((x22 : Int) < x21)) then (
      if (0 : Int) ≤ x22 ∧ x22 < (List.length x20) then
      bif (((List.length (Rowd.cells (List.getD x20 (Int.toNat x22) Ty.row.dflt)) : Int) : Int) != (List.length (Val.columns b1) : Int)) then (
        some false
      ) else (
        (xCt N (fun z0 z1 z2 z3 => (xCs N n z0 z1 z2 z3)) N x20 x21 x22 (Rowd.cells (List.getD x20 (Int.toNat x22) Ty.row.dflt)) (List.length (Rowd.cells (List.getD x20 (Int.toNat x22) Ty.row.dflt)) : Int) 0 b1 (List.getD x20 (Int.toNat x22) Ty.row.dflt))
      )
      else none
    ) else (
      some true
    )
def xEf (N : Nat) (a0 : Val) : Option (Bool) :=
  Option.bind (xE2 N (Val.columns a0)) fun r1 =>
  bif (!r1) then (
    some false
  ) else (
    bif (decide (((List.length (Val.rows a0) : Int) : Int) > 12)) then (
      some false
    ) else (
      (xCs N N (Val.rows a0) (List.length (Val.rows a0) : Int) 0 a0)
    )
  )
def xC1 (N : Nat) (q0 : Val → Option (Int)) : Nat → Int → (List Val) → Int → Int → Option (Int)
  | 0, _, _, _, _ => none
  | n + 1, x3, x7, x8, x9 =>
    bif (decide ((x9 : Int) < x8)) then (
      if (0 : Int) ≤ x9 ∧ x9 < (List.length x7) then
      Option.bind (q0 (List.getD x7 (Int.toNat x9) Ty.val.dflt)) fun r1 =>
      (xC1 N q0 n (if (r1 : Int) > x3 then r1 else x3) x7 x8 (IntKind.i64.wrap (x9 + 1)))
      else none
    ) else (
      some (IntKind.i64.wrap (x3 + 1))
    )
def impl_DepthOf_body (N : Nat) (q0 : Val → Option (Int)) (a0 : Val) : Option (Int) :=
  (xC1 N q0 N 0 (Val.list a0) (List.length (Val.list a0) : Int) 0)
def xCK (N : Nat) : Nat → Val → Option (Int)
  | 0, _ => none
  | d + 1, a0 => impl_DepthOf_body N (xCK N d) a0
def xE1 (N : Nat) (a0 : Val) : Option (Int) := xCK N N a0
def xAq (N : Nat) (q0 : Val → Option (Bool)) : Nat → (List Val) → Int → Int → Val → Option (Bool)
  | 0, _, _, _, _ => none
  | n + 1, x124, x125, x126, b1 =>
    bif (decide ((x126 : Int) < x125)) then (
      if (0 : Int) ≤ x126 ∧ x126 < (List.length x124) then
      bif (((Val.kind (List.getD x124 (Int.toNat x126) Ty.val.dflt)) : Int) != 1) then (
        bif (((Val.kind (List.getD x124 (Int.toNat x126) Ty.val.dflt)) : Int) != 2) then (
          bif (((Val.kind (List.getD x124 (Int.toNat x126) Ty.val.dflt)) : Int) != 3) then (
            some false
          ) else (
            Option.bind (q0 (List.getD x124 (Int.toNat x126) Ty.val.dflt)) fun r1 =>
            bif (!r1) then (
              some false
            ) else (
              (xAq N q0 n x124 x125 (IntKind.i64.wrap (x126 + 1)) b1)
            )
          )
        ) else (
          Option.bind (q0 (List.getD x124 (Int.toNat x126) Ty.val.dflt)) fun r1 =>
          bif (!r1) then (
            some false
          ) else (
            (xAq N q0 n x124 x125 (IntKind.i64.wrap (x126 + 1)) b1)
          )
        )
      ) else (
        Option.bind (q0 (List.getD x124 (Int.toNat x126) Ty.val.dflt)) fun r1 =>
        bif (!r1) then (
          some false
        ) else (
          (xAq N q0 n x124 x125 (IntKind.i64.wrap (x126 + 1)) b1)
        )
      )
      else none
    ) else (
      bif (((Val.n b1) : Int) == 0) then (
        bif (((Val.step b1) : Int) == 0) then (
          bif (((Val.text b1) : Str) == []) then (
            bif (((List.length (Val.columns b1) : Int) : Int) == 0) then (
              bif (((List.length (Val.rows b1) : Int) : Int) == 0) then (
                bif (decide (((List.length (Val.list b1) : Int) : Int) ≤ 8)) then (
                  Option.bind (xE1 N b1) fun r1 =>
                  some (decide ((r1 : Int) ≤ 3))
                ) else (
                  some false
                )
              ) else (
                some false
              )
            ) else (
              some false
            )
          ) else (
            some false
          )
        ) else (
          some false
        )
      ) else (
        some false
      )
    )
def xCX (N : Nat) (q0 : Val → Option (Bool)) (a0 : Val) : Option (Bool) :=
  bif (((List.length (Val.list a0) : Int) : Int) == 0) then (
    bif (((List.length (Val.columns a0) : Int) : Int) == 0) then (
      bif (((Val.kind a0) : Int) == 1) then (
        bif (((List.length (Val.rows a0) : Int) : Int) == 0) then (
          bif (((Val.step a0) : Int) == 0) then (
            bif (((Val.text a0) : Str) == []) then (
              Option.bind (xC4 N (Val.n a0)) fun r1 =>
              some r1
            ) else (
              some false
            )
          ) else (
            some false
          )
        ) else (
          some false
        )
      ) else (
        bif (((Val.kind a0) : Int) == 2) then (
          bif (((List.length (Val.rows a0) : Int) : Int) == 0) then (
            bif (((Val.n a0) : Int) == 0) then (
              bif (((Val.step a0) : Int) == 0) then (
                Option.bind (xEN N (Val.text a0)) fun r1 =>
                some r1
              ) else (
                some false
              )
            ) else (
              some false
            )
          ) else (
            some false
          )
        ) else (
          bif (((Val.kind a0) : Int) == 4) then (
            bif (((List.length (Val.rows a0) : Int) : Int) == 0) then (
              bif (((Val.text a0) : Str) == []) then (
                Option.bind (xC4 N (Val.n a0)) fun r1 =>
                bif r1 then (
                  Option.bind (xC4 N (Val.step a0)) fun r2 =>
                  some r2
                ) else (
                  some false
                )
              ) else (
                some false
              )
            ) else (
              some false
            )
          ) else (
            bif (((Val.kind a0) : Int) == 6) then (
              bif (((List.length (Val.rows a0) : Int) : Int) == 0) then (
                bif (((Val.step a0) : Int) == 0) then (
                  bif (((Val.text a0) : Str) == []) then (
                    Option.bind (xDB N (Val.n a0) 1 8) fun r1 =>
                    some r1
                  ) else (
                    some false
                  )
                ) else (
                  some false
                )
              ) else (
                some false
              )
            ) else (
              bif (((Val.kind a0) : Int) == 5) then (
                bif (((Val.n a0) : Int) == 0) then (
                  bif (((Val.step a0) : Int) == 0) then (
                    bif (((Val.text a0) : Str) == []) then (
                      Option.bind (xEf N a0) fun r1 =>
                      some r1
                    ) else (
                      some false
                    )
                  ) else (
                    some false
                  )
                ) else (
                  some false
                )
              ) else (
                bif (((Val.kind a0) : Int) == 3) then (
                  (xAq N q0 N (Val.list a0) (List.length (Val.list a0) : Int) 0 a0)
                ) else (
                  some false
                )
              )
            )
          )
        )
      )
    ) else (
      bif (((Val.kind a0) : Int) == 1) then (
        some false
      ) else (
        bif (((Val.kind a0) : Int) == 2) then (
          some false
        ) else (
          bif (((Val.kind a0) : Int) == 4) then (
            some false
          ) else (
            bif (((Val.kind a0) : Int) == 6) then (
              some false
            ) else (
              bif (((Val.kind a0) : Int) == 5) then (
                bif (((Val.n a0) : Int) == 0) then (
                  bif (((Val.step a0) : Int) == 0) then (
                    bif (((Val.text a0) : Str) == []) then (
                      Option.bind (xEf N a0) fun r1 =>
                      some r1
                    ) else (
                      some false
                    )
                  ) else (
                    some false
                  )
                ) else (
                  some false
                )
              ) else (
                bif (((Val.kind a0) : Int) == 3) then (
                  (xAq N q0 N (Val.list a0) (List.length (Val.list a0) : Int) 0 a0)
                ) else (
                  some false
                )
              )
            )
          )
        )
      )
    )
  ) else (
    bif (((Val.kind a0) : Int) == 1) then (
      some false
    ) else (
      bif (((Val.kind a0) : Int) == 2) then (
        some false
      ) else (
        bif (((Val.kind a0) : Int) == 4) then (
          some false
        ) else (
          bif (((Val.kind a0) : Int) == 6) then (
            some false
          ) else (
            bif (((Val.kind a0) : Int) == 5) then (
              bif (((Val.n a0) : Int) == 0) then (
                bif (((Val.step a0) : Int) == 0) then (
                  bif (((Val.text a0) : Str) == []) then (
                    some false
                  ) else (
                    some false
                  )
                ) else (
                  some false
                )
              ) else (
                some false
              )
            ) else (
              bif (((Val.kind a0) : Int) == 3) then (
                (xAq N q0 N (Val.list a0) (List.length (Val.list a0) : Int) 0 a0)
              ) else (
                some false
              )
            )
          )
        )
      )
    )
  )
def xAJ (N : Nat) : Nat → Val → Option (Bool)
  | 0, _ => none
  | d + 1, a0 => xCX N (xAJ N d) a0
def xCY (a0 : Int) : List Arg := [.val (.v false [.int .i64 a0])]
def xCg (r : Val) : CallO := ⟨.v true [.int .i64 (Val.kind r), .int .i64 (Val.n r), .int .i64 (Val.step r), .str (Val.text r), .sl .own .val (Val.list r), .sl .own .str (Val.columns r), .sl .own .row (Val.rows r)], [], []⟩
def xDr (N : Nat) (a0 : Int) : Option (Val) :=
  some (Val.mk 6 a0 0 [] [] [] [])
def xDs (a0 : Rowd) : List Arg := [.val (.v true [.sl .ro .int (Rowd.cells a0), .sl .ro .org (Rowd.frm a0)])]
def xC2 (r : Rowd) : CallO := ⟨.v true [.sl .own .int (Rowd.cells r), .sl .own .org (Rowd.frm r)], [], []⟩
def xEe (N : Nat) (a0 : Rowd) : Option (Rowd) :=
  if 0 + List.length (Rowd.cells a0) ≤ Lim then
  if 0 + List.length (Rowd.frm a0) ≤ Lim then
  some (Rowd.mk ([] ++ (Rowd.cells a0)) ([] ++ (Rowd.frm a0)))
  else none
  else none
def xAY (a0 : Val) : List Arg := [.val (.v true [.int .i64 (Val.kind a0), .int .i64 (Val.n a0), .int .i64 (Val.step a0), .str (Val.text a0), .sl .ro .val (Val.list a0), .sl .ro .str (Val.columns a0), .sl .ro .row (Val.rows a0)])]
def xAs (r : Val) : CallO := ⟨.v true [.int .i64 (Val.kind r), .int .i64 (Val.n r), .int .i64 (Val.step r), .str (Val.text r), .sl .own .val (Val.list r), .sl .own .str (Val.columns r), .sl .own .row (Val.rows r)], [], []⟩
def xBr (N : Nat) (q0 : Val → Option (Val)) (q1 : (List Val) → Option ((List Val))) : Nat → (List Rowd) → Int → Int → Val → Val → Option (Val)
  | 0, _, _, _, _, _ => none
  | n + 1, x18, x19, x20, b2, b3 =>
    bif (decide ((x20 : Int) < x19)) then (
      if (0 : Int) ≤ x20 ∧ x20 < (List.length x18) then
      Option.bind (xEe N (List.getD x18 (Int.toNat x20) Ty.row.dflt)) fun r1 =>
      if List.length (Val.rows b3) + List.length [r1] ≤ Lim then
      (xBr N q0 q1 n x18 x19 (IntKind.i64.wrap (x20 + 1)) b2 (Val.mk (Val.kind b3) (Val.n b3) (Val.step b3) (Val.text b3) (Val.list b3) (Val.columns b3) ((Val.rows b3) ++ [r1])))
      else none
      else none
    ) else (
      some b3
    )
def xB2 (N : Nat) (q0 : Val → Option (Val)) (q1 : (List Val) → Option ((List Val))) (a0 : Val) : Option (Val) :=
  Option.bind (q1 (Val.list a0)) fun r1 =>
  if 0 + List.length (Val.columns a0) ≤ Lim then
  (xBr N q0 q1 N (Val.rows a0) (List.length (Val.rows a0) : Int) 0 (Val.mk 0 0 0 [] [] [] []) (Val.mk (Val.kind a0) (Val.n a0) (Val.step a0) (Val.text a0) r1 ([] ++ (Val.columns a0)) []))
  else none
def xCi (a0 : List Val) : List Arg := [.val (.v false [.sl .ro .val a0])]
def xBh (r : (List Val)) : CallO := ⟨.v false [.sl .own .val r], [], []⟩
def xBA (N : Nat) (q0 : Val → Option (Val)) (q1 : (List Val) → Option ((List Val))) : Nat → (List Val) → (List Val) → Int → Int → Option ((List Val))
  | 0, _, _, _, _ => none
  | n + 1, x3, x7, x8, x9 =>
    bif (decide ((x9 : Int) < x8)) then (
      if (0 : Int) ≤ x9 ∧ x9 < (List.length x7) then
      Option.bind (q0 (List.getD x7 (Int.toNat x9) Ty.val.dflt)) fun r1 =>
      if List.length x3 + List.length [(Val.re r1)] ≤ Lim then
      (xBA N q0 q1 n (x3 ++ [(Val.re r1)]) x7 x8 (IntKind.i64.wrap (x9 + 1)))
      else none
      else none
    ) else (
      some x3
    )
def xBJ (N : Nat) (q0 : Val → Option (Val)) (q1 : (List Val) → Option ((List Val))) (a0 : List Val) : Option ((List Val)) :=
  (xBA N q0 q1 N [] a0 (List.length a0 : Int) 0)
structure impl_copyValue_rec where
  c_impl_copyValue : Val → Option (Val)
  c_impl_copyValues : (List Val) → Option ((List Val))
def xAi (N : Nat) : Nat → impl_copyValue_rec
  | 0 => ⟨fun _ => none, fun _ => none⟩
  | d + 1 => ⟨xB2 N (xAi N d).c_impl_copyValue (xAi N d).c_impl_copyValues, xBJ N (xAi N d).c_impl_copyValue (xAi N d).c_impl_copyValues⟩
def xDb (N : Nat) (a0 : Val) : Option (Val) := (xAi N N).c_impl_copyValue a0
def laws_markIntS_b2 (N : Nat) : Nat → (List Int) → Int → Int → Option (Int × (List Int))
  | 0, _, _, _ => none
  | n + 1, x0, x1, x5 =>
    bif (decide ((x5 : Int) < (List.length x0 : Int))) then (
      if (0 : Int) ≤ x5 ∧ x5 < (List.length x0) then
      (laws_markIntS_b2 N n (List.set x0 (Int.toNat x5) x1) (IntKind.i64.wrap (x1 + 1)) (IntKind.i64.wrap (x5 + 1)))
      else none
    ) else (
      some (x1, x0)
    )
def xDl (a0 : List Int) : List Arg := [.val (.v false [.sl .ro .byte a0])]
def xB3 (r : Bool) : CallO := ⟨.v false [.bool r], [], []⟩
def laws_big (N : Nat) (a0 : List Int) : Option (Bool) :=
  some (decide (((List.length a0 : Int) : Int) > 1048576))
def xDX (a0 : List Int) : List Arg := [.val (.v false [.sl .ro .byte a0])]
def xCI (r : Cur) : CallO := ⟨.tup [(false, [.ptr 0 0]), (true, [.sl .ro .byte (Cur.b r), .int .i64 (Cur.i r), .int .i64 (Cur.h r)])], [], []⟩
def xC8 (N : Nat) : Nat → (List Int) → Int → Int → Option (Cur)
  | 0, _, _, _ => none
  | n + 1, x0, x3, x4 =>
    bif (decide ((x4 : Int) < (List.length x0 : Int))) then (
      bif (decide ((x4 : Int) < 4000)) then (
        if (0 : Int) ≤ x4 ∧ x4 < (List.length x0) then
        (xC8 N n x0 (andI .i64 (IntKind.i64.wrap ((IntKind.i64.wrap ((IntKind.i64.wrap (x3 * 131)) + (IntKind.i64.wrap ((List.getD x0 (Int.toNat x4) Ty.byte.dflt))))) + 7)) 1073741823) (IntKind.i64.wrap (x4 + 1)))
        else none
      ) else (
        some (Cur.mk x0 0 x3)
      )
    ) else (
      some (Cur.mk x0 0 x3)
    )
def xDZ (N : Nat) (a0 : List Int) : Option (Cur) :=
  (xC8 N N a0 (IntKind.i64.wrap (26583 + (List.length a0 : Int))) 0)
def xBx (a0 : Cur) : List Arg := [.box [.sl .ro .byte (Cur.b a0), .int .i64 (Cur.i a0), .int .i64 (Cur.h a0)]]
def xAE (r : Int × Cur) : CallO := ⟨.v false [.int .i64 r.1], [[.sl .ro .byte (Cur.b r.2), .int .i64 (Cur.i r.2), .int .i64 (Cur.h r.2)]], []⟩
def xCG (N : Nat) (a0 : Cur) : Option (Int × Cur) :=
  bif (decide (((Cur.i a0) : Int) < (List.length (Cur.b a0) : Int))) then (
    if (0 : Int) ≤ (Cur.i a0) ∧ (Cur.i a0) < (List.length (Cur.b a0)) then
    some ((andI .i64 (IntKind.i64.wrap ((andI .i64 (xorI .i64 (Int.fdiv (IntKind.i64.wrap ((IntKind.i64.wrap ((Cur.h a0) * 6364136223846793005)) + 1442695040888963407)) ((2 : Int) ^ (Int.toNat 33))) (Int.fdiv (IntKind.i64.wrap ((IntKind.i64.wrap ((Cur.h a0) * 6364136223846793005)) + 1442695040888963407)) ((2 : Int) ^ (Int.toNat 45)))) 255) + (IntKind.i64.wrap ((List.getD (Cur.b a0) (Int.toNat (Cur.i a0)) Ty.byte.dflt))))) 255), (Cur.mk (Cur.b a0) (IntKind.i64.wrap ((Cur.i a0) + 1)) (IntKind.i64.wrap ((IntKind.i64.wrap ((Cur.h a0) * 6364136223846793005)) + 1442695040888963407))))
    else none
  ) else (
    some ((andI .i64 (xorI .i64 (Int.fdiv (IntKind.i64.wrap ((IntKind.i64.wrap ((Cur.h a0) * 6364136223846793005)) + 1442695040888963407)) ((2 : Int) ^ (Int.toNat 33))) (Int.fdiv (IntKind.i64.wrap ((IntKind.i64.wrap ((Cur.h a0) * 6364136223846793005)) + 1442695040888963407)) ((2 : Int) ^ (Int.toNat 45)))) 255), (Cur.mk (Cur.b a0) (Cur.i a0) (IntKind.i64.wrap ((IntKind.i64.wrap ((Cur.h a0) * 6364136223846793005)) + 1442695040888963407))))
  )
def xAd (a0 : Cur) (a1 : Int) : List Arg := [.box [.sl .ro .byte (Cur.b a0), .int .i64 (Cur.i a0), .int .i64 (Cur.h a0)], .val (.v false [.int .i64 a1])]
def xAa (r : Int × Cur) : CallO := ⟨.v false [.int .i64 r.1], [[.sl .ro .byte (Cur.b r.2), .int .i64 (Cur.i r.2), .int .i64 (Cur.h r.2)]], []⟩
def xAr (N : Nat) (a0 : Cur) (a1 : Int) : Option (Int × Cur) :=
  bif (decide ((a1 : Int) ≤ 0)) then (
    some (0, a0)
  ) else (
    bif (decide ((a1 : Int) ≤ 256)) then (
      Option.bind (xCG N a0) fun r1 =>
      if a1 ≠ (0 : Int) then
      some ((Int.tmod r1.1 a1), r1.2)
      else none
    ) else (
      Option.bind (xCG N a0) fun r1 =>
      Option.bind (xCG N r1.2) fun r2 =>
      Option.bind (xCG N r2.2) fun r3 =>
      Option.bind (xCG N r3.2) fun r4 =>
      if a1 ≠ (0 : Int) then
      some ((Int.tmod (IntKind.i64.wrap ((IntKind.i64.wrap ((IntKind.i64.wrap ((IntKind.i64.wrap (r1.1 * 16777216)) + (IntKind.i64.wrap (r2.1 * 65536)))) + (IntKind.i64.wrap (r3.1 * 256)))) + r4.1)) a1), r4.2)
      else none
    )
  )
def xAx (a0 : Cur) (a1 : Int) : List Arg := [.box [.sl .ro .byte (Cur.b a0), .int .i64 (Cur.i a0), .int .i64 (Cur.h a0)], .val (.v false [.int .i64 a1])]
def xAf (r : Bool × Cur) : CallO := ⟨.v false [.bool r.1], [[.sl .ro .byte (Cur.b r.2), .int .i64 (Cur.i r.2), .int .i64 (Cur.h r.2)]], []⟩
def xB6 (N : Nat) (a0 : Cur) (a1 : Int) : Option (Bool × Cur) :=
  Option.bind (xAr N a0 a1) fun r1 =>
  some (((r1.1 : Int) == 0), r1.2)
def xCw (a0 : Cur) (a1 : List Int) : List Arg := [.box [.sl .ro .byte (Cur.b a0), .int .i64 (Cur.i a0), .int .i64 (Cur.h a0)], .val (.v false [.sl .ro .int a1])]
def xBu (r : Int × Cur) : CallO := ⟨.v false [.int .i64 r.1], [[.sl .ro .byte (Cur.b r.2), .int .i64 (Cur.i r.2), .int .i64 (Cur.h r.2)]], []⟩
def xCn (N : Nat) (a0 : Cur) (a1 : List Int) : Option (Int × Cur) :=
  Option.bind (xAr N a0 (List.length a1 : Int)) fun r1 =>
  if (0 : Int) ≤ r1.1 ∧ r1.1 < (List.length a1) then
  some ((List.getD a1 (Int.toNat r1.1) Ty.int.dflt), r1.2)
  else none
def xCo (a0 : Cur) (a1 : List Str) : List Arg := [.box [.sl .ro .byte (Cur.b a0), .int .i64 (Cur.i a0), .int .i64 (Cur.h a0)], .val (.v false [.sl .ro .str a1])]
def xA4 (r : Str × Cur) : CallO := ⟨.v false [.str r.1], [[.sl .ro .byte (Cur.b r.2), .int .i64 (Cur.i r.2), .int .i64 (Cur.h r.2)]], []⟩
def xCJ (N : Nat) (a0 : Cur) (a1 : List Str) : Option (Str × Cur) :=
  Option.bind (xAr N a0 (List.length a1 : Int)) fun r1 =>
  if (0 : Int) ≤ r1.1 ∧ r1.1 < (List.length a1) then
  some ((List.getD a1 (Int.toNat r1.1) Ty.str.dflt), r1.2)
  else none
def xA0 (a0 : Cur) : List Arg := [.box [.sl .ro .byte (Cur.b a0), .int .i64 (Cur.i a0), .int .i64 (Cur.h a0)]]
def xAo (r : Int × Cur) : CallO := ⟨.v false [.int .i64 r.1], [[.sl .ro .byte (Cur.b r.2), .int .i64 (Cur.i r.2), .int .i64 (Cur.h r.2)]], []⟩
def xBw (N : Nat) (a0 : Cur) : Option (Int × Cur) :=
  Option.bind (xB6 N a0 12) fun r1 =>
  bif r1.1 then (
    Option.bind (xCn N r1.2 [1000000000, (-1000000000), 999999999, 500000000, 40000]) fun r2 =>
    some (r2.1, r2.2)
  ) else (
    Option.bind (xAr N r1.2 12) fun r2 =>
    some ((IntKind.i64.wrap (r2.1 - 3)), r2.2)
  )
def xAT (a0 : Val) (a1 : Val) : List Arg := [.val (.v true [.int .i64 (Val.kind a0), .int .i64 (Val.n a0), .int .i64 (Val.step a0), .str (Val.text a0), .sl .ro .val (Val.list a0), .sl .ro .str (Val.columns a0), .sl .ro .row (Val.rows a0)]), .val (.v true [.int .i64 (Val.kind a1), .int .i64 (Val.n a1), .int .i64 (Val.step a1), .str (Val.text a1), .sl .ro .val (Val.list a1), .sl .ro .str (Val.columns a1), .sl .ro .row (Val.rows a1)])]
def xAn (r : Bool) : CallO := ⟨.v false [.bool r], [], []⟩
def xAO (N : Nat) (a0 : Val) (a1 : Val) : Option (Bool) :=
  Option.bind (xEK N a0 a1 true) fun r1 =>
  some r1
def xCW (a0 : Cur) : List Arg := [.box [.sl .ro .byte (Cur.b a0), .int .i64 (Cur.i a0), .int .i64 (Cur.h a0)]]
def xBy (r : Str × Cur) : CallO := ⟨.v false [.str r.1], [[.sl .ro .byte (Cur.b r.2), .int .i64 (Cur.i r.2), .int .i64 (Cur.h r.2)]], []⟩
def xDn (N : Nat) (a0 : Cur) : Option (Str × Cur) :=
  Option.bind (xCJ N a0 [[], [97], [98], [97, 98], [104, 101, 108, 108, 111], [116, 119, 101, 110, 116, 121, 32, 99, 104, 97, 114, 97, 99, 116, 101, 114, 115, 32, 111, 107], [110, 105, 110, 101, 116, 101, 101, 110, 32, 99, 104, 97, 114, 97, 99, 116, 101, 114, 46]]) fun r1 =>
  some (r1.1, r1.2)
def xBl (a0 : Cur) (a1 : Int) : List Arg := [.box [.sl .ro .byte (Cur.b a0), .int .i64 (Cur.i a0), .int .i64 (Cur.h a0)], .val (.v false [.int .i64 a1])]
def xAG (r : Val × Cur) : CallO := ⟨.v true [.int .i64 (Val.kind r.1), .int .i64 (Val.n r.1), .int .i64 (Val.step r.1), .str (Val.text r.1), .sl .own .val (Val.list r.1), .sl .own .str (Val.columns r.1), .sl .own .row (Val.rows r.1)], [[.sl .ro .byte (Cur.b r.2), .int .i64 (Cur.i r.2), .int .i64 (Cur.h r.2)]], []⟩
def xBC (N : Nat) (q0 : Cur → Int → Option (Val × Cur)) (q1 : Cur → Int → Option (Val × Cur)) : Nat → Int → Int → Int → Cur → Val → Val → Option (Val × Cur)
  | 0, _, _, _, _, _, _ => none
  | n + 1, x1, x6, x7, b0, b4, b5 =>
    bif (decide ((x7 : Int) < x6)) then (
      Option.bind (q1 b0 x1) fun r1 =>
      if List.length (Val.list b5) + List.length [(Val.re r1.1)] ≤ Lim then
      (xBC N q0 q1 n x1 x6 (IntKind.i64.wrap (x7 + 1)) r1.2 b4 (Val.mk (Val.kind b5) (Val.n b5) (Val.step b5) (Val.text b5) ((Val.list b5) ++ [(Val.re r1.1)]) (Val.columns b5) (Val.rows b5)))
      else none
    ) else (
      some (b5, b0)
    )
def xBK (N : Nat) (q0 : Cur → Int → Option (Val × Cur)) (q1 : Cur → Int → Option (Val × Cur)) (a0 : Cur) (a1 : Int) : Option (Val × Cur) :=
  Option.bind (xCn N a0 [0, 1, 2, 3, 3, 4, 5, 8]) fun r1 =>
  (xBC N q0 q1 N a1 r1.1 0 r1.2 (Val.mk 0 0 0 [] [] [] []) (Val.mk 3 0 0 [] [] [] []))
def xAU (a0 : Cur) (a1 : Int) : List Arg := [.box [.sl .ro .byte (Cur.b a0), .int .i64 (Cur.i a0), .int .i64 (Cur.h a0)], .val (.v false [.int .i64 a1])]
def xAI (r : Val × Cur) : CallO := ⟨.v true [.int .i64 (Val.kind r.1), .int .i64 (Val.n r.1), .int .i64 (Val.step r.1), .str (Val.text r.1), .sl .own .val (Val.list r.1), .sl .own .str (Val.columns r.1), .sl .own .row (Val.rows r.1)], [[.sl .ro .byte (Cur.b r.2), .int .i64 (Cur.i r.2), .int .i64 (Cur.h r.2)]], []⟩
def xBL (N : Nat) (q0 : Cur → Int → Option (Val × Cur)) (q1 : Cur → Int → Option (Val × Cur)) (a0 : Cur) (a1 : Int) : Option (Val × Cur) :=
  bif (decide ((a1 : Int) > 1)) then (
    Option.bind (xB6 N a0 4) fun r1 =>
    bif r1.1 then (
      Option.bind (q0 r1.2 (IntKind.i64.wrap (a1 - 1))) fun r2 =>
      some (r2.1, r2.2)
    ) else (
      Option.bind (xB6 N r1.2 4) fun r2 =>
      bif r2.1 then (
        Option.bind (xDn N r2.2) fun r3 =>
        Option.bind (xCQ N r3.1) fun r4 =>
        some (r4, r3.2)
      ) else (
        Option.bind (xBw N r2.2) fun r3 =>
        Option.bind (xAX N r3.1) fun r4 =>
        some (r4, r3.2)
      )
    )
  ) else (
    Option.bind (xB6 N a0 4) fun r1 =>
    bif r1.1 then (
      Option.bind (xDn N r1.2) fun r2 =>
      Option.bind (xCQ N r2.1) fun r3 =>
      some (r3, r2.2)
    ) else (
      Option.bind (xBw N r1.2) fun r2 =>
      Option.bind (xAX N r2.1) fun r3 =>
      some (r3, r2.2)
    )
  )
structure spec_l3DrawList_rec where
  c_spec_l3DrawList : Cur → Int → Option (Val × Cur)
  c_spec_l3Element2 : Cur → Int → Option (Val × Cur)
def xAg (N : Nat) : Nat → spec_l3DrawList_rec
  | 0 => ⟨fun _ _ => none, fun _ _ => none⟩
  | d + 1 => ⟨xBK N (xAg N d).c_spec_l3DrawList (xAg N d).c_spec_l3Element2, xBL N (xAg N d).c_spec_l3DrawList (xAg N d).c_spec_l3Element2⟩
def xD8 (N : Nat) (a0 : Cur) (a1 : Int) : Option (Val × Cur) := (xAg N N).c_spec_l3DrawList a0 a1
def xC9 (a0 : Cur) : List Arg := [.box [.sl .ro .byte (Cur.b a0), .int .i64 (Cur.i a0), .int .i64 (Cur.h a0)]]
def xBY (r : Val × Cur) : CallO := ⟨.v true [.int .i64 (Val.kind r.1), .int .i64 (Val.n r.1), .int .i64 (Val.step r.1), .str (Val.text r.1), .sl .own .val (Val.list r.1), .sl .own .str (Val.columns r.1), .sl .own .row (Val.rows r.1)], [[.sl .ro .byte (Cur.b r.2), .int .i64 (Cur.i r.2), .int .i64 (Cur.h r.2)]], []⟩
def xBX (N : Nat) : Nat → Int → Int → Cur → Val → Val → Option (Val × Cur)
  | 0, _, _, _, _, _ => none
  | n + 1, x4, x5, b0, b2, b3 =>
    bif (decide ((x5 : Int) < x4)) then (
      Option.bind (xBw N b0) fun r1 =>
      Option.bind (xAX N r1.1) fun r2 =>
      if List.length (Val.list b3) + List.length [(Val.re r2)] ≤ Lim then
      (xBX N n x4 (IntKind.i64.wrap (x5 + 1)) r1.2 b2 (Val.mk (Val.kind b3) (Val.n b3) (Val.step b3) (Val.text b3) ((Val.list b3) ++ [(Val.re r2)]) (Val.columns b3) (Val.rows b3)))
      else none
    ) else (
      some (b3, b0)
    )
def xDN (N : Nat) (a0 : Cur) : Option (Val × Cur) :=
  Option.bind (xAr N a0 9) fun r1 =>
  (xBX N N r1.1 0 r1.2 (Val.mk 0 0 0 [] [] [] []) (Val.mk 3 0 0 [] [] [] []))
def xCF (a0 : Int) (a1 : Int) : List Arg := [.val (.v false [.int .i64 a0]), .val (.v false [.int .i64 a1])]
def xB5 (r : Val) : CallO := ⟨.v true [.int .i64 (Val.kind r), .int .i64 (Val.n r), .int .i64 (Val.step r), .str (Val.text r), .sl .own .val (Val.list r), .sl .own .str (Val.columns r), .sl .own .row (Val.rows r)], [], []⟩
def xDU (N : Nat) (a0 : Int) (a1 : Int) : Option (Val) :=
  some (Val.mk 4 a0 a1 [] [] [] [])
def xDM (a0 : Cur) : List Arg := [.box [.sl .ro .byte (Cur.b a0), .int .i64 (Cur.i a0), .int .i64 (Cur.h a0)]]
def xCU (r : (List Org) × Cur) : CallO := ⟨.v false [.sl .own .org r.1], [[.sl .ro .byte (Cur.b r.2), .int .i64 (Cur.i r.2), .int .i64 (Cur.h r.2)]], []⟩
def xCT (N : Nat) : Nat → (List Org) → Int → Int → Int → Cur → Option ((List Org) × Cur)
  | 0, _, _, _, _, _ => none
  | n + 1, x3, x4, x5, x6, b0 =>
    bif (decide ((x6 : Int) < x5)) then (
      Option.bind (xAr N b0 2) fun r1 =>
      if List.length x3 + List.length [(Org.mk x4 (IntKind.i64.wrap (x6 + (IntKind.i64.wrap (r1.1 * 2)))))] ≤ Lim then
      Option.bind (xAr N r1.2 2) fun r2 =>
      (xCT N n (x3 ++ [(Org.mk x4 (IntKind.i64.wrap (x6 + (IntKind.i64.wrap (r1.1 * 2)))))]) (IntKind.i64.wrap ((IntKind.i64.wrap (x4 + 1)) + r2.1)) x5 (IntKind.i64.wrap (x6 + 1)) r2.2)
      else none
    ) else (
      some (x3, b0)
    )
def xEJ (N : Nat) (a0 : Cur) : Option ((List Org) × Cur) :=
  Option.bind (xAr N a0 3) fun r1 =>
  (xCT N N [] 1 r1.1 0 r1.2)
def xBv (a0 : Cur) : List Arg := [.box [.sl .ro .byte (Cur.b a0), .int .i64 (Cur.i a0), .int .i64 (Cur.h a0)]]
def xAz (r : Val × Cur) : CallO := ⟨.v true [.int .i64 (Val.kind r.1), .int .i64 (Val.n r.1), .int .i64 (Val.step r.1), .str (Val.text r.1), .sl .own .val (Val.list r.1), .sl .own .str (Val.columns r.1), .sl .own .row (Val.rows r.1)], [[.sl .ro .byte (Cur.b r.2), .int .i64 (Cur.i r.2), .int .i64 (Cur.h r.2)]], []⟩
def xBm (N : Nat) (k10 : Int → Int → Int → Cur → Val → Val → Option (Val × Cur)) : Nat → Int → Int → Int → Int → Cur → Val → Val → Rowd → Option (Val × Cur)
  | 0, _, _, _, _, _, _, _, _ => none
  | n + 1, x4, x6, x7, x9, b0, b2, b5, b8 =>
    bif (decide ((x9 : Int) < x4)) then (
      Option.bind (xBw N b0) fun r1 =>
      if List.length (Rowd.cells b8) + List.length [r1.1] ≤ Lim then
      (xBm N k10 n x4 x6 x7 (IntKind.i64.wrap (x9 + 1)) r1.2 b2 b5 (Rowd.mk ((Rowd.cells b8) ++ [r1.1]) (Rowd.frm b8)))
      else none
    ) else (
      if List.length (Val.rows b5) + List.length [b8] ≤ Lim then
      (k10 x4 x6 (IntKind.i64.wrap (x7 + 1)) b0 b2 (Val.mk (Val.kind b5) (Val.n b5) (Val.step b5) (Val.text b5) (Val.list b5) (Val.columns b5) ((Val.rows b5) ++ [b8])))
      else none
    )
def xAB (N : Nat) : Nat → Int → Int → Int → Cur → Val → Val → Option (Val × Cur)
  | 0, _, _, _, _, _, _ => none
  | n + 1, x4, x6, x7, b0, b2, b5 =>
    bif (decide ((x7 : Int) < x6)) then (
      Option.bind (xEJ N b0) fun r1 =>
      (xBm N (fun z0 z1 z2 z3 z4 z5 => (xAB N n z0 z1 z2 z3 z4 z5)) N x4 x6 x7 0 r1.2 b2 b5 (Rowd.mk [] r1.1))
    ) else (
      some (b5, b0)
    )
def xCd (N : Nat) (a0 : Cur) : Option (Val × Cur) :=
  Option.bind (xAr N a0 3) fun r1 =>
  if (0 : Int) ≤ (IntKind.i64.wrap (1 + r1.1)) ∧ (IntKind.i64.wrap (1 + r1.1)) ≤ (List.length ([[97], [98], [99], [120]] : List Str)) then
  if 0 + List.length (List.take (Int.toNat (IntKind.i64.wrap (1 + r1.1))) ([[97], [98], [99], [120]] : List Str)) ≤ Lim then
  Option.bind (xB6 N r1.2 5) fun r2 =>
  bif r2.1 then (
    if (0 : Int) ≤ 0 ∧ (0 : Int) < (List.length ([] ++ (List.take (Int.toNat (IntKind.i64.wrap (1 + r1.1))) ([[97], [98], [99], [120]] : List Str)))) then
    if (0 : Int) ≤ 1 ∧ (1 : Int) ≤ (List.length ((fun (z8 : List Str) => List.set z8 (Int.toNat 0) [120]) ([] ++ (List.take (Int.toNat (IntKind.i64.wrap (1 + r1.1))) ([[97], [98], [99], [120]] : List Str))))) then
    Option.bind (xAr N r2.2 6) fun r3 =>
    (xAB N N 1 r3.1 0 r3.2 (Val.mk 0 0 0 [] [] [] []) (Val.mk 5 0 0 [] [] (List.take (Int.toNat 1) ((fun (z8 : List Str) => List.set z8 (Int.toNat 0) [120]) ([] ++ (List.take (Int.toNat (IntKind.i64.wrap (1 + r1.1))) ([[97], [98], [99], [120]] : List Str))))) []))
    else none
    else none
  ) else (
    Option.bind (xAr N r2.2 6) fun r3 =>
    (xAB N N (IntKind.i64.wrap (1 + r1.1)) r3.1 0 r3.2 (Val.mk 0 0 0 [] [] [] []) (Val.mk 5 0 0 [] [] ([] ++ (List.take (Int.toNat (IntKind.i64.wrap (1 + r1.1))) ([[97], [98], [99], [120]] : List Str))) []))
  )
  else none
  else none
def xAH (a0 : Cur) : List Arg := [.box [.sl .ro .byte (Cur.b a0), .int .i64 (Cur.i a0), .int .i64 (Cur.h a0)]]
def xAv (r : Val × Cur) : CallO := ⟨.v true [.int .i64 (Val.kind r.1), .int .i64 (Val.n r.1), .int .i64 (Val.step r.1), .str (Val.text r.1), .sl .own .val (Val.list r.1), .sl .own .str (Val.columns r.1), .sl .own .row (Val.rows r.1)], [[.sl .ro .byte (Cur.b r.2), .int .i64 (Cur.i r.2), .int .i64 (Cur.h r.2)]], []⟩
def xDF (N : Nat) (a0 : Cur) : Option (Val × Cur) :=
  Option.bind (xAr N a0 10) fun r1 =>
  bif ((r1.1 : Int) == 0) then (
    Option.bind (xBw N r1.2) fun r2 =>
    Option.bind (xAX N r2.1) fun r3 =>
    some (r3, r2.2)
  ) else (
    bif ((r1.1 : Int) == 1) then (
      Option.bind (xBw N r1.2) fun r2 =>
      Option.bind (xAX N r2.1) fun r3 =>
      some (r3, r2.2)
    ) else (
      bif ((r1.1 : Int) == 2) then (
        Option.bind (xBw N r1.2) fun r2 =>
        Option.bind (xAX N r2.1) fun r3 =>
        some (r3, r2.2)
      ) else (
        bif ((r1.1 : Int) == 3) then (
          Option.bind (xDn N r1.2) fun r2 =>
          Option.bind (xCQ N r2.1) fun r3 =>
          some (r3, r2.2)
        ) else (
          bif ((r1.1 : Int) == 4) then (
            Option.bind (xD8 N r1.2 3) fun r2 =>
            some (r2.1, r2.2)
          ) else (
            bif ((r1.1 : Int) == 5) then (
              Option.bind (xDN N r1.2) fun r2 =>
              some (r2.1, r2.2)
            ) else (
              bif ((r1.1 : Int) == 6) then (
                Option.bind (xBw N r1.2) fun r2 =>
                Option.bind (xBw N r2.2) fun r3 =>
                Option.bind (xDU N r2.1 r3.1) fun r4 =>
                some (r4, r3.2)
              ) else (
                bif ((r1.1 : Int) == 7) then (
                  Option.bind (xAr N r1.2 8) fun r2 =>
                  Option.bind (xBj N (IntKind.i64.wrap (1 + r2.1))) fun r3 =>
                  some (r3, r2.2)
                ) else (
                  Option.bind (xCd N r1.2) fun r2 =>
                  some (r2.1, r2.2)
                )
              )
            )
          )
        )
      )
    )
  )
def xBe (a0 : Int) (a1 : Val) : List Arg := [.val (.v false [.int .i64 a0]), .val (.v true [.int .i64 (Val.kind a1), .int .i64 (Val.n a1), .int .i64 (Val.step a1), .str (Val.text a1), .sl .ro .val (Val.list a1), .sl .ro .str (Val.columns a1), .sl .ro .row (Val.rows a1)])]
def xAN (r : Val) : CallO := ⟨.v true [.int .i64 (Val.kind r), .int .i64 (Val.n r), .int .i64 (Val.step r), .str (Val.text r), .sl .own .val (Val.list r), .sl .own .str (Val.columns r), .sl .own .row (Val.rows r)], [], []⟩
def xBt (N : Nat) : Nat → Int → Int → Val → Val → Option (Val)
  | 0, _, _, _, _ => none
  | n + 1, x0, x6, b4, b5 =>
    bif (decide ((x6 : Int) < (List.length (Val.rows b5) : Int))) then (
      if (0 : Int) ≤ x6 ∧ x6 < (List.length (Val.rows b5)) then
      (xBt N n x0 (IntKind.i64.wrap (x6 + 1)) b4 (Val.mk (Val.kind b5) (Val.n b5) (Val.step b5) (Val.text b5) (Val.list b5) (Val.columns b5) (List.set (Val.rows b5) (Int.toNat x6) (Rowd.mk (Rowd.cells (List.getD (Val.rows b5) (Int.toNat x6) Ty.row.dflt)) [(Org.mk x0 x6)]))))
      else none
    ) else (
      some b5
    )
def xCM (N : Nat) (a0 : Int) (a1 : Val) : Option (Val) :=
  bif (((Val.kind a1) : Int) != 5) then (
    Option.bind (xBj N 4) fun r1 =>
    some r1
  ) else (
    Option.bind (xC5 N a1) fun r1 =>
    bif (!r1) then (
      Option.bind (xBj N 4) fun r2 =>
      some r2
    ) else (
      bif (decide ((a0 : Int) < 0)) then (
        Option.bind (xBj N 4) fun r2 =>
        some r2
      ) else (
        Option.bind (xEG N a1) fun r2 =>
        (xBt N N a0 0 (Val.mk 0 0 0 [] [] [] []) r2)
      )
    )
  )
def xDk (a0 : Cur) (a1 : Int) : List Arg := [.box [.sl .ro .byte (Cur.b a0), .int .i64 (Cur.i a0), .int .i64 (Cur.h a0)], .val (.v false [.int .i64 a1])]
def xBo (r : Val × Cur) : CallO := ⟨.v true [.int .i64 (Val.kind r.1), .int .i64 (Val.n r.1), .int .i64 (Val.step r.1), .str (Val.text r.1), .sl .own .val (Val.list r.1), .sl .own .str (Val.columns r.1), .sl .own .row (Val.rows r.1)], [[.sl .ro .byte (Cur.b r.2), .int .i64 (Cur.i r.2), .int .i64 (Cur.h r.2)]], []⟩
def xCf (N : Nat) (k3 : Int → Int → Cur → Val → Val → Option (Val × Cur)) : Nat → Int → Int → Int → Cur → Val → Val → Option (Val × Cur)
  | 0, _, _, _, _, _, _ => none
  | n + 1, x1, x6, x7, b0, b4, b5 =>
    if (0 : Int) ≤ x6 ∧ x6 < (List.length (Val.rows b5)) then
    bif (decide ((x7 : Int) < (List.length (Rowd.cells (List.getD (Val.rows b5) (Int.toNat x6) Ty.row.dflt)) : Int))) then (
      Option.bind (xAr N b0 4) fun r1 =>
      if (0 : Int) ≤ x7 ∧ x7 < (List.length (Rowd.cells (List.getD (Val.rows b5) (Int.toNat x6) Ty.row.dflt))) then
      (xCf N k3 n x1 x6 (IntKind.i64.wrap (x7 + 1)) r1.2 b4 (Val.mk (Val.kind b5) (Val.n b5) (Val.step b5) (Val.text b5) (Val.list b5) (Val.columns b5) (List.set (Val.rows b5) (Int.toNat x6) (Rowd.mk ((fun (z1 : List Int) => List.set z1 (Int.toNat x7) r1.1) (Rowd.cells (List.getD (Val.rows b5) (Int.toNat x6) Ty.row.dflt))) (Rowd.frm (List.getD (Val.rows b5) (Int.toNat x6) Ty.row.dflt))))))
      else none
    ) else (
      (k3 x1 (IntKind.i64.wrap (x6 + 1)) b0 b4 b5)
    )
    else none
def xBH (N : Nat) : Nat → Int → Int → Cur → Val → Val → Option (Val × Cur)
  | 0, _, _, _, _, _ => none
  | n + 1, x1, x6, b0, b4, b5 =>
    bif (decide ((x6 : Int) < (List.length (Val.rows b5) : Int))) then (
      (xCf N (fun z0 z1 z2 z3 z4 => (xBH N n z0 z1 z2 z3 z4)) N x1 x6 0 b0 b4 b5)
    ) else (
      Option.bind (xCM N x1 b5) fun r1 =>
      some (r1, b0)
    )
def xDy (N : Nat) (a0 : Cur) (a1 : Int) : Option (Val × Cur) :=
  Option.bind (xCd N a0) fun r1 =>
  (xBH N N a1 0 r1.2 (Val.mk 0 0 0 [] [] [] []) r1.1)
def xDi (a0 : Cur) : List Arg := [.box [.sl .ro .byte (Cur.b a0), .int .i64 (Cur.i a0), .int .i64 (Cur.h a0)]]
def xCc (r : (List Bnd) × Cur) : CallO := ⟨.v false [.sl .own .bnd r.1], [[.sl .ro .byte (Cur.b r.2), .int .i64 (Cur.i r.2), .int .i64 (Cur.h r.2)]], []⟩
def xBE (N : Nat) : Nat → (List Bnd) → Int → Int → Cur → Option ((List Bnd) × Cur)
  | 0, _, _, _, _ => none
  | n + 1, x3, x4, x5, b0 =>
    bif (decide ((x5 : Int) < x4)) then (
      Option.bind (xDF N b0) fun r1 =>
      Option.bind (xB6 N r1.2 3) fun r2 =>
      bif r2.1 then (
        Option.bind (xAr N r2.2 3) fun r3 =>
        Option.bind (xDy N r3.2 (IntKind.i64.wrap (1 + r3.1))) fun r4 =>
        Option.bind (xCJ N r4.2 [[97], [98], [99]]) fun r5 =>
        if List.length x3 + List.length [(Bnd.mk r5.1 (Val.re r4.1))] ≤ Lim then
        (xBE N n (x3 ++ [(Bnd.mk r5.1 (Val.re r4.1))]) x4 (IntKind.i64.wrap (x5 + 1)) r5.2)
        else none
      ) else (
        Option.bind (xCJ N r2.2 [[97], [98], [99]]) fun r3 =>
        if List.length x3 + List.length [(Bnd.mk r3.1 (Val.re r1.1))] ≤ Lim then
        (xBE N n (x3 ++ [(Bnd.mk r3.1 (Val.re r1.1))]) x4 (IntKind.i64.wrap (x5 + 1)) r3.2)
        else none
      )
    ) else (
      some (x3, b0)
    )
def xDt (N : Nat) (a0 : Cur) : Option ((List Bnd) × Cur) :=
  Option.bind (xAr N a0 5) fun r1 =>
  (xBE N N [] r1.1 0 r1.2)
def xCb (a0 : List Int) : List Arg := [.val (.v false [.sl .ro .byte a0])]
def xA8 (r : (List Bnd) × Str × Val) : CallO := ⟨.tup [(false, [.sl .own .bnd r.1]), (false, [.str r.2.1]), (true, [.int .i64 (Val.kind r.2.2), .int .i64 (Val.n r.2.2), .int .i64 (Val.step r.2.2), .str (Val.text r.2.2), .sl .own .val (Val.list r.2.2), .sl .own .str (Val.columns r.2.2), .sl .own .row (Val.rows r.2.2)])], [], []⟩
def xDW (N : Nat) (a0 : List Int) : Option ((List Bnd) × Str × Val) :=
  Option.bind (xDZ N a0) fun r1 =>
  Option.bind (xDt N r1) fun r2 =>
  Option.bind (xCJ N r2.2 [[97], [122]]) fun r3 =>
  Option.bind (xDF N r3.2) fun r4 =>
  some (r2.1, r3.1, r4.1)
def xDo (a0 : List Bnd) (a1 : Str) (a2 : Val) : List Arg := [.val (.v false [.sl .ro .bnd a0]), .val (.v false [.str a1]), .val (.v true [.int .i64 (Val.kind a2), .int .i64 (Val.n a2), .int .i64 (Val.step a2), .str (Val.text a2), .sl .ro .val (Val.list a2), .sl .ro .str (Val.columns a2), .sl .ro .row (Val.rows a2)])]
def xBO (r : (List Bnd)) : CallO := ⟨.v false [.sl .own .bnd r], [], []⟩
def xDp (N : Nat) : Nat → Str → (List Bnd) → (List Bnd) → Int → Int → Val → Option ((List Bnd))
  | 0, _, _, _, _, _, _ => none
  | n + 1, x1, x7, x11, x12, x13, b5 =>
    bif (decide ((x13 : Int) < x12)) then (
      if (0 : Int) ≤ x13 ∧ x13 < (List.length x11) then
      Option.bind (xDb N (Bnd.value (List.getD x11 (Int.toNat x13) Ty.bnd.dflt))) fun r1 =>
      if List.length x7 + List.length [(Bnd.mk (Bnd.name (List.getD x11 (Int.toNat x13) Ty.bnd.dflt)) (Val.re r1))] ≤ Lim then
      (xDp N n x1 (x7 ++ [(Bnd.mk (Bnd.name (List.getD x11 (Int.toNat x13) Ty.bnd.dflt)) (Val.re r1))]) x11 x12 (IntKind.i64.wrap (x13 + 1)) b5)
      else none
      else none
    ) else (
      Option.bind (xDb N b5) fun r1 =>
      if List.length x7 + List.length [(Bnd.mk x1 (Val.re r1))] ≤ Lim then
      some (x7 ++ [(Bnd.mk x1 (Val.re r1))])
      else none
    )
def impl_Bind (N : Nat) (a0 : List Bnd) (a1 : Str) (a2 : Val) : Option ((List Bnd)) :=
  (xDp N N a1 [] a0 (List.length a0 : Int) 0 a2)
def xA2 (a0 : List Bnd) (a1 : Str) : List Arg := [.val (.v false [.sl .ro .bnd a0]), .val (.v false [.str a1])]
def xAm (r : Val) : CallO := ⟨.v true [.int .i64 (Val.kind r), .int .i64 (Val.n r), .int .i64 (Val.step r), .str (Val.text r), .sl .own .val (Val.list r), .sl .own .str (Val.columns r), .sl .own .row (Val.rows r)], [], []⟩
def xCP (N : Nat) : Nat → (List Bnd) → Str → Int → Val → Option (Val)
  | 0, _, _, _, _ => none
  | n + 1, x0, x1, x5, b4 =>
    bif (decide ((x5 : Int) ≥ 0)) then (
      if (0 : Int) ≤ x5 ∧ x5 < (List.length x0) then
      bif (((Bnd.name (List.getD x0 (Int.toNat x5) Ty.bnd.dflt)) : Str) == x1) then (
        Option.bind (xDb N (Bnd.value (List.getD x0 (Int.toNat x5) Ty.bnd.dflt))) fun r1 =>
        some r1
      ) else (
        (xCP N n x0 x1 (IntKind.i64.wrap (x5 - 1)) b4)
      )
      else none
    ) else (
      Option.bind (xDr N 1) fun r1 =>
      some r1
    )
def xB1 (N : Nat) (a0 : List Bnd) (a1 : Str) : Option (Val) :=
  (xCP N N a0 a1 (IntKind.i64.wrap ((List.length a0 : Int) - 1)) (Val.mk 0 0 0 [] [] [] []))
def xCu (a0 : List Int) : List Arg := [.val (.v false [.sl .ro .byte a0])]
def xBz (r : Bool) : CallO := ⟨.v false [.bool r], [], []⟩
def xBi (N : Nat) : Nat → (List Bnd) → Str → (List Bnd) → (List Str) → Int → Int → Option (Bool)
  | 0, _, _, _, _, _, _ => none
  | n + 1, x3, x4, x6, x35, x36, x37 =>
    bif (decide ((x37 : Int) < x36)) then (
      if (0 : Int) ≤ x37 ∧ x37 < (List.length x35) then
      bif (!(((List.getD x35 (Int.toNat x37) Ty.str.dflt) : Str) == x4)) then (
        Option.bind (xB1 N x6 (List.getD x35 (Int.toNat x37) Ty.str.dflt)) fun r1 =>
        Option.bind (xB1 N x3 (List.getD x35 (Int.toNat x37) Ty.str.dflt)) fun r2 =>
        Option.bind (xAO N r1 r2) fun r3 =>
        bif (!r3) then (
          some false
        ) else (
          (xBi N n x3 x4 x6 x35 x36 (IntKind.i64.wrap (x37 + 1)))
        )
      ) else (
        (xBi N n x3 x4 x6 x35 x36 (IntKind.i64.wrap (x37 + 1)))
      )
      else none
    ) else (
      Option.bind (xB1 N x3 [110, 111, 98, 111, 100, 121]) fun r1 =>
      Option.bind (xBj N 1) fun r2 =>
      Option.bind (xAO N r1 r2) fun r3 =>
      some r3
    )
def xDO (N : Nat) (a0 : List Int) : Option (Bool) :=
  Option.bind (laws_big N a0) fun r1 =>
  bif r1 then (
    some true
  ) else (
    Option.bind (xDW N a0) fun r2 =>
    Option.bind (impl_Bind N r2.1 r2.2.1 r2.2.2) fun r3 =>
    Option.bind (xB1 N r3 r2.2.1) fun r4 =>
    Option.bind (xAO N r4 r2.2.2) fun r5 =>
    bif (!r5) then (
      some false
    ) else (
      bif (((List.length r3 : Int) : Int) != (IntKind.i64.wrap ((List.length r2.1 : Int) + 1))) then (
        some false
      ) else (
        (xBi N N r2.1 r2.2.1 r3 [[97], [98], [99], [122]] (List.length [[97], [98], [99], [122]] : Int) 0)
      )
    )
  )
end Go.Ab
end
section
open Go.Proofs
namespace Go.Ab.T
abbrev AbC (f : FuncId) (a : List Arg) (r : CallO) : Prop := AbsCalls Try.prog f a r
abbrev W (x : Int) : Int := IntKind.i64.wrap x
abbrev Ln {α : Type} (l : List α) : Nat := List.length l
abbrev tN (x : Int) : Nat := Int.toNat x
abbrev gD {α : Type} (l : List α) (i : Nat) (d : α) : α := List.getD l i d
abbrev vd : Val := Ty.val.dflt
abbrev rd : Rowd := Ty.row.dflt
end Go.Ab.T
end
section
open Go.Proofs
namespace Go.Ab.T
set_option linter.unusedVariables false
set_option maxRecDepth 100000
def tt : TT := [(3, { zero := some [.int .i64 0], ik := some .i64 }),
 (4, { zero := some [.bool false], isBool := true }),
 (5, { zero := some [.int .u8 0], ik := some .u8 }),
 (9, { zero := some [.str []], isStr := true }),
 (22, { zero := some [.sl .own .val []], elem := some (26, .val) }),
 (23, { zero := some [.sl .own .str []], elem := some (9, .str) }),
 (24, { zero := some [.sl .own .row []], elem := some (133, .row) }),
 (26, { sz := 7, agg := true, zero := some [.int .i64 0, .int .i64 0, .int .i64 0, .str [], .sl .own .val [], .sl .own .str [], .sl .own .row []], offs := [0, 1, 2, 3, 4, 5, 6], fsz := [1, 1, 1, 1, 1, 1, 1] }),
 (28, { zero := some [.sl .own .val []], elem := some (31, .val) }),
 (29, { zero := some [.sl .own .row []], elem := some (107, .row) }),
 (31, { sz := 7, agg := true, zero := some [.int .i64 0, .int .i64 0, .int .i64 0, .str [], .sl .own .val [], .sl .own .str [], .sl .own .row []], offs := [0, 1, 2, 3, 4, 5, 6], fsz := [1, 1, 1, 1, 1, 1, 1] }),
 (49, { sz := 11, agg := true, zero := some [.int .i64 0, .int .i64 0, .int .i64 0, .str [], .int .i64 0, .int .i64 0, .int .i64 0, .str [], .sl .own .val [], .sl .own .str [], .sl .own .row []], offs := [0, 1, 2, 3, 4], fsz := [1, 1, 1, 1, 7] }),
 (56, { zero := some [.sl .own .byte []], elem := some (5, .byte) }),
 (58, { zero := some [.sl .own .fil []], elem := some (69, .fil) }),
 (60, { sz := 3, agg := true, zero := some [.int .i64 0, .int .i64 0, .sl .own .fil []], offs := [0, 1, 2], fsz := [1, 1, 1] }),
 (69, { sz := 2, agg := true, zero := some [.str [], .int .i64 0], offs := [0, 1], fsz := [1, 1] }),
 (75, { zero := some [.sl .own .bnd []], elem := some (125, .bnd) }),
 (102, { zero := some [.sl .own .int []], elem := some (3, .int) }),
 (105, { zero := some [.sl .own .org []], elem := some (156, .org) }),
 (107, { sz := 2, agg := true, zero := some [.sl .own .int [], .sl .own .org []], offs := [0, 1], fsz := [1, 1] }),
 (125, { sz := 8, agg := true, zero := some [.str [], .int .i64 0, .int .i64 0, .int .i64 0, .str [], .sl .own .val [], .sl .own .str [], .sl .own .row []], offs := [0, 1], fsz := [1, 7] }),
 (131, { zero := some [.sl .own .org []], elem := some (165, .org) }),
 (133, { sz := 2, agg := true, zero := some [.sl .own .int [], .sl .own .org []], offs := [0, 1], fsz := [1, 1] }),
 (141, { sz := 3, agg := true, zero := some [.sl .own .byte [], .int .i64 0, .int .i64 0], offs := [0, 1, 2], fsz := [1, 1, 1] }),
 (156, { sz := 2, agg := true, zero := some [.int .i64 0, .int .i64 0], offs := [0, 1], fsz := [1, 1], same := true }),
 (165, { sz := 2, agg := true, zero := some [.int .i64 0, .int .i64 0], offs := [0, 1], fsz := [1, 1], same := true })]
theorem ttok : TTok Try.prog tt := ttChk_ok (by kernel_rfl)
theorem mix : Try.prog.follows .mixedOrders = true := by kernel_rfl
def F : Bool := false
def Y : Bool := true
noncomputable def rE (I : Info) (ag : List Arg) (bs : List Bool) (cs : List CallO) : Option Res := run tt (AbsCalls Try.prog) I 3000 false [.code I.body] ⟨zBn 0 ag, bs, cs, []⟩
noncomputable def rS (k : Nat) (I : Info) (σ : St) (bs : List Bool) (cs : List CallO) : Option Res := run tt (AbsCalls Try.prog) I 3000 true (stkAt k I.body) ⟨σ, bs, cs, []⟩
noncomputable def dn (r : CallO) (ob : List Prop) : Option Res := some (.done r ob)
noncomputable def st (k : Nat) (I : Info) (σ : St) (ob : List Prop) : Option Res := some (.stop (stkAt k I.body) σ ob)
def RE (fn : Func) (I : Info) (ag : List Arg) (r : CallO) : Prop := Reach Try.prog fn I [.code I.body] (zBn 0 ag) r
def RS (fn : Func) (I : Info) (k : Nat) (σ : St) (r : CallO) : Prop := Reach Try.prog fn I (stkAt k I.body) σ r
section
variable {ρ : Type} {f : FuncId} {fn : Func} {I : Info} {ag : List Arg} {bs : List Bool} {cs : List CallO} {k j : Nat} {σ σ' : St} {ob : List Prop} {ro : ρ → CallO} {x r : ρ} {q : CallO}
theorem dE (e : some x = some r) (hf : FnOk Try.prog f fn I) (h : rE I ag bs cs = dn (ro x) ob) (o : ∀ p ∈ ob, p) : RE fn I ag (ro r) := by
 cases e; exact Reach.done ttok mix hf h o
theorem dS (e : some x = some r) (hf : FnOk Try.prog f fn I) (h : rS k I σ bs cs = dn (ro x) ob) (o : ∀ p ∈ ob, p) : RS fn I k σ (ro r) := by
 cases e; exact Reach.done ttok mix hf h o
theorem tE (hf : FnOk Try.prog f fn I) (h : rE I ag bs cs = st k I σ ob) (o : ∀ p ∈ ob, p) (t : RS fn I k σ q) : RE fn I ag q := Reach.stop ttok mix hf h o t
theorem tS (hf : FnOk Try.prog f fn I) (h : rS j I σ' bs cs = st k I σ ob) (o : ∀ p ∈ ob, p) (t : RS fn I k σ q) : RS fn I j σ' q := Reach.stop ttok mix hf h o t
end
theorem oc {p : Prop} {l : List Prop} (h : p) (t : ∀ q ∈ l, q) : ∀ q ∈ p :: l, q := obs_cons h t
theorem on : ∀ q ∈ ([] : List Prop), q := obs_nil
theorem cE {α : Type} {C : Prop} {b : Bool} {x y : Option α} {r : α} (h : cond b x y = some r) (f : b = true → x = some r → C) (g : b = false → y = some r → C) : C := (cond_inv h).elim (fun h => f h.1 h.2) fun h => g h.1 h.2
theorem bE {α β : Type} {C : Prop} {o : Option α} {f : α → Option β} {r : β} (h : Option.bind o f = some r) (g : ∀ a, o = some a → f a = some r → C) : C := (bind_inv h).elim fun a h => g a h.1 h.2
theorem iE {α : Type} {C p : Prop} [Decidable p] {x : Option α} {r : α} (h : (if p then x else none) = some r) (g : p → x = some r → C) : C := (ite_inv h).elim g
theorem nE {α : Type} {C : Prop} {r : α} (h : none = some r) : C := nomatch h
noncomputable def I64 : Info := { body := (Try.f64.body).getD .skip, nt := 23, results := [.tmp 2], keep := [0, 4, 6, 8, 22], live := [(3, [0, 6, 8])], modes := [(5, [(0, .ref, false)]), (6, [(0, .take, false)])] }
noncomputable def I108 : Info := { body := (Try.f108.body).getD .skip, nt := 15, results := [.tmp 6], keep := [0, 2, 4, 12], live := [], modes := [(1, [(3, .take, false)])] }
theorem fk108 : FnOk Try.prog 108 Try.f108 I108 := ⟨Try.func108, by kernel_rfl, by kernel_rfl, by kernel_rfl, by kernel_rfl⟩
theorem p108_e_0 (a0 a1 a2 : Int) : rE I108 (xCB a0 a1 a2) [Y] [] = dn (xBn (decide ((a0 : Int) ≤ a2))) [(decide ((a0 : Int) ≥ a1)) = true] := by kernel_rfl
theorem p108_e_1 (a0 a1 a2 : Int) : rE I108 (xCB a0 a1 a2) [F] [] = dn (xBn false) [(decide ((a0 : Int) ≥ a1)) = false] := by kernel_rfl
theorem c108_e {N : Nat} : ∀ a0 a1 a2 r, xD4 N a0 a1 a2 = some r → RE Try.f108 I108 (xCB a0 a1 a2) (xBn r) := fun a0 a1 a2 r h =>
 cE h (fun h0 h => dE h fk108 (p108_e_0 a0 a1 a2) (oc h0 on)) fun h0 h =>
 dE h fk108 (p108_e_1 a0 a1 a2) (oc h0 on)
theorem xEj {N : Nat} {a0 : Int} {a1 : Int} {a2 : Int} {r : Bool} (h : xD4 N  a0 a1 a2 = some r) : AbC 108 (xCB a0 a1 a2) (xBn r) :=
 AbsCalls.of_reach fk108 rfl rfl (Nat.le_of_ble_eq_true rfl) (c108_e a0 a1 a2 r h)
noncomputable def I85 : Info := { body := (Try.f85.body).getD .skip, nt := 5, results := [.tmp 2], keep := [0, 4], live := [], modes := [] }
theorem fk85 : FnOk Try.prog 85 Try.f85 I85 := ⟨Try.func85, by kernel_rfl, by kernel_rfl, by kernel_rfl, by kernel_rfl⟩
theorem p85_e_0 (a0 : Int) (r1 : Bool) : rE I85 (xBa a0) [] [xBn r1] = dn (xAu r1) [AbC 108 (xCB a0 (-1000000000) 1000000000) (xBn r1)] := by kernel_rfl
theorem c85_e {N : Nat} : ∀ a0 r, xCm N a0 = some r → RE Try.f85 I85 (xBa a0) (xAu r) := fun a0 r h =>
 bE h fun r1 h0 h => dE h fk85 (p85_e_0 a0 r1) (oc (xEj h0) on)
theorem xCe {N : Nat} {a0 : Int} {r : Bool} (h : xCm N  a0 = some r) : AbC 85 (xBa a0) (xAu r) :=
 AbsCalls.of_reach fk85 rfl rfl (Nat.le_of_ble_eq_true rfl) (c85_e a0 r h)
noncomputable def I111 : Info := { body := (Try.f111.body).getD .skip, nt := 29, results := [.tmp 2], keep := [0, 4, 6, 14, 50], live := [(2, [0, 6])], modes := [(4, [(4, .take, false), (10, .take, false)])] }
theorem fk111 : FnOk Try.prog 111 Try.f111 I111 := ⟨Try.func111, by kernel_rfl, by kernel_rfl, by kernel_rfl, by kernel_rfl⟩
def S111_2 (x0 : Str) (x3 : Int) : St := [(0, .v false [.str x0]), (6, .v false [.int .i64 x3])]
theorem p111_2_0 (x0 : Str) (x3 : Int) : rS 2 I111 (S111_2 x0 x3) [Y, Y, Y, Y] [] = dn (xAL false) [(decide ((x3 : Int) < (Ln x0 : Int))) = true, (0 : Int) ≤ x3 ∧ x3 < (Ln x0), (decide ((((gD x0 (tN x3) 0).toNat : Int) : Int) < 32)) = true, true = true, true = true] := by kernel_rfl
theorem p111_2_1 (x0 : Str) (x3 : Int) : rS 2 I111 (S111_2 x0 x3) [Y, F, Y, Y] [] = dn (xAL false) [(decide ((x3 : Int) < (Ln x0 : Int))) = true, (0 : Int) ≤ x3 ∧ x3 < (Ln x0), (decide ((((gD x0 (tN x3) 0).toNat : Int) : Int) < 32)) = false, (0 : Int) ≤ x3 ∧ x3 < (Ln x0), (decide ((((gD x0 (tN x3) 0).toNat : Int) : Int) > 126)) = true, true = true] := by kernel_rfl
theorem p111_2_2 (x0 : Str) (x3 : Int) : rS 2 I111 (S111_2 x0 x3) [Y, F, F, Y] [] = dn (xAL false) [(decide ((x3 : Int) < (Ln x0 : Int))) = true, (0 : Int) ≤ x3 ∧ x3 < (Ln x0), (decide ((((gD x0 (tN x3) 0).toNat : Int) : Int) < 32)) = false, (0 : Int) ≤ x3 ∧ x3 < (Ln x0), (decide ((((gD x0 (tN x3) 0).toNat : Int) : Int) > 126)) = false, (0 : Int) ≤ x3 ∧ x3 < (Ln x0), ((((gD x0 (tN x3) 0).toNat : Int) : Int) == 34) = true] := by kernel_rfl
theorem p111_2_3 (x0 : Str) (x3 : Int) : rS 2 I111 (S111_2 x0 x3) [Y, F, F, F] [] = st 2 I111 (S111_2 x0 (W (x3 + 1))) [(decide ((x3 : Int) < (Ln x0 : Int))) = true, (0 : Int) ≤ x3 ∧ x3 < (Ln x0), (decide ((((gD x0 (tN x3) 0).toNat : Int) : Int) < 32)) = false, (0 : Int) ≤ x3 ∧ x3 < (Ln x0), (decide ((((gD x0 (tN x3) 0).toNat : Int) : Int) > 126)) = false, (0 : Int) ≤ x3 ∧ x3 < (Ln x0), ((((gD x0 (tN x3) 0).toNat : Int) : Int) == 34) = false] := by kernel_rfl
theorem p111_2_4 (x0 : Str) (x3 : Int) : rS 2 I111 (S111_2 x0 x3) [F] [] = dn (xAL (decide (((Ln x0 : Int) : Int) ≤ 20))) [(decide ((x3 : Int) < (Ln x0 : Int))) = false] := by kernel_rfl
theorem p111_e_5 (a0 : Str) : rE I111 (xCE a0) [] [] = st 2 I111 (S111_2 a0 0) [] := by kernel_rfl
theorem c111_2 {N : Nat} : ∀ n x0 x3 r, xAV N n x0 x3 = some r → RS Try.f111 I111 2 (S111_2 x0 x3) (xAL r) := by
 intro n
 induction n with
 | zero => exact fun _ _ _ h => nE h
 | succ n ih =>
  exact fun x0 x3 r h =>
   cE h (fun h0 h => iE h fun h1 h => cE h (fun h2 h => dS h fk111 (p111_2_0 x0 x3) (oc h0 (oc h1 (oc h2 (oc rfl (oc rfl on)))))) fun h2 h =>
   cE h (fun h4 h => dS h fk111 (p111_2_1 x0 x3) (oc h0 (oc h1 (oc h2 (oc h1 (oc h4 (oc rfl on))))))) fun h4 h =>
   cE h (fun h6 h => dS h fk111 (p111_2_2 x0 x3) (oc h0 (oc h1 (oc h2 (oc h1 (oc h4 (oc h1 (oc h6 on)))))))) fun h6 h =>
   tS fk111 (p111_2_3 x0 x3) (oc h0 (oc h1 (oc h2 (oc h1 (oc h4 (oc h1 (oc h6 on))))))) (ih _ _ _ h)) fun h0 h =>
   dS h fk111 (p111_2_4 x0 x3) (oc h0 on)
theorem c111_e {N : Nat} : ∀ a0 r, xDh N a0 = some r → RE Try.f111 I111 (xCE a0) (xAL r) := fun a0 r h =>
 tE fk111 (p111_e_5 a0) on (c111_2 _ _ _ _ h)
theorem xFm {N : Nat} {a0 : Str} {r : Bool} (h : xDh N  a0 = some r) : AbC 111 (xCE a0) (xAL r) :=
 AbsCalls.of_reach fk111 rfl rfl (Nat.le_of_ble_eq_true rfl) (c111_e a0 r h)
noncomputable def I152 : Info := { body := (Try.f152.body).getD .skip, nt := 16, results := [.tmp 2], keep := [0, 2, 4, 3], live := [], modes := [(1, [(3, .take, false), (8, .take, false)])] }
theorem fk152 : FnOk Try.prog 152 Try.f152 I152 := ⟨Try.func152, by kernel_rfl, by kernel_rfl, by kernel_rfl, by kernel_rfl⟩
theorem p152_e_0 (a0 : Val) : rE I152 (xBf a0) [Y, Y] [] = dn (xAC true) [(((Val.kind a0) : Int) == 1) = true, true = true] := by kernel_rfl
theorem p152_e_1 (a0 : Val) : rE I152 (xBf a0) [F, Y] [] = dn (xAC true) [(((Val.kind a0) : Int) == 1) = false, (((Val.kind a0) : Int) == 2) = true] := by kernel_rfl
theorem p152_e_2 (a0 : Val) : rE I152 (xBf a0) [F, F] [] = dn (xAC (((Val.kind a0) : Int) == 3)) [(((Val.kind a0) : Int) == 1) = false, (((Val.kind a0) : Int) == 2) = false] := by kernel_rfl
theorem c152_e {N : Nat} : ∀ a0 r, xDL N a0 = some r → RE Try.f152 I152 (xBf a0) (xAC r) := fun a0 r h =>
 cE h (fun h0 h => dE h fk152 (p152_e_0 a0) (oc h0 (oc rfl on))) fun h0 h =>
 cE h (fun h1 h => dE h fk152 (p152_e_1 a0) (oc h0 (oc h1 on))) fun h1 h =>
 dE h fk152 (p152_e_2 a0) (oc h0 (oc h1 on))
theorem xDG {N : Nat} {a0 : Val} {r : Bool} (h : xDL N  a0 = some r) : AbC 152 (xBf a0) (xAC r) :=
 AbsCalls.of_reach fk152 rfl rfl (Nat.le_of_ble_eq_true rfl) (c152_e a0 r h)
noncomputable def I177 : Info := { body := (Try.f177.body).getD .skip, nt := 10, results := [.tmp 4], keep := [0, 2, 8, 14], live := [], modes := [] }
theorem fk177 : FnOk Try.prog 177 Try.f177 I177 := ⟨Try.func177, by kernel_rfl, by kernel_rfl, by kernel_rfl, by kernel_rfl⟩
theorem p177_e_0 (a0 a1 : Int) : rE I177 (xDu a0 a1) [Y] [] = dn (xC7 a0) [(decide ((a0 : Int) > a1)) = true] := by kernel_rfl
theorem p177_e_1 (a0 a1 : Int) : rE I177 (xDu a0 a1) [F] [] = dn (xC7 a1) [(decide ((a0 : Int) > a1)) = false] := by kernel_rfl
theorem c177_e {N : Nat} : ∀ a0 a1 r, xEw N a0 a1 = some r → RE Try.f177 I177 (xDu a0 a1) (xC7 r) := fun a0 a1 r h =>
 cE h (fun h0 h => dE h fk177 (p177_e_0 a0 a1) (oc h0 on)) fun h0 h =>
 dE h fk177 (p177_e_1 a0 a1) (oc h0 on)
theorem spec_l1Max_ok {N : Nat} {a0 : Int} {a1 : Int} {r : Int} (h : xEw N  a0 a1 = some r) : AbC 177 (xDu a0 a1) (xC7 r) :=
 AbsCalls.of_reach fk177 rfl rfl (Nat.le_of_ble_eq_true rfl) (c177_e a0 a1 r h)
def G153 (q : Val → Option (Int)) : Prop := ∀ a0 r, q a0 = some r → AbC 153 (xB4 a0) (xA3 r)
noncomputable def I153 : Info := { body := (Try.f153.body).getD .skip, nt := 22, results := [.tmp 2], keep := [0, 2, 4, 6, 8, 18, 3], live := [(3, [2, 6, 8, 3])], modes := [] }
theorem fk153 : FnOk Try.prog 153 Try.f153 I153 := ⟨Try.func153, by kernel_rfl, by kernel_rfl, by kernel_rfl, by kernel_rfl⟩
def S153_3 (x3 x4 : Int) (b1 : Val) : St := [(2, .v false [.ptr 1 0]), (6, .v false [.int .i64 x3]), (8, .v false [.int .i64 x4]), (3, .v true [.int .i64 (Val.kind b1), .int .i64 (Val.n b1), .int .i64 (Val.step b1), .str (Val.text b1), .sl .ro .val (Val.list b1), .sl .ro .str (Val.columns b1), .sl .ro .row (Val.rows b1)])]
theorem p153_3_0 (x3 x4 : Int) (b1 : Val) (r1 r2 : Int) : rS 3 I153 (S153_3 x3 x4 b1) [Y] [xA3 r1, xC7 r2] = st 3 I153 (S153_3 r2 (W (x4 + 1)) b1) [(decide ((x4 : Int) < (Ln (Val.list b1) : Int))) = true, (0 : Int) ≤ x4 ∧ x4 < (Ln (Val.list b1)), AbC 153 (xB4 (gD (Val.list b1) (tN x4) vd)) (xA3 r1), AbC 177 (xDu x3 r1) (xC7 r2)] := by kernel_rfl
theorem p153_3_1 (x3 x4 : Int) (b1 : Val) : rS 3 I153 (S153_3 x3 x4 b1) [F] [] = dn (xA3 (W (x3 + 1))) [(decide ((x4 : Int) < (Ln (Val.list b1) : Int))) = false] := by kernel_rfl
theorem p153_e_2 (a0 : Val) : rE I153 (xB4 a0) [] [] = st 3 I153 (S153_3 0 0 a0) [] := by kernel_rfl
theorem c153_3 {N : Nat} {q0 : Val → Option (Int)} (g0 : G153 q0) : ∀ n x3 x4 b1 r, xCv N q0 n x3 x4 b1 = some r → RS Try.f153 I153 3 (S153_3 x3 x4 b1) (xA3 r) := by
 intro n
 induction n with
 | zero => exact fun _ _ _ _ h => nE h
 | succ n ih =>
  exact fun x3 x4 b1 r h =>
   cE h (fun h0 h => iE h fun h1 h => bE h fun r1 h2 h => bE h fun r2 h3 h => tS fk153 (p153_3_0 x3 x4 b1 r1 r2) (oc h0 (oc h1 (oc (g0 _ _ h2) (oc (spec_l1Max_ok h3) on)))) (ih _ _ _ _ h)) fun h0 h =>
   dS h fk153 (p153_3_1 x3 x4 b1) (oc h0 on)
theorem c153_e {N : Nat} {q0 : Val → Option (Int)} (g0 : G153 q0) : ∀ a0 r, xDC N q0 a0 = some r → RE Try.f153 I153 (xB4 a0) (xA3 r) := fun a0 r h =>
 tE fk153 (p153_e_2 a0) on (c153_3 g0 _ _ _ _ _ h)
theorem xE8 {N : Nat} {q0 : Val → Option (Int)} (g0 : G153 q0) {a0 : Val} {r : Int} (h : xDC N q0 a0 = some r) : AbC 153 (xB4 a0) (xA3 r) :=
 AbsCalls.of_reach fk153 rfl rfl (Nat.le_of_ble_eq_true rfl) (c153_e g0 a0 r h)
theorem xD1 {N : Nat} : ∀ d, G153 (xCa N d)
 | 0 => fun _ _ h => nE h
 | d + 1 => fun _ _ h => xE8 (N := N) (xD1 d) h
theorem spec_DepthOf_ok {N : Nat} {a0 : Val} {r : Int} (h : xEi N a0 = some r) : AbC 153 (xB4 a0) (xA3 r) := xD1 N _ r h
noncomputable def I137 : Info := { body := (Try.f137.body).getD .skip, nt := 45, results := [.tmp 2], keep := [0, 4, 6, 8, 10, 18, 82], live := [(2, [0, 6])], modes := [(4, [(4, .take, false)]), (5, [(4, .take, false)]), (6, [(0, .take, false), (2, .take, false), (5, .take, false), (6, .take, false)])] }
theorem xFd : FnOk Try.prog 137 Try.f137 I137 := ⟨Try.func137, by kernel_rfl, by kernel_rfl, by kernel_rfl, by kernel_rfl⟩
def xDq (x0 : Str) (x3 : Int) : St := [(0, .v false [.str x0]), (6, .v false [.int .i64 x3])]
theorem p137_2_0 (x0 : Str) (x3 : Int) : rS 2 I137 (xDq x0 x3) [Y, Y, Y, Y, Y, Y] [] = dn (xAp false) [(decide ((x3 : Int) < (Ln x0 : Int))) = true, (0 : Int) ≤ x3 ∧ x3 < (Ln x0), (decide ((((gD x0 (tN x3) 0).toNat : Int) : Int) ≥ 97)) = true, (0 : Int) ≤ x3 ∧ x3 < (Ln x0), (0 : Int) ≤ x3 ∧ x3 < (Ln x0), (decide ((((gD x0 (tN x3) 0).toNat : Int) : Int) ≥ 48)) = true, (0 : Int) ≤ x3 ∧ x3 < (Ln x0), (!(decide ((((gD x0 (tN x3) 0).toNat : Int) : Int) ≤ 122))) = true, ((x3 : Int) == 0) = true, true = true] := by kernel_rfl
theorem p137_2_1 (x0 : Str) (x3 : Int) : rS 2 I137 (xDq x0 x3) [Y, Y, Y, Y, F, Y] [] = dn (xAp false) [(decide ((x3 : Int) < (Ln x0 : Int))) = true, (0 : Int) ≤ x3 ∧ x3 < (Ln x0), (decide ((((gD x0 (tN x3) 0).toNat : Int) : Int) ≥ 97)) = true, (0 : Int) ≤ x3 ∧ x3 < (Ln x0), (0 : Int) ≤ x3 ∧ x3 < (Ln x0), (decide ((((gD x0 (tN x3) 0).toNat : Int) : Int) ≥ 48)) = true, (0 : Int) ≤ x3 ∧ x3 < (Ln x0), (!(decide ((((gD x0 (tN x3) 0).toNat : Int) : Int) ≤ 122))) = true, ((x3 : Int) == 0) = false, (!(decide ((((gD x0 (tN x3) 0).toNat : Int) : Int) ≤ 57))) = true] := by kernel_rfl
theorem p137_2_2 (x0 : Str) (x3 : Int) : rS 2 I137 (xDq x0 x3) [Y, Y, Y, Y, F, F] [] = st 2 I137 (xDq x0 (W (x3 + 1))) [(decide ((x3 : Int) < (Ln x0 : Int))) = true, (0 : Int) ≤ x3 ∧ x3 < (Ln x0), (decide ((((gD x0 (tN x3) 0).toNat : Int) : Int) ≥ 97)) = true, (0 : Int) ≤ x3 ∧ x3 < (Ln x0), (0 : Int) ≤ x3 ∧ x3 < (Ln x0), (decide ((((gD x0 (tN x3) 0).toNat : Int) : Int) ≥ 48)) = true, (0 : Int) ≤ x3 ∧ x3 < (Ln x0), (!(decide ((((gD x0 (tN x3) 0).toNat : Int) : Int) ≤ 122))) = true, ((x3 : Int) == 0) = false, (!(decide ((((gD x0 (tN x3) 0).toNat : Int) : Int) ≤ 57))) = false] := by kernel_rfl
theorem p137_2_3 (x0 : Str) (x3 : Int) : rS 2 I137 (xDq x0 x3) [Y, Y, Y, F, F] [] = st 2 I137 (xDq x0 (W (x3 + 1))) [(decide ((x3 : Int) < (Ln x0 : Int))) = true, (0 : Int) ≤ x3 ∧ x3 < (Ln x0), (decide ((((gD x0 (tN x3) 0).toNat : Int) : Int) ≥ 97)) = true, (0 : Int) ≤ x3 ∧ x3 < (Ln x0), (0 : Int) ≤ x3 ∧ x3 < (Ln x0), (decide ((((gD x0 (tN x3) 0).toNat : Int) : Int) ≥ 48)) = true, (0 : Int) ≤ x3 ∧ x3 < (Ln x0), (!(decide ((((gD x0 (tN x3) 0).toNat : Int) : Int) ≤ 122))) = false, false = false] := by kernel_rfl
theorem p137_2_4 (x0 : Str) (x3 : Int) : rS 2 I137 (xDq x0 x3) [Y, Y, F, Y, Y, Y] [] = dn (xAp false) [(decide ((x3 : Int) < (Ln x0 : Int))) = true, (0 : Int) ≤ x3 ∧ x3 < (Ln x0), (decide ((((gD x0 (tN x3) 0).toNat : Int) : Int) ≥ 97)) = true, (0 : Int) ≤ x3 ∧ x3 < (Ln x0), (0 : Int) ≤ x3 ∧ x3 < (Ln x0), (decide ((((gD x0 (tN x3) 0).toNat : Int) : Int) ≥ 48)) = false, (!(decide ((((gD x0 (tN x3) 0).toNat : Int) : Int) ≤ 122))) = true, ((x3 : Int) == 0) = true, true = true] := by kernel_rfl
theorem p137_2_5 (x0 : Str) (x3 : Int) : rS 2 I137 (xDq x0 x3) [Y, Y, F, Y, F, Y] [] = dn (xAp false) [(decide ((x3 : Int) < (Ln x0 : Int))) = true, (0 : Int) ≤ x3 ∧ x3 < (Ln x0), (decide ((((gD x0 (tN x3) 0).toNat : Int) : Int) ≥ 97)) = true, (0 : Int) ≤ x3 ∧ x3 < (Ln x0), (0 : Int) ≤ x3 ∧ x3 < (Ln x0), (decide ((((gD x0 (tN x3) 0).toNat : Int) : Int) ≥ 48)) = false, (!(decide ((((gD x0 (tN x3) 0).toNat : Int) : Int) ≤ 122))) = true, ((x3 : Int) == 0) = false, (!false) = true] := by kernel_rfl
theorem p137_2_6 (x0 : Str) (x3 : Int) : rS 2 I137 (xDq x0 x3) [Y, Y, F, F, F] [] = st 2 I137 (xDq x0 (W (x3 + 1))) [(decide ((x3 : Int) < (Ln x0 : Int))) = true, (0 : Int) ≤ x3 ∧ x3 < (Ln x0), (decide ((((gD x0 (tN x3) 0).toNat : Int) : Int) ≥ 97)) = true, (0 : Int) ≤ x3 ∧ x3 < (Ln x0), (0 : Int) ≤ x3 ∧ x3 < (Ln x0), (decide ((((gD x0 (tN x3) 0).toNat : Int) : Int) ≥ 48)) = false, (!(decide ((((gD x0 (tN x3) 0).toNat : Int) : Int) ≤ 122))) = false, false = false] := by kernel_rfl
theorem p137_2_7 (x0 : Str) (x3 : Int) : rS 2 I137 (xDq x0 x3) [Y, F, Y, Y, Y, Y] [] = dn (xAp false) [(decide ((x3 : Int) < (Ln x0 : Int))) = true, (0 : Int) ≤ x3 ∧ x3 < (Ln x0), (decide ((((gD x0 (tN x3) 0).toNat : Int) : Int) ≥ 97)) = false, (0 : Int) ≤ x3 ∧ x3 < (Ln x0), (decide ((((gD x0 (tN x3) 0).toNat : Int) : Int) ≥ 48)) = true, (0 : Int) ≤ x3 ∧ x3 < (Ln x0), (!false) = true, ((x3 : Int) == 0) = true, true = true] := by kernel_rfl
theorem p137_2_8 (x0 : Str) (x3 : Int) : rS 2 I137 (xDq x0 x3) [Y, F, Y, Y, F, Y] [] = dn (xAp false) [(decide ((x3 : Int) < (Ln x0 : Int))) = true, (0 : Int) ≤ x3 ∧ x3 < (Ln x0), (decide ((((gD x0 (tN x3) 0).toNat : Int) : Int) ≥ 97)) = false, (0 : Int) ≤ x3 ∧ x3 < (Ln x0), (decide ((((gD x0 (tN x3) 0).toNat : Int) : Int) ≥ 48)) = true, (0 : Int) ≤ x3 ∧ x3 < (Ln x0), (!false) = true, ((x3 : Int) == 0) = false, (!(decide ((((gD x0 (tN x3) 0).toNat : Int) : Int) ≤ 57))) = true] := by kernel_rfl
theorem p137_2_9 (x0 : Str) (x3 : Int) : rS 2 I137 (xDq x0 x3) [Y, F, Y, Y, F, F] [] = st 2 I137 (xDq x0 (W (x3 + 1))) [(decide ((x3 : Int) < (Ln x0 : Int))) = true, (0 : Int) ≤ x3 ∧ x3 < (Ln x0), (decide ((((gD x0 (tN x3) 0).toNat : Int) : Int) ≥ 97)) = false, (0 : Int) ≤ x3 ∧ x3 < (Ln x0), (decide ((((gD x0 (tN x3) 0).toNat : Int) : Int) ≥ 48)) = true, (0 : Int) ≤ x3 ∧ x3 < (Ln x0), (!false) = true, ((x3 : Int) == 0) = false, (!(decide ((((gD x0 (tN x3) 0).toNat : Int) : Int) ≤ 57))) = false] := by kernel_rfl
theorem p137_2_10 (x0 : Str) (x3 : Int) : rS 2 I137 (xDq x0 x3) [Y, F, F, Y, Y, Y] [] = dn (xAp false) [(decide ((x3 : Int) < (Ln x0 : Int))) = true, (0 : Int) ≤ x3 ∧ x3 < (Ln x0), (decide ((((gD x0 (tN x3) 0).toNat : Int) : Int) ≥ 97)) = false, (0 : Int) ≤ x3 ∧ x3 < (Ln x0), (decide ((((gD x0 (tN x3) 0).toNat : Int) : Int) ≥ 48)) = false, (!false) = true, ((x3 : Int) == 0) = true, true = true] := by kernel_rfl
theorem p137_2_11 (x0 : Str) (x3 : Int) : rS 2 I137 (xDq x0 x3) [Y, F, F, Y, F, Y] [] = dn (xAp false) [(decide ((x3 : Int) < (Ln x0 : Int))) = true, (0 : Int) ≤ x3 ∧ x3 < (Ln x0), (decide ((((gD x0 (tN x3) 0).toNat : Int) : Int) ≥ 97)) = false, (0 : Int) ≤ x3 ∧ x3 < (Ln x0), (decide ((((gD x0 (tN x3) 0).toNat : Int) : Int) ≥ 48)) = false, (!false) = true, ((x3 : Int) == 0) = false, (!false) = true] := by kernel_rfl
theorem p137_2_12 (x0 : Str) (x3 : Int) : rS 2 I137 (xDq x0 x3) [F] [] = dn (xAp (decide (((Ln x0 : Int) : Int) > 0))) [(decide ((x3 : Int) < (Ln x0 : Int))) = false] := by kernel_rfl
theorem p137_e_13 (a0 : Str) : rE I137 (xCx a0) [] [] = st 2 I137 (xDq a0 0) [] := by kernel_rfl
theorem c137_2 {N : Nat} : ∀ n x0 x3 r, xA5 N n x0 x3 = some r → RS Try.f137 I137 2 (xDq x0 x3) (xAp r) := by
 intro n
 induction n with
 | zero => exact fun _ _ _ h => nE h
 | succ n ih =>
  exact fun x0 x3 r h =>
   cE h (fun h0 h => iE h fun h1 h => cE h (fun h2 h => cE h (fun h5 h => cE h (fun h7 h => cE h (fun h8 h => dS h xFd (p137_2_0 x0 x3) (oc h0 (oc h1 (oc h2 (oc h1 (oc h1 (oc h5 (oc h1 (oc h7 (oc h8 (oc rfl on))))))))))) fun h8 h =>
   cE h (fun h9 h => dS h xFd (p137_2_1 x0 x3) (oc h0 (oc h1 (oc h2 (oc h1 (oc h1 (oc h5 (oc h1 (oc h7 (oc h8 (oc h9 on))))))))))) fun h9 h =>
   tS xFd (p137_2_2 x0 x3) (oc h0 (oc h1 (oc h2 (oc h1 (oc h1 (oc h5 (oc h1 (oc h7 (oc h8 (oc h9 on)))))))))) (ih _ _ _ h)) fun h7 h =>
   tS xFd (p137_2_3 x0 x3) (oc h0 (oc h1 (oc h2 (oc h1 (oc h1 (oc h5 (oc h1 (oc h7 (oc rfl on))))))))) (ih _ _ _ h)) fun h5 h =>
   cE h (fun h6 h => cE h (fun h7 h => dS h xFd (p137_2_4 x0 x3) (oc h0 (oc h1 (oc h2 (oc h1 (oc h1 (oc h5 (oc h6 (oc h7 (oc rfl on)))))))))) fun h7 h =>
   dS h xFd (p137_2_5 x0 x3) (oc h0 (oc h1 (oc h2 (oc h1 (oc h1 (oc h5 (oc h6 (oc h7 (oc rfl on)))))))))) fun h6 h =>
   tS xFd (p137_2_6 x0 x3) (oc h0 (oc h1 (oc h2 (oc h1 (oc h1 (oc h5 (oc h6 (oc rfl on)))))))) (ih _ _ _ h)) fun h2 h =>
   cE h (fun h4 h => cE h (fun h7 h => dS h xFd (p137_2_7 x0 x3) (oc h0 (oc h1 (oc h2 (oc h1 (oc h4 (oc h1 (oc rfl (oc h7 (oc rfl on)))))))))) fun h7 h =>
   cE h (fun h8 h => dS h xFd (p137_2_8 x0 x3) (oc h0 (oc h1 (oc h2 (oc h1 (oc h4 (oc h1 (oc rfl (oc h7 (oc h8 on)))))))))) fun h8 h =>
   tS xFd (p137_2_9 x0 x3) (oc h0 (oc h1 (oc h2 (oc h1 (oc h4 (oc h1 (oc rfl (oc h7 (oc h8 on))))))))) (ih _ _ _ h)) fun h4 h =>
   cE h (fun h6 h => dS h xFd (p137_2_10 x0 x3) (oc h0 (oc h1 (oc h2 (oc h1 (oc h4 (oc rfl (oc h6 (oc rfl on))))))))) fun h6 h =>
   dS h xFd (p137_2_11 x0 x3) (oc h0 (oc h1 (oc h2 (oc h1 (oc h4 (oc rfl (oc h6 (oc rfl on))))))))) fun h0 h =>
   dS h xFd (p137_2_12 x0 x3) (oc h0 on)
theorem c137_e {N : Nat} : ∀ a0 r, xEk N a0 = some r → RE Try.f137 I137 (xCx a0) (xAp r) := fun a0 r h =>
 tE xFd (p137_e_13 a0) on (c137_2 _ _ _ _ h)
theorem xD6 {N : Nat} {a0 : Str} {r : Bool} (h : xEk N  a0 = some r) : AbC 137 (xCx a0) (xAp r) :=
 AbsCalls.of_reach xFd rfl rfl (Nat.le_of_ble_eq_true rfl) (c137_e a0 r h)
noncomputable def I175 : Info := { body := (Try.f175.body).getD .skip, nt := 2, results := [.tmp 0], keep := [0], live := [], modes := [] }
theorem fk175 : FnOk Try.prog 175 Try.f175 I175 := ⟨Try.func175, by kernel_rfl, by kernel_rfl, by kernel_rfl, by kernel_rfl⟩
theorem p175_e_0 : rE I175 (xC0 ) [] [] = dn (xCl [[108, 101, 116], [105, 110], [105, 102], [116, 104, 101, 110], [101, 108, 115, 101], [102, 111, 114], [100, 111], [108, 101, 110], [115, 117, 109], [116, 97, 107, 101], [115, 107, 105, 112], [114, 97, 110, 103, 101], [110, 116, 104], [119, 104, 101, 114, 101], [107, 101, 101, 112], [97, 100, 100], [103, 114, 111, 117, 112], [106, 111, 105, 110], [99, 111, 108, 117, 109, 110], [114, 111, 119, 115], [99, 108, 111, 99, 107], [99, 104, 97, 110, 99, 101], [102, 105, 108, 101], [116, 97, 98, 108, 101]]) [] := by kernel_rfl
theorem c175_e {N : Nat} : ∀ r, xDv N = some r → RE Try.f175 I175 (xC0 ) (xCl r) := fun r h =>
 dE h fk175 (p175_e_0) on
theorem spec_l2Reserved_ok {N : Nat} {r : (List Str)} (h : xDv N   = some r) : AbC 175 (xC0 ) (xCl r) :=
 AbsCalls.of_reach fk175 rfl rfl (Nat.le_of_ble_eq_true rfl) (c175_e  r h)
noncomputable def I174 : Info := { body := (Try.f174.body).getD .skip, nt := 18, results := [.tmp 4], keep := [0, 2, 8, 10, 18, 34], live := [(2, [0, 2, 10])], modes := [] }
theorem fk174 : FnOk Try.prog 174 Try.f174 I174 := ⟨Try.func174, by kernel_rfl, by kernel_rfl, by kernel_rfl, by kernel_rfl⟩
def S174_2 (x0 : List Str) (x1 : Str) (x5 : Int) : St := [(0, .v false [.sl .ro .str x0]), (2, .v false [.str x1]), (10, .v false [.int .i64 x5])]
theorem p174_2_0 (x0 : List Str) (x1 : Str) (x5 : Int) : rS 2 I174 (S174_2 x0 x1 x5) [Y, Y] [] = dn (xBk true) [(decide ((x5 : Int) < (Ln x0 : Int))) = true, (0 : Int) ≤ x5 ∧ x5 < (Ln x0), (((gD x0 (tN x5) Ty.str.dflt) : Str) == x1) = true] := by kernel_rfl
theorem p174_2_1 (x0 : List Str) (x1 : Str) (x5 : Int) : rS 2 I174 (S174_2 x0 x1 x5) [Y, F] [] = st 2 I174 (S174_2 x0 x1 (W (x5 + 1))) [(decide ((x5 : Int) < (Ln x0 : Int))) = true, (0 : Int) ≤ x5 ∧ x5 < (Ln x0), (((gD x0 (tN x5) Ty.str.dflt) : Str) == x1) = false] := by kernel_rfl
theorem p174_2_2 (x0 : List Str) (x1 : Str) (x5 : Int) : rS 2 I174 (S174_2 x0 x1 x5) [F] [] = dn (xBk false) [(decide ((x5 : Int) < (Ln x0 : Int))) = false] := by kernel_rfl
theorem p174_e_3 (a0 : List Str) (a1 : Str) : rE I174 (xC6 a0 a1) [] [] = st 2 I174 (S174_2 a0 a1 0) [] := by kernel_rfl
theorem c174_2 {N : Nat} : ∀ n x0 x1 x5 r, xCH N n x0 x1 x5 = some r → RS Try.f174 I174 2 (S174_2 x0 x1 x5) (xBk r) := by
 intro n
 induction n with
 | zero => exact fun _ _ _ _ h => nE h
 | succ n ih =>
  exact fun x0 x1 x5 r h =>
   cE h (fun h0 h => iE h fun h1 h => cE h (fun h2 h => dS h fk174 (p174_2_0 x0 x1 x5) (oc h0 (oc h1 (oc h2 on)))) fun h2 h =>
   tS fk174 (p174_2_1 x0 x1 x5) (oc h0 (oc h1 (oc h2 on))) (ih _ _ _ _ h)) fun h0 h =>
   dS h fk174 (p174_2_2 x0 x1 x5) (oc h0 on)
theorem c174_e {N : Nat} : ∀ a0 a1 r, xEv N a0 a1 = some r → RE Try.f174 I174 (xC6 a0 a1) (xBk r) := fun a0 a1 r h =>
 tE fk174 (p174_e_3 a0 a1) on (c174_2 _ _ _ _ _ h)
theorem xEF {N : Nat} {a0 : List Str} {a1 : Str} {r : Bool} (h : xEv N  a0 a1 = some r) : AbC 174 (xC6 a0 a1) (xBk r) :=
 AbsCalls.of_reach fk174 rfl rfl (Nat.le_of_ble_eq_true rfl) (c174_e a0 a1 r h)
noncomputable def I138 : Info := { body := (Try.f138.body).getD .skip, nt := 6, results := [.tmp 2], keep := [0, 4], live := [], modes := [] }
theorem fk138 : FnOk Try.prog 138 Try.f138 I138 := ⟨Try.func138, by kernel_rfl, by kernel_rfl, by kernel_rfl, by kernel_rfl⟩
theorem p138_e_0 (a0 : Str) (r1 : (List Str)) (r2 : Bool) : rE I138 (xCZ a0) [] [xCl r1, xBk r2] = dn (xCk r2) [AbC 175 xC0 (xCl r1), AbC 174 (xC6 r1 a0) (xBk r2)] := by kernel_rfl
theorem c138_e {N : Nat} : ∀ a0 r, xC3 N a0 = some r → RE Try.f138 I138 (xCZ a0) (xCk r) := fun a0 r h =>
 bE h fun r1 h0 h => bE h fun r2 h1 h => dE h fk138 (p138_e_0 a0 r1 r2) (oc (spec_l2Reserved_ok h0) (oc (xEF h1) on))
theorem spec_IsReserved_ok {N : Nat} {a0 : Str} {r : Bool} (h : xC3 N  a0 = some r) : AbC 138 (xCZ a0) (xCk r) :=
 AbsCalls.of_reach fk138 rfl rfl (Nat.le_of_ble_eq_true rfl) (c138_e a0 r h)
noncomputable def I83 : Info := { body := (Try.f83.body).getD .skip, nt := 15, results := [.tmp 2], keep := [0, 4], live := [], modes := [(1, [(2, .take, false), (7, .take, false)])] }
theorem fk83 : FnOk Try.prog 83 Try.f83 I83 := ⟨Try.func83, by kernel_rfl, by kernel_rfl, by kernel_rfl, by kernel_rfl⟩
theorem p83_e_0 (a0 : Str) (r1 r2 : Bool) : rE I83 (xBd a0) [Y, Y] [xAp r1, xCk r2] = dn (xAK (!r2)) [AbC 137 (xCx a0) (xAp r1), r1 = true, (decide (((Ln a0 : Int) : Int) ≤ 8)) = true, AbC 138 (xCZ a0) (xCk r2)] := by kernel_rfl
theorem p83_e_1 (a0 : Str) (r1 : Bool) : rE I83 (xBd a0) [Y, F] [xAp r1] = dn (xAK false) [AbC 137 (xCx a0) (xAp r1), r1 = true, (decide (((Ln a0 : Int) : Int) ≤ 8)) = false] := by kernel_rfl
theorem p83_e_2 (a0 : Str) (r1 : Bool) : rE I83 (xBd a0) [F, F] [xAp r1] = dn (xAK false) [AbC 137 (xCx a0) (xAp r1), r1 = false, false = false] := by kernel_rfl
theorem c83_e {N : Nat} : ∀ a0 r, xCL N a0 = some r → RE Try.f83 I83 (xBd a0) (xAK r) := fun a0 r h =>
 bE h fun r1 h0 h => cE h (fun h1 h => cE h (fun h2 h => bE h fun r2 h3 h => dE h fk83 (p83_e_0 a0 r1 r2) (oc (xD6 h0) (oc h1 (oc h2 (oc (spec_IsReserved_ok h3) on))))) fun h2 h =>
 dE h fk83 (p83_e_1 a0 r1) (oc (xD6 h0) (oc h1 (oc h2 on)))) fun h1 h =>
 dE h fk83 (p83_e_2 a0 r1) (oc (xD6 h0) (oc h1 (oc rfl on)))
theorem xD2 {N : Nat} {a0 : Str} {r : Bool} (h : xCL N  a0 = some r) : AbC 83 (xBd a0) (xAK r) :=
 AbsCalls.of_reach fk83 rfl rfl (Nat.le_of_ble_eq_true rfl) (c83_e a0 r h)
noncomputable def I178 : Info := { body := (Try.f178.body).getD .skip, nt := 18, results := [.tmp 2], keep := [0, 4, 6, 14, 34], live := [(2, [0, 6])], modes := [] }
theorem fk178 : FnOk Try.prog 178 Try.f178 I178 := ⟨Try.func178, by kernel_rfl, by kernel_rfl, by kernel_rfl, by kernel_rfl⟩
def S178_2 (x0 : List Str) (x3 : Int) : St := [(0, .v false [.sl .ro .str x0]), (6, .v false [.int .i64 x3])]
theorem p178_2_0 (x0 : List Str) (x3 : Int) (r1 : Bool) : rS 2 I178 (S178_2 x0 x3) [Y, Y] [xBk r1] = dn (xBc false) [(decide ((x3 : Int) < (Ln x0 : Int))) = true, (0 : Int) ≤ x3 ∧ x3 ≤ (Ln x0), (0 : Int) ≤ x3 ∧ x3 < (Ln x0), AbC 174 (xC6 (List.take (tN x3) x0) (gD x0 (tN x3) Ty.str.dflt)) (xBk r1), r1 = true] := by kernel_rfl
theorem p178_2_1 (x0 : List Str) (x3 : Int) (r1 : Bool) : rS 2 I178 (S178_2 x0 x3) [Y, F] [xBk r1] = st 2 I178 (S178_2 x0 (W (x3 + 1))) [(decide ((x3 : Int) < (Ln x0 : Int))) = true, (0 : Int) ≤ x3 ∧ x3 ≤ (Ln x0), (0 : Int) ≤ x3 ∧ x3 < (Ln x0), AbC 174 (xC6 (List.take (tN x3) x0) (gD x0 (tN x3) Ty.str.dflt)) (xBk r1), r1 = false] := by kernel_rfl
theorem p178_2_2 (x0 : List Str) (x3 : Int) : rS 2 I178 (S178_2 x0 x3) [F] [] = dn (xBc true) [(decide ((x3 : Int) < (Ln x0 : Int))) = false] := by kernel_rfl
theorem p178_e_3 (a0 : List Str) : rE I178 (xCD a0) [] [] = st 2 I178 (S178_2 a0 0) [] := by kernel_rfl
theorem c178_2 {N : Nat} : ∀ n x0 x3 r, xBb N n x0 x3 = some r → RS Try.f178 I178 2 (S178_2 x0 x3) (xBc r) := by
 intro n
 induction n with
 | zero => exact fun _ _ _ h => nE h
 | succ n ih =>
  exact fun x0 x3 r h =>
   cE h (fun h0 h => iE h fun h1 h => iE h fun h2 h => bE h fun r1 h3 h => cE h (fun h4 h => dS h fk178 (p178_2_0 x0 x3 r1) (oc h0 (oc h1 (oc h2 (oc (xEF h3) (oc h4 on)))))) fun h4 h =>
   tS fk178 (p178_2_1 x0 x3 r1) (oc h0 (oc h1 (oc h2 (oc (xEF h3) (oc h4 on))))) (ih _ _ _ h)) fun h0 h =>
   dS h fk178 (p178_2_2 x0 x3) (oc h0 on)
theorem c178_e {N : Nat} : ∀ a0 r, xDg N a0 = some r → RE Try.f178 I178 (xCD a0) (xBc r) := fun a0 r h =>
 tE fk178 (p178_e_3 a0) on (c178_2 _ _ _ _ h)
theorem xFk {N : Nat} {a0 : List Str} {r : Bool} (h : xDg N  a0 = some r) : AbC 178 (xCD a0) (xBc r) :=
 AbsCalls.of_reach fk178 rfl rfl (Nat.le_of_ble_eq_true rfl) (c178_e a0 r h)
noncomputable def I154 : Info := { body := (Try.f154.body).getD .skip, nt := 23, results := [.tmp 2], keep := [0, 4, 6, 14, 30], live := [(2, [0, 6])], modes := [(6, [(3, .take, false)])] }
theorem fk154 : FnOk Try.prog 154 Try.f154 I154 := ⟨Try.func154, by kernel_rfl, by kernel_rfl, by kernel_rfl, by kernel_rfl⟩
def S154_2 (x0 : List Str) (x3 : Int) : St := [(0, .v false [.sl .ro .str x0]), (6, .v false [.int .i64 x3])]
theorem p154_2_0 (x0 : List Str) (x3 : Int) (r1 : Bool) : rS 2 I154 (S154_2 x0 x3) [Y, Y] [xAK r1] = dn (xAy false) [(decide ((x3 : Int) < (Ln x0 : Int))) = true, (0 : Int) ≤ x3 ∧ x3 < (Ln x0), AbC 83 (xBd (gD x0 (tN x3) Ty.str.dflt)) (xAK r1), (!r1) = true] := by kernel_rfl
theorem p154_2_1 (x0 : List Str) (x3 : Int) (r1 : Bool) : rS 2 I154 (S154_2 x0 x3) [Y, F] [xAK r1] = st 2 I154 (S154_2 x0 (W (x3 + 1))) [(decide ((x3 : Int) < (Ln x0 : Int))) = true, (0 : Int) ≤ x3 ∧ x3 < (Ln x0), AbC 83 (xBd (gD x0 (tN x3) Ty.str.dflt)) (xAK r1), (!r1) = false] := by kernel_rfl
theorem p154_2_2 (x0 : List Str) (x3 : Int) (r1 r2 : Bool) : rS 2 I154 (S154_2 x0 x3) [F, Y] [xBn r1, xBc r2] = dn (xAy r2) [(decide ((x3 : Int) < (Ln x0 : Int))) = false, AbC 108 (xCB (Ln x0 : Int) 1 4) (xBn r1), r1 = true, AbC 178 (xCD x0) (xBc r2)] := by kernel_rfl
theorem p154_2_3 (x0 : List Str) (x3 : Int) (r1 : Bool) : rS 2 I154 (S154_2 x0 x3) [F, F] [xBn r1] = dn (xAy false) [(decide ((x3 : Int) < (Ln x0 : Int))) = false, AbC 108 (xCB (Ln x0 : Int) 1 4) (xBn r1), r1 = false] := by kernel_rfl
theorem p154_e_4 (a0 : List Str) : rE I154 (xBV a0) [] [] = st 2 I154 (S154_2 a0 0) [] := by kernel_rfl
theorem c154_2 {N : Nat} : ∀ n x0 x3 r, xBW N n x0 x3 = some r → RS Try.f154 I154 2 (S154_2 x0 x3) (xAy r) := by
 intro n
 induction n with
 | zero => exact fun _ _ _ h => nE h
 | succ n ih =>
  exact fun x0 x3 r h =>
   cE h (fun h0 h => iE h fun h1 h => bE h fun r1 h2 h => cE h (fun h3 h => dS h fk154 (p154_2_0 x0 x3 r1) (oc h0 (oc h1 (oc (xD2 h2) (oc h3 on))))) fun h3 h =>
   tS fk154 (p154_2_1 x0 x3 r1) (oc h0 (oc h1 (oc (xD2 h2) (oc h3 on)))) (ih _ _ _ h)) fun h0 h =>
   bE h fun r1 h1 h => cE h (fun h2 h => bE h fun r2 h3 h => dS h fk154 (p154_2_2 x0 x3 r1 r2) (oc h0 (oc (xEj h1) (oc h2 (oc (xFk h3) on))))) fun h2 h =>
   dS h fk154 (p154_2_3 x0 x3 r1) (oc h0 (oc (xEj h1) (oc h2 on)))
theorem c154_e {N : Nat} : ∀ a0 r, xDK N a0 = some r → RE Try.f154 I154 (xBV a0) (xAy r) := fun a0 r h =>
 tE fk154 (p154_e_4 a0) on (c154_2 _ _ _ _ h)
theorem xDE {N : Nat} {a0 : List Str} {r : Bool} (h : xDK N  a0 = some r) : AbC 154 (xBV a0) (xAy r) :=
 AbsCalls.of_reach fk154 rfl rfl (Nat.le_of_ble_eq_true rfl) (c154_e a0 r h)
noncomputable def I179 : Info := { body := (Try.f179.body).getD .skip, nt := 24, results := [.tmp 4], keep := [0, 2, 4, 6, 8, 5, 7], live := [], modes := [(1, [(5, .take, false), (11, .take, false)])] }
theorem fk179 : FnOk Try.prog 179 Try.f179 I179 := ⟨Try.func179, by kernel_rfl, by kernel_rfl, by kernel_rfl, by kernel_rfl⟩
theorem p179_e_0 (a0 a1 : Org) : rE I179 (xBF a0 a1) [Y] [] = dn (xA9 true) [(decide (((Org.cell a0) : Int) < (Org.cell a1))) = true] := by kernel_rfl
theorem p179_e_1 (a0 a1 : Org) : rE I179 (xBF a0 a1) [F, Y] [] = dn (xA9 (decide (((Org.row a0) : Int) < (Org.row a1)))) [(decide (((Org.cell a0) : Int) < (Org.cell a1))) = false, (((Org.cell a0) : Int) == (Org.cell a1)) = true] := by kernel_rfl
theorem p179_e_2 (a0 a1 : Org) : rE I179 (xBF a0 a1) [F, F] [] = dn (xA9 false) [(decide (((Org.cell a0) : Int) < (Org.cell a1))) = false, (((Org.cell a0) : Int) == (Org.cell a1)) = false] := by kernel_rfl
theorem c179_e {N : Nat} : ∀ a0 a1 r, xDw N a0 a1 = some r → RE Try.f179 I179 (xBF a0 a1) (xA9 r) := fun a0 a1 r h =>
 cE h (fun h0 h => dE h fk179 (p179_e_0 a0 a1) (oc h0 on)) fun h0 h =>
 cE h (fun h1 h => dE h fk179 (p179_e_1 a0 a1) (oc h0 (oc h1 on))) fun h1 h =>
 dE h fk179 (p179_e_2 a0 a1) (oc h0 (oc h1 on))
theorem xER {N : Nat} {a0 : Org} {a1 : Org} {r : Bool} (h : xDw N  a0 a1 = some r) : AbC 179 (xBF a0 a1) (xA9 r) :=
 AbsCalls.of_reach fk179 rfl rfl (Nat.le_of_ble_eq_true rfl) (c179_e a0 a1 r h)
noncomputable def I155 : Info := { body := (Try.f155.body).getD .skip, nt := 41, results := [.tmp 2], keep := [0, 4, 6, 14, 80], live := [(2, [0, 6])], modes := [(4, [(6, .take, false), (14, .take, false), (17, .take, false)])] }
theorem fk155 : FnOk Try.prog 155 Try.f155 I155 := ⟨Try.func155, by kernel_rfl, by kernel_rfl, by kernel_rfl, by kernel_rfl⟩
def xE9 (x0 : List Org) (x3 : Int) : St := [(0, .v false [.sl .ro .org x0]), (6, .v false [.int .i64 x3])]
theorem p155_2_0 (x0 : List Org) (x3 : Int) : rS 2 I155 (xE9 x0 x3) [Y, Y, Y, Y] [] = dn (xAw false) [(decide ((x3 : Int) < (Ln x0 : Int))) = true, (0 : Int) ≤ x3 ∧ x3 < (Ln x0), (decide (((Org.cell (gD x0 (tN x3) Ty.org.dflt)) : Int) < 0)) = true, true = true, true = true] := by kernel_rfl
theorem p155_2_1 (x0 : List Org) (x3 : Int) : rS 2 I155 (xE9 x0 x3) [Y, F, Y, Y] [] = dn (xAw false) [(decide ((x3 : Int) < (Ln x0 : Int))) = true, (0 : Int) ≤ x3 ∧ x3 < (Ln x0), (decide (((Org.cell (gD x0 (tN x3) Ty.org.dflt)) : Int) < 0)) = false, (0 : Int) ≤ x3 ∧ x3 < (Ln x0), (decide (((Org.row (gD x0 (tN x3) Ty.org.dflt)) : Int) < 0)) = true, true = true] := by kernel_rfl
theorem p155_2_2 (x0 : List Org) (x3 : Int) (r1 : Bool) : rS 2 I155 (xE9 x0 x3) [Y, F, F, Y, Y] [xA9 r1] = dn (xAw false) [(decide ((x3 : Int) < (Ln x0 : Int))) = true, (0 : Int) ≤ x3 ∧ x3 < (Ln x0), (decide (((Org.cell (gD x0 (tN x3) Ty.org.dflt)) : Int) < 0)) = false, (0 : Int) ≤ x3 ∧ x3 < (Ln x0), (decide (((Org.row (gD x0 (tN x3) Ty.org.dflt)) : Int) < 0)) = false, (decide ((x3 : Int) > 0)) = true, (0 : Int) ≤ (W (x3 - 1)) ∧ (W (x3 - 1)) < (Ln x0), (0 : Int) ≤ x3 ∧ x3 < (Ln x0), AbC 179 (xBF (gD x0 (tN (W (x3 - 1))) Ty.org.dflt) (gD x0 (tN x3) Ty.org.dflt)) (xA9 r1), (!r1) = true] := by kernel_rfl
theorem p155_2_3 (x0 : List Org) (x3 : Int) (r1 : Bool) : rS 2 I155 (xE9 x0 x3) [Y, F, F, Y, F] [xA9 r1] = st 2 I155 (xE9 x0 (W (x3 + 1))) [(decide ((x3 : Int) < (Ln x0 : Int))) = true, (0 : Int) ≤ x3 ∧ x3 < (Ln x0), (decide (((Org.cell (gD x0 (tN x3) Ty.org.dflt)) : Int) < 0)) = false, (0 : Int) ≤ x3 ∧ x3 < (Ln x0), (decide (((Org.row (gD x0 (tN x3) Ty.org.dflt)) : Int) < 0)) = false, (decide ((x3 : Int) > 0)) = true, (0 : Int) ≤ (W (x3 - 1)) ∧ (W (x3 - 1)) < (Ln x0), (0 : Int) ≤ x3 ∧ x3 < (Ln x0), AbC 179 (xBF (gD x0 (tN (W (x3 - 1))) Ty.org.dflt) (gD x0 (tN x3) Ty.org.dflt)) (xA9 r1), (!r1) = false] := by kernel_rfl
theorem p155_2_4 (x0 : List Org) (x3 : Int) : rS 2 I155 (xE9 x0 x3) [Y, F, F, F, F] [] = st 2 I155 (xE9 x0 (W (x3 + 1))) [(decide ((x3 : Int) < (Ln x0 : Int))) = true, (0 : Int) ≤ x3 ∧ x3 < (Ln x0), (decide (((Org.cell (gD x0 (tN x3) Ty.org.dflt)) : Int) < 0)) = false, (0 : Int) ≤ x3 ∧ x3 < (Ln x0), (decide (((Org.row (gD x0 (tN x3) Ty.org.dflt)) : Int) < 0)) = false, (decide ((x3 : Int) > 0)) = false, false = false] := by kernel_rfl
theorem p155_2_5 (x0 : List Org) (x3 : Int) : rS 2 I155 (xE9 x0 x3) [F] [] = dn (xAw true) [(decide ((x3 : Int) < (Ln x0 : Int))) = false] := by kernel_rfl
theorem p155_e_6 (a0 : List Org) : rE I155 (xB7 a0) [] [] = st 2 I155 (xE9 a0 0) [] := by kernel_rfl
theorem c155_2 {N : Nat} : ∀ n x0 x3 r, xAW N n x0 x3 = some r → RS Try.f155 I155 2 (xE9 x0 x3) (xAw r) := by
 intro n
 induction n with
 | zero => exact fun _ _ _ h => nE h
 | succ n ih =>
  exact fun x0 x3 r h =>
   cE h (fun h0 h => iE h fun h1 h => cE h (fun h2 h => dS h fk155 (p155_2_0 x0 x3) (oc h0 (oc h1 (oc h2 (oc rfl (oc rfl on)))))) fun h2 h =>
   cE h (fun h4 h => dS h fk155 (p155_2_1 x0 x3) (oc h0 (oc h1 (oc h2 (oc h1 (oc h4 (oc rfl on))))))) fun h4 h =>
   cE h (fun h5 h => iE h fun h6 h => bE h fun r1 h8 h => cE h (fun h9 h => dS h fk155 (p155_2_2 x0 x3 r1) (oc h0 (oc h1 (oc h2 (oc h1 (oc h4 (oc h5 (oc h6 (oc h1 (oc (xER h8) (oc h9 on))))))))))) fun h9 h =>
   tS fk155 (p155_2_3 x0 x3 r1) (oc h0 (oc h1 (oc h2 (oc h1 (oc h4 (oc h5 (oc h6 (oc h1 (oc (xER h8) (oc h9 on)))))))))) (ih _ _ _ h)) fun h5 h =>
   tS fk155 (p155_2_4 x0 x3) (oc h0 (oc h1 (oc h2 (oc h1 (oc h4 (oc h5 (oc rfl on))))))) (ih _ _ _ h)) fun h0 h =>
   dS h fk155 (p155_2_5 x0 x3) (oc h0 on)
theorem c155_e {N : Nat} : ∀ a0 r, xDj N a0 = some r → RE Try.f155 I155 (xB7 a0) (xAw r) := fun a0 r h =>
 tE fk155 (p155_e_6 a0) on (c155_2 _ _ _ _ h)
theorem xD7 {N : Nat} {a0 : List Org} {r : Bool} (h : xDj N  a0 = some r) : AbC 155 (xB7 a0) (xAw r) :=
 AbsCalls.of_reach fk155 rfl rfl (Nat.le_of_ble_eq_true rfl) (c155_e a0 r h)
noncomputable def I113 : Info := { body := (Try.f113.body).getD .skip, nt := 55, results := [.tmp 2], keep := [0, 2, 4, 6, 8, 10, 30, 40, 80, 90, 108, 3, 9], live := [(4, [2, 6, 3]), (10, [2, 6, 8, 10, 3, 9])], modes := [(1, [(4, .take, false)]), (7, [(7, .take, false)])] }
theorem fk113 : FnOk Try.prog 113 Try.f113 I113 := ⟨Try.func113, by kernel_rfl, by kernel_rfl, by kernel_rfl, by kernel_rfl⟩
def S113_4 (x3 : Int) (b1 : Val) : St := [(2, .v false [.ptr 1 0]), (6, .v false [.int .i64 x3]), (3, .v true [.int .i64 (Val.kind b1), .int .i64 (Val.n b1), .int .i64 (Val.step b1), .str (Val.text b1), .sl .ro .val (Val.list b1), .sl .ro .str (Val.columns b1), .sl .ro .row (Val.rows b1)])]
def S113_10 (x3 x5 : Int) (b1 : Val) (b4 : Rowd) : St := [(2, .v false [.ptr 1 0]), (6, .v false [.int .i64 x3]), (8, .v false [.ptr 4 0]), (10, .v false [.int .i64 x5]), (3, .v true [.int .i64 (Val.kind b1), .int .i64 (Val.n b1), .int .i64 (Val.step b1), .str (Val.text b1), .sl .ro .val (Val.list b1), .sl .ro .str (Val.columns b1), .sl .ro .row (Val.rows b1)]), (9, .v true [.sl .ro .int (Rowd.cells b4), .sl .ro .org (Rowd.frm b4)])]
theorem p113_10_0 (x3 x5 : Int) (b1 : Val) (b4 : Rowd) (r1 : Bool) : rS 10 I113 (S113_10 x3 x5 b1 b4) [Y, Y] [xAu r1] = dn (xAD false) [(decide ((x5 : Int) < (Ln (Rowd.cells b4) : Int))) = true, (0 : Int) ≤ x5 ∧ x5 < (Ln (Rowd.cells b4)), AbC 85 (xBa (gD (Rowd.cells b4) (tN x5) Ty.int.dflt)) (xAu r1), (!r1) = true] := by kernel_rfl
theorem p113_10_1 (x3 x5 : Int) (b1 : Val) (b4 : Rowd) (r1 : Bool) : rS 10 I113 (S113_10 x3 x5 b1 b4) [Y, F] [xAu r1] = st 10 I113 (S113_10 x3 (W (x5 + 1)) b1 b4) [(decide ((x5 : Int) < (Ln (Rowd.cells b4) : Int))) = true, (0 : Int) ≤ x5 ∧ x5 < (Ln (Rowd.cells b4)), AbC 85 (xBa (gD (Rowd.cells b4) (tN x5) Ty.int.dflt)) (xAu r1), (!r1) = false] := by kernel_rfl
theorem p113_10_2 (x3 x5 : Int) (b1 : Val) (b4 : Rowd) : rS 10 I113 (S113_10 x3 x5 b1 b4) [F] [] = st 4 I113 (S113_4 (W (x3 + 1)) b1) [(decide ((x5 : Int) < (Ln (Rowd.cells b4) : Int))) = false] := by kernel_rfl
theorem p113_4_3 (x3 : Int) (b1 : Val) : rS 4 I113 (S113_4 x3 b1) [Y, Y, Y] [] = dn (xAD false) [(decide ((x3 : Int) < (Ln (Val.rows b1) : Int))) = true, (0 : Int) ≤ x3 ∧ x3 < (Ln (Val.rows b1)), (((Ln (Rowd.cells (gD (Val.rows b1) (tN x3) rd)) : Int) : Int) != (Ln (Val.columns b1) : Int)) = true, true = true] := by kernel_rfl
theorem p113_4_4 (x3 : Int) (b1 : Val) (r1 : Bool) : rS 4 I113 (S113_4 x3 b1) [Y, F, Y] [xAw r1] = dn (xAD false) [(decide ((x3 : Int) < (Ln (Val.rows b1) : Int))) = true, (0 : Int) ≤ x3 ∧ x3 < (Ln (Val.rows b1)), (((Ln (Rowd.cells (gD (Val.rows b1) (tN x3) rd)) : Int) : Int) != (Ln (Val.columns b1) : Int)) = false, AbC 155 (xB7 (Rowd.frm (gD (Val.rows b1) (tN x3) rd))) (xAw r1), (!r1) = true] := by kernel_rfl
theorem p113_4_5 (x3 : Int) (b1 : Val) (r1 : Bool) : rS 4 I113 (S113_4 x3 b1) [Y, F, F] [xAw r1] = st 10 I113 (S113_10 x3 0 b1 (gD (Val.rows b1) (tN x3) rd)) [(decide ((x3 : Int) < (Ln (Val.rows b1) : Int))) = true, (0 : Int) ≤ x3 ∧ x3 < (Ln (Val.rows b1)), (((Ln (Rowd.cells (gD (Val.rows b1) (tN x3) rd)) : Int) : Int) != (Ln (Val.columns b1) : Int)) = false, AbC 155 (xB7 (Rowd.frm (gD (Val.rows b1) (tN x3) rd))) (xAw r1), (!r1) = false] := by kernel_rfl
theorem p113_4_6 (x3 : Int) (b1 : Val) : rS 4 I113 (S113_4 x3 b1) [F] [] = dn (xAD true) [(decide ((x3 : Int) < (Ln (Val.rows b1) : Int))) = false] := by kernel_rfl
theorem p113_e_7 (a0 : Val) (r1 : Bool) : rE I113 (xCz a0) [Y, Y] [xAy r1] = dn (xAD false) [AbC 154 (xBV (Val.columns a0)) (xAy r1), (!r1) = true, true = true] := by kernel_rfl
theorem p113_e_8 (a0 : Val) (r1 : Bool) : rE I113 (xCz a0) [F, Y] [xAy r1] = dn (xAD false) [AbC 154 (xBV (Val.columns a0)) (xAy r1), (!r1) = false, (decide (((Ln (Val.rows a0) : Int) : Int) > 12)) = true] := by kernel_rfl
theorem p113_e_9 (a0 : Val) (r1 : Bool) : rE I113 (xCz a0) [F, F] [xAy r1] = st 4 I113 (S113_4 0 a0) [AbC 154 (xBV (Val.columns a0)) (xAy r1), (!r1) = false, (decide (((Ln (Val.rows a0) : Int) : Int) > 12)) = false] := by kernel_rfl
theorem c113_10 {N : Nat} {k4 : Int → Val → Option (Bool)} (hk4 : ∀ z0 z1 r, k4 z0 z1 = some r → RS Try.f113 I113 4 (S113_4 z0 z1) (xAD r)) : ∀ n x3 x5 b1 b4 r, xBG N k4 n x3 x5 b1 b4 = some r → RS Try.f113 I113 10 (S113_10 x3 x5 b1 b4) (xAD r) := by
 intro n
 induction n with
 | zero => exact fun _ _ _ _ _ h => nE h
 | succ n ih =>
  exact fun x3 x5 b1 b4 r h =>
   cE h (fun h0 h => iE h fun h1 h => bE h fun r1 h2 h => cE h (fun h3 h => dS h fk113 (p113_10_0 x3 x5 b1 b4 r1) (oc h0 (oc h1 (oc (xCe h2) (oc h3 on))))) fun h3 h =>
   tS fk113 (p113_10_1 x3 x5 b1 b4 r1) (oc h0 (oc h1 (oc (xCe h2) (oc h3 on)))) (ih _ _ _ _ _ h)) fun h0 h =>
   tS fk113 (p113_10_2 x3 x5 b1 b4) (oc h0 on) (hk4 _ _ _ h)
theorem c113_4 {N : Nat} : ∀ n x3 b1 r, xB8 N n x3 b1 = some r → RS Try.f113 I113 4 (S113_4 x3 b1) (xAD r) := by
 intro n
 induction n with
 | zero => exact fun _ _ _ h => nE h
 | succ n ih =>
  exact fun x3 b1 r h =>
   cE h (fun h0 h => iE h fun h1 h => cE h (fun h2 h => dS h fk113 (p113_4_3 x3 b1) (oc h0 (oc h1 (oc h2 (oc rfl on))))) fun h2 h =>
   bE h fun r1 h3 h => cE h (fun h4 h => dS h fk113 (p113_4_4 x3 b1 r1) (oc h0 (oc h1 (oc h2 (oc (xD7 h3) (oc h4 on)))))) fun h4 h =>
   tS fk113 (p113_4_5 x3 b1 r1) (oc h0 (oc h1 (oc h2 (oc (xD7 h3) (oc h4 on))))) (c113_10 ih _ _ _ _ _ _ h)) fun h0 h =>
   dS h fk113 (p113_4_6 x3 b1) (oc h0 on)
theorem c113_e {N : Nat} : ∀ a0 r, xDP N a0 = some r → RE Try.f113 I113 (xCz a0) (xAD r) := fun a0 r h =>
 bE h fun r1 h0 h => cE h (fun h1 h => dE h fk113 (p113_e_7 a0 r1) (oc (xDE h0) (oc h1 (oc rfl on)))) fun h1 h =>
 cE h (fun h2 h => dE h fk113 (p113_e_8 a0 r1) (oc (xDE h0) (oc h1 (oc h2 on)))) fun h2 h =>
 tE fk113 (p113_e_9 a0 r1) (oc (xDE h0) (oc h1 (oc h2 on))) (c113_4 _ _ _ _ h)
theorem spec_l3Table_ok {N : Nat} {a0 : Val} {r : Bool} (h : xDP N  a0 = some r) : AbC 113 (xCz a0) (xAD r) :=
 AbsCalls.of_reach fk113 rfl rfl (Nat.le_of_ble_eq_true rfl) (c113_e a0 r h)
def G40 (q : Val → Option (Bool)) : Prop := ∀ a0 r, q a0 = some r → AbC 40 (xAc a0) (xAb r)
def G112 (q : Val → Option (Bool)) : Prop := ∀ a0 r, q a0 = some r → AbC 112 (xDd a0) (xBg r)
noncomputable def I40 : Info := { body := (Try.f40.body).getD .skip, nt := 95, results := [.tmp 2], keep := [0, 2, 4, 52, 88, 92, 94, 104, 124, 142, 162, 180, 3], live := [], modes := [(1, [(3, .take, false), (9, .take, false), (13, .take, false)]), (3, [(3, .take, false), (8, .take, false), (12, .take, false)]), (9, [(3, .take, false)]), (11, [(3, .take, false)]), (13, [(3, .take, false)]), (15, [(3, .take, false)])] }
theorem fk40 : FnOk Try.prog 40 Try.f40 I40 := ⟨Try.func40, by kernel_rfl, by kernel_rfl, by kernel_rfl, by kernel_rfl⟩
theorem p40_e_0 (a0 : Val) : rE I40 (xAc a0) [Y, Y, Y] [] = dn (xAb false) [(((Val.kind a0) : Int) != 3) = true, (decide (((Ln (Val.list a0) : Int) : Int) > 0)) = true, true = true] := by kernel_rfl
theorem p40_e_1 (a0 : Val) : rE I40 (xAc a0) [Y, F, Y, Y] [] = dn (xAb false) [(((Val.kind a0) : Int) != 3) = true, (decide (((Ln (Val.list a0) : Int) : Int) > 0)) = false, (((Val.kind a0) : Int) != 5) = true, (decide (((W ((Ln (Val.columns a0) : Int) + (Ln (Val.rows a0) : Int))) : Int) > 0)) = true] := by kernel_rfl
theorem p40_e_2 (a0 : Val) : rE I40 (xAc a0) [Y, F, Y, F, Y, Y, Y] [] = dn (xAb false) [(((Val.kind a0) : Int) != 3) = true, (decide (((Ln (Val.list a0) : Int) : Int) > 0)) = false, (((Val.kind a0) : Int) != 5) = true, (decide (((W ((Ln (Val.columns a0) : Int) + (Ln (Val.rows a0) : Int))) : Int) > 0)) = false, (((Val.kind a0) : Int) != 2) = true, (!(((Val.text a0) : Str) == [])) = true, true = true] := by kernel_rfl
theorem p40_e_3 (a0 : Val) : rE I40 (xAc a0) [Y, F, Y, F, Y, F, Y, Y] [] = dn (xAb false) [(((Val.kind a0) : Int) != 3) = true, (decide (((Ln (Val.list a0) : Int) : Int) > 0)) = false, (((Val.kind a0) : Int) != 5) = true, (decide (((W ((Ln (Val.columns a0) : Int) + (Ln (Val.rows a0) : Int))) : Int) > 0)) = false, (((Val.kind a0) : Int) != 2) = true, (!(((Val.text a0) : Str) == [])) = false, (((Val.kind a0) : Int) != 4) = true, (((Val.step a0) : Int) != 0) = true] := by kernel_rfl
theorem p40_e_4 (a0 : Val) (r1 : Bool) : rE I40 (xAc a0) [Y, F, Y, F, Y, F, Y, F, Y] [xAu r1] = dn (xAb r1) [(((Val.kind a0) : Int) != 3) = true, (decide (((Ln (Val.list a0) : Int) : Int) > 0)) = false, (((Val.kind a0) : Int) != 5) = true, (decide (((W ((Ln (Val.columns a0) : Int) + (Ln (Val.rows a0) : Int))) : Int) > 0)) = false, (((Val.kind a0) : Int) != 2) = true, (!(((Val.text a0) : Str) == [])) = false, (((Val.kind a0) : Int) != 4) = true, (((Val.step a0) : Int) != 0) = false, (((Val.kind a0) : Int) == 1) = true, AbC 85 (xBa (Val.n a0)) (xAu r1)] := by kernel_rfl
theorem p40_e_5 (a0 : Val) (r1 : Bool) : rE I40 (xAc a0) [Y, F, Y, F, Y, F, Y, F, F, F, F, F, F, Y] [xBn r1] = dn (xAb r1) [(((Val.kind a0) : Int) != 3) = true, (decide (((Ln (Val.list a0) : Int) : Int) > 0)) = false, (((Val.kind a0) : Int) != 5) = true, (decide (((W ((Ln (Val.columns a0) : Int) + (Ln (Val.rows a0) : Int))) : Int) > 0)) = false, (((Val.kind a0) : Int) != 2) = true, (!(((Val.text a0) : Str) == [])) = false, (((Val.kind a0) : Int) != 4) = true, (((Val.step a0) : Int) != 0) = false, (((Val.kind a0) : Int) == 1) = false, (((Val.kind a0) : Int) == 2) = false, (((Val.kind a0) : Int) == 3) = false, (((Val.kind a0) : Int) == 4) = false, (((Val.kind a0) : Int) == 5) = false, (((Val.kind a0) : Int) == 6) = true, AbC 108 (xCB (Val.n a0) 1 8) (xBn r1)] := by kernel_rfl
theorem p40_e_6 (a0 : Val) : rE I40 (xAc a0) [Y, F, Y, F, Y, F, Y, F, F, F, F, F, F, F] [] = dn (xAb false) [(((Val.kind a0) : Int) != 3) = true, (decide (((Ln (Val.list a0) : Int) : Int) > 0)) = false, (((Val.kind a0) : Int) != 5) = true, (decide (((W ((Ln (Val.columns a0) : Int) + (Ln (Val.rows a0) : Int))) : Int) > 0)) = false, (((Val.kind a0) : Int) != 2) = true, (!(((Val.text a0) : Str) == [])) = false, (((Val.kind a0) : Int) != 4) = true, (((Val.step a0) : Int) != 0) = false, (((Val.kind a0) : Int) == 1) = false, (((Val.kind a0) : Int) == 2) = false, (((Val.kind a0) : Int) == 3) = false, (((Val.kind a0) : Int) == 4) = false, (((Val.kind a0) : Int) == 5) = false, (((Val.kind a0) : Int) == 6) = false] := by kernel_rfl
theorem p40_e_7 (a0 : Val) (r1 r2 : Bool) : rE I40 (xAc a0) [Y, F, Y, F, Y, F, F, F, F, F, F, Y, Y] [xAu r1, xAu r2] = dn (xAb r2) [(((Val.kind a0) : Int) != 3) = true, (decide (((Ln (Val.list a0) : Int) : Int) > 0)) = false, (((Val.kind a0) : Int) != 5) = true, (decide (((W ((Ln (Val.columns a0) : Int) + (Ln (Val.rows a0) : Int))) : Int) > 0)) = false, (((Val.kind a0) : Int) != 2) = true, (!(((Val.text a0) : Str) == [])) = false, (((Val.kind a0) : Int) != 4) = false, false = false, (((Val.kind a0) : Int) == 1) = false, (((Val.kind a0) : Int) == 2) = false, (((Val.kind a0) : Int) == 3) = false, (((Val.kind a0) : Int) == 4) = true, AbC 85 (xBa (Val.n a0)) (xAu r1), r1 = true, AbC 85 (xBa (Val.step a0)) (xAu r2)] := by kernel_rfl
theorem p40_e_8 (a0 : Val) (r1 : Bool) : rE I40 (xAc a0) [Y, F, Y, F, Y, F, F, F, F, F, F, Y, F] [xAu r1] = dn (xAb false) [(((Val.kind a0) : Int) != 3) = true, (decide (((Ln (Val.list a0) : Int) : Int) > 0)) = false, (((Val.kind a0) : Int) != 5) = true, (decide (((W ((Ln (Val.columns a0) : Int) + (Ln (Val.rows a0) : Int))) : Int) > 0)) = false, (((Val.kind a0) : Int) != 2) = true, (!(((Val.text a0) : Str) == [])) = false, (((Val.kind a0) : Int) != 4) = false, false = false, (((Val.kind a0) : Int) == 1) = false, (((Val.kind a0) : Int) == 2) = false, (((Val.kind a0) : Int) == 3) = false, (((Val.kind a0) : Int) == 4) = true, AbC 85 (xBa (Val.n a0)) (xAu r1), r1 = false] := by kernel_rfl
theorem p40_e_9 (a0 : Val) : rE I40 (xAc a0) [Y, F, Y, F, F, F, Y, Y] [] = dn (xAb false) [(((Val.kind a0) : Int) != 3) = true, (decide (((Ln (Val.list a0) : Int) : Int) > 0)) = false, (((Val.kind a0) : Int) != 5) = true, (decide (((W ((Ln (Val.columns a0) : Int) + (Ln (Val.rows a0) : Int))) : Int) > 0)) = false, (((Val.kind a0) : Int) != 2) = false, false = false, (((Val.kind a0) : Int) != 4) = true, (((Val.step a0) : Int) != 0) = true] := by kernel_rfl
theorem p40_e_10 (a0 : Val) (r1 : Bool) : rE I40 (xAc a0) [Y, F, Y, F, F, F, Y, F, F, Y, Y] [xAL r1] = dn (xAb r1) [(((Val.kind a0) : Int) != 3) = true, (decide (((Ln (Val.list a0) : Int) : Int) > 0)) = false, (((Val.kind a0) : Int) != 5) = true, (decide (((W ((Ln (Val.columns a0) : Int) + (Ln (Val.rows a0) : Int))) : Int) > 0)) = false, (((Val.kind a0) : Int) != 2) = false, false = false, (((Val.kind a0) : Int) != 4) = true, (((Val.step a0) : Int) != 0) = false, (((Val.kind a0) : Int) == 1) = false, (((Val.kind a0) : Int) == 2) = true, (((Val.n a0) : Int) == 0) = true, AbC 111 (xCE (Val.text a0)) (xAL r1)] := by kernel_rfl
theorem p40_e_11 (a0 : Val) : rE I40 (xAc a0) [Y, F, Y, F, F, F, Y, F, F, Y, F] [] = dn (xAb false) [(((Val.kind a0) : Int) != 3) = true, (decide (((Ln (Val.list a0) : Int) : Int) > 0)) = false, (((Val.kind a0) : Int) != 5) = true, (decide (((W ((Ln (Val.columns a0) : Int) + (Ln (Val.rows a0) : Int))) : Int) > 0)) = false, (((Val.kind a0) : Int) != 2) = false, false = false, (((Val.kind a0) : Int) != 4) = true, (((Val.step a0) : Int) != 0) = false, (((Val.kind a0) : Int) == 1) = false, (((Val.kind a0) : Int) == 2) = true, (((Val.n a0) : Int) == 0) = false] := by kernel_rfl
theorem p40_e_12 (a0 : Val) : rE I40 (xAc a0) [Y, F, F, F, Y, Y, Y] [] = dn (xAb false) [(((Val.kind a0) : Int) != 3) = true, (decide (((Ln (Val.list a0) : Int) : Int) > 0)) = false, (((Val.kind a0) : Int) != 5) = false, false = false, (((Val.kind a0) : Int) != 2) = true, (!(((Val.text a0) : Str) == [])) = true, true = true] := by kernel_rfl
theorem p40_e_13 (a0 : Val) : rE I40 (xAc a0) [Y, F, F, F, Y, F, Y, Y] [] = dn (xAb false) [(((Val.kind a0) : Int) != 3) = true, (decide (((Ln (Val.list a0) : Int) : Int) > 0)) = false, (((Val.kind a0) : Int) != 5) = false, false = false, (((Val.kind a0) : Int) != 2) = true, (!(((Val.text a0) : Str) == [])) = false, (((Val.kind a0) : Int) != 4) = true, (((Val.step a0) : Int) != 0) = true] := by kernel_rfl
theorem p40_e_14 (a0 : Val) (r1 : Bool) : rE I40 (xAc a0) [Y, F, F, F, Y, F, Y, F, F, F, F, F, Y, Y] [xAD r1] = dn (xAb r1) [(((Val.kind a0) : Int) != 3) = true, (decide (((Ln (Val.list a0) : Int) : Int) > 0)) = false, (((Val.kind a0) : Int) != 5) = false, false = false, (((Val.kind a0) : Int) != 2) = true, (!(((Val.text a0) : Str) == [])) = false, (((Val.kind a0) : Int) != 4) = true, (((Val.step a0) : Int) != 0) = false, (((Val.kind a0) : Int) == 1) = false, (((Val.kind a0) : Int) == 2) = false, (((Val.kind a0) : Int) == 3) = false, (((Val.kind a0) : Int) == 4) = false, (((Val.kind a0) : Int) == 5) = true, (((Val.n a0) : Int) == 0) = true, AbC 113 (xCz a0) (xAD r1)] := by kernel_rfl
theorem p40_e_15 (a0 : Val) : rE I40 (xAc a0) [Y, F, F, F, Y, F, Y, F, F, F, F, F, Y, F] [] = dn (xAb false) [(((Val.kind a0) : Int) != 3) = true, (decide (((Ln (Val.list a0) : Int) : Int) > 0)) = false, (((Val.kind a0) : Int) != 5) = false, false = false, (((Val.kind a0) : Int) != 2) = true, (!(((Val.text a0) : Str) == [])) = false, (((Val.kind a0) : Int) != 4) = true, (((Val.step a0) : Int) != 0) = false, (((Val.kind a0) : Int) == 1) = false, (((Val.kind a0) : Int) == 2) = false, (((Val.kind a0) : Int) == 3) = false, (((Val.kind a0) : Int) == 4) = false, (((Val.kind a0) : Int) == 5) = true, (((Val.n a0) : Int) == 0) = false] := by kernel_rfl
theorem p40_e_16 (a0 : Val) : rE I40 (xAc a0) [F, F, Y, Y] [] = dn (xAb false) [(((Val.kind a0) : Int) != 3) = false, false = false, (((Val.kind a0) : Int) != 5) = true, (decide (((W ((Ln (Val.columns a0) : Int) + (Ln (Val.rows a0) : Int))) : Int) > 0)) = true] := by kernel_rfl
theorem p40_e_17 (a0 : Val) : rE I40 (xAc a0) [F, F, Y, F, Y, Y, Y] [] = dn (xAb false) [(((Val.kind a0) : Int) != 3) = false, false = false, (((Val.kind a0) : Int) != 5) = true, (decide (((W ((Ln (Val.columns a0) : Int) + (Ln (Val.rows a0) : Int))) : Int) > 0)) = false, (((Val.kind a0) : Int) != 2) = true, (!(((Val.text a0) : Str) == [])) = true, true = true] := by kernel_rfl
theorem p40_e_18 (a0 : Val) : rE I40 (xAc a0) [F, F, Y, F, Y, F, Y, Y] [] = dn (xAb false) [(((Val.kind a0) : Int) != 3) = false, false = false, (((Val.kind a0) : Int) != 5) = true, (decide (((W ((Ln (Val.columns a0) : Int) + (Ln (Val.rows a0) : Int))) : Int) > 0)) = false, (((Val.kind a0) : Int) != 2) = true, (!(((Val.text a0) : Str) == [])) = false, (((Val.kind a0) : Int) != 4) = true, (((Val.step a0) : Int) != 0) = true] := by kernel_rfl
theorem p40_e_19 (a0 : Val) (r1 : Bool) : rE I40 (xAc a0) [F, F, Y, F, Y, F, Y, F, F, F, Y, Y] [xBg r1] = dn (xAb r1) [(((Val.kind a0) : Int) != 3) = false, false = false, (((Val.kind a0) : Int) != 5) = true, (decide (((W ((Ln (Val.columns a0) : Int) + (Ln (Val.rows a0) : Int))) : Int) > 0)) = false, (((Val.kind a0) : Int) != 2) = true, (!(((Val.text a0) : Str) == [])) = false, (((Val.kind a0) : Int) != 4) = true, (((Val.step a0) : Int) != 0) = false, (((Val.kind a0) : Int) == 1) = false, (((Val.kind a0) : Int) == 2) = false, (((Val.kind a0) : Int) == 3) = true, (((Val.n a0) : Int) == 0) = true, AbC 112 (xDd a0) (xBg r1)] := by kernel_rfl
theorem p40_e_20 (a0 : Val) : rE I40 (xAc a0) [F, F, Y, F, Y, F, Y, F, F, F, Y, F] [] = dn (xAb false) [(((Val.kind a0) : Int) != 3) = false, false = false, (((Val.kind a0) : Int) != 5) = true, (decide (((W ((Ln (Val.columns a0) : Int) + (Ln (Val.rows a0) : Int))) : Int) > 0)) = false, (((Val.kind a0) : Int) != 2) = true, (!(((Val.text a0) : Str) == [])) = false, (((Val.kind a0) : Int) != 4) = true, (((Val.step a0) : Int) != 0) = false, (((Val.kind a0) : Int) == 1) = false, (((Val.kind a0) : Int) == 2) = false, (((Val.kind a0) : Int) == 3) = true, (((Val.n a0) : Int) == 0) = false] := by kernel_rfl
theorem c40_e {N : Nat} {q0 : Val → Option (Bool)} (g0 : G40 q0) {q1 : Val → Option (Bool)} (g1 : G112 q1) : ∀ a0 r, xBp N q0 q1 a0 = some r → RE Try.f40 I40 (xAc a0) (xAb r) := fun a0 r h =>
 cE h (fun h0 h => cE h (fun h1 h => dE h fk40 (p40_e_0 a0) (oc h0 (oc h1 (oc rfl on)))) fun h1 h =>
 cE h (fun h2 h => cE h (fun h3 h => dE h fk40 (p40_e_1 a0) (oc h0 (oc h1 (oc h2 (oc h3 on))))) fun h3 h =>
 cE h (fun h4 h => cE h (fun h5 h => dE h fk40 (p40_e_2 a0) (oc h0 (oc h1 (oc h2 (oc h3 (oc h4 (oc h5 (oc rfl on)))))))) fun h5 h =>
 cE h (fun h6 h => cE h (fun h7 h => dE h fk40 (p40_e_3 a0) (oc h0 (oc h1 (oc h2 (oc h3 (oc h4 (oc h5 (oc h6 (oc h7 on))))))))) fun h7 h =>
 cE h (fun h8 h => bE h fun r1 h9 h => dE h fk40 (p40_e_4 a0 r1) (oc h0 (oc h1 (oc h2 (oc h3 (oc h4 (oc h5 (oc h6 (oc h7 (oc h8 (oc (xCe h9) on))))))))))) fun h8 h =>
 cE h (fun h13 h => bE h fun r1 h14 h => dE h fk40 (p40_e_5 a0 r1) (oc h0 (oc h1 (oc h2 (oc h3 (oc h4 (oc h5 (oc h6 (oc h7 (oc h8 (oc (of_not h4) (oc (of_not h0) (oc (of_not h6) (oc (of_not h2) (oc h13 (oc (xEj h14) on)))))))))))))))) fun h13 h =>
 dE h fk40 (p40_e_6 a0) (oc h0 (oc h1 (oc h2 (oc h3 (oc h4 (oc h5 (oc h6 (oc h7 (oc h8 (oc (of_not h4) (oc (of_not h0) (oc (of_not h6) (oc (of_not h2) (oc h13 on))))))))))))))) fun h6 h =>
 bE h fun r1 h12 h => cE h (fun h13 h => bE h fun r2 h14 h => dE h fk40 (p40_e_7 a0 r1 r2) (oc h0 (oc h1 (oc h2 (oc h3 (oc h4 (oc h5 (oc h6 (oc rfl (oc (eq_ne (of_not h6) rfl) (oc (of_not h4) (oc (of_not h0) (oc (of_not h6) (oc (xCe h12) (oc h13 (oc (xCe h14) on)))))))))))))))) fun h13 h =>
 dE h fk40 (p40_e_8 a0 r1) (oc h0 (oc h1 (oc h2 (oc h3 (oc h4 (oc h5 (oc h6 (oc rfl (oc (eq_ne (of_not h6) rfl) (oc (of_not h4) (oc (of_not h0) (oc (of_not h6) (oc (xCe h12) (oc h13 on))))))))))))))) fun h4 h =>
 cE h (fun h7 h => dE h fk40 (p40_e_9 a0) (oc h0 (oc h1 (oc h2 (oc h3 (oc h4 (oc rfl (oc (not_of (eq_ne (of_not h4) rfl)) (oc h7 on))))))))) fun h7 h =>
 cE h (fun h10 h => bE h fun r1 h11 h => dE h fk40 (p40_e_10 a0 r1) (oc h0 (oc h1 (oc h2 (oc h3 (oc h4 (oc rfl (oc (not_of (eq_ne (of_not h4) rfl)) (oc h7 (oc (eq_ne (of_not h4) rfl) (oc (of_not h4) (oc h10 (oc (xFm h11) on))))))))))))) fun h10 h =>
 dE h fk40 (p40_e_11 a0) (oc h0 (oc h1 (oc h2 (oc h3 (oc h4 (oc rfl (oc (not_of (eq_ne (of_not h4) rfl)) (oc h7 (oc (eq_ne (of_not h4) rfl) (oc (of_not h4) (oc h10 on)))))))))))) fun h2 h =>
 cE h (fun h5 h => dE h fk40 (p40_e_12 a0) (oc h0 (oc h1 (oc h2 (oc rfl (oc (not_of (eq_ne (of_not h2) rfl)) (oc h5 (oc rfl on)))))))) fun h5 h =>
 cE h (fun h7 h => dE h fk40 (p40_e_13 a0) (oc h0 (oc h1 (oc h2 (oc rfl (oc (not_of (eq_ne (of_not h2) rfl)) (oc h5 (oc (not_of (eq_ne (of_not h2) rfl)) (oc h7 on))))))))) fun h7 h =>
 cE h (fun h13 h => bE h fun r1 h14 h => dE h fk40 (p40_e_14 a0 r1) (oc h0 (oc h1 (oc h2 (oc rfl (oc (not_of (eq_ne (of_not h2) rfl)) (oc h5 (oc (not_of (eq_ne (of_not h2) rfl)) (oc h7 (oc (eq_ne (of_not h2) rfl) (oc (eq_ne (of_not h2) rfl) (oc (of_not h0) (oc (eq_ne (of_not h2) rfl) (oc (of_not h2) (oc h13 (oc (spec_l3Table_ok h14) on)))))))))))))))) fun h13 h =>
 dE h fk40 (p40_e_15 a0) (oc h0 (oc h1 (oc h2 (oc rfl (oc (not_of (eq_ne (of_not h2) rfl)) (oc h5 (oc (not_of (eq_ne (of_not h2) rfl)) (oc h7 (oc (eq_ne (of_not h2) rfl) (oc (eq_ne (of_not h2) rfl) (oc (of_not h0) (oc (eq_ne (of_not h2) rfl) (oc (of_not h2) (oc h13 on))))))))))))))) fun h0 h =>
 cE h (fun h3 h => dE h fk40 (p40_e_16 a0) (oc h0 (oc rfl (oc (not_of (eq_ne (of_not h0) rfl)) (oc h3 on))))) fun h3 h =>
 cE h (fun h5 h => dE h fk40 (p40_e_17 a0) (oc h0 (oc rfl (oc (not_of (eq_ne (of_not h0) rfl)) (oc h3 (oc (not_of (eq_ne (of_not h0) rfl)) (oc h5 (oc rfl on)))))))) fun h5 h =>
 cE h (fun h7 h => dE h fk40 (p40_e_18 a0) (oc h0 (oc rfl (oc (not_of (eq_ne (of_not h0) rfl)) (oc h3 (oc (not_of (eq_ne (of_not h0) rfl)) (oc h5 (oc (not_of (eq_ne (of_not h0) rfl)) (oc h7 on))))))))) fun h7 h =>
 cE h (fun h11 h => bE h fun r1 h12 h => dE h fk40 (p40_e_19 a0 r1) (oc h0 (oc rfl (oc (not_of (eq_ne (of_not h0) rfl)) (oc h3 (oc (not_of (eq_ne (of_not h0) rfl)) (oc h5 (oc (not_of (eq_ne (of_not h0) rfl)) (oc h7 (oc (eq_ne (of_not h0) rfl) (oc (eq_ne (of_not h0) rfl) (oc (of_not h0) (oc h11 (oc (g1 _ _ h12) on)))))))))))))) fun h11 h =>
 dE h fk40 (p40_e_20 a0) (oc h0 (oc rfl (oc (not_of (eq_ne (of_not h0) rfl)) (oc h3 (oc (not_of (eq_ne (of_not h0) rfl)) (oc h5 (oc (not_of (eq_ne (of_not h0) rfl)) (oc h7 (oc (eq_ne (of_not h0) rfl) (oc (eq_ne (of_not h0) rfl) (oc (of_not h0) (oc h11 on))))))))))))
theorem xEo {N : Nat} {q0 : Val → Option (Bool)} (g0 : G40 q0) {q1 : Val → Option (Bool)} (g1 : G112 q1) {a0 : Val} {r : Bool} (h : xBp N q0 q1 a0 = some r) : AbC 40 (xAc a0) (xAb r) :=
 AbsCalls.of_reach fk40 rfl rfl (Nat.le_of_ble_eq_true rfl) (c40_e g0 g1 a0 r h)
noncomputable def I112 : Info := { body := (Try.f112.body).getD .skip, nt := 36, results := [.tmp 2], keep := [0, 2, 4, 6, 16, 52, 3], live := [(2, [2, 6, 3])], modes := [(4, [(7, .take, false)]), (6, [(4, .take, false)])] }
theorem fk112 : FnOk Try.prog 112 Try.f112 I112 := ⟨Try.func112, by kernel_rfl, by kernel_rfl, by kernel_rfl, by kernel_rfl⟩
def S112_2 (x3 : Int) (b1 : Val) : St := [(2, .v false [.ptr 1 0]), (6, .v false [.int .i64 x3]), (3, .v true [.int .i64 (Val.kind b1), .int .i64 (Val.n b1), .int .i64 (Val.step b1), .str (Val.text b1), .sl .ro .val (Val.list b1), .sl .ro .str (Val.columns b1), .sl .ro .row (Val.rows b1)])]
theorem p112_2_0 (x3 : Int) (b1 : Val) (r1 : Bool) : rS 2 I112 (S112_2 x3 b1) [Y, Y, Y] [xAC r1] = dn (xBg false) [(decide ((x3 : Int) < (Ln (Val.list b1) : Int))) = true, (0 : Int) ≤ x3 ∧ x3 < (Ln (Val.list b1)), AbC 152 (xBf (gD (Val.list b1) (tN x3) vd)) (xAC r1), (!r1) = true, true = true] := by kernel_rfl
theorem p112_2_1 (x3 : Int) (b1 : Val) (r1 r2 : Bool) : rS 2 I112 (S112_2 x3 b1) [Y, F, Y] [xAC r1, xAb r2] = dn (xBg false) [(decide ((x3 : Int) < (Ln (Val.list b1) : Int))) = true, (0 : Int) ≤ x3 ∧ x3 < (Ln (Val.list b1)), AbC 152 (xBf (gD (Val.list b1) (tN x3) vd)) (xAC r1), (!r1) = false, (0 : Int) ≤ x3 ∧ x3 < (Ln (Val.list b1)), AbC 40 (xAc (gD (Val.list b1) (tN x3) vd)) (xAb r2), (!r2) = true] := by kernel_rfl
theorem p112_2_2 (x3 : Int) (b1 : Val) (r1 r2 : Bool) : rS 2 I112 (S112_2 x3 b1) [Y, F, F] [xAC r1, xAb r2] = st 2 I112 (S112_2 (W (x3 + 1)) b1) [(decide ((x3 : Int) < (Ln (Val.list b1) : Int))) = true, (0 : Int) ≤ x3 ∧ x3 < (Ln (Val.list b1)), AbC 152 (xBf (gD (Val.list b1) (tN x3) vd)) (xAC r1), (!r1) = false, (0 : Int) ≤ x3 ∧ x3 < (Ln (Val.list b1)), AbC 40 (xAc (gD (Val.list b1) (tN x3) vd)) (xAb r2), (!r2) = false] := by kernel_rfl
theorem p112_2_3 (x3 : Int) (b1 : Val) (r1 : Int) : rS 2 I112 (S112_2 x3 b1) [F, Y] [xA3 r1] = dn (xBg (decide ((r1 : Int) ≤ 3))) [(decide ((x3 : Int) < (Ln (Val.list b1) : Int))) = false, (decide (((Ln (Val.list b1) : Int) : Int) ≤ 8)) = true, AbC 153 (xB4 b1) (xA3 r1)] := by kernel_rfl
theorem p112_2_4 (x3 : Int) (b1 : Val) : rS 2 I112 (S112_2 x3 b1) [F, F] [] = dn (xBg false) [(decide ((x3 : Int) < (Ln (Val.list b1) : Int))) = false, (decide (((Ln (Val.list b1) : Int) : Int) ≤ 8)) = false] := by kernel_rfl
theorem p112_e_5 (a0 : Val) : rE I112 (xDd a0) [] [] = st 2 I112 (S112_2 0 a0) [] := by kernel_rfl
theorem c112_2 {N : Nat} {q0 : Val → Option (Bool)} (g0 : G40 q0) {q1 : Val → Option (Bool)} (g1 : G112 q1) : ∀ n x3 b1 r, xBS N q0 q1 n x3 b1 = some r → RS Try.f112 I112 2 (S112_2 x3 b1) (xBg r) := by
 intro n
 induction n with
 | zero => exact fun _ _ _ h => nE h
 | succ n ih =>
  exact fun x3 b1 r h =>
   cE h (fun h0 h => iE h fun h1 h => bE h fun r1 h2 h => cE h (fun h3 h => dS h fk112 (p112_2_0 x3 b1 r1) (oc h0 (oc h1 (oc (xDG h2) (oc h3 (oc rfl on)))))) fun h3 h =>
   bE h fun r2 h5 h => cE h (fun h6 h => dS h fk112 (p112_2_1 x3 b1 r1 r2) (oc h0 (oc h1 (oc (xDG h2) (oc h3 (oc h1 (oc (g0 _ _ h5) (oc h6 on)))))))) fun h6 h =>
   tS fk112 (p112_2_2 x3 b1 r1 r2) (oc h0 (oc h1 (oc (xDG h2) (oc h3 (oc h1 (oc (g0 _ _ h5) (oc h6 on))))))) (ih _ _ _ h)) fun h0 h =>
   cE h (fun h1 h => bE h fun r1 h2 h => dS h fk112 (p112_2_3 x3 b1 r1) (oc h0 (oc h1 (oc (spec_DepthOf_ok h2) on)))) fun h1 h =>
   dS h fk112 (p112_2_4 x3 b1) (oc h0 (oc h1 on))
theorem c112_e {N : Nat} {q0 : Val → Option (Bool)} (g0 : G40 q0) {q1 : Val → Option (Bool)} (g1 : G112 q1) : ∀ a0 r, xDV N q0 q1 a0 = some r → RE Try.f112 I112 (xDd a0) (xBg r) := fun a0 r h =>
 tE fk112 (p112_e_5 a0) on (c112_2 g0 g1 _ _ _ _ h)
theorem xFr {N : Nat} {q0 : Val → Option (Bool)} (g0 : G40 q0) {q1 : Val → Option (Bool)} (g1 : G112 q1) {a0 : Val} {r : Bool} (h : xDV N q0 q1 a0 = some r) : AbC 112 (xDd a0) (xBg r) :=
 AbsCalls.of_reach fk112 rfl rfl (Nat.le_of_ble_eq_true rfl) (c112_e g0 g1 a0 r h)
theorem xEu {N : Nat} : ∀ d, G40 (xAe N d).c_spec_IsValidValue ∧ G112 (xAe N d).c_spec_l3List := by
 intro d
 induction d with
 | zero => exact ⟨fun _ _ h => nE h, fun _ _ h => nE h⟩
 | succ d ih =>
  obtain ⟨ih0, ih1⟩ := ih
  exact ⟨fun _ _ h => xEo (N := N) ih0 ih1 h, fun _ _ h => xFr (N := N) ih0 ih1 h⟩
theorem xDa {N : Nat} {a0 : Val} {r : Bool} (h : xC5 N a0 = some r) : AbC 40 (xAc a0) (xAb r) := (xEu N).1 _ r h
noncomputable def I44 : Info := { body := (Try.f44.body).getD .skip, nt := 5, results := [.cell 2 31], keep := [0, 4, 5], live := [], modes := [] }
theorem fk44 : FnOk Try.prog 44 Try.f44 I44 := ⟨Try.func44, by kernel_rfl, by kernel_rfl, by kernel_rfl, by kernel_rfl⟩
theorem p44_e_0 (a0 : Int) : rE I44 (xA1 a0) [] [] = dn (xAt (Val.mk 6 a0 0 [] [] [] [])) [] := by kernel_rfl
theorem c44_e {N : Nat} : ∀ a0 r, xBj N a0 = some r → RE Try.f44 I44 (xA1 a0) (xAt r) := fun a0 r h =>
 dE h fk44 (p44_e_0 a0) on
theorem xCj {N : Nat} {a0 : Int} {r : Val} (h : xBj N  a0 = some r) : AbC 44 (xA1 a0) (xAt r) :=
 AbsCalls.of_reach fk44 rfl rfl (Nat.le_of_ble_eq_true rfl) (c44_e a0 r h)
noncomputable def I51 : Info := { body := (Try.f51.body).getD .skip, nt := 5, results := [.cell 2 31], keep := [0, 4, 5], live := [], modes := [] }
theorem fk51 : FnOk Try.prog 51 Try.f51 I51 := ⟨Try.func51, by kernel_rfl, by kernel_rfl, by kernel_rfl, by kernel_rfl⟩
theorem p51_e_0 (a0 : Int) : rE I51 (xAM a0) [] [] = dn (xAl (Val.mk 1 a0 0 [] [] [] [])) [] := by kernel_rfl
theorem c51_e {N : Nat} : ∀ a0 r, xAX N a0 = some r → RE Try.f51 I51 (xAM a0) (xAl r) := fun a0 r h =>
 dE h fk51 (p51_e_0 a0) on
theorem xBs {N : Nat} {a0 : Int} {r : Val} (h : xAX N  a0 = some r) : AbC 51 (xAM a0) (xAl r) :=
 AbsCalls.of_reach fk51 rfl rfl (Nat.le_of_ble_eq_true rfl) (c51_e a0 r h)
noncomputable def I127 : Info := { body := (Try.f127.body).getD .skip, nt := 5, results := [.cell 2 31], keep := [0, 4, 5], live := [], modes := [] }
theorem fk127 : FnOk Try.prog 127 Try.f127 I127 := ⟨Try.func127, by kernel_rfl, by kernel_rfl, by kernel_rfl, by kernel_rfl⟩
theorem p127_e_0 (a0 : Str) : rE I127 (xBU a0) [] [] = dn (xAZ (Val.mk 2 0 0 a0 [] [] [])) [] := by kernel_rfl
theorem c127_e {N : Nat} : ∀ a0 r, xCQ N a0 = some r → RE Try.f127 I127 (xBU a0) (xAZ r) := fun a0 r h =>
 dE h fk127 (p127_e_0 a0) on
theorem xDD {N : Nat} {a0 : Str} {r : Val} (h : xCQ N  a0 = some r) : AbC 127 (xBU a0) (xAZ r) :=
 AbsCalls.of_reach fk127 rfl rfl (Nat.le_of_ble_eq_true rfl) (c127_e a0 r h)
noncomputable def I139 : Info := { body := (Try.f139.body).getD .skip, nt := 12, results := [.cell 2 107], keep := [0, 2, 4, 3, 5], live := [], modes := [] }
theorem fk139 : FnOk Try.prog 139 Try.f139 I139 := ⟨Try.func139, by kernel_rfl, by kernel_rfl, by kernel_rfl, by kernel_rfl⟩
theorem p139_e_0 (a0 : Rowd) : rE I139 (xDY a0) [] [] = dn (xDx (Rowd.mk ([] ++ (Rowd.cells a0)) ([] ++ (Rowd.frm a0)))) [0 + Ln (Rowd.cells a0) ≤ Lim, 0 + Ln (Rowd.frm a0) ≤ Lim] := by kernel_rfl
theorem c139_e {N : Nat} : ∀ a0 r, xEz N a0 = some r → RE Try.f139 I139 (xDY a0) (xDx r) := fun a0 r h =>
 iE h fun h0 h => iE h fun h1 h => dE h fk139 (p139_e_0 a0) (oc h0 (oc h1 on))
theorem spec_l3Row_ok {N : Nat} {a0 : Rowd} {r : Rowd} (h : xEz N  a0 = some r) : AbC 139 (xDY a0) (xDx r) :=
 AbsCalls.of_reach fk139 rfl rfl (Nat.le_of_ble_eq_true rfl) (c139_e a0 r h)
def G84 (q : Val → Option (Val)) : Prop := ∀ a0 r, q a0 = some r → AbC 84 (xCp a0) (xA6 r)
noncomputable def I84 : Info := { body := (Try.f84.body).getD .skip, nt := 56, results := [.cell 2 31], keep := [0, 2, 4, 6, 8, 10, 46, 82, 3, 5, 7], live := [(3, [2, 4, 6, 8, 3, 5, 7]), (7, [2, 4, 6, 10, 3, 5, 7])], modes := [(5, [(1, .take, false), (9, .take, false)]), (9, [(1, .take, false), (9, .take, false)]), (10, [(0, .take, false)])] }
theorem fk84 : FnOk Try.prog 84 Try.f84 I84 := ⟨Try.func84, by kernel_rfl, by kernel_rfl, by kernel_rfl, by kernel_rfl⟩
def S84_3 (x4 : Int) (b1 b2 b3 : Val) : St := [(2, .v false [.ptr 1 0]), (4, .v false [.ptr 2 0]), (6, .v false [.ptr 3 0]), (8, .v false [.int .i64 x4]), (3, .v true [.int .i64 (Val.kind b1), .int .i64 (Val.n b1), .int .i64 (Val.step b1), .str (Val.text b1), .sl .ro .val (Val.list b1), .sl .ro .str (Val.columns b1), .sl .ro .row (Val.rows b1)]), (5, .v true [.int .i64 (Val.kind b2), .int .i64 (Val.n b2), .int .i64 (Val.step b2), .str (Val.text b2), .sl .own .val (Val.list b2), .sl .own .str (Val.columns b2), .sl .own .row (Val.rows b2)]), (7, .v true [.int .i64 (Val.kind b3), .int .i64 (Val.n b3), .int .i64 (Val.step b3), .str (Val.text b3), .sl .own .val (Val.list b3), .sl .own .str (Val.columns b3), .sl .own .row (Val.rows b3)])]
def S84_7 (x5 : Int) (b1 b2 b3 : Val) : St := [(2, .v false [.ptr 1 0]), (4, .v false [.ptr 2 0]), (6, .v false [.ptr 3 0]), (10, .v false [.int .i64 x5]), (3, .v true [.int .i64 (Val.kind b1), .int .i64 (Val.n b1), .int .i64 (Val.step b1), .str (Val.text b1), .sl .ro .val (Val.list b1), .sl .ro .str (Val.columns b1), .sl .ro .row (Val.rows b1)]), (5, .v true [.int .i64 (Val.kind b2), .int .i64 (Val.n b2), .int .i64 (Val.step b2), .str (Val.text b2), .sl .own .val (Val.list b2), .sl .own .str (Val.columns b2), .sl .own .row (Val.rows b2)]), (7, .v true [.int .i64 (Val.kind b3), .int .i64 (Val.n b3), .int .i64 (Val.step b3), .str (Val.text b3), .sl .own .val (Val.list b3), .sl .own .str (Val.columns b3), .sl .own .row (Val.rows b3)])]
theorem p84_7_0 (x5 : Int) (b1 b2 b3 : Val) (r1 : Rowd) : rS 7 I84 (S84_7 x5 b1 b2 b3) [Y] [xDx r1] = st 7 I84 (S84_7 (W (x5 + 1)) b1 b2 (Val.mk (Val.kind b3) (Val.n b3) (Val.step b3) (Val.text b3) (Val.list b3) (Val.columns b3) ((Val.rows b3) ++ [r1]))) [(decide ((x5 : Int) < (Ln (Val.rows b1) : Int))) = true, (0 : Int) ≤ x5 ∧ x5 < (Ln (Val.rows b1)), AbC 139 (xDY (gD (Val.rows b1) (tN x5) rd)) (xDx r1), Ln (Val.rows b3) + Ln [r1] ≤ Lim] := by kernel_rfl
theorem p84_7_1 (x5 : Int) (b1 b2 b3 : Val) : rS 7 I84 (S84_7 x5 b1 b2 b3) [F] [] = dn (xA6 b3) [(decide ((x5 : Int) < (Ln (Val.rows b1) : Int))) = false] := by kernel_rfl
theorem p84_3_2 (x4 : Int) (b1 b2 b3 r1 : Val) : rS 3 I84 (S84_3 x4 b1 b2 b3) [Y] [xA6 r1] = st 3 I84 (S84_3 (W (x4 + 1)) b1 b2 (Val.mk (Val.kind b3) (Val.n b3) (Val.step b3) (Val.text b3) ((Val.list b3) ++ [(Val.re r1)]) (Val.columns b3) (Val.rows b3))) [(decide ((x4 : Int) < (Ln (Val.list b1) : Int))) = true, (0 : Int) ≤ x4 ∧ x4 < (Ln (Val.list b1)), AbC 84 (xCp (gD (Val.list b1) (tN x4) vd)) (xA6 r1), Ln (Val.list b3) + Ln [(Val.re r1)] ≤ Lim] := by kernel_rfl
theorem p84_3_3 (x4 : Int) (b1 b2 b3 : Val) : rS 3 I84 (S84_3 x4 b1 b2 b3) [F] [] = st 7 I84 (S84_7 0 b1 b2 b3) [(decide ((x4 : Int) < (Ln (Val.list b1) : Int))) = false] := by kernel_rfl
theorem p84_e_4 (a0 : Val) : rE I84 (xCp a0) [] [] = st 3 I84 (S84_3 0 a0 (Val.mk 0 0 0 [] [] [] []) (Val.mk (Val.kind a0) (Val.n a0) (Val.step a0) (Val.text a0) [] ([] ++ (Val.columns a0)) [])) [0 + Ln (Val.columns a0) ≤ Lim] := by kernel_rfl
theorem c84_7 {N : Nat} {q0 : Val → Option (Val)} (g0 : G84 q0) : ∀ n x5 b1 b2 b3 r, xCq N q0 n x5 b1 b2 b3 = some r → RS Try.f84 I84 7 (S84_7 x5 b1 b2 b3) (xA6 r) := by
 intro n
 induction n with
 | zero => exact fun _ _ _ _ _ h => nE h
 | succ n ih =>
  exact fun x5 b1 b2 b3 r h =>
   cE h (fun h0 h => iE h fun h1 h => bE h fun r1 h2 h => iE h fun h3 h => tS fk84 (p84_7_0 x5 b1 b2 b3 r1) (oc h0 (oc h1 (oc (spec_l3Row_ok h2) (oc h3 on)))) (ih _ _ _ _ _ h)) fun h0 h =>
   dS h fk84 (p84_7_1 x5 b1 b2 b3) (oc h0 on)
theorem c84_3 {N : Nat} {q0 : Val → Option (Val)} (g0 : G84 q0) : ∀ n x4 b1 b2 b3 r, xCS N q0 n x4 b1 b2 b3 = some r → RS Try.f84 I84 3 (S84_3 x4 b1 b2 b3) (xA6 r) := by
 intro n
 induction n with
 | zero => exact fun _ _ _ _ _ h => nE h
 | succ n ih =>
  exact fun x4 b1 b2 b3 r h =>
   cE h (fun h0 h => iE h fun h1 h => bE h fun r1 h2 h => iE h fun h3 h => tS fk84 (p84_3_2 x4 b1 b2 b3 r1) (oc h0 (oc h1 (oc (g0 _ _ h2) (oc h3 on)))) (ih _ _ _ _ _ h)) fun h0 h =>
   tS fk84 (p84_3_3 x4 b1 b2 b3) (oc h0 on) (c84_7 g0 _ _ _ _ _ _ h)
theorem c84_e {N : Nat} {q0 : Val → Option (Val)} (g0 : G84 q0) : ∀ a0 r, xCN N q0 a0 = some r → RE Try.f84 I84 (xCp a0) (xA6 r) := fun a0 r h =>
 iE h fun h0 h => tE fk84 (p84_e_4 a0) (oc h0 on) (c84_3 g0 _ _ _ _ _ _ h)
theorem xFq {N : Nat} {q0 : Val → Option (Val)} (g0 : G84 q0) {a0 : Val} {r : Val} (h : xCN N q0 a0 = some r) : AbC 84 (xCp a0) (xA6 r) :=
 AbsCalls.of_reach fk84 rfl rfl (Nat.le_of_ble_eq_true rfl) (c84_e g0 a0 r h)
theorem xEl {N : Nat} : ∀ d, G84 (xCy N d)
 | 0 => fun _ _ h => nE h
 | d + 1 => fun _ _ h => xFq (N := N) (xEl d) h
theorem spec_l3Copy_ok {N : Nat} {a0 : Val} {r : Val} (h : xEG N a0 = some r) : AbC 84 (xCp a0) (xA6 r) := xEl N _ r h
noncomputable def I148 : Info := { body := (Try.f148.body).getD .skip, nt := 26, results := [.tmp 4], keep := [0, 2, 8, 10, 20, 28, 50], live := [(4, [0, 2, 10])], modes := [] }
theorem fk148 : FnOk Try.prog 148 Try.f148 I148 := ⟨Try.func148, by kernel_rfl, by kernel_rfl, by kernel_rfl, by kernel_rfl⟩
def S148_4 (x0 x1 : List Str) (x5 : Int) : St := [(0, .v false [.sl .ro .str x0]), (2, .v false [.sl .ro .str x1]), (10, .v false [.int .i64 x5])]
theorem p148_4_0 (x0 x1 : List Str) (x5 : Int) : rS 4 I148 (S148_4 x0 x1 x5) [Y, Y] [] = dn (xAP false) [(decide ((x5 : Int) < (Ln x0 : Int))) = true, (0 : Int) ≤ x5 ∧ x5 < (Ln x0), (0 : Int) ≤ x5 ∧ x5 < (Ln x1), (!(((gD x0 (tN x5) Ty.str.dflt) : Str) == (gD x1 (tN x5) Ty.str.dflt))) = true] := by kernel_rfl
theorem p148_4_1 (x0 x1 : List Str) (x5 : Int) : rS 4 I148 (S148_4 x0 x1 x5) [Y, F] [] = st 4 I148 (S148_4 x0 x1 (W (x5 + 1))) [(decide ((x5 : Int) < (Ln x0 : Int))) = true, (0 : Int) ≤ x5 ∧ x5 < (Ln x0), (0 : Int) ≤ x5 ∧ x5 < (Ln x1), (!(((gD x0 (tN x5) Ty.str.dflt) : Str) == (gD x1 (tN x5) Ty.str.dflt))) = false] := by kernel_rfl
theorem p148_4_2 (x0 x1 : List Str) (x5 : Int) : rS 4 I148 (S148_4 x0 x1 x5) [F] [] = dn (xAP true) [(decide ((x5 : Int) < (Ln x0 : Int))) = false] := by kernel_rfl
theorem p148_e_3 (a0 a1 : List Str) : rE I148 (xB9 a0 a1) [Y] [] = dn (xAP false) [(((Ln a0 : Int) : Int) != (Ln a1 : Int)) = true] := by kernel_rfl
theorem p148_e_4 (a0 a1 : List Str) : rE I148 (xB9 a0 a1) [F] [] = st 4 I148 (S148_4 a0 a1 0) [(((Ln a0 : Int) : Int) != (Ln a1 : Int)) = false] := by kernel_rfl
theorem c148_4 {N : Nat} : ∀ n x0 x1 x5 r, xCA N n x0 x1 x5 = some r → RS Try.f148 I148 4 (S148_4 x0 x1 x5) (xAP r) := by
 intro n
 induction n with
 | zero => exact fun _ _ _ _ h => nE h
 | succ n ih =>
  exact fun x0 x1 x5 r h =>
   cE h (fun h0 h => iE h fun h1 h => iE h fun h2 h => cE h (fun h3 h => dS h fk148 (p148_4_0 x0 x1 x5) (oc h0 (oc h1 (oc h2 (oc h3 on))))) fun h3 h =>
   tS fk148 (p148_4_1 x0 x1 x5) (oc h0 (oc h1 (oc h2 (oc h3 on)))) (ih _ _ _ _ h)) fun h0 h =>
   dS h fk148 (p148_4_2 x0 x1 x5) (oc h0 on)
theorem c148_e {N : Nat} : ∀ a0 a1 r, xDQ N a0 a1 = some r → RE Try.f148 I148 (xB9 a0 a1) (xAP r) := fun a0 a1 r h =>
 cE h (fun h0 h => dE h fk148 (p148_e_3 a0 a1) (oc h0 on)) fun h0 h =>
 tE fk148 (p148_e_4 a0 a1) (oc h0 on) (c148_4 _ _ _ _ _ h)
theorem xEa {N : Nat} {a0 : List Str} {a1 : List Str} {r : Bool} (h : xDQ N  a0 a1 = some r) : AbC 148 (xB9 a0 a1) (xAP r) :=
 AbsCalls.of_reach fk148 rfl rfl (Nat.le_of_ble_eq_true rfl) (c148_e a0 a1 r h)
end Go.Ab.T
end
section
open Go.Proofs
namespace Go.Ab.T
set_option linter.unusedVariables false
set_option maxRecDepth 100000
noncomputable def I149 : Info := { body := (Try.f149.body).getD .skip, nt := 26, results := [.tmp 4], keep := [0, 2, 8, 10, 20, 28, 50], live := [(4, [0, 2, 10])], modes := [] }
theorem fk149 : FnOk Try.prog 149 Try.f149 I149 := ⟨Try.func149, by kernel_rfl, by kernel_rfl, by kernel_rfl, by kernel_rfl⟩
def S149_4 (x0 x1 : List Int) (x5 : Int) : St := [(0, .v false [.sl .ro .int x0]), (2, .v false [.sl .ro .int x1]), (10, .v false [.int .i64 x5])]
theorem p149_4_0 (x0 x1 : List Int) (x5 : Int) : rS 4 I149 (S149_4 x0 x1 x5) [Y, Y] [] = dn (xAF false) [(decide ((x5 : Int) < (Ln x0 : Int))) = true, (0 : Int) ≤ x5 ∧ x5 < (Ln x0), (0 : Int) ≤ x5 ∧ x5 < (Ln x1), (((gD x0 (tN x5) Ty.int.dflt) : Int) != (gD x1 (tN x5) Ty.int.dflt)) = true] := by kernel_rfl
theorem p149_4_1 (x0 x1 : List Int) (x5 : Int) : rS 4 I149 (S149_4 x0 x1 x5) [Y, F] [] = st 4 I149 (S149_4 x0 x1 (W (x5 + 1))) [(decide ((x5 : Int) < (Ln x0 : Int))) = true, (0 : Int) ≤ x5 ∧ x5 < (Ln x0), (0 : Int) ≤ x5 ∧ x5 < (Ln x1), (((gD x0 (tN x5) Ty.int.dflt) : Int) != (gD x1 (tN x5) Ty.int.dflt)) = false] := by kernel_rfl
theorem p149_4_2 (x0 x1 : List Int) (x5 : Int) : rS 4 I149 (S149_4 x0 x1 x5) [F] [] = dn (xAF true) [(decide ((x5 : Int) < (Ln x0 : Int))) = false] := by kernel_rfl
theorem p149_e_3 (a0 a1 : List Int) : rE I149 (xBR a0 a1) [Y] [] = dn (xAF false) [(((Ln a0 : Int) : Int) != (Ln a1 : Int)) = true] := by kernel_rfl
theorem p149_e_4 (a0 a1 : List Int) : rE I149 (xBR a0 a1) [F] [] = st 4 I149 (S149_4 a0 a1 0) [(((Ln a0 : Int) : Int) != (Ln a1 : Int)) = false] := by kernel_rfl
theorem c149_4 {N : Nat} : ∀ n x0 x1 x5 r, xCR N n x0 x1 x5 = some r → RS Try.f149 I149 4 (S149_4 x0 x1 x5) (xAF r) := by
 intro n
 induction n with
 | zero => exact fun _ _ _ _ h => nE h
 | succ n ih =>
  exact fun x0 x1 x5 r h =>
   cE h (fun h0 h => iE h fun h1 h => iE h fun h2 h => cE h (fun h3 h => dS h fk149 (p149_4_0 x0 x1 x5) (oc h0 (oc h1 (oc h2 (oc h3 on))))) fun h3 h =>
   tS fk149 (p149_4_1 x0 x1 x5) (oc h0 (oc h1 (oc h2 (oc h3 on)))) (ih _ _ _ _ h)) fun h0 h =>
   dS h fk149 (p149_4_2 x0 x1 x5) (oc h0 on)
theorem c149_e {N : Nat} : ∀ a0 a1 r, xD5 N a0 a1 = some r → RE Try.f149 I149 (xBR a0 a1) (xAF r) := fun a0 a1 r h =>
 cE h (fun h0 h => dE h fk149 (p149_e_3 a0 a1) (oc h0 on)) fun h0 h =>
 tE fk149 (p149_e_4 a0 a1) (oc h0 on) (c149_4 _ _ _ _ _ h)
theorem xDI {N : Nat} {a0 : List Int} {a1 : List Int} {r : Bool} (h : xD5 N  a0 a1 = some r) : AbC 149 (xBR a0 a1) (xAF r) :=
 AbsCalls.of_reach fk149 rfl rfl (Nat.le_of_ble_eq_true rfl) (c149_e a0 a1 r h)
noncomputable def I150 : Info := { body := (Try.f150.body).getD .skip, nt := 26, results := [.tmp 4], keep := [0, 2, 8, 10, 20, 28, 50], live := [(4, [0, 2, 10])], modes := [] }
theorem fk150 : FnOk Try.prog 150 Try.f150 I150 := ⟨Try.func150, by kernel_rfl, by kernel_rfl, by kernel_rfl, by kernel_rfl⟩
def S150_4 (x0 x1 : List Org) (x5 : Int) : St := [(0, .v false [.sl .ro .org x0]), (2, .v false [.sl .ro .org x1]), (10, .v false [.int .i64 x5])]
theorem p150_4_0 (x0 x1 : List Org) (x5 : Int) : rS 4 I150 (S150_4 x0 x1 x5) [Y, Y] [] = dn (xAR false) [(decide ((x5 : Int) < (Ln x0 : Int))) = true, (0 : Int) ≤ x5 ∧ x5 < (Ln x0), (0 : Int) ≤ x5 ∧ x5 < (Ln x1), (!((((Org.cell (gD x0 (tN x5) Ty.org.dflt)) : Int) == (Org.cell (gD x1 (tN x5) Ty.org.dflt))) && (((Org.row (gD x0 (tN x5) Ty.org.dflt)) : Int) == (Org.row (gD x1 (tN x5) Ty.org.dflt))))) = true] := by kernel_rfl
theorem p150_4_1 (x0 x1 : List Org) (x5 : Int) : rS 4 I150 (S150_4 x0 x1 x5) [Y, F] [] = st 4 I150 (S150_4 x0 x1 (W (x5 + 1))) [(decide ((x5 : Int) < (Ln x0 : Int))) = true, (0 : Int) ≤ x5 ∧ x5 < (Ln x0), (0 : Int) ≤ x5 ∧ x5 < (Ln x1), (!((((Org.cell (gD x0 (tN x5) Ty.org.dflt)) : Int) == (Org.cell (gD x1 (tN x5) Ty.org.dflt))) && (((Org.row (gD x0 (tN x5) Ty.org.dflt)) : Int) == (Org.row (gD x1 (tN x5) Ty.org.dflt))))) = false] := by kernel_rfl
theorem p150_4_2 (x0 x1 : List Org) (x5 : Int) : rS 4 I150 (S150_4 x0 x1 x5) [F] [] = dn (xAR true) [(decide ((x5 : Int) < (Ln x0 : Int))) = false] := by kernel_rfl
theorem p150_e_3 (a0 a1 : List Org) : rE I150 (xBZ a0 a1) [Y] [] = dn (xAR false) [(((Ln a0 : Int) : Int) != (Ln a1 : Int)) = true] := by kernel_rfl
theorem p150_e_4 (a0 a1 : List Org) : rE I150 (xBZ a0 a1) [F] [] = st 4 I150 (S150_4 a0 a1 0) [(((Ln a0 : Int) : Int) != (Ln a1 : Int)) = false] := by kernel_rfl
theorem c150_4 {N : Nat} : ∀ n x0 x1 x5 r, xB0 N n x0 x1 x5 = some r → RS Try.f150 I150 4 (S150_4 x0 x1 x5) (xAR r) := by
 intro n
 induction n with
 | zero => exact fun _ _ _ _ h => nE h
 | succ n ih =>
  exact fun x0 x1 x5 r h =>
   cE h (fun h0 h => iE h fun h1 h => iE h fun h2 h => cE h (fun h3 h => dS h fk150 (p150_4_0 x0 x1 x5) (oc h0 (oc h1 (oc h2 (oc h3 on))))) fun h3 h =>
   tS fk150 (p150_4_1 x0 x1 x5) (oc h0 (oc h1 (oc h2 (oc h3 on)))) (ih _ _ _ _ h)) fun h0 h =>
   dS h fk150 (p150_4_2 x0 x1 x5) (oc h0 on)
theorem c150_e {N : Nat} : ∀ a0 a1 r, xDe N a0 a1 = some r → RE Try.f150 I150 (xBZ a0 a1) (xAR r) := fun a0 a1 r h =>
 cE h (fun h0 h => dE h fk150 (p150_e_3 a0 a1) (oc h0 on)) fun h0 h =>
 tE fk150 (p150_e_4 a0 a1) (oc h0 on) (c150_4 _ _ _ _ _ h)
theorem xEy {N : Nat} {a0 : List Org} {a1 : List Org} {r : Bool} (h : xDe N  a0 a1 = some r) : AbC 150 (xBZ a0 a1) (xAR r) :=
 AbsCalls.of_reach fk150 rfl rfl (Nat.le_of_ble_eq_true rfl) (c150_e a0 a1 r h)
def G107 (q : Val → Val → Bool → Option (Bool)) : Prop := ∀ a0 a1 a2 r, q a0 a1 a2 = some r → AbC 107 (xAA a0 a1 a2) (xAj r)
noncomputable def I107 : Info := { body := (Try.f107.body).getD .skip, nt := 121, results := [.tmp 6], keep := [0, 2, 4, 6, 8, 12, 14, 16, 120, 130, 160, 170, 240, 7, 9], live := [(4, [4, 6, 8, 14, 7, 9]), (9, [4, 6, 8, 16, 7, 9])], modes := [(1, [(5, .take, false), (12, .take, false), (19, .take, false), (26, .take, false), (35, .take, false), (43, .take, false)]), (11, [(14, .take, false), (16, .take, false)])] }
theorem xEY : FnOk Try.prog 107 Try.f107 I107 := ⟨Try.func107, by kernel_rfl, by kernel_rfl, by kernel_rfl, by kernel_rfl⟩
def S107_4 (x2 : Bool) (x7 : Int) (b3 b4 : Val) : St := [(4, .v false [.bool x2]), (6, .v false [.ptr 3 0]), (8, .v false [.ptr 4 0]), (14, .v false [.int .i64 x7]), (7, .v true [.int .i64 (Val.kind b3), .int .i64 (Val.n b3), .int .i64 (Val.step b3), .str (Val.text b3), .sl .ro .val (Val.list b3), .sl .ro .str (Val.columns b3), .sl .ro .row (Val.rows b3)]), (9, .v true [.int .i64 (Val.kind b4), .int .i64 (Val.n b4), .int .i64 (Val.step b4), .str (Val.text b4), .sl .ro .val (Val.list b4), .sl .ro .str (Val.columns b4), .sl .ro .row (Val.rows b4)])]
def S107_9 (x2 : Bool) (x8 : Int) (b3 b4 : Val) : St := [(4, .v false [.bool x2]), (6, .v false [.ptr 3 0]), (8, .v false [.ptr 4 0]), (16, .v false [.int .i64 x8]), (7, .v true [.int .i64 (Val.kind b3), .int .i64 (Val.n b3), .int .i64 (Val.step b3), .str (Val.text b3), .sl .ro .val (Val.list b3), .sl .ro .str (Val.columns b3), .sl .ro .row (Val.rows b3)]), (9, .v true [.int .i64 (Val.kind b4), .int .i64 (Val.n b4), .int .i64 (Val.step b4), .str (Val.text b4), .sl .ro .val (Val.list b4), .sl .ro .str (Val.columns b4), .sl .ro .row (Val.rows b4)])]
theorem p107_9_0 (x2 : Bool) (x8 : Int) (b3 b4 : Val) (r1 : Bool) : rS 9 I107 (S107_9 x2 x8 b3 b4) [Y, Y, Y] [xAF r1] = dn (xAj false) [(decide ((x8 : Int) < (Ln (Val.rows b3) : Int))) = true, (0 : Int) ≤ x8 ∧ x8 < (Ln (Val.rows b3)), (0 : Int) ≤ x8 ∧ x8 < (Ln (Val.rows b4)), AbC 149 (xBR (Rowd.cells (gD (Val.rows b3) (tN x8) rd)) (Rowd.cells (gD (Val.rows b4) (tN x8) rd))) (xAF r1), (!r1) = true, true = true] := by kernel_rfl
theorem p107_9_1 (x2 : Bool) (x8 : Int) (b3 b4 : Val) (r1 r2 : Bool) : rS 9 I107 (S107_9 x2 x8 b3 b4) [Y, F, Y, Y] [xAF r1, xAR r2] = dn (xAj false) [(decide ((x8 : Int) < (Ln (Val.rows b3) : Int))) = true, (0 : Int) ≤ x8 ∧ x8 < (Ln (Val.rows b3)), (0 : Int) ≤ x8 ∧ x8 < (Ln (Val.rows b4)), AbC 149 (xBR (Rowd.cells (gD (Val.rows b3) (tN x8) rd)) (Rowd.cells (gD (Val.rows b4) (tN x8) rd))) (xAF r1), (!r1) = false, x2 = true, (0 : Int) ≤ x8 ∧ x8 < (Ln (Val.rows b3)), (0 : Int) ≤ x8 ∧ x8 < (Ln (Val.rows b4)), AbC 150 (xBZ (Rowd.frm (gD (Val.rows b3) (tN x8) rd)) (Rowd.frm (gD (Val.rows b4) (tN x8) rd))) (xAR r2), (!r2) = true] := by kernel_rfl
theorem p107_9_2 (x2 : Bool) (x8 : Int) (b3 b4 : Val) (r1 r2 : Bool) : rS 9 I107 (S107_9 x2 x8 b3 b4) [Y, F, Y, F] [xAF r1, xAR r2] = st 9 I107 (S107_9 x2 (W (x8 + 1)) b3 b4) [(decide ((x8 : Int) < (Ln (Val.rows b3) : Int))) = true, (0 : Int) ≤ x8 ∧ x8 < (Ln (Val.rows b3)), (0 : Int) ≤ x8 ∧ x8 < (Ln (Val.rows b4)), AbC 149 (xBR (Rowd.cells (gD (Val.rows b3) (tN x8) rd)) (Rowd.cells (gD (Val.rows b4) (tN x8) rd))) (xAF r1), (!r1) = false, x2 = true, (0 : Int) ≤ x8 ∧ x8 < (Ln (Val.rows b3)), (0 : Int) ≤ x8 ∧ x8 < (Ln (Val.rows b4)), AbC 150 (xBZ (Rowd.frm (gD (Val.rows b3) (tN x8) rd)) (Rowd.frm (gD (Val.rows b4) (tN x8) rd))) (xAR r2), (!r2) = false] := by kernel_rfl
theorem p107_9_3 (x2 : Bool) (x8 : Int) (b3 b4 : Val) (r1 : Bool) : rS 9 I107 (S107_9 x2 x8 b3 b4) [Y, F, F, F] [xAF r1] = st 9 I107 (S107_9 x2 (W (x8 + 1)) b3 b4) [(decide ((x8 : Int) < (Ln (Val.rows b3) : Int))) = true, (0 : Int) ≤ x8 ∧ x8 < (Ln (Val.rows b3)), (0 : Int) ≤ x8 ∧ x8 < (Ln (Val.rows b4)), AbC 149 (xBR (Rowd.cells (gD (Val.rows b3) (tN x8) rd)) (Rowd.cells (gD (Val.rows b4) (tN x8) rd))) (xAF r1), (!r1) = false, x2 = false, false = false] := by kernel_rfl
theorem p107_9_4 (x2 : Bool) (x8 : Int) (b3 b4 : Val) : rS 9 I107 (S107_9 x2 x8 b3 b4) [F] [] = dn (xAj true) [(decide ((x8 : Int) < (Ln (Val.rows b3) : Int))) = false] := by kernel_rfl
theorem p107_4_5 (x2 : Bool) (x7 : Int) (b3 b4 : Val) (r1 : Bool) : rS 4 I107 (S107_4 x2 x7 b3 b4) [Y, Y] [xAj r1] = dn (xAj false) [(decide ((x7 : Int) < (Ln (Val.list b3) : Int))) = true, (0 : Int) ≤ x7 ∧ x7 < (Ln (Val.list b3)), (0 : Int) ≤ x7 ∧ x7 < (Ln (Val.list b4)), AbC 107 (xAA (gD (Val.list b3) (tN x7) vd) (gD (Val.list b4) (tN x7) vd) x2) (xAj r1), (!r1) = true] := by kernel_rfl
theorem p107_4_6 (x2 : Bool) (x7 : Int) (b3 b4 : Val) (r1 : Bool) : rS 4 I107 (S107_4 x2 x7 b3 b4) [Y, F] [xAj r1] = st 4 I107 (S107_4 x2 (W (x7 + 1)) b3 b4) [(decide ((x7 : Int) < (Ln (Val.list b3) : Int))) = true, (0 : Int) ≤ x7 ∧ x7 < (Ln (Val.list b3)), (0 : Int) ≤ x7 ∧ x7 < (Ln (Val.list b4)), AbC 107 (xAA (gD (Val.list b3) (tN x7) vd) (gD (Val.list b4) (tN x7) vd) x2) (xAj r1), (!r1) = false] := by kernel_rfl
theorem p107_4_7 (x2 : Bool) (x7 : Int) (b3 b4 : Val) : rS 4 I107 (S107_4 x2 x7 b3 b4) [F] [] = st 9 I107 (S107_9 x2 0 b3 b4) [(decide ((x7 : Int) < (Ln (Val.list b3) : Int))) = false] := by kernel_rfl
theorem p107_e_8 (a0 a1 : Val) (a2 : Bool) : rE I107 (xAA a0 a1 a2) [Y, Y, Y, Y, Y, Y, Y] [] = dn (xAj false) [(((Val.kind a0) : Int) != (Val.kind a1)) = true, true = true, true = true, true = true, true = true, true = true, true = true] := by kernel_rfl
theorem p107_e_9 (a0 a1 : Val) (a2 : Bool) : rE I107 (xAA a0 a1 a2) [F, Y, Y, Y, Y, Y, Y] [] = dn (xAj false) [(((Val.kind a0) : Int) != (Val.kind a1)) = false, (((Val.n a0) : Int) != (Val.n a1)) = true, true = true, true = true, true = true, true = true, true = true] := by kernel_rfl
theorem p107_e_10 (a0 a1 : Val) (a2 : Bool) : rE I107 (xAA a0 a1 a2) [F, F, Y, Y, Y, Y, Y] [] = dn (xAj false) [(((Val.kind a0) : Int) != (Val.kind a1)) = false, (((Val.n a0) : Int) != (Val.n a1)) = false, (((Val.step a0) : Int) != (Val.step a1)) = true, true = true, true = true, true = true, true = true] := by kernel_rfl
theorem p107_e_11 (a0 a1 : Val) (a2 : Bool) : rE I107 (xAA a0 a1 a2) [F, F, F, Y, Y, Y, Y] [] = dn (xAj false) [(((Val.kind a0) : Int) != (Val.kind a1)) = false, (((Val.n a0) : Int) != (Val.n a1)) = false, (((Val.step a0) : Int) != (Val.step a1)) = false, (!(((Val.text a0) : Str) == (Val.text a1))) = true, true = true, true = true, true = true] := by kernel_rfl
theorem p107_e_12 (a0 a1 : Val) (a2 : Bool) : rE I107 (xAA a0 a1 a2) [F, F, F, F, Y, Y, Y] [] = dn (xAj false) [(((Val.kind a0) : Int) != (Val.kind a1)) = false, (((Val.n a0) : Int) != (Val.n a1)) = false, (((Val.step a0) : Int) != (Val.step a1)) = false, (!(((Val.text a0) : Str) == (Val.text a1))) = false, (((Ln (Val.list a0) : Int) : Int) != (Ln (Val.list a1) : Int)) = true, true = true, true = true] := by kernel_rfl
theorem p107_e_13 (a0 a1 : Val) (a2 r1 : Bool) : rE I107 (xAA a0 a1 a2) [F, F, F, F, F, Y, Y] [xAP r1] = dn (xAj false) [(((Val.kind a0) : Int) != (Val.kind a1)) = false, (((Val.n a0) : Int) != (Val.n a1)) = false, (((Val.step a0) : Int) != (Val.step a1)) = false, (!(((Val.text a0) : Str) == (Val.text a1))) = false, (((Ln (Val.list a0) : Int) : Int) != (Ln (Val.list a1) : Int)) = false, AbC 148 (xB9 (Val.columns a0) (Val.columns a1)) (xAP r1), (!r1) = true, true = true] := by kernel_rfl
theorem p107_e_14 (a0 a1 : Val) (a2 r1 : Bool) : rE I107 (xAA a0 a1 a2) [F, F, F, F, F, F, Y] [xAP r1] = dn (xAj false) [(((Val.kind a0) : Int) != (Val.kind a1)) = false, (((Val.n a0) : Int) != (Val.n a1)) = false, (((Val.step a0) : Int) != (Val.step a1)) = false, (!(((Val.text a0) : Str) == (Val.text a1))) = false, (((Ln (Val.list a0) : Int) : Int) != (Ln (Val.list a1) : Int)) = false, AbC 148 (xB9 (Val.columns a0) (Val.columns a1)) (xAP r1), (!r1) = false, (((Ln (Val.rows a0) : Int) : Int) != (Ln (Val.rows a1) : Int)) = true] := by kernel_rfl
theorem p107_e_15 (a0 a1 : Val) (a2 r1 : Bool) : rE I107 (xAA a0 a1 a2) [F, F, F, F, F, F, F] [xAP r1] = st 4 I107 (S107_4 a2 0 a0 a1) [(((Val.kind a0) : Int) != (Val.kind a1)) = false, (((Val.n a0) : Int) != (Val.n a1)) = false, (((Val.step a0) : Int) != (Val.step a1)) = false, (!(((Val.text a0) : Str) == (Val.text a1))) = false, (((Ln (Val.list a0) : Int) : Int) != (Ln (Val.list a1) : Int)) = false, AbC 148 (xB9 (Val.columns a0) (Val.columns a1)) (xAP r1), (!r1) = false, (((Ln (Val.rows a0) : Int) : Int) != (Ln (Val.rows a1) : Int)) = false] := by kernel_rfl
theorem c107_9 {N : Nat} {q0 : Val → Val → Bool → Option (Bool)} (g0 : G107 q0) : ∀ n x2 x8 b3 b4 r, xBT N q0 n x2 x8 b3 b4 = some r → RS Try.f107 I107 9 (S107_9 x2 x8 b3 b4) (xAj r) := by
 intro n
 induction n with
 | zero => exact fun _ _ _ _ _ h => nE h
 | succ n ih =>
  exact fun x2 x8 b3 b4 r h =>
   cE h (fun h0 h => iE h fun h1 h => iE h fun h2 h => bE h fun r1 h3 h => cE h (fun h4 h => dS h xEY (p107_9_0 x2 x8 b3 b4 r1) (oc h0 (oc h1 (oc h2 (oc (xDI h3) (oc h4 (oc rfl on))))))) fun h4 h =>
   cE h (fun h5 h => bE h fun r2 h8 h => cE h (fun h9 h => dS h xEY (p107_9_1 x2 x8 b3 b4 r1 r2) (oc h0 (oc h1 (oc h2 (oc (xDI h3) (oc h4 (oc h5 (oc h1 (oc h2 (oc (xEy h8) (oc h9 on))))))))))) fun h9 h =>
   tS xEY (p107_9_2 x2 x8 b3 b4 r1 r2) (oc h0 (oc h1 (oc h2 (oc (xDI h3) (oc h4 (oc h5 (oc h1 (oc h2 (oc (xEy h8) (oc h9 on)))))))))) (ih _ _ _ _ _ h)) fun h5 h =>
   tS xEY (p107_9_3 x2 x8 b3 b4 r1) (oc h0 (oc h1 (oc h2 (oc (xDI h3) (oc h4 (oc h5 (oc rfl on))))))) (ih _ _ _ _ _ h)) fun h0 h =>
   dS h xEY (p107_9_4 x2 x8 b3 b4) (oc h0 on)
theorem c107_4 {N : Nat} {q0 : Val → Val → Bool → Option (Bool)} (g0 : G107 q0) : ∀ n x2 x7 b3 b4 r, xCV N q0 n x2 x7 b3 b4 = some r → RS Try.f107 I107 4 (S107_4 x2 x7 b3 b4) (xAj r) := by
 intro n
 induction n with
 | zero => exact fun _ _ _ _ _ h => nE h
 | succ n ih =>
  exact fun x2 x7 b3 b4 r h =>
   cE h (fun h0 h => iE h fun h1 h => iE h fun h2 h => bE h fun r1 h3 h => cE h (fun h4 h => dS h xEY (p107_4_5 x2 x7 b3 b4 r1) (oc h0 (oc h1 (oc h2 (oc (g0 _ _ _ _ h3) (oc h4 on)))))) fun h4 h =>
   tS xEY (p107_4_6 x2 x7 b3 b4 r1) (oc h0 (oc h1 (oc h2 (oc (g0 _ _ _ _ h3) (oc h4 on))))) (ih _ _ _ _ _ h)) fun h0 h =>
   tS xEY (p107_4_7 x2 x7 b3 b4) (oc h0 on) (c107_9 g0 _ _ _ _ _ _ h)
theorem c107_e {N : Nat} {q0 : Val → Val → Bool → Option (Bool)} (g0 : G107 q0) : ∀ a0 a1 a2 r, xCO N q0 a0 a1 a2 = some r → RE Try.f107 I107 (xAA a0 a1 a2) (xAj r) := fun a0 a1 a2 r h =>
 cE h (fun h0 h => dE h xEY (p107_e_8 a0 a1 a2) (oc h0 (oc rfl (oc rfl (oc rfl (oc rfl (oc rfl (oc rfl on)))))))) fun h0 h =>
 cE h (fun h1 h => dE h xEY (p107_e_9 a0 a1 a2) (oc h0 (oc h1 (oc rfl (oc rfl (oc rfl (oc rfl (oc rfl on)))))))) fun h1 h =>
 cE h (fun h2 h => dE h xEY (p107_e_10 a0 a1 a2) (oc h0 (oc h1 (oc h2 (oc rfl (oc rfl (oc rfl (oc rfl on)))))))) fun h2 h =>
 cE h (fun h3 h => dE h xEY (p107_e_11 a0 a1 a2) (oc h0 (oc h1 (oc h2 (oc h3 (oc rfl (oc rfl (oc rfl on)))))))) fun h3 h =>
 cE h (fun h4 h => dE h xEY (p107_e_12 a0 a1 a2) (oc h0 (oc h1 (oc h2 (oc h3 (oc h4 (oc rfl (oc rfl on)))))))) fun h4 h =>
 bE h fun r1 h5 h => cE h (fun h6 h => dE h xEY (p107_e_13 a0 a1 a2 r1) (oc h0 (oc h1 (oc h2 (oc h3 (oc h4 (oc (xEa h5) (oc h6 (oc rfl on))))))))) fun h6 h =>
 cE h (fun h7 h => dE h xEY (p107_e_14 a0 a1 a2 r1) (oc h0 (oc h1 (oc h2 (oc h3 (oc h4 (oc (xEa h5) (oc h6 (oc h7 on))))))))) fun h7 h =>
 tE xEY (p107_e_15 a0 a1 a2 r1) (oc h0 (oc h1 (oc h2 (oc h3 (oc h4 (oc (xEa h5) (oc h6 (oc h7 on)))))))) (c107_4 g0 _ _ _ _ _ _ h)
theorem xFs {N : Nat} {q0 : Val → Val → Bool → Option (Bool)} (g0 : G107 q0) {a0 : Val} {a1 : Val} {a2 : Bool} {r : Bool} (h : xCO N q0 a0 a1 a2 = some r) : AbC 107 (xAA a0 a1 a2) (xAj r) :=
 AbsCalls.of_reach xEY rfl rfl (Nat.le_of_ble_eq_true rfl) (c107_e g0 a0 a1 a2 r h)
theorem xEm {N : Nat} : ∀ d, G107 (xA7 N d)
 | 0 => fun _ _ _ _ h => nE h
 | d + 1 => fun _ _ _ _ h => xFs (N := N) (xEm d) h
theorem spec_l3Same_ok {N : Nat} {a0 : Val} {a1 : Val} {a2 : Bool} {r : Bool} (h : xEK N a0 a1 a2 = some r) : AbC 107 (xAA a0 a1 a2) (xAj r) := xEm N _ _ _ r h
noncomputable def I67 : Info := { body := (Try.f67.body).getD .skip, nt := 5, results := [.cell 2 31], keep := [0, 4, 5], live := [], modes := [] }
theorem fk67 : FnOk Try.prog 67 Try.f67 I67 := ⟨Try.func67, by kernel_rfl, by kernel_rfl, by kernel_rfl, by kernel_rfl⟩
theorem p67_e_0 (a0 : Int) : rE I67 (xCY a0) [] [] = dn (xCg (Val.mk 6 a0 0 [] [] [] [])) [] := by kernel_rfl
theorem c67_e {N : Nat} : ∀ a0 r, xDr N a0 = some r → RE Try.f67 I67 (xCY a0) (xCg r) := fun a0 r h =>
 dE h fk67 (p67_e_0 a0) on
theorem impl_ErrorValue_ok {N : Nat} {a0 : Int} {r : Val} (h : xDr N  a0 = some r) : AbC 67 (xCY a0) (xCg r) :=
 AbsCalls.of_reach fk67 rfl rfl (Nat.le_of_ble_eq_true rfl) (c67_e a0 r h)
noncomputable def I143 : Info := { body := (Try.f143.body).getD .skip, nt := 12, results := [.cell 2 107], keep := [0, 2, 4, 3, 5], live := [], modes := [] }
theorem fk143 : FnOk Try.prog 143 Try.f143 I143 := ⟨Try.func143, by kernel_rfl, by kernel_rfl, by kernel_rfl, by kernel_rfl⟩
theorem p143_e_0 (a0 : Rowd) : rE I143 (xDs a0) [] [] = dn (xC2 (Rowd.mk ([] ++ (Rowd.cells a0)) ([] ++ (Rowd.frm a0)))) [0 + Ln (Rowd.cells a0) ≤ Lim, 0 + Ln (Rowd.frm a0) ≤ Lim] := by kernel_rfl
theorem c143_e {N : Nat} : ∀ a0 r, xEe N a0 = some r → RE Try.f143 I143 (xDs a0) (xC2 r) := fun a0 r h =>
 iE h fun h0 h => iE h fun h1 h => dE h fk143 (p143_e_0 a0) (oc h0 (oc h1 on))
theorem impl_copyRow_ok {N : Nat} {a0 : Rowd} {r : Rowd} (h : xEe N  a0 = some r) : AbC 143 (xDs a0) (xC2 r) :=
 AbsCalls.of_reach fk143 rfl rfl (Nat.le_of_ble_eq_true rfl) (c143_e a0 r h)
end Go.Ab.T
end
section
open Go.Proofs
namespace Go.Ab.T
set_option linter.unusedVariables false
set_option maxRecDepth 100000
def G89 (q : Val → Option (Val)) : Prop := ∀ a0 r, q a0 = some r → AbC 89 (xAY a0) (xAs r)
def G69 (q : (List Val) → Option ((List Val))) : Prop := ∀ a0 r, q a0 = some r → AbC 69 (xCi a0) (xBh r)
noncomputable def I89 : Info := { body := (Try.f89.body).getD .skip, nt := 33, results := [.cell 2 31], keep := [0, 2, 4, 6, 10, 36, 38, 40, 42, 3, 5, 7, 11], live := [(6, [4, 6, 36, 38, 40, 5, 7])], modes := [(8, [(1, .take, false), (5, .take, false)]), (9, [(1, .take, false)]), (10, [(0, .take, false)])] }
theorem fk89 : FnOk Try.prog 89 Try.f89 I89 := ⟨Try.func89, by kernel_rfl, by kernel_rfl, by kernel_rfl, by kernel_rfl⟩
def S89_6 (x18 : List Rowd) (x19 x20 : Int) (b2 b3 : Val) : St := [(4, .v false [.ptr 2 0]), (6, .v false [.ptr 3 0]), (36, .v false [.sl .ro .row x18]), (38, .v false [.int .i64 x19]), (40, .v false [.int .i64 x20]), (5, .v true [.int .i64 (Val.kind b2), .int .i64 (Val.n b2), .int .i64 (Val.step b2), .str (Val.text b2), .sl .own .val (Val.list b2), .sl .own .str (Val.columns b2), .sl .own .row (Val.rows b2)]), (7, .v true [.int .i64 (Val.kind b3), .int .i64 (Val.n b3), .int .i64 (Val.step b3), .str (Val.text b3), .sl .own .val (Val.list b3), .sl .own .str (Val.columns b3), .sl .own .row (Val.rows b3)])]
theorem p89_6_0 (x18 : List Rowd) (x19 x20 : Int) (b2 b3 : Val) (r1 : Rowd) : rS 6 I89 (S89_6 x18 x19 x20 b2 b3) [Y] [xC2 r1] = st 6 I89 (S89_6 x18 x19 (W (x20 + 1)) b2 (Val.mk (Val.kind b3) (Val.n b3) (Val.step b3) (Val.text b3) (Val.list b3) (Val.columns b3) ((Val.rows b3) ++ [r1]))) [(decide ((x20 : Int) < x19)) = true, (0 : Int) ≤ x20 ∧ x20 < (Ln x18), AbC 143 (xDs (gD x18 (tN x20) rd)) (xC2 r1), Ln (Val.rows b3) + Ln [r1] ≤ Lim] := by kernel_rfl
theorem p89_6_1 (x18 : List Rowd) (x19 x20 : Int) (b2 b3 : Val) : rS 6 I89 (S89_6 x18 x19 x20 b2 b3) [F] [] = dn (xAs b3) [(decide ((x20 : Int) < x19)) = false] := by kernel_rfl
theorem p89_e_2 (a0 : Val) (r1 : (List Val)) : rE I89 (xAY a0) [] [xBh r1] = st 6 I89 (S89_6 (Val.rows a0) (Ln (Val.rows a0) : Int) 0 (Val.mk 0 0 0 [] [] [] []) (Val.mk (Val.kind a0) (Val.n a0) (Val.step a0) (Val.text a0) r1 ([] ++ (Val.columns a0)) [])) [AbC 69 (xCi (Val.list a0)) (xBh r1), 0 + Ln (Val.columns a0) ≤ Lim] := by kernel_rfl
theorem c89_6 {N : Nat} {q0 : Val → Option (Val)} (g0 : G89 q0) {q1 : (List Val) → Option ((List Val))} (g1 : G69 q1) : ∀ n x18 x19 x20 b2 b3 r, xBr N q0 q1 n x18 x19 x20 b2 b3 = some r → RS Try.f89 I89 6 (S89_6 x18 x19 x20 b2 b3) (xAs r) := by
 intro n
 induction n with
 | zero => exact fun _ _ _ _ _ _ h => nE h
 | succ n ih =>
  exact fun x18 x19 x20 b2 b3 r h =>
   cE h (fun h0 h => iE h fun h1 h => bE h fun r1 h2 h => iE h fun h3 h => tS fk89 (p89_6_0 x18 x19 x20 b2 b3 r1) (oc h0 (oc h1 (oc (impl_copyRow_ok h2) (oc h3 on)))) (ih _ _ _ _ _ _ h)) fun h0 h =>
   dS h fk89 (p89_6_1 x18 x19 x20 b2 b3) (oc h0 on)
theorem c89_e {N : Nat} {q0 : Val → Option (Val)} (g0 : G89 q0) {q1 : (List Val) → Option ((List Val))} (g1 : G69 q1) : ∀ a0 r, xB2 N q0 q1 a0 = some r → RE Try.f89 I89 (xAY a0) (xAs r) := fun a0 r h =>
 bE h fun r1 h0 h => iE h fun h1 h => tE fk89 (p89_e_2 a0 r1) (oc (g1 _ _ h0) (oc h1 on)) (c89_6 g0 g1 _ _ _ _ _ _ _ h)
theorem xEU {N : Nat} {q0 : Val → Option (Val)} (g0 : G89 q0) {q1 : (List Val) → Option ((List Val))} (g1 : G69 q1) {a0 : Val} {r : Val} (h : xB2 N q0 q1 a0 = some r) : AbC 89 (xAY a0) (xAs r) :=
 AbsCalls.of_reach fk89 rfl rfl (Nat.le_of_ble_eq_true rfl) (c89_e g0 g1 a0 r h)
noncomputable def I69 : Info := { body := (Try.f69.body).getD .skip, nt := 20, results := [.tmp 2], keep := [0, 4, 6, 10, 14, 16, 18, 20, 11], live := [(3, [6, 14, 16, 18])], modes := [(5, [(0, .take, false), (4, .take, false)]), (6, [(1, .take, false)]), (7, [(0, .take, false)])] }
theorem fk69 : FnOk Try.prog 69 Try.f69 I69 := ⟨Try.func69, by kernel_rfl, by kernel_rfl, by kernel_rfl, by kernel_rfl⟩
def S69_3 (x3 x7 : List Val) (x8 x9 : Int) : St := [(6, .v false [.sl .own .val x3]), (14, .v false [.sl .ro .val x7]), (16, .v false [.int .i64 x8]), (18, .v false [.int .i64 x9])]
theorem p69_3_0 (x3 x7 : List Val) (x8 x9 : Int) (r1 : Val) : rS 3 I69 (S69_3 x3 x7 x8 x9) [Y] [xAs r1] = st 3 I69 (S69_3 (x3 ++ [(Val.re r1)]) x7 x8 (W (x9 + 1))) [(decide ((x9 : Int) < x8)) = true, (0 : Int) ≤ x9 ∧ x9 < (Ln x7), AbC 89 (xAY (gD x7 (tN x9) vd)) (xAs r1), Ln x3 + Ln [(Val.re r1)] ≤ Lim] := by kernel_rfl
theorem p69_3_1 (x3 x7 : List Val) (x8 x9 : Int) : rS 3 I69 (S69_3 x3 x7 x8 x9) [F] [] = dn (xBh x3) [(decide ((x9 : Int) < x8)) = false] := by kernel_rfl
theorem p69_e_2 (a0 : List Val) : rE I69 (xCi a0) [] [] = st 3 I69 (S69_3 [] a0 (Ln a0 : Int) 0) [] := by kernel_rfl
theorem c69_3 {N : Nat} {q0 : Val → Option (Val)} (g0 : G89 q0) {q1 : (List Val) → Option ((List Val))} (g1 : G69 q1) : ∀ n x3 x7 x8 x9 r, xBA N q0 q1 n x3 x7 x8 x9 = some r → RS Try.f69 I69 3 (S69_3 x3 x7 x8 x9) (xBh r) := by
 intro n
 induction n with
 | zero => exact fun _ _ _ _ _ h => nE h
 | succ n ih =>
  exact fun x3 x7 x8 x9 r h =>
   cE h (fun h0 h => iE h fun h1 h => bE h fun r1 h2 h => iE h fun h3 h => tS fk69 (p69_3_0 x3 x7 x8 x9 r1) (oc h0 (oc h1 (oc (g0 _ _ h2) (oc h3 on)))) (ih _ _ _ _ _ h)) fun h0 h =>
   dS h fk69 (p69_3_1 x3 x7 x8 x9) (oc h0 on)
theorem c69_e {N : Nat} {q0 : Val → Option (Val)} (g0 : G89 q0) {q1 : (List Val) → Option ((List Val))} (g1 : G69 q1) : ∀ a0 r, xBJ N q0 q1 a0 = some r → RE Try.f69 I69 (xCi a0) (xBh r) := fun a0 r h =>
 tE fk69 (p69_e_2 a0) on (c69_3 g0 g1 _ _ _ _ _ _ h)
theorem xEB {N : Nat} {q0 : Val → Option (Val)} (g0 : G89 q0) {q1 : (List Val) → Option ((List Val))} (g1 : G69 q1) {a0 : List Val} {r : (List Val)} (h : xBJ N q0 q1 a0 = some r) : AbC 69 (xCi a0) (xBh r) :=
 AbsCalls.of_reach fk69 rfl rfl (Nat.le_of_ble_eq_true rfl) (c69_e g0 g1 a0 r h)
theorem xE3 {N : Nat} : ∀ d, G89 (xAi N d).c_impl_copyValue ∧ G69 (xAi N d).c_impl_copyValues := by
 intro d
 induction d with
 | zero => exact ⟨fun _ _ h => nE h, fun _ _ h => nE h⟩
 | succ d ih =>
  obtain ⟨ih0, ih1⟩ := ih
  exact ⟨fun _ _ h => xEU (N := N) ih0 ih1 h, fun _ _ h => xEB (N := N) ih0 ih1 h⟩
theorem xDA {N : Nat} {a0 : Val} {r : Val} (h : xDb N a0 = some r) : AbC 89 (xAY a0) (xAs r) := (xE3 N).1 _ r h
end Go.Ab.T
end
section
open Go.Proofs
namespace Go.Ab.T
set_option linter.unusedVariables false
set_option maxRecDepth 100000
noncomputable def I29 : Info := { body := (Try.f29.body).getD .skip, nt := 6, results := [.tmp 2], keep := [0, 4], live := [], modes := [] }
theorem fk29 : FnOk Try.prog 29 Try.f29 I29 := ⟨Try.func29, by kernel_rfl, by kernel_rfl, by kernel_rfl, by kernel_rfl⟩
theorem p29_e_0 (a0 : List Int) : rE I29 (xDl a0) [] [] = dn (xB3 (decide (((Ln a0 : Int) : Int) > 1048576))) [] := by kernel_rfl
theorem c29_e {N : Nat} : ∀ a0 r, laws_big N a0 = some r → RE Try.f29 I29 (xDl a0) (xB3 r) := fun a0 r h =>
 dE h fk29 (p29_e_0 a0) on
theorem xED {N : Nat} {a0 : List Int} {r : Bool} (h : laws_big N  a0 = some r) : AbC 29 (xDl a0) (xB3 r) :=
 AbsCalls.of_reach fk29 rfl rfl (Nat.le_of_ble_eq_true rfl) (c29_e a0 r h)
noncomputable def I94 : Info := { body := (Try.f94.body).getD .skip, nt := 32, results := [.tmp 2], keep := [0, 4, 6, 8, 30, 63], live := [(3, [0, 6, 8])], modes := [(3, [(4, .take, false)])] }
theorem fk94 : FnOk Try.prog 94 Try.f94 I94 := ⟨Try.func94, by kernel_rfl, by kernel_rfl, by kernel_rfl, by kernel_rfl⟩
def S94_3 (x0 : List Int) (x3 x4 : Int) : St := [(0, .v false [.sl .ro .byte x0]), (6, .v false [.int .i64 x3]), (8, .v false [.int .i64 x4])]
theorem p94_3_0 (x0 : List Int) (x3 x4 : Int) : rS 3 I94 (S94_3 x0 x3 x4) [Y, Y] [] = st 3 I94 (S94_3 x0 (andI .i64 (W ((W ((W (x3 * 131)) + (W ((gD x0 (tN x4) Ty.byte.dflt))))) + 7)) 1073741823) (W (x4 + 1))) [(decide ((x4 : Int) < (Ln x0 : Int))) = true, (decide ((x4 : Int) < 4000)) = true, (0 : Int) ≤ x4 ∧ x4 < (Ln x0)] := by kernel_rfl
theorem p94_3_1 (x0 : List Int) (x3 x4 : Int) : rS 3 I94 (S94_3 x0 x3 x4) [Y, F] [] = dn (xCI (Cur.mk x0 0 x3)) [(decide ((x4 : Int) < (Ln x0 : Int))) = true, (decide ((x4 : Int) < 4000)) = false] := by kernel_rfl
theorem p94_3_2 (x0 : List Int) (x3 x4 : Int) : rS 3 I94 (S94_3 x0 x3 x4) [F, F] [] = dn (xCI (Cur.mk x0 0 x3)) [(decide ((x4 : Int) < (Ln x0 : Int))) = false, false = false] := by kernel_rfl
theorem p94_e_3 (a0 : List Int) : rE I94 (xDX a0) [] [] = st 3 I94 (S94_3 a0 (W (26583 + (Ln a0 : Int))) 0) [] := by kernel_rfl
theorem c94_3 {N : Nat} : ∀ n x0 x3 x4 r, xC8 N n x0 x3 x4 = some r → RS Try.f94 I94 3 (S94_3 x0 x3 x4) (xCI r) := by
 intro n
 induction n with
 | zero => exact fun _ _ _ _ h => nE h
 | succ n ih =>
  exact fun x0 x3 x4 r h =>
   cE h (fun h0 h => cE h (fun h1 h => iE h fun h2 h => tS fk94 (p94_3_0 x0 x3 x4) (oc h0 (oc h1 (oc h2 on))) (ih _ _ _ _ h)) fun h1 h =>
   dS h fk94 (p94_3_1 x0 x3 x4) (oc h0 (oc h1 on))) fun h0 h =>
   dS h fk94 (p94_3_2 x0 x3 x4) (oc h0 (oc rfl on))
theorem c94_e {N : Nat} : ∀ a0 r, xDZ N a0 = some r → RE Try.f94 I94 (xDX a0) (xCI r) := fun a0 r h =>
 tE fk94 (p94_e_3 a0) on (c94_3 _ _ _ _ _ h)
theorem spec_l1New_ok {N : Nat} {a0 : List Int} {r : Cur} (h : xDZ N  a0 = some r) : AbC 94 (xDX a0) (xCI r) :=
 AbsCalls.of_reach fk94 rfl rfl (Nat.le_of_ble_eq_true rfl) (c94_e a0 r h)
noncomputable def I147 : Info := { body := (Try.f147.body).getD .skip, nt := 58, results := [.tmp 2], keep := [0, 4, 6, 68, 1], live := [], modes := [], ext := [0] }
theorem fk147 : FnOk Try.prog 147 Try.f147 I147 := ⟨Try.func147, by kernel_rfl, by kernel_rfl, by kernel_rfl, by kernel_rfl⟩
theorem p147_e_0 (a0 : Cur) : rE I147 (xBx a0) [Y] [] = dn (xAE ((andI .i64 (W ((andI .i64 (xorI .i64 (Int.fdiv (W ((W ((Cur.h a0) * 6364136223846793005)) + 1442695040888963407)) ((2 : Int) ^ (tN 33))) (Int.fdiv (W ((W ((Cur.h a0) * 6364136223846793005)) + 1442695040888963407)) ((2 : Int) ^ (tN 45)))) 255) + (W ((gD (Cur.b a0) (tN (Cur.i a0)) Ty.byte.dflt))))) 255), (Cur.mk (Cur.b a0) (W ((Cur.i a0) + 1)) (W ((W ((Cur.h a0) * 6364136223846793005)) + 1442695040888963407))))) [(0 : Int) ≤ 33 ∧ (33 : Int) < 64, (0 : Int) ≤ 45 ∧ (45 : Int) < 64, (decide (((Cur.i a0) : Int) < (Ln (Cur.b a0) : Int))) = true, (0 : Int) ≤ (Cur.i a0) ∧ (Cur.i a0) < (Ln (Cur.b a0))] := by kernel_rfl
theorem p147_e_1 (a0 : Cur) : rE I147 (xBx a0) [F] [] = dn (xAE ((andI .i64 (xorI .i64 (Int.fdiv (W ((W ((Cur.h a0) * 6364136223846793005)) + 1442695040888963407)) ((2 : Int) ^ (tN 33))) (Int.fdiv (W ((W ((Cur.h a0) * 6364136223846793005)) + 1442695040888963407)) ((2 : Int) ^ (tN 45)))) 255), (Cur.mk (Cur.b a0) (Cur.i a0) (W ((W ((Cur.h a0) * 6364136223846793005)) + 1442695040888963407))))) [(0 : Int) ≤ 33 ∧ (33 : Int) < 64, (0 : Int) ≤ 45 ∧ (45 : Int) < 64, (decide (((Cur.i a0) : Int) < (Ln (Cur.b a0) : Int))) = false] := by kernel_rfl
theorem c147_e {N : Nat} : ∀ a0 r, xCG N a0 = some r → RE Try.f147 I147 (xBx a0) (xAE r) := fun a0 r h =>
 cE h (fun h2 h => iE h fun h3 h => dE h fk147 (p147_e_0 a0) (oc (by decide) (oc (by decide) (oc h2 (oc h3 on))))) fun h2 h =>
 dE h fk147 (p147_e_1 a0) (oc (by decide) (oc (by decide) (oc h2 on)))
theorem xDc {N : Nat} {a0 : Cur} {r : Int × Cur} (h : xCG N  a0 = some r) : AbC 147 (xBx a0) (xAE r) :=
 AbsCalls.of_reach fk147 rfl rfl (Nat.le_of_ble_eq_true rfl) (c147_e a0 r h)
noncomputable def I104 : Info := { body := (Try.f104.body).getD .skip, nt := 37, results := [.tmp 4], keep := [0, 2, 8, 10, 12, 14, 16, 20, 24, 1], live := [], modes := [(9, [(0, .take, false), (2, .take, false), (5, .take, false), (8, .take, false)])], ext := [0] }
theorem fk104 : FnOk Try.prog 104 Try.f104 I104 := ⟨Try.func104, by kernel_rfl, by kernel_rfl, by kernel_rfl, by kernel_rfl⟩
theorem p104_e_0 (a0 : Cur) (a1 : Int) : rE I104 (xAd a0 a1) [Y] [] = dn (xAa (0, a0)) [(decide ((a1 : Int) ≤ 0)) = true] := by kernel_rfl
theorem p104_e_1 (a0 : Cur) (a1 : Int) (r1 : Int × Cur) : rE I104 (xAd a0 a1) [F, Y] [xAE r1] = dn (xAa ((Int.tmod r1.1 a1), r1.2)) [(decide ((a1 : Int) ≤ 0)) = false, (decide ((a1 : Int) ≤ 256)) = true, AbC 147 (xBx a0) (xAE r1), a1 ≠ (0 : Int)] := by kernel_rfl
theorem p104_e_2 (a0 : Cur) (a1 : Int) (r1 : Int × Cur) (r2 : Int × Cur) (r3 : Int × Cur) (r4 : Int × Cur) : rE I104 (xAd a0 a1) [F, F] [xAE r1, xAE r2, xAE r3, xAE r4] = dn (xAa ((Int.tmod (W ((W ((W ((W (r1.1 * 16777216)) + (W (r2.1 * 65536)))) + (W (r3.1 * 256)))) + r4.1)) a1), r4.2)) [(decide ((a1 : Int) ≤ 0)) = false, (decide ((a1 : Int) ≤ 256)) = false, AbC 147 (xBx a0) (xAE r1), AbC 147 (xBx r1.2) (xAE r2), AbC 147 (xBx r2.2) (xAE r3), AbC 147 (xBx r3.2) (xAE r4), a1 ≠ (0 : Int)] := by kernel_rfl
theorem c104_e {N : Nat} : ∀ a0 a1 r, xAr N a0 a1 = some r → RE Try.f104 I104 (xAd a0 a1) (xAa r) := fun a0 a1 r h =>
 cE h (fun h0 h => dE h fk104 (p104_e_0 a0 a1) (oc h0 on)) fun h0 h =>
 cE h (fun h1 h => bE h fun r1 h2 h => iE h fun h3 h => dE h fk104 (p104_e_1 a0 a1 r1) (oc h0 (oc h1 (oc (xDc h2) (oc h3 on))))) fun h1 h =>
 bE h fun r1 h2 h => bE h fun r2 h3 h => bE h fun r3 h4 h => bE h fun r4 h5 h => iE h fun h6 h => dE h fk104 (p104_e_2 a0 a1 r1 r2 r3 r4) (oc h0 (oc h1 (oc (xDc h2) (oc (xDc h3) (oc (xDc h4) (oc (xDc h5) (oc h6 on)))))))
theorem xAh {N : Nat} {a0 : Cur} {a1 : Int} {r : Int × Cur} (h : xAr N  a0 a1 = some r) : AbC 104 (xAd a0 a1) (xAa r) :=
 AbsCalls.of_reach fk104 rfl rfl (Nat.le_of_ble_eq_true rfl) (c104_e a0 a1 r h)
noncomputable def I103 : Info := { body := (Try.f103.body).getD .skip, nt := 9, results := [.tmp 4], keep := [0, 2, 8, 1], live := [], modes := [], ext := [0] }
theorem fk103 : FnOk Try.prog 103 Try.f103 I103 := ⟨Try.func103, by kernel_rfl, by kernel_rfl, by kernel_rfl, by kernel_rfl⟩
theorem p103_e_0 (a0 : Cur) (a1 : Int) (r1 : Int × Cur) : rE I103 (xAx a0 a1) [] [xAa r1] = dn (xAf (((r1.1 : Int) == 0), r1.2)) [AbC 104 (xAd a0 a1) (xAa r1)] := by kernel_rfl
theorem c103_e {N : Nat} : ∀ a0 a1 r, xB6 N a0 a1 = some r → RE Try.f103 I103 (xAx a0 a1) (xAf r) := fun a0 a1 r h =>
 bE h fun r1 h0 h => dE h fk103 (p103_e_0 a0 a1 r1) (oc (xAh h0) on)
theorem xAQ {N : Nat} {a0 : Cur} {a1 : Int} {r : Bool × Cur} (h : xB6 N  a0 a1 = some r) : AbC 103 (xAx a0 a1) (xAf r) :=
 AbsCalls.of_reach fk103 rfl rfl (Nat.le_of_ble_eq_true rfl) (c103_e a0 a1 r h)
noncomputable def I145 : Info := { body := (Try.f145.body).getD .skip, nt := 12, results := [.tmp 4], keep := [0, 2, 8, 1], live := [], modes := [], ext := [0] }
theorem fk145 : FnOk Try.prog 145 Try.f145 I145 := ⟨Try.func145, by kernel_rfl, by kernel_rfl, by kernel_rfl, by kernel_rfl⟩
theorem p145_e_0 (a0 : Cur) (a1 : List Int) (r1 : Int × Cur) : rE I145 (xCw a0 a1) [] [xAa r1] = dn (xBu ((gD a1 (tN r1.1) Ty.int.dflt), r1.2)) [AbC 104 (xAd a0 (Ln a1 : Int)) (xAa r1), (0 : Int) ≤ r1.1 ∧ r1.1 < (Ln a1)] := by kernel_rfl
theorem c145_e {N : Nat} : ∀ a0 a1 r, xCn N a0 a1 = some r → RE Try.f145 I145 (xCw a0 a1) (xBu r) := fun a0 a1 r h =>
 bE h fun r1 h0 h => iE h fun h1 h => dE h fk145 (p145_e_0 a0 a1 r1) (oc (xAh h0) (oc h1 on))
theorem xEx {N : Nat} {a0 : Cur} {a1 : List Int} {r : Int × Cur} (h : xCn N  a0 a1 = some r) : AbC 145 (xCw a0 a1) (xBu r) :=
 AbsCalls.of_reach fk145 rfl rfl (Nat.le_of_ble_eq_true rfl) (c145_e a0 a1 r h)
noncomputable def I96 : Info := { body := (Try.f96.body).getD .skip, nt := 12, results := [.tmp 4], keep := [0, 2, 8, 1], live := [], modes := [], ext := [0] }
theorem fk96 : FnOk Try.prog 96 Try.f96 I96 := ⟨Try.func96, by kernel_rfl, by kernel_rfl, by kernel_rfl, by kernel_rfl⟩
theorem p96_e_0 (a0 : Cur) (a1 : List Str) (r1 : Int × Cur) : rE I96 (xCo a0 a1) [] [xAa r1] = dn (xA4 ((gD a1 (tN r1.1) Ty.str.dflt), r1.2)) [AbC 104 (xAd a0 (Ln a1 : Int)) (xAa r1), (0 : Int) ≤ r1.1 ∧ r1.1 < (Ln a1)] := by kernel_rfl
theorem c96_e {N : Nat} : ∀ a0 a1 r, xCJ N a0 a1 = some r → RE Try.f96 I96 (xCo a0 a1) (xA4 r) := fun a0 a1 r h =>
 bE h fun r1 h0 h => iE h fun h1 h => dE h fk96 (p96_e_0 a0 a1 r1) (oc (xAh h0) (oc h1 on))
theorem xDJ {N : Nat} {a0 : Cur} {a1 : List Str} {r : Str × Cur} (h : xCJ N  a0 a1 = some r) : AbC 96 (xCo a0 a1) (xA4 r) :=
 AbsCalls.of_reach fk96 rfl rfl (Nat.le_of_ble_eq_true rfl) (c96_e a0 a1 r h)
noncomputable def I97 : Info := { body := (Try.f97.body).getD .skip, nt := 11, results := [.tmp 2], keep := [0, 4, 8, 1], live := [], modes := [(2, [(1, .cp, true)])], ext := [0] }
theorem fk97 : FnOk Try.prog 97 Try.f97 I97 := ⟨Try.func97, by kernel_rfl, by kernel_rfl, by kernel_rfl, by kernel_rfl⟩
theorem p97_e_0 (a0 : Cur) (r1 : Bool × Cur) (r2 : Int × Cur) : rE I97 (xA0 a0) [Y] [xAf r1, xBu r2] = dn (xAo (r2.1, r2.2)) [AbC 103 (xAx a0 12) (xAf r1), r1.1 = true, AbC 145 (xCw r1.2 [1000000000, (-1000000000), 999999999, 500000000, 40000]) (xBu r2)] := by kernel_rfl
theorem p97_e_1 (a0 : Cur) (r1 : Bool × Cur) (r2 : Int × Cur) : rE I97 (xA0 a0) [F] [xAf r1, xAa r2] = dn (xAo ((W (r2.1 - 3)), r2.2)) [AbC 103 (xAx a0 12) (xAf r1), r1.1 = false, AbC 104 (xAd r1.2 12) (xAa r2)] := by kernel_rfl
theorem c97_e {N : Nat} : ∀ a0 r, xBw N a0 = some r → RE Try.f97 I97 (xA0 a0) (xAo r) := fun a0 r h =>
 bE h fun r1 h0 h => cE h (fun h1 h => bE h fun r2 h2 h => dE h fk97 (p97_e_0 a0 r1 r2) (oc (xAQ h0) (oc h1 (oc (xEx h2) on)))) fun h1 h =>
 bE h fun r2 h2 h => dE h fk97 (p97_e_1 a0 r1 r2) (oc (xAQ h0) (oc h1 (oc (xAh h2) on)))
theorem xBM {N : Nat} {a0 : Cur} {r : Int × Cur} (h : xBw N  a0 = some r) : AbC 97 (xA0 a0) (xAo r) :=
 AbsCalls.of_reach fk97 rfl rfl (Nat.le_of_ble_eq_true rfl) (c97_e a0 r h)
end Go.Ab.T
end
section
open Go.Proofs
namespace Go.Ab.T
set_option linter.unusedVariables false
set_option maxRecDepth 100000
noncomputable def I38 : Info := { body := (Try.f38.body).getD .skip, nt := 8, results := [.tmp 4], keep := [0, 2, 4, 6, 8, 5, 7], live := [], modes := [] }
theorem fk38 : FnOk Try.prog 38 Try.f38 I38 := ⟨Try.func38, by kernel_rfl, by kernel_rfl, by kernel_rfl, by kernel_rfl⟩
theorem p38_e_0 (a0 a1 : Val) (r1 : Bool) : rE I38 (xAT a0 a1) [] [xAj r1] = dn (xAn r1) [AbC 107 (xAA a0 a1 true) (xAj r1)] := by kernel_rfl
theorem c38_e {N : Nat} : ∀ a0 a1 r, xAO N a0 a1 = some r → RE Try.f38 I38 (xAT a0 a1) (xAn r) := fun a0 a1 r h =>
 bE h fun r1 h0 h => dE h fk38 (p38_e_0 a0 a1 r1) (oc (spec_l3Same_ok h0) on)
theorem xBB {N : Nat} {a0 : Val} {a1 : Val} {r : Bool} (h : xAO N  a0 a1 = some r) : AbC 38 (xAT a0 a1) (xAn r) :=
 AbsCalls.of_reach fk38 rfl rfl (Nat.le_of_ble_eq_true rfl) (c38_e a0 a1 r h)
noncomputable def I157 : Info := { body := (Try.f157.body).getD .skip, nt := 6, results := [.tmp 2], keep := [0, 4, 1], live := [], modes := [(1, [(1, .cp, true)])], ext := [0] }
theorem fk157 : FnOk Try.prog 157 Try.f157 I157 := ⟨Try.func157, by kernel_rfl, by kernel_rfl, by kernel_rfl, by kernel_rfl⟩
theorem p157_e_0 (a0 : Cur) (r1 : Str × Cur) : rE I157 (xCW a0) [] [xA4 r1] = dn (xBy (r1.1, r1.2)) [AbC 96 (xCo a0 [[], [97], [98], [97, 98], [104, 101, 108, 108, 111], [116, 119, 101, 110, 116, 121, 32, 99, 104, 97, 114, 97, 99, 116, 101, 114, 115, 32, 111, 107], [110, 105, 110, 101, 116, 101, 101, 110, 32, 99, 104, 97, 114, 97, 99, 116, 101, 114, 46]]) (xA4 r1)] := by kernel_rfl
theorem c157_e {N : Nat} : ∀ a0 r, xDn N a0 = some r → RE Try.f157 I157 (xCW a0) (xBy r) := fun a0 r h =>
 bE h fun r1 h0 h => dE h fk157 (p157_e_0 a0 r1) (oc (xDJ h0) on)
theorem xEq {N : Nat} {a0 : Cur} {r : Str × Cur} (h : xDn N  a0 = some r) : AbC 157 (xCW a0) (xBy r) :=
 AbsCalls.of_reach fk157 rfl rfl (Nat.le_of_ble_eq_true rfl) (c157_e a0 r h)
def G158 (q : Cur → Int → Option (Val × Cur)) : Prop := ∀ a0 a1 r, q a0 a1 = some r → AbC 158 (xBl a0 a1) (xAG r)
def G181 (q : Cur → Int → Option (Val × Cur)) : Prop := ∀ a0 a1 r, q a0 a1 = some r → AbC 181 (xAU a0 a1) (xAI r)
noncomputable def I158 : Info := { body := (Try.f158.body).getD .skip, nt := 26, results := [.cell 4 31], keep := [0, 2, 8, 10, 12, 14, 28, 1, 9, 11], live := [(4, [0, 2, 8, 10, 12, 14, 1, 9, 11])], modes := [(2, [(1, .cp, true)]), (4, [(1, .take, false)]), (6, [(1, .take, false), (6, .take, false)]), (7, [(0, .take, false)])], ext := [0] }
theorem fk158 : FnOk Try.prog 158 Try.f158 I158 := ⟨Try.func158, by kernel_rfl, by kernel_rfl, by kernel_rfl, by kernel_rfl⟩
def S158_4 (x1 x6 x7 : Int) (b0 : Cur) (b4 b5 : Val) : St := [(0, .v false [.ptr 0 0]), (2, .v false [.int .i64 x1]), (8, .v false [.ptr 4 0]), (10, .v false [.ptr 5 0]), (12, .v false [.int .i64 x6]), (14, .v false [.int .i64 x7]), (1, .v true [.sl .ro .byte (Cur.b b0), .int .i64 (Cur.i b0), .int .i64 (Cur.h b0)]), (9, .v true [.int .i64 (Val.kind b4), .int .i64 (Val.n b4), .int .i64 (Val.step b4), .str (Val.text b4), .sl .own .val (Val.list b4), .sl .own .str (Val.columns b4), .sl .own .row (Val.rows b4)]), (11, .v true [.int .i64 (Val.kind b5), .int .i64 (Val.n b5), .int .i64 (Val.step b5), .str (Val.text b5), .sl .own .val (Val.list b5), .sl .own .str (Val.columns b5), .sl .own .row (Val.rows b5)])]
theorem p158_4_0 (x1 x6 x7 : Int) (b0 : Cur) (b4 b5 : Val) (r1 : Val × Cur) : rS 4 I158 (S158_4 x1 x6 x7 b0 b4 b5) [Y] [xAI r1] = st 4 I158 (S158_4 x1 x6 (W (x7 + 1)) r1.2 b4 (Val.mk (Val.kind b5) (Val.n b5) (Val.step b5) (Val.text b5) ((Val.list b5) ++ [(Val.re r1.1)]) (Val.columns b5) (Val.rows b5))) [(decide ((x7 : Int) < x6)) = true, AbC 181 (xAU b0 x1) (xAI r1), Ln (Val.list b5) + Ln [(Val.re r1.1)] ≤ Lim] := by kernel_rfl
theorem p158_4_1 (x1 x6 x7 : Int) (b0 : Cur) (b4 b5 : Val) : rS 4 I158 (S158_4 x1 x6 x7 b0 b4 b5) [F] [] = dn (xAG (b5, b0)) [(decide ((x7 : Int) < x6)) = false] := by kernel_rfl
theorem p158_e_2 (a0 : Cur) (a1 : Int) (r1 : Int × Cur) : rE I158 (xBl a0 a1) [] [xBu r1] = st 4 I158 (S158_4 a1 r1.1 0 r1.2 (Val.mk 0 0 0 [] [] [] []) (Val.mk 3 0 0 [] [] [] [])) [AbC 145 (xCw a0 [0, 1, 2, 3, 3, 4, 5, 8]) (xBu r1)] := by kernel_rfl
theorem c158_4 {N : Nat} {q0 : Cur → Int → Option (Val × Cur)} (g0 : G158 q0) {q1 : Cur → Int → Option (Val × Cur)} (g1 : G181 q1) : ∀ n x1 x6 x7 b0 b4 b5 r, xBC N q0 q1 n x1 x6 x7 b0 b4 b5 = some r → RS Try.f158 I158 4 (S158_4 x1 x6 x7 b0 b4 b5) (xAG r) := by
 intro n
 induction n with
 | zero => exact fun _ _ _ _ _ _ _ h => nE h
 | succ n ih =>
  exact fun x1 x6 x7 b0 b4 b5 r h =>
   cE h (fun h0 h => bE h fun r1 h1 h => iE h fun h2 h => tS fk158 (p158_4_0 x1 x6 x7 b0 b4 b5 r1) (oc h0 (oc (g1 _ _ _ h1) (oc h2 on))) (ih _ _ _ _ _ _ _ h)) fun h0 h =>
   dS h fk158 (p158_4_1 x1 x6 x7 b0 b4 b5) (oc h0 on)
theorem c158_e {N : Nat} {q0 : Cur → Int → Option (Val × Cur)} (g0 : G158 q0) {q1 : Cur → Int → Option (Val × Cur)} (g1 : G181 q1) : ∀ a0 a1 r, xBK N q0 q1 a0 a1 = some r → RE Try.f158 I158 (xBl a0 a1) (xAG r) := fun a0 a1 r h =>
 bE h fun r1 h0 h => tE fk158 (p158_e_2 a0 a1 r1) (oc (xEx h0) on) (c158_4 g0 g1 _ _ _ _ _ _ _ _ h)
theorem xEH {N : Nat} {q0 : Cur → Int → Option (Val × Cur)} (g0 : G158 q0) {q1 : Cur → Int → Option (Val × Cur)} (g1 : G181 q1) {a0 : Cur} {a1 : Int} {r : Val × Cur} (h : xBK N q0 q1 a0 a1 = some r) : AbC 158 (xBl a0 a1) (xAG r) :=
 AbsCalls.of_reach fk158 rfl rfl (Nat.le_of_ble_eq_true rfl) (c158_e g0 g1 a0 a1 r h)
noncomputable def I181 : Info := { body := (Try.f181.body).getD .skip, nt := 23, results := [.cell 4 31], keep := [0, 2, 8, 20, 32, 1, 9], live := [], modes := [(1, [(2, .take, false)])], ext := [0] }
theorem fk181 : FnOk Try.prog 181 Try.f181 I181 := ⟨Try.func181, by kernel_rfl, by kernel_rfl, by kernel_rfl, by kernel_rfl⟩
theorem p181_e_0 (a0 : Cur) (a1 : Int) (r1 : Bool × Cur) (r2 : Val × Cur) : rE I181 (xAU a0 a1) [Y, Y] [xAf r1, xAG r2] = dn (xAI (r2.1, r2.2)) [(decide ((a1 : Int) > 1)) = true, AbC 103 (xAx a0 4) (xAf r1), r1.1 = true, AbC 158 (xBl r1.2 (W (a1 - 1))) (xAG r2)] := by kernel_rfl
theorem p181_e_1 (a0 : Cur) (a1 : Int) (r1 : Bool × Cur) (r2 : Bool × Cur) (r3 : Str × Cur) (r4 : Val) : rE I181 (xAU a0 a1) [Y, F, Y] [xAf r1, xAf r2, xBy r3, xAZ r4] = dn (xAI (r4, r3.2)) [(decide ((a1 : Int) > 1)) = true, AbC 103 (xAx a0 4) (xAf r1), r1.1 = false, AbC 103 (xAx r1.2 4) (xAf r2), r2.1 = true, AbC 157 (xCW r2.2) (xBy r3), AbC 127 (xBU r3.1) (xAZ r4)] := by kernel_rfl
theorem p181_e_2 (a0 : Cur) (a1 : Int) (r1 : Bool × Cur) (r2 : Bool × Cur) (r3 : Int × Cur) (r4 : Val) : rE I181 (xAU a0 a1) [Y, F, F] [xAf r1, xAf r2, xAo r3, xAl r4] = dn (xAI (r4, r3.2)) [(decide ((a1 : Int) > 1)) = true, AbC 103 (xAx a0 4) (xAf r1), r1.1 = false, AbC 103 (xAx r1.2 4) (xAf r2), r2.1 = false, AbC 97 (xA0 r2.2) (xAo r3), AbC 51 (xAM r3.1) (xAl r4)] := by kernel_rfl
theorem p181_e_3 (a0 : Cur) (a1 : Int) (r1 : Bool × Cur) (r2 : Str × Cur) (r3 : Val) : rE I181 (xAU a0 a1) [F, F, Y] [xAf r1, xBy r2, xAZ r3] = dn (xAI (r3, r2.2)) [(decide ((a1 : Int) > 1)) = false, false = false, AbC 103 (xAx a0 4) (xAf r1), r1.1 = true, AbC 157 (xCW r1.2) (xBy r2), AbC 127 (xBU r2.1) (xAZ r3)] := by kernel_rfl
theorem p181_e_4 (a0 : Cur) (a1 : Int) (r1 : Bool × Cur) (r2 : Int × Cur) (r3 : Val) : rE I181 (xAU a0 a1) [F, F, F] [xAf r1, xAo r2, xAl r3] = dn (xAI (r3, r2.2)) [(decide ((a1 : Int) > 1)) = false, false = false, AbC 103 (xAx a0 4) (xAf r1), r1.1 = false, AbC 97 (xA0 r1.2) (xAo r2), AbC 51 (xAM r2.1) (xAl r3)] := by kernel_rfl
theorem c181_e {N : Nat} {q0 : Cur → Int → Option (Val × Cur)} (g0 : G158 q0) {q1 : Cur → Int → Option (Val × Cur)} (g1 : G181 q1) : ∀ a0 a1 r, xBL N q0 q1 a0 a1 = some r → RE Try.f181 I181 (xAU a0 a1) (xAI r) := fun a0 a1 r h =>
 cE h (fun h0 h => bE h fun r1 h1 h => cE h (fun h2 h => bE h fun r2 h3 h => dE h fk181 (p181_e_0 a0 a1 r1 r2) (oc h0 (oc (xAQ h1) (oc h2 (oc (g0 _ _ _ h3) on))))) fun h2 h =>
 bE h fun r2 h3 h => cE h (fun h4 h => bE h fun r3 h5 h => bE h fun r4 h6 h => dE h fk181 (p181_e_1 a0 a1 r1 r2 r3 r4) (oc h0 (oc (xAQ h1) (oc h2 (oc (xAQ h3) (oc h4 (oc (xEq h5) (oc (xDD h6) on)))))))) fun h4 h =>
 bE h fun r3 h5 h => bE h fun r4 h6 h => dE h fk181 (p181_e_2 a0 a1 r1 r2 r3 r4) (oc h0 (oc (xAQ h1) (oc h2 (oc (xAQ h3) (oc h4 (oc (xBM h5) (oc (xBs h6) on)))))))) fun h0 h =>
 bE h fun r1 h2 h => cE h (fun h3 h => bE h fun r2 h4 h => bE h fun r3 h5 h => dE h fk181 (p181_e_3 a0 a1 r1 r2 r3) (oc h0 (oc rfl (oc (xAQ h2) (oc h3 (oc (xEq h4) (oc (xDD h5) on))))))) fun h3 h =>
 bE h fun r2 h4 h => bE h fun r3 h5 h => dE h fk181 (p181_e_4 a0 a1 r1 r2 r3) (oc h0 (oc rfl (oc (xAQ h2) (oc h3 (oc (xBM h4) (oc (xBs h5) on))))))
theorem xEI {N : Nat} {q0 : Cur → Int → Option (Val × Cur)} (g0 : G158 q0) {q1 : Cur → Int → Option (Val × Cur)} (g1 : G181 q1) {a0 : Cur} {a1 : Int} {r : Val × Cur} (h : xBL N q0 q1 a0 a1 = some r) : AbC 181 (xAU a0 a1) (xAI r) :=
 AbsCalls.of_reach fk181 rfl rfl (Nat.le_of_ble_eq_true rfl) (c181_e g0 g1 a0 a1 r h)
theorem xEW {N : Nat} : ∀ d, G158 (xAg N d).c_spec_l3DrawList ∧ G181 (xAg N d).c_spec_l3Element2 := by
 intro d
 induction d with
 | zero => exact ⟨fun _ _ _ h => nE h, fun _ _ _ h => nE h⟩
 | succ d ih =>
  obtain ⟨ih0, ih1⟩ := ih
  exact ⟨fun _ _ _ h => xEH (N := N) ih0 ih1 h, fun _ _ _ h => xEI (N := N) ih0 ih1 h⟩
theorem spec_l3DrawList_ok {N : Nat} {a0 : Cur} {a1 : Int} {r : Val × Cur} (h : xD8 N a0 a1 = some r) : AbC 158 (xBl a0 a1) (xAG r) := (xEW N).1 _ _ r h
noncomputable def I159 : Info := { body := (Try.f159.body).getD .skip, nt := 23, results := [.cell 2 31], keep := [0, 4, 6, 8, 10, 22, 1, 5, 7], live := [(4, [0, 4, 6, 8, 10, 1, 5, 7])], modes := [(4, [(1, .take, false)]), (6, [(1, .take, false), (6, .take, false)]), (7, [(0, .take, false)])], ext := [0] }
theorem fk159 : FnOk Try.prog 159 Try.f159 I159 := ⟨Try.func159, by kernel_rfl, by kernel_rfl, by kernel_rfl, by kernel_rfl⟩
def S159_4 (x4 x5 : Int) (b0 : Cur) (b2 b3 : Val) : St := [(0, .v false [.ptr 0 0]), (4, .v false [.ptr 2 0]), (6, .v false [.ptr 3 0]), (8, .v false [.int .i64 x4]), (10, .v false [.int .i64 x5]), (1, .v true [.sl .ro .byte (Cur.b b0), .int .i64 (Cur.i b0), .int .i64 (Cur.h b0)]), (5, .v true [.int .i64 (Val.kind b2), .int .i64 (Val.n b2), .int .i64 (Val.step b2), .str (Val.text b2), .sl .own .val (Val.list b2), .sl .own .str (Val.columns b2), .sl .own .row (Val.rows b2)]), (7, .v true [.int .i64 (Val.kind b3), .int .i64 (Val.n b3), .int .i64 (Val.step b3), .str (Val.text b3), .sl .own .val (Val.list b3), .sl .own .str (Val.columns b3), .sl .own .row (Val.rows b3)])]
theorem p159_4_0 (x4 x5 : Int) (b0 : Cur) (b2 b3 : Val) (r1 : Int × Cur) (r2 : Val) : rS 4 I159 (S159_4 x4 x5 b0 b2 b3) [Y] [xAo r1, xAl r2] = st 4 I159 (S159_4 x4 (W (x5 + 1)) r1.2 b2 (Val.mk (Val.kind b3) (Val.n b3) (Val.step b3) (Val.text b3) ((Val.list b3) ++ [(Val.re r2)]) (Val.columns b3) (Val.rows b3))) [(decide ((x5 : Int) < x4)) = true, AbC 97 (xA0 b0) (xAo r1), AbC 51 (xAM r1.1) (xAl r2), Ln (Val.list b3) + Ln [(Val.re r2)] ≤ Lim] := by kernel_rfl
theorem p159_4_1 (x4 x5 : Int) (b0 : Cur) (b2 b3 : Val) : rS 4 I159 (S159_4 x4 x5 b0 b2 b3) [F] [] = dn (xBY (b3, b0)) [(decide ((x5 : Int) < x4)) = false] := by kernel_rfl
theorem p159_e_2 (a0 : Cur) (r1 : Int × Cur) : rE I159 (xC9 a0) [] [xAa r1] = st 4 I159 (S159_4 r1.1 0 r1.2 (Val.mk 0 0 0 [] [] [] []) (Val.mk 3 0 0 [] [] [] [])) [AbC 104 (xAd a0 9) (xAa r1)] := by kernel_rfl
theorem c159_4 {N : Nat} : ∀ n x4 x5 b0 b2 b3 r, xBX N n x4 x5 b0 b2 b3 = some r → RS Try.f159 I159 4 (S159_4 x4 x5 b0 b2 b3) (xBY r) := by
 intro n
 induction n with
 | zero => exact fun _ _ _ _ _ _ h => nE h
 | succ n ih =>
  exact fun x4 x5 b0 b2 b3 r h =>
   cE h (fun h0 h => bE h fun r1 h1 h => bE h fun r2 h2 h => iE h fun h3 h => tS fk159 (p159_4_0 x4 x5 b0 b2 b3 r1 r2) (oc h0 (oc (xBM h1) (oc (xBs h2) (oc h3 on)))) (ih _ _ _ _ _ _ h)) fun h0 h =>
   dS h fk159 (p159_4_1 x4 x5 b0 b2 b3) (oc h0 on)
theorem c159_e {N : Nat} : ∀ a0 r, xDN N a0 = some r → RE Try.f159 I159 (xC9 a0) (xBY r) := fun a0 r h =>
 bE h fun r1 h0 h => tE fk159 (p159_e_2 a0 r1) (oc (xAh h0) on) (c159_4 _ _ _ _ _ _ _ h)
theorem spec_l3Numbers_ok {N : Nat} {a0 : Cur} {r : Val × Cur} (h : xDN N  a0 = some r) : AbC 159 (xC9 a0) (xBY r) :=
 AbsCalls.of_reach fk159 rfl rfl (Nat.le_of_ble_eq_true rfl) (c159_e a0 r h)
noncomputable def I125 : Info := { body := (Try.f125.body).getD .skip, nt := 8, results := [.cell 4 31], keep := [0, 2, 8, 9], live := [], modes := [] }
theorem fk125 : FnOk Try.prog 125 Try.f125 I125 := ⟨Try.func125, by kernel_rfl, by kernel_rfl, by kernel_rfl, by kernel_rfl⟩
theorem p125_e_0 (a0 a1 : Int) : rE I125 (xCF a0 a1) [] [] = dn (xB5 (Val.mk 4 a0 a1 [] [] [] [])) [] := by kernel_rfl
theorem c125_e {N : Nat} : ∀ a0 a1 r, xDU N a0 a1 = some r → RE Try.f125 I125 (xCF a0 a1) (xB5 r) := fun a0 a1 r h =>
 dE h fk125 (p125_e_0 a0 a1) on
theorem xFo {N : Nat} {a0 : Int} {a1 : Int} {r : Val} (h : xDU N  a0 a1 = some r) : AbC 125 (xCF a0 a1) (xB5 r) :=
 AbsCalls.of_reach fk125 rfl rfl (Nat.le_of_ble_eq_true rfl) (c125_e a0 a1 r h)
noncomputable def I182 : Info := { body := (Try.f182.body).getD .skip, nt := 31, results := [.tmp 2], keep := [0, 4, 6, 8, 10, 12, 24, 1], live := [(5, [0, 6, 8, 10, 12, 1])], modes := [(5, [(1, .take, false)]), (7, [(0, .take, false)]), (9, [(0, .take, false)])], ext := [0] }
theorem fk182 : FnOk Try.prog 182 Try.f182 I182 := ⟨Try.func182, by kernel_rfl, by kernel_rfl, by kernel_rfl, by kernel_rfl⟩
def S182_5 (x3 : List Org) (x4 x5 x6 : Int) (b0 : Cur) : St := [(0, .v false [.ptr 0 0]), (6, .v false [.sl .own .org x3]), (8, .v false [.int .i64 x4]), (10, .v false [.int .i64 x5]), (12, .v false [.int .i64 x6]), (1, .v true [.sl .ro .byte (Cur.b b0), .int .i64 (Cur.i b0), .int .i64 (Cur.h b0)])]
theorem p182_5_0 (x3 : List Org) (x4 x5 x6 : Int) (b0 : Cur) (r1 : Int × Cur) (r2 : Int × Cur) : rS 5 I182 (S182_5 x3 x4 x5 x6 b0) [Y] [xAa r1, xAa r2] = st 5 I182 (S182_5 (x3 ++ [(Org.mk x4 (W (x6 + (W (r1.1 * 2)))))]) (W ((W (x4 + 1)) + r2.1)) x5 (W (x6 + 1)) r2.2) [(decide ((x6 : Int) < x5)) = true, AbC 104 (xAd b0 2) (xAa r1), Ln x3 + Ln [(Org.mk x4 (W (x6 + (W (r1.1 * 2)))))] ≤ Lim, AbC 104 (xAd r1.2 2) (xAa r2)] := by kernel_rfl
theorem p182_5_1 (x3 : List Org) (x4 x5 x6 : Int) (b0 : Cur) : rS 5 I182 (S182_5 x3 x4 x5 x6 b0) [F] [] = dn (xCU (x3, b0)) [(decide ((x6 : Int) < x5)) = false] := by kernel_rfl
theorem p182_e_2 (a0 : Cur) (r1 : Int × Cur) : rE I182 (xDM a0) [] [xAa r1] = st 5 I182 (S182_5 [] 1 r1.1 0 r1.2) [AbC 104 (xAd a0 3) (xAa r1)] := by kernel_rfl
theorem c182_5 {N : Nat} : ∀ n x3 x4 x5 x6 b0 r, xCT N n x3 x4 x5 x6 b0 = some r → RS Try.f182 I182 5 (S182_5 x3 x4 x5 x6 b0) (xCU r) := by
 intro n
 induction n with
 | zero => exact fun _ _ _ _ _ _ h => nE h
 | succ n ih =>
  exact fun x3 x4 x5 x6 b0 r h =>
   cE h (fun h0 h => bE h fun r1 h1 h => iE h fun h2 h => bE h fun r2 h3 h => tS fk182 (p182_5_0 x3 x4 x5 x6 b0 r1 r2) (oc h0 (oc (xAh h1) (oc h2 (oc (xAh h3) on)))) (ih _ _ _ _ _ _ h)) fun h0 h =>
   dS h fk182 (p182_5_1 x3 x4 x5 x6 b0) (oc h0 on)
theorem c182_e {N : Nat} : ∀ a0 r, xEJ N a0 = some r → RE Try.f182 I182 (xDM a0) (xCU r) := fun a0 r h =>
 bE h fun r1 h0 h => tE fk182 (p182_e_2 a0 r1) (oc (xAh h0) on) (c182_5 _ _ _ _ _ _ _ h)
theorem spec_l3From_ok {N : Nat} {a0 : Cur} {r : (List Org) × Cur} (h : xEJ N  a0 = some r) : AbC 182 (xDM a0) (xCU r) :=
 AbsCalls.of_reach fk182 rfl rfl (Nat.le_of_ble_eq_true rfl) (c182_e a0 r h)
noncomputable def I160 : Info := { body := (Try.f160.body).getD .skip, nt := 58, results := [.cell 2 31], keep := [0, 4, 6, 8, 10, 12, 14, 16, 18, 42, 66, 82, 1, 5, 11, 17], live := [(10, [0, 4, 8, 10, 12, 14, 1, 5, 11]), (14, [0, 4, 8, 10, 12, 14, 16, 18, 1, 5, 11, 17])], modes := [(3, [(1, .take, false)]), (5, [(1, .ref, false)]), (6, [(1, .take, false), (2, .take, false)]), (10, [(1, .take, false)]), (16, [(1, .take, false)]), (17, [(1, .take, false), (2, .take, false), (4, .take, false)]), (18, [(0, .take, false)])], ext := [0] }
theorem fk160 : FnOk Try.prog 160 Try.f160 I160 := ⟨Try.func160, by kernel_rfl, by kernel_rfl, by kernel_rfl, by kernel_rfl⟩
def xFc (x4 x6 x7 : Int) (b0 : Cur) (b2 b5 : Val) : St := [(0, .v false [.ptr 0 0]), (4, .v false [.ptr 2 0]), (8, .v false [.int .i64 x4]), (10, .v false [.ptr 5 0]), (12, .v false [.int .i64 x6]), (14, .v false [.int .i64 x7]), (1, .v true [.sl .ro .byte (Cur.b b0), .int .i64 (Cur.i b0), .int .i64 (Cur.h b0)]), (5, .v true [.int .i64 (Val.kind b2), .int .i64 (Val.n b2), .int .i64 (Val.step b2), .str (Val.text b2), .sl .own .val (Val.list b2), .sl .own .str (Val.columns b2), .sl .own .row (Val.rows b2)]), (11, .v true [.int .i64 (Val.kind b5), .int .i64 (Val.n b5), .int .i64 (Val.step b5), .str (Val.text b5), .sl .own .val (Val.list b5), .sl .own .str (Val.columns b5), .sl .own .row (Val.rows b5)])]
def S160_14 (x4 x6 x7 x9 : Int) (b0 : Cur) (b2 b5 : Val) (b8 : Rowd) : St := [(0, .v false [.ptr 0 0]), (4, .v false [.ptr 2 0]), (8, .v false [.int .i64 x4]), (10, .v false [.ptr 5 0]), (12, .v false [.int .i64 x6]), (14, .v false [.int .i64 x7]), (16, .v false [.ptr 8 0]), (18, .v false [.int .i64 x9]), (1, .v true [.sl .ro .byte (Cur.b b0), .int .i64 (Cur.i b0), .int .i64 (Cur.h b0)]), (5, .v true [.int .i64 (Val.kind b2), .int .i64 (Val.n b2), .int .i64 (Val.step b2), .str (Val.text b2), .sl .own .val (Val.list b2), .sl .own .str (Val.columns b2), .sl .own .row (Val.rows b2)]), (11, .v true [.int .i64 (Val.kind b5), .int .i64 (Val.n b5), .int .i64 (Val.step b5), .str (Val.text b5), .sl .own .val (Val.list b5), .sl .own .str (Val.columns b5), .sl .own .row (Val.rows b5)]), (17, .v true [.sl .own .int (Rowd.cells b8), .sl .own .org (Rowd.frm b8)])]
theorem p160_14_0 (x4 x6 x7 x9 : Int) (b0 : Cur) (b2 b5 : Val) (b8 : Rowd) (r1 : Int × Cur) : rS 14 I160 (S160_14 x4 x6 x7 x9 b0 b2 b5 b8) [Y] [xAo r1] = st 14 I160 (S160_14 x4 x6 x7 (W (x9 + 1)) r1.2 b2 b5 (Rowd.mk ((Rowd.cells b8) ++ [r1.1]) (Rowd.frm b8))) [(decide ((x9 : Int) < x4)) = true, AbC 97 (xA0 b0) (xAo r1), Ln (Rowd.cells b8) + Ln [r1.1] ≤ Lim] := by kernel_rfl
theorem p160_14_1 (x4 x6 x7 x9 : Int) (b0 : Cur) (b2 b5 : Val) (b8 : Rowd) : rS 14 I160 (S160_14 x4 x6 x7 x9 b0 b2 b5 b8) [F] [] = st 10 I160 (xFc x4 x6 (W (x7 + 1)) b0 b2 (Val.mk (Val.kind b5) (Val.n b5) (Val.step b5) (Val.text b5) (Val.list b5) (Val.columns b5) ((Val.rows b5) ++ [b8]))) [(decide ((x9 : Int) < x4)) = false, Ln (Val.rows b5) + Ln [b8] ≤ Lim] := by kernel_rfl
theorem p160_10_2 (x4 x6 x7 : Int) (b0 : Cur) (b2 b5 : Val) (r1 : (List Org) × Cur) : rS 10 I160 (xFc x4 x6 x7 b0 b2 b5) [Y] [xCU r1] = st 14 I160 (S160_14 x4 x6 x7 0 r1.2 b2 b5 (Rowd.mk [] r1.1)) [(decide ((x7 : Int) < x6)) = true, AbC 182 (xDM b0) (xCU r1)] := by kernel_rfl
theorem p160_10_3 (x4 x6 x7 : Int) (b0 : Cur) (b2 b5 : Val) : rS 10 I160 (xFc x4 x6 x7 b0 b2 b5) [F] [] = dn (xAz (b5, b0)) [(decide ((x7 : Int) < x6)) = false] := by kernel_rfl
theorem p160_e_4 (a0 : Cur) (r1 : Int × Cur) (r2 : Bool × Cur) (r3 : Int × Cur) : rE I160 (xBv a0) [Y] [xAa r1, xAf r2, xAa r3] = st 10 I160 (xFc 1 r3.1 0 r3.2 (Val.mk 0 0 0 [] [] [] []) (Val.mk 5 0 0 [] [] (List.take (tN 1) ((fun (z8 : List Str) => List.set z8 (tN 0) [120]) ([] ++ (List.take (tN (W (1 + r1.1))) ([[97], [98], [99], [120]] : List Str))))) [])) [AbC 104 (xAd a0 3) (xAa r1), (0 : Int) ≤ (W (1 + r1.1)) ∧ (W (1 + r1.1)) ≤ (Ln ([[97], [98], [99], [120]] : List Str)), 0 + Ln (List.take (tN (W (1 + r1.1))) ([[97], [98], [99], [120]] : List Str)) ≤ Lim, AbC 103 (xAx r1.2 5) (xAf r2), r2.1 = true, (0 : Int) ≤ 0 ∧ (0 : Int) < (Ln ([] ++ (List.take (tN (W (1 + r1.1))) ([[97], [98], [99], [120]] : List Str)))), (0 : Int) ≤ 1 ∧ (1 : Int) ≤ (Ln ((fun (z8 : List Str) => List.set z8 (tN 0) [120]) ([] ++ (List.take (tN (W (1 + r1.1))) ([[97], [98], [99], [120]] : List Str))))), AbC 104 (xAd r2.2 6) (xAa r3)] := by kernel_rfl
theorem p160_e_5 (a0 : Cur) (r1 : Int × Cur) (r2 : Bool × Cur) (r3 : Int × Cur) : rE I160 (xBv a0) [F] [xAa r1, xAf r2, xAa r3] = st 10 I160 (xFc (W (1 + r1.1)) r3.1 0 r3.2 (Val.mk 0 0 0 [] [] [] []) (Val.mk 5 0 0 [] [] ([] ++ (List.take (tN (W (1 + r1.1))) ([[97], [98], [99], [120]] : List Str))) [])) [AbC 104 (xAd a0 3) (xAa r1), (0 : Int) ≤ (W (1 + r1.1)) ∧ (W (1 + r1.1)) ≤ (Ln ([[97], [98], [99], [120]] : List Str)), 0 + Ln (List.take (tN (W (1 + r1.1))) ([[97], [98], [99], [120]] : List Str)) ≤ Lim, AbC 103 (xAx r1.2 5) (xAf r2), r2.1 = false, AbC 104 (xAd r2.2 6) (xAa r3)] := by kernel_rfl
theorem c160_14 {N : Nat} {k10 : Int → Int → Int → Cur → Val → Val → Option (Val × Cur)} (hk10 : ∀ z0 z1 z2 z3 z4 z5 r, k10 z0 z1 z2 z3 z4 z5 = some r → RS Try.f160 I160 10 (xFc z0 z1 z2 z3 z4 z5) (xAz r)) : ∀ n x4 x6 x7 x9 b0 b2 b5 b8 r, xBm N k10 n x4 x6 x7 x9 b0 b2 b5 b8 = some r → RS Try.f160 I160 14 (S160_14 x4 x6 x7 x9 b0 b2 b5 b8) (xAz r) := by
 intro n
 induction n with
 | zero => exact fun _ _ _ _ _ _ _ _ _ h => nE h
 | succ n ih =>
  exact fun x4 x6 x7 x9 b0 b2 b5 b8 r h =>
   cE h (fun h0 h => bE h fun r1 h1 h => iE h fun h2 h => tS fk160 (p160_14_0 x4 x6 x7 x9 b0 b2 b5 b8 r1) (oc h0 (oc (xBM h1) (oc h2 on))) (ih _ _ _ _ _ _ _ _ _ h)) fun h0 h =>
   iE h fun h1 h => tS fk160 (p160_14_1 x4 x6 x7 x9 b0 b2 b5 b8) (oc h0 (oc h1 on)) (hk10 _ _ _ _ _ _ _ h)
theorem c160_10 {N : Nat} : ∀ n x4 x6 x7 b0 b2 b5 r, xAB N n x4 x6 x7 b0 b2 b5 = some r → RS Try.f160 I160 10 (xFc x4 x6 x7 b0 b2 b5) (xAz r) := by
 intro n
 induction n with
 | zero => exact fun _ _ _ _ _ _ _ h => nE h
 | succ n ih =>
  exact fun x4 x6 x7 b0 b2 b5 r h =>
   cE h (fun h0 h => bE h fun r1 h1 h => tS fk160 (p160_10_2 x4 x6 x7 b0 b2 b5 r1) (oc h0 (oc (spec_l3From_ok h1) on)) (c160_14 ih _ _ _ _ _ _ _ _ _ _ h)) fun h0 h =>
   dS h fk160 (p160_10_3 x4 x6 x7 b0 b2 b5) (oc h0 on)
theorem c160_e {N : Nat} : ∀ a0 r, xCd N a0 = some r → RE Try.f160 I160 (xBv a0) (xAz r) := fun a0 r h =>
 bE h fun r1 h0 h => iE h fun h1 h => iE h fun h2 h => bE h fun r2 h3 h => cE h (fun h4 h => iE h fun h5 h => iE h fun h6 h => bE h fun r3 h7 h => tE fk160 (p160_e_4 a0 r1 r2 r3) (oc (xAh h0) (oc h1 (oc h2 (oc (xAQ h3) (oc h4 (oc h5 (oc h6 (oc (xAh h7) on)))))))) (c160_10 _ _ _ _ _ _ _ _ h)) fun h4 h =>
 bE h fun r3 h5 h => tE fk160 (p160_e_5 a0 r1 r2 r3) (oc (xAh h0) (oc h1 (oc h2 (oc (xAQ h3) (oc h4 (oc (xAh h5) on)))))) (c160_10 _ _ _ _ _ _ _ _ h)
theorem xD9 {N : Nat} {a0 : Cur} {r : Val × Cur} (h : xCd N  a0 = some r) : AbC 160 (xBv a0) (xAz r) :=
 AbsCalls.of_reach fk160 rfl rfl (Nat.le_of_ble_eq_true rfl) (c160_e a0 r h)
noncomputable def I115 : Info := { body := (Try.f115.body).getD .skip, nt := 40, results := [.cell 2 31], keep := [0, 4, 8, 10, 24, 34, 42, 50, 64, 1, 5], live := [], modes := [], ext := [0] }
theorem fk115 : FnOk Try.prog 115 Try.f115 I115 := ⟨Try.func115, by kernel_rfl, by kernel_rfl, by kernel_rfl, by kernel_rfl⟩
theorem p115_e_0 (a0 : Cur) (r1 : Int × Cur) (r2 : Int × Cur) (r3 : Val) : rE I115 (xAH a0) [Y, Y] [xAa r1, xAo r2, xAl r3] = dn (xAv (r3, r2.2)) [AbC 104 (xAd a0 10) (xAa r1), ((r1.1 : Int) == 0) = true, ((r1.1 : Int) == 0) = true, AbC 97 (xA0 r1.2) (xAo r2), AbC 51 (xAM r2.1) (xAl r3)] := by kernel_rfl
theorem p115_e_1 (a0 : Cur) (r1 : Int × Cur) (r2 : Int × Cur) (r3 : Val) : rE I115 (xAH a0) [F, Y, Y] [xAa r1, xAo r2, xAl r3] = dn (xAv (r3, r2.2)) [AbC 104 (xAd a0 10) (xAa r1), ((r1.1 : Int) == 0) = false, ((r1.1 : Int) == 1) = true, ((r1.1 : Int) == 1) = true, AbC 97 (xA0 r1.2) (xAo r2), AbC 51 (xAM r2.1) (xAl r3)] := by kernel_rfl
theorem p115_e_2 (a0 : Cur) (r1 : Int × Cur) (r2 : Int × Cur) (r3 : Val) : rE I115 (xAH a0) [F, F, Y] [xAa r1, xAo r2, xAl r3] = dn (xAv (r3, r2.2)) [AbC 104 (xAd a0 10) (xAa r1), ((r1.1 : Int) == 0) = false, ((r1.1 : Int) == 1) = false, ((r1.1 : Int) == 2) = true, AbC 97 (xA0 r1.2) (xAo r2), AbC 51 (xAM r2.1) (xAl r3)] := by kernel_rfl
theorem p115_e_3 (a0 : Cur) (r1 : Int × Cur) (r2 : Str × Cur) (r3 : Val) : rE I115 (xAH a0) [F, F, F, Y] [xAa r1, xBy r2, xAZ r3] = dn (xAv (r3, r2.2)) [AbC 104 (xAd a0 10) (xAa r1), ((r1.1 : Int) == 0) = false, ((r1.1 : Int) == 1) = false, ((r1.1 : Int) == 2) = false, ((r1.1 : Int) == 3) = true, AbC 157 (xCW r1.2) (xBy r2), AbC 127 (xBU r2.1) (xAZ r3)] := by kernel_rfl
theorem p115_e_4 (a0 : Cur) (r1 : Int × Cur) (r2 : Val × Cur) : rE I115 (xAH a0) [F, F, F, F, Y] [xAa r1, xAG r2] = dn (xAv (r2.1, r2.2)) [AbC 104 (xAd a0 10) (xAa r1), ((r1.1 : Int) == 0) = false, ((r1.1 : Int) == 1) = false, ((r1.1 : Int) == 2) = false, ((r1.1 : Int) == 3) = false, ((r1.1 : Int) == 4) = true, AbC 158 (xBl r1.2 3) (xAG r2)] := by kernel_rfl
theorem p115_e_5 (a0 : Cur) (r1 : Int × Cur) (r2 : Val × Cur) : rE I115 (xAH a0) [F, F, F, F, F, Y] [xAa r1, xBY r2] = dn (xAv (r2.1, r2.2)) [AbC 104 (xAd a0 10) (xAa r1), ((r1.1 : Int) == 0) = false, ((r1.1 : Int) == 1) = false, ((r1.1 : Int) == 2) = false, ((r1.1 : Int) == 3) = false, ((r1.1 : Int) == 4) = false, ((r1.1 : Int) == 5) = true, AbC 159 (xC9 r1.2) (xBY r2)] := by kernel_rfl
theorem p115_e_6 (a0 : Cur) (r1 : Int × Cur) (r2 : Int × Cur) (r3 : Int × Cur) (r4 : Val) : rE I115 (xAH a0) [F, F, F, F, F, F, Y] [xAa r1, xAo r2, xAo r3, xB5 r4] = dn (xAv (r4, r3.2)) [AbC 104 (xAd a0 10) (xAa r1), ((r1.1 : Int) == 0) = false, ((r1.1 : Int) == 1) = false, ((r1.1 : Int) == 2) = false, ((r1.1 : Int) == 3) = false, ((r1.1 : Int) == 4) = false, ((r1.1 : Int) == 5) = false, ((r1.1 : Int) == 6) = true, AbC 97 (xA0 r1.2) (xAo r2), AbC 97 (xA0 r2.2) (xAo r3), AbC 125 (xCF r2.1 r3.1) (xB5 r4)] := by kernel_rfl
theorem p115_e_7 (a0 : Cur) (r1 : Int × Cur) (r2 : Int × Cur) (r3 : Val) : rE I115 (xAH a0) [F, F, F, F, F, F, F, Y] [xAa r1, xAa r2, xAt r3] = dn (xAv (r3, r2.2)) [AbC 104 (xAd a0 10) (xAa r1), ((r1.1 : Int) == 0) = false, ((r1.1 : Int) == 1) = false, ((r1.1 : Int) == 2) = false, ((r1.1 : Int) == 3) = false, ((r1.1 : Int) == 4) = false, ((r1.1 : Int) == 5) = false, ((r1.1 : Int) == 6) = false, ((r1.1 : Int) == 7) = true, AbC 104 (xAd r1.2 8) (xAa r2), AbC 44 (xA1 (W (1 + r2.1))) (xAt r3)] := by kernel_rfl
theorem p115_e_8 (a0 : Cur) (r1 : Int × Cur) (r2 : Val × Cur) : rE I115 (xAH a0) [F, F, F, F, F, F, F, F] [xAa r1, xAz r2] = dn (xAv (r2.1, r2.2)) [AbC 104 (xAd a0 10) (xAa r1), ((r1.1 : Int) == 0) = false, ((r1.1 : Int) == 1) = false, ((r1.1 : Int) == 2) = false, ((r1.1 : Int) == 3) = false, ((r1.1 : Int) == 4) = false, ((r1.1 : Int) == 5) = false, ((r1.1 : Int) == 6) = false, ((r1.1 : Int) == 7) = false, AbC 160 (xBv r1.2) (xAz r2)] := by kernel_rfl
theorem c115_e {N : Nat} : ∀ a0 r, xDF N a0 = some r → RE Try.f115 I115 (xAH a0) (xAv r) := fun a0 r h =>
 bE h fun r1 h0 h => cE h (fun h1 h => bE h fun r2 h3 h => bE h fun r3 h4 h => dE h fk115 (p115_e_0 a0 r1 r2 r3) (oc (xAh h0) (oc h1 (oc h1 (oc (xBM h3) (oc (xBs h4) on)))))) fun h1 h =>
 cE h (fun h2 h => bE h fun r2 h4 h => bE h fun r3 h5 h => dE h fk115 (p115_e_1 a0 r1 r2 r3) (oc (xAh h0) (oc h1 (oc h2 (oc h2 (oc (xBM h4) (oc (xBs h5) on))))))) fun h2 h =>
 cE h (fun h3 h => bE h fun r2 h4 h => bE h fun r3 h5 h => dE h fk115 (p115_e_2 a0 r1 r2 r3) (oc (xAh h0) (oc h1 (oc h2 (oc h3 (oc (xBM h4) (oc (xBs h5) on))))))) fun h3 h =>
 cE h (fun h4 h => bE h fun r2 h5 h => bE h fun r3 h6 h => dE h fk115 (p115_e_3 a0 r1 r2 r3) (oc (xAh h0) (oc h1 (oc h2 (oc h3 (oc h4 (oc (xEq h5) (oc (xDD h6) on)))))))) fun h4 h =>
 cE h (fun h5 h => bE h fun r2 h6 h => dE h fk115 (p115_e_4 a0 r1 r2) (oc (xAh h0) (oc h1 (oc h2 (oc h3 (oc h4 (oc h5 (oc (spec_l3DrawList_ok h6) on)))))))) fun h5 h =>
 cE h (fun h6 h => bE h fun r2 h7 h => dE h fk115 (p115_e_5 a0 r1 r2) (oc (xAh h0) (oc h1 (oc h2 (oc h3 (oc h4 (oc h5 (oc h6 (oc (spec_l3Numbers_ok h7) on))))))))) fun h6 h =>
 cE h (fun h7 h => bE h fun r2 h8 h => bE h fun r3 h9 h => bE h fun r4 h10 h => dE h fk115 (p115_e_6 a0 r1 r2 r3 r4) (oc (xAh h0) (oc h1 (oc h2 (oc h3 (oc h4 (oc h5 (oc h6 (oc h7 (oc (xBM h8) (oc (xBM h9) (oc (xFo h10) on)))))))))))) fun h7 h =>
 cE h (fun h8 h => bE h fun r2 h9 h => bE h fun r3 h10 h => dE h fk115 (p115_e_7 a0 r1 r2 r3) (oc (xAh h0) (oc h1 (oc h2 (oc h3 (oc h4 (oc h5 (oc h6 (oc h7 (oc h8 (oc (xAh h9) (oc (xCj h10) on)))))))))))) fun h8 h =>
 bE h fun r2 h9 h => dE h fk115 (p115_e_8 a0 r1 r2) (oc (xAh h0) (oc h1 (oc h2 (oc h3 (oc h4 (oc h5 (oc h6 (oc h7 (oc h8 (oc (xD9 h9) on))))))))))
theorem xEp {N : Nat} {a0 : Cur} {r : Val × Cur} (h : xDF N  a0 = some r) : AbC 115 (xAH a0) (xAv r) :=
 AbsCalls.of_reach fk115 rfl rfl (Nat.le_of_ble_eq_true rfl) (c115_e a0 r h)
noncomputable def I180 : Info := { body := (Try.f180.body).getD .skip, nt := 39, results := [.cell 4 31], keep := [0, 2, 6, 8, 10, 12, 36, 52, 7, 9, 11], live := [(5, [0, 8, 10, 12, 9, 11])], modes := [(1, [(3, .take, false), (8, .take, false)]), (7, [(1, .ref, false)]), (8, [(0, .take, false)])] }
theorem fk180 : FnOk Try.prog 180 Try.f180 I180 := ⟨Try.func180, by kernel_rfl, by kernel_rfl, by kernel_rfl, by kernel_rfl⟩
def S180_5 (x0 x6 : Int) (b4 b5 : Val) : St := [(0, .v false [.int .i64 x0]), (8, .v false [.ptr 4 0]), (10, .v false [.ptr 5 0]), (12, .v false [.int .i64 x6]), (9, .v true [.int .i64 (Val.kind b4), .int .i64 (Val.n b4), .int .i64 (Val.step b4), .str (Val.text b4), .sl .own .val (Val.list b4), .sl .own .str (Val.columns b4), .sl .own .row (Val.rows b4)]), (11, .v true [.int .i64 (Val.kind b5), .int .i64 (Val.n b5), .int .i64 (Val.step b5), .str (Val.text b5), .sl .own .val (Val.list b5), .sl .own .str (Val.columns b5), .sl .own .row (Val.rows b5)])]
theorem p180_5_0 (x0 x6 : Int) (b4 b5 : Val) : rS 5 I180 (S180_5 x0 x6 b4 b5) [Y] [] = st 5 I180 (S180_5 x0 (W (x6 + 1)) b4 (Val.mk (Val.kind b5) (Val.n b5) (Val.step b5) (Val.text b5) (Val.list b5) (Val.columns b5) (List.set (Val.rows b5) (tN x6) (Rowd.mk (Rowd.cells (gD (Val.rows b5) (tN x6) rd)) [(Org.mk x0 x6)])))) [(decide ((x6 : Int) < (Ln (Val.rows b5) : Int))) = true, (0 : Int) ≤ x6 ∧ x6 < (Ln (Val.rows b5))] := by kernel_rfl
theorem p180_5_1 (x0 x6 : Int) (b4 b5 : Val) : rS 5 I180 (S180_5 x0 x6 b4 b5) [F] [] = dn (xAN b5) [(decide ((x6 : Int) < (Ln (Val.rows b5) : Int))) = false] := by kernel_rfl
theorem p180_e_2 (a0 : Int) (a1 r1 : Val) : rE I180 (xBe a0 a1) [Y, Y, Y] [xAt r1] = dn (xAN r1) [(((Val.kind a1) : Int) != 5) = true, true = true, true = true, AbC 44 (xA1 4) (xAt r1)] := by kernel_rfl
theorem p180_e_3 (a0 : Int) (a1 : Val) (r1 : Bool) (r2 : Val) : rE I180 (xBe a0 a1) [F, Y, Y] [xAb r1, xAt r2] = dn (xAN r2) [(((Val.kind a1) : Int) != 5) = false, AbC 40 (xAc a1) (xAb r1), (!r1) = true, true = true, AbC 44 (xA1 4) (xAt r2)] := by kernel_rfl
theorem p180_e_4 (a0 : Int) (a1 : Val) (r1 : Bool) (r2 : Val) : rE I180 (xBe a0 a1) [F, F, Y] [xAb r1, xAt r2] = dn (xAN r2) [(((Val.kind a1) : Int) != 5) = false, AbC 40 (xAc a1) (xAb r1), (!r1) = false, (decide ((a0 : Int) < 0)) = true, AbC 44 (xA1 4) (xAt r2)] := by kernel_rfl
theorem p180_e_5 (a0 : Int) (a1 : Val) (r1 : Bool) (r2 : Val) : rE I180 (xBe a0 a1) [F, F, F] [xAb r1, xA6 r2] = st 5 I180 (S180_5 a0 0 (Val.mk 0 0 0 [] [] [] []) r2) [(((Val.kind a1) : Int) != 5) = false, AbC 40 (xAc a1) (xAb r1), (!r1) = false, (decide ((a0 : Int) < 0)) = false, AbC 84 (xCp a1) (xA6 r2)] := by kernel_rfl
theorem c180_5 {N : Nat} : ∀ n x0 x6 b4 b5 r, xBt N n x0 x6 b4 b5 = some r → RS Try.f180 I180 5 (S180_5 x0 x6 b4 b5) (xAN r) := by
 intro n
 induction n with
 | zero => exact fun _ _ _ _ _ h => nE h
 | succ n ih =>
  exact fun x0 x6 b4 b5 r h =>
   cE h (fun h0 h => iE h fun h1 h => tS fk180 (p180_5_0 x0 x6 b4 b5) (oc h0 (oc h1 on)) (ih _ _ _ _ _ h)) fun h0 h =>
   dS h fk180 (p180_5_1 x0 x6 b4 b5) (oc h0 on)
theorem c180_e {N : Nat} : ∀ a0 a1 r, xCM N a0 a1 = some r → RE Try.f180 I180 (xBe a0 a1) (xAN r) := fun a0 a1 r h =>
 cE h (fun h0 h => bE h fun r1 h3 h => dE h fk180 (p180_e_2 a0 a1 r1) (oc h0 (oc rfl (oc rfl (oc (xCj h3) on))))) fun h0 h =>
 bE h fun r1 h1 h => cE h (fun h2 h => bE h fun r2 h4 h => dE h fk180 (p180_e_3 a0 a1 r1 r2) (oc h0 (oc (xDa h1) (oc h2 (oc rfl (oc (xCj h4) on)))))) fun h2 h =>
 cE h (fun h3 h => bE h fun r2 h4 h => dE h fk180 (p180_e_4 a0 a1 r1 r2) (oc h0 (oc (xDa h1) (oc h2 (oc h3 (oc (xCj h4) on)))))) fun h3 h =>
 bE h fun r2 h4 h => tE fk180 (p180_e_5 a0 a1 r1 r2) (oc h0 (oc (xDa h1) (oc h2 (oc h3 (oc (spec_l3Copy_ok h4) on))))) (c180_5 _ _ _ _ _ _ h)
theorem xFn {N : Nat} {a0 : Int} {a1 : Val} {r : Val} (h : xCM N  a0 a1 = some r) : AbC 180 (xBe a0 a1) (xAN r) :=
 AbsCalls.of_reach fk180 rfl rfl (Nat.le_of_ble_eq_true rfl) (c180_e a0 a1 r h)
noncomputable def I156 : Info := { body := (Try.f156.body).getD .skip, nt := 41, results := [.cell 4 31], keep := [0, 2, 8, 10, 12, 14, 28, 50, 1, 9, 11], live := [(3, [0, 2, 8, 10, 12, 1, 9, 11]), (6, [0, 2, 8, 10, 12, 14, 1, 9, 11])], modes := [(8, [(1, .ref, false), (5, .ref, false)])], ext := [0] }
theorem fk156 : FnOk Try.prog 156 Try.f156 I156 := ⟨Try.func156, by kernel_rfl, by kernel_rfl, by kernel_rfl, by kernel_rfl⟩
def S156_3 (x1 x6 : Int) (b0 : Cur) (b4 b5 : Val) : St := [(0, .v false [.ptr 0 0]), (2, .v false [.int .i64 x1]), (8, .v false [.ptr 4 0]), (10, .v false [.ptr 5 0]), (12, .v false [.int .i64 x6]), (1, .v true [.sl .ro .byte (Cur.b b0), .int .i64 (Cur.i b0), .int .i64 (Cur.h b0)]), (9, .v true [.int .i64 (Val.kind b4), .int .i64 (Val.n b4), .int .i64 (Val.step b4), .str (Val.text b4), .sl .own .val (Val.list b4), .sl .own .str (Val.columns b4), .sl .own .row (Val.rows b4)]), (11, .v true [.int .i64 (Val.kind b5), .int .i64 (Val.n b5), .int .i64 (Val.step b5), .str (Val.text b5), .sl .own .val (Val.list b5), .sl .own .str (Val.columns b5), .sl .own .row (Val.rows b5)])]
def S156_6 (x1 x6 x7 : Int) (b0 : Cur) (b4 b5 : Val) : St := [(0, .v false [.ptr 0 0]), (2, .v false [.int .i64 x1]), (8, .v false [.ptr 4 0]), (10, .v false [.ptr 5 0]), (12, .v false [.int .i64 x6]), (14, .v false [.int .i64 x7]), (1, .v true [.sl .ro .byte (Cur.b b0), .int .i64 (Cur.i b0), .int .i64 (Cur.h b0)]), (9, .v true [.int .i64 (Val.kind b4), .int .i64 (Val.n b4), .int .i64 (Val.step b4), .str (Val.text b4), .sl .own .val (Val.list b4), .sl .own .str (Val.columns b4), .sl .own .row (Val.rows b4)]), (11, .v true [.int .i64 (Val.kind b5), .int .i64 (Val.n b5), .int .i64 (Val.step b5), .str (Val.text b5), .sl .own .val (Val.list b5), .sl .own .str (Val.columns b5), .sl .own .row (Val.rows b5)])]
theorem p156_6_0 (x1 x6 x7 : Int) (b0 : Cur) (b4 b5 : Val) (r1 : Int × Cur) : rS 6 I156 (S156_6 x1 x6 x7 b0 b4 b5) [Y] [xAa r1] = st 6 I156 (S156_6 x1 x6 (W (x7 + 1)) r1.2 b4 (Val.mk (Val.kind b5) (Val.n b5) (Val.step b5) (Val.text b5) (Val.list b5) (Val.columns b5) (List.set (Val.rows b5) (tN x6) (Rowd.mk ((fun (z1 : List Int) => List.set z1 (tN x7) r1.1) (Rowd.cells (gD (Val.rows b5) (tN x6) rd))) (Rowd.frm (gD (Val.rows b5) (tN x6) rd)))))) [(0 : Int) ≤ x6 ∧ x6 < (Ln (Val.rows b5)), (decide ((x7 : Int) < (Ln (Rowd.cells (gD (Val.rows b5) (tN x6) rd)) : Int))) = true, (0 : Int) ≤ x6 ∧ x6 < (Ln (Val.rows b5)), AbC 104 (xAd b0 4) (xAa r1), (0 : Int) ≤ x7 ∧ x7 < (Ln (Rowd.cells (gD (Val.rows b5) (tN x6) rd)))] := by kernel_rfl
theorem p156_6_1 (x1 x6 x7 : Int) (b0 : Cur) (b4 b5 : Val) : rS 6 I156 (S156_6 x1 x6 x7 b0 b4 b5) [F] [] = st 3 I156 (S156_3 x1 (W (x6 + 1)) b0 b4 b5) [(0 : Int) ≤ x6 ∧ x6 < (Ln (Val.rows b5)), (decide ((x7 : Int) < (Ln (Rowd.cells (gD (Val.rows b5) (tN x6) rd)) : Int))) = false] := by kernel_rfl
theorem p156_3_2 (x1 x6 : Int) (b0 : Cur) (b4 b5 : Val) : rS 3 I156 (S156_3 x1 x6 b0 b4 b5) [Y] [] = st 6 I156 (S156_6 x1 x6 0 b0 b4 b5) [(decide ((x6 : Int) < (Ln (Val.rows b5) : Int))) = true] := by kernel_rfl
theorem p156_3_3 (x1 x6 : Int) (b0 : Cur) (b4 b5 r1 : Val) : rS 3 I156 (S156_3 x1 x6 b0 b4 b5) [F] [xAN r1] = dn (xBo (r1, b0)) [(decide ((x6 : Int) < (Ln (Val.rows b5) : Int))) = false, AbC 180 (xBe x1 b5) (xAN r1)] := by kernel_rfl
theorem p156_e_4 (a0 : Cur) (a1 : Int) (r1 : Val × Cur) : rE I156 (xDk a0 a1) [] [xAz r1] = st 3 I156 (S156_3 a1 0 r1.2 (Val.mk 0 0 0 [] [] [] []) r1.1) [AbC 160 (xBv a0) (xAz r1)] := by kernel_rfl
theorem c156_6 {N : Nat} {k3 : Int → Int → Cur → Val → Val → Option (Val × Cur)} (hk3 : ∀ z0 z1 z2 z3 z4 r, k3 z0 z1 z2 z3 z4 = some r → RS Try.f156 I156 3 (S156_3 z0 z1 z2 z3 z4) (xBo r)) : ∀ n x1 x6 x7 b0 b4 b5 r, xCf N k3 n x1 x6 x7 b0 b4 b5 = some r → RS Try.f156 I156 6 (S156_6 x1 x6 x7 b0 b4 b5) (xBo r) := by
 intro n
 induction n with
 | zero => exact fun _ _ _ _ _ _ _ h => nE h
 | succ n ih =>
  exact fun x1 x6 x7 b0 b4 b5 r h =>
   iE h fun h0 h => cE h (fun h1 h => bE h fun r1 h3 h => iE h fun h4 h => tS fk156 (p156_6_0 x1 x6 x7 b0 b4 b5 r1) (oc h0 (oc h1 (oc h0 (oc (xAh h3) (oc h4 on))))) (ih _ _ _ _ _ _ _ h)) fun h1 h =>
   tS fk156 (p156_6_1 x1 x6 x7 b0 b4 b5) (oc h0 (oc h1 on)) (hk3 _ _ _ _ _ _ h)
theorem c156_3 {N : Nat} : ∀ n x1 x6 b0 b4 b5 r, xBH N n x1 x6 b0 b4 b5 = some r → RS Try.f156 I156 3 (S156_3 x1 x6 b0 b4 b5) (xBo r) := by
 intro n
 induction n with
 | zero => exact fun _ _ _ _ _ _ h => nE h
 | succ n ih =>
  exact fun x1 x6 b0 b4 b5 r h =>
   cE h (fun h0 h => tS fk156 (p156_3_2 x1 x6 b0 b4 b5) (oc h0 on) (c156_6 ih _ _ _ _ _ _ _ _ h)) fun h0 h =>
   bE h fun r1 h1 h => dS h fk156 (p156_3_3 x1 x6 b0 b4 b5 r1) (oc h0 (oc (xFn h1) on))
theorem c156_e {N : Nat} : ∀ a0 a1 r, xDy N a0 a1 = some r → RE Try.f156 I156 (xDk a0 a1) (xBo r) := fun a0 a1 r h =>
 bE h fun r1 h0 h => tE fk156 (p156_e_4 a0 a1 r1) (oc (xD9 h0) on) (c156_3 _ _ _ _ _ _ _ h)
theorem spec_l8Source_ok {N : Nat} {a0 : Cur} {a1 : Int} {r : Val × Cur} (h : xDy N  a0 a1 = some r) : AbC 156 (xDk a0 a1) (xBo r) :=
 AbsCalls.of_reach fk156 rfl rfl (Nat.le_of_ble_eq_true rfl) (c156_e a0 a1 r h)
noncomputable def I114 : Info := { body := (Try.f114.body).getD .skip, nt := 33, results := [.tmp 2], keep := [0, 4, 6, 8, 10, 12, 24, 36, 1, 13], live := [(4, [0, 6, 8, 10, 1])], modes := [(4, [(1, .take, false)]), (9, [(0, .take, false), (2, .cp, true), (4, .take, false), (7, .take, false)]), (10, [(0, .take, false)])], ext := [0] }
theorem fk114 : FnOk Try.prog 114 Try.f114 I114 := ⟨Try.func114, by kernel_rfl, by kernel_rfl, by kernel_rfl, by kernel_rfl⟩
def S114_4 (x3 : List Bnd) (x4 x5 : Int) (b0 : Cur) : St := [(0, .v false [.ptr 0 0]), (6, .v false [.sl .own .bnd x3]), (8, .v false [.int .i64 x4]), (10, .v false [.int .i64 x5]), (1, .v true [.sl .ro .byte (Cur.b b0), .int .i64 (Cur.i b0), .int .i64 (Cur.h b0)])]
theorem p114_4_0 (x3 : List Bnd) (x4 x5 : Int) (b0 : Cur) (r1 : Val × Cur) (r2 : Bool × Cur) (r3 : Int × Cur) (r4 : Val × Cur) (r5 : Str × Cur) : rS 4 I114 (S114_4 x3 x4 x5 b0) [Y, Y] [xAv r1, xAf r2, xAa r3, xBo r4, xA4 r5] = st 4 I114 (S114_4 (x3 ++ [(Bnd.mk r5.1 (Val.re r4.1))]) x4 (W (x5 + 1)) r5.2) [(decide ((x5 : Int) < x4)) = true, AbC 115 (xAH b0) (xAv r1), AbC 103 (xAx r1.2 3) (xAf r2), r2.1 = true, AbC 104 (xAd r2.2 3) (xAa r3), AbC 156 (xDk r3.2 (W (1 + r3.1))) (xBo r4), AbC 96 (xCo r4.2 [[97], [98], [99]]) (xA4 r5), Ln x3 + Ln [(Bnd.mk r5.1 (Val.re r4.1))] ≤ Lim] := by kernel_rfl
theorem p114_4_1 (x3 : List Bnd) (x4 x5 : Int) (b0 : Cur) (r1 : Val × Cur) (r2 : Bool × Cur) (r3 : Str × Cur) : rS 4 I114 (S114_4 x3 x4 x5 b0) [Y, F] [xAv r1, xAf r2, xA4 r3] = st 4 I114 (S114_4 (x3 ++ [(Bnd.mk r3.1 (Val.re r1.1))]) x4 (W (x5 + 1)) r3.2) [(decide ((x5 : Int) < x4)) = true, AbC 115 (xAH b0) (xAv r1), AbC 103 (xAx r1.2 3) (xAf r2), r2.1 = false, AbC 96 (xCo r2.2 [[97], [98], [99]]) (xA4 r3), Ln x3 + Ln [(Bnd.mk r3.1 (Val.re r1.1))] ≤ Lim] := by kernel_rfl
theorem p114_4_2 (x3 : List Bnd) (x4 x5 : Int) (b0 : Cur) : rS 4 I114 (S114_4 x3 x4 x5 b0) [F] [] = dn (xCc (x3, b0)) [(decide ((x5 : Int) < x4)) = false] := by kernel_rfl
theorem p114_e_3 (a0 : Cur) (r1 : Int × Cur) : rE I114 (xDi a0) [] [xAa r1] = st 4 I114 (S114_4 [] r1.1 0 r1.2) [AbC 104 (xAd a0 5) (xAa r1)] := by kernel_rfl
theorem c114_4 {N : Nat} : ∀ n x3 x4 x5 b0 r, xBE N n x3 x4 x5 b0 = some r → RS Try.f114 I114 4 (S114_4 x3 x4 x5 b0) (xCc r) := by
 intro n
 induction n with
 | zero => exact fun _ _ _ _ _ h => nE h
 | succ n ih =>
  exact fun x3 x4 x5 b0 r h =>
   cE h (fun h0 h => bE h fun r1 h1 h => bE h fun r2 h2 h => cE h (fun h3 h => bE h fun r3 h4 h => bE h fun r4 h5 h => bE h fun r5 h6 h => iE h fun h7 h => tS fk114 (p114_4_0 x3 x4 x5 b0 r1 r2 r3 r4 r5) (oc h0 (oc (xEp h1) (oc (xAQ h2) (oc h3 (oc (xAh h4) (oc (spec_l8Source_ok h5) (oc (xDJ h6) (oc h7 on)))))))) (ih _ _ _ _ _ h)) fun h3 h =>
   bE h fun r3 h4 h => iE h fun h5 h => tS fk114 (p114_4_1 x3 x4 x5 b0 r1 r2 r3) (oc h0 (oc (xEp h1) (oc (xAQ h2) (oc h3 (oc (xDJ h4) (oc h5 on)))))) (ih _ _ _ _ _ h)) fun h0 h =>
   dS h fk114 (p114_4_2 x3 x4 x5 b0) (oc h0 on)
theorem c114_e {N : Nat} : ∀ a0 r, xDt N a0 = some r → RE Try.f114 I114 (xDi a0) (xCc r) := fun a0 r h =>
 bE h fun r1 h0 h => tE fk114 (p114_e_3 a0 r1) (oc (xAh h0) on) (c114_4 _ _ _ _ _ _ h)
theorem spec_l15Scope_ok {N : Nat} {a0 : Cur} {r : (List Bnd) × Cur} (h : xDt N  a0 = some r) : AbC 114 (xDi a0) (xCc r) :=
 AbsCalls.of_reach fk114 rfl rfl (Nat.le_of_ble_eq_true rfl) (c114_e a0 r h)
noncomputable def I41 : Info := { body := (Try.f41.body).getD .skip, nt := 15, results := [.tmp 2, .tmp 3, .cell 4 31], keep := [0, 4, 6, 8, 10, 9, 15], live := [], modes := [] }
theorem fk41 : FnOk Try.prog 41 Try.f41 I41 := ⟨Try.func41, by kernel_rfl, by kernel_rfl, by kernel_rfl, by kernel_rfl⟩
theorem p41_e_0 (a0 : List Int) (r1 : Cur) (r2 : (List Bnd) × Cur) (r3 : Str × Cur) (r4 : Val × Cur) : rE I41 (xCb a0) [] [xCI r1, xCc r2, xA4 r3, xAv r4] = dn (xA8 (r2.1, r3.1, r4.1)) [AbC 94 (xDX a0) (xCI r1), AbC 114 (xDi r1) (xCc r2), AbC 96 (xCo r2.2 [[97], [122]]) (xA4 r3), AbC 115 (xAH r3.2) (xAv r4)] := by kernel_rfl
theorem c41_e {N : Nat} : ∀ a0 r, xDW N a0 = some r → RE Try.f41 I41 (xCb a0) (xA8 r) := fun a0 r h =>
 bE h fun r1 h0 h => bE h fun r2 h1 h => bE h fun r3 h2 h => bE h fun r4 h3 h => dE h fk41 (p41_e_0 a0 r1 r2 r3 r4) (oc (spec_l1New_ok h0) (oc (spec_l15Scope_ok h1) (oc (xDJ h2) (oc (xEp h3) on))))
theorem xDT {N : Nat} {a0 : List Int} {r : (List Bnd) × Str × Val} (h : xDW N  a0 = some r) : AbC 41 (xCb a0) (xA8 r) :=
 AbsCalls.of_reach fk41 rfl rfl (Nat.le_of_ble_eq_true rfl) (c41_e a0 r h)
noncomputable def I42 : Info := { body := (Try.f42.body).getD .skip, nt := 34, results := [.tmp 6], keep := [0, 2, 4, 10, 12, 14, 18, 22, 24, 26, 28, 11, 19], live := [(3, [2, 10, 14, 22, 24, 26, 11])], modes := [(5, [(0, .take, false), (8, .take, false)]), (6, [(1, .take, false)]), (7, [(0, .take, false), (6, .take, false)])] }
theorem fk42 : FnOk Try.prog 42 Try.f42 I42 := ⟨Try.func42, by kernel_rfl, by kernel_rfl, by kernel_rfl, by kernel_rfl⟩
def S42_3 (x1 : Str) (x7 x11 : List Bnd) (x12 x13 : Int) (b5 : Val) : St := [(2, .v false [.str x1]), (10, .v false [.ptr 5 0]), (14, .v false [.sl .own .bnd x7]), (22, .v false [.sl .ro .bnd x11]), (24, .v false [.int .i64 x12]), (26, .v false [.int .i64 x13]), (11, .v true [.int .i64 (Val.kind b5), .int .i64 (Val.n b5), .int .i64 (Val.step b5), .str (Val.text b5), .sl .ro .val (Val.list b5), .sl .ro .str (Val.columns b5), .sl .ro .row (Val.rows b5)])]
theorem p42_3_0 (x1 : Str) (x7 x11 : List Bnd) (x12 x13 : Int) (b5 r1 : Val) : rS 3 I42 (S42_3 x1 x7 x11 x12 x13 b5) [Y] [xAs r1] = st 3 I42 (S42_3 x1 (x7 ++ [(Bnd.mk (Bnd.name (gD x11 (tN x13) Ty.bnd.dflt)) (Val.re r1))]) x11 x12 (W (x13 + 1)) b5) [(decide ((x13 : Int) < x12)) = true, (0 : Int) ≤ x13 ∧ x13 < (Ln x11), AbC 89 (xAY (Bnd.value (gD x11 (tN x13) Ty.bnd.dflt))) (xAs r1), Ln x7 + Ln [(Bnd.mk (Bnd.name (gD x11 (tN x13) Ty.bnd.dflt)) (Val.re r1))] ≤ Lim] := by kernel_rfl
theorem p42_3_1 (x1 : Str) (x7 x11 : List Bnd) (x12 x13 : Int) (b5 r1 : Val) : rS 3 I42 (S42_3 x1 x7 x11 x12 x13 b5) [F] [xAs r1] = dn (xBO (x7 ++ [(Bnd.mk x1 (Val.re r1))])) [(decide ((x13 : Int) < x12)) = false, AbC 89 (xAY b5) (xAs r1), Ln x7 + Ln [(Bnd.mk x1 (Val.re r1))] ≤ Lim] := by kernel_rfl
theorem p42_e_2 (a0 : List Bnd) (a1 : Str) (a2 : Val) : rE I42 (xDo a0 a1 a2) [] [] = st 3 I42 (S42_3 a1 [] a0 (Ln a0 : Int) 0 a2) [] := by kernel_rfl
theorem c42_3 {N : Nat} : ∀ n x1 x7 x11 x12 x13 b5 r, xDp N n x1 x7 x11 x12 x13 b5 = some r → RS Try.f42 I42 3 (S42_3 x1 x7 x11 x12 x13 b5) (xBO r) := by
 intro n
 induction n with
 | zero => exact fun _ _ _ _ _ _ _ h => nE h
 | succ n ih =>
  exact fun x1 x7 x11 x12 x13 b5 r h =>
   cE h (fun h0 h => iE h fun h1 h => bE h fun r1 h2 h => iE h fun h3 h => tS fk42 (p42_3_0 x1 x7 x11 x12 x13 b5 r1) (oc h0 (oc h1 (oc (xDA h2) (oc h3 on)))) (ih _ _ _ _ _ _ _ h)) fun h0 h =>
   bE h fun r1 h1 h => iE h fun h2 h => dS h fk42 (p42_3_1 x1 x7 x11 x12 x13 b5 r1) (oc h0 (oc (xDA h1) (oc h2 on)))
theorem c42_e {N : Nat} : ∀ a0 a1 a2 r, impl_Bind N a0 a1 a2 = some r → RE Try.f42 I42 (xDo a0 a1 a2) (xBO r) := fun a0 a1 a2 r h =>
 tE fk42 (p42_e_2 a0 a1 a2) on (c42_3 _ _ _ _ _ _ _ _ h)
theorem xE0 {N : Nat} {a0 : List Bnd} {a1 : Str} {a2 : Val} {r : (List Bnd)} (h : impl_Bind N  a0 a1 a2 = some r) : AbC 42 (xDo a0 a1 a2) (xBO r) :=
 AbsCalls.of_reach fk42 rfl rfl (Nat.le_of_ble_eq_true rfl) (c42_e a0 a1 a2 r h)
end Go.Ab.T
end
section
open Go.Proofs
namespace Go.Ab.T
set_option linter.unusedVariables false
set_option maxRecDepth 100000
noncomputable def I43 : Info := { body := (Try.f43.body).getD .skip, nt := 27, results := [.cell 4 31], keep := [0, 2, 8, 10, 20, 38, 9], live := [(2, [0, 2, 8, 10, 9])], modes := [] }
theorem fk43 : FnOk Try.prog 43 Try.f43 I43 := ⟨Try.func43, by kernel_rfl, by kernel_rfl, by kernel_rfl, by kernel_rfl⟩
def S43_2 (x0 : List Bnd) (x1 : Str) (x5 : Int) (b4 : Val) : St := [(0, .v false [.sl .ro .bnd x0]), (2, .v false [.str x1]), (8, .v false [.ptr 4 0]), (10, .v false [.int .i64 x5]), (9, .v true [.int .i64 (Val.kind b4), .int .i64 (Val.n b4), .int .i64 (Val.step b4), .str (Val.text b4), .sl .own .val (Val.list b4), .sl .own .str (Val.columns b4), .sl .own .row (Val.rows b4)])]
theorem p43_2_0 (x0 : List Bnd) (x1 : Str) (x5 : Int) (b4 r1 : Val) : rS 2 I43 (S43_2 x0 x1 x5 b4) [Y, Y] [xAs r1] = dn (xAm r1) [(decide ((x5 : Int) ≥ 0)) = true, (0 : Int) ≤ x5 ∧ x5 < (Ln x0), (((Bnd.name (gD x0 (tN x5) Ty.bnd.dflt)) : Str) == x1) = true, (0 : Int) ≤ x5 ∧ x5 < (Ln x0), AbC 89 (xAY (Bnd.value (gD x0 (tN x5) Ty.bnd.dflt))) (xAs r1)] := by kernel_rfl
theorem p43_2_1 (x0 : List Bnd) (x1 : Str) (x5 : Int) (b4 : Val) : rS 2 I43 (S43_2 x0 x1 x5 b4) [Y, F] [] = st 2 I43 (S43_2 x0 x1 (W (x5 - 1)) b4) [(decide ((x5 : Int) ≥ 0)) = true, (0 : Int) ≤ x5 ∧ x5 < (Ln x0), (((Bnd.name (gD x0 (tN x5) Ty.bnd.dflt)) : Str) == x1) = false] := by kernel_rfl
theorem p43_2_2 (x0 : List Bnd) (x1 : Str) (x5 : Int) (b4 r1 : Val) : rS 2 I43 (S43_2 x0 x1 x5 b4) [F] [xCg r1] = dn (xAm r1) [(decide ((x5 : Int) ≥ 0)) = false, AbC 67 (xCY 1) (xCg r1)] := by kernel_rfl
theorem p43_e_3 (a0 : List Bnd) (a1 : Str) : rE I43 (xA2 a0 a1) [] [] = st 2 I43 (S43_2 a0 a1 (W ((Ln a0 : Int) - 1)) (Val.mk 0 0 0 [] [] [] [])) [] := by kernel_rfl
theorem c43_2 {N : Nat} : ∀ n x0 x1 x5 b4 r, xCP N n x0 x1 x5 b4 = some r → RS Try.f43 I43 2 (S43_2 x0 x1 x5 b4) (xAm r) := by
 intro n
 induction n with
 | zero => exact fun _ _ _ _ _ h => nE h
 | succ n ih =>
  exact fun x0 x1 x5 b4 r h =>
   cE h (fun h0 h => iE h fun h1 h => cE h (fun h2 h => bE h fun r1 h4 h => dS h fk43 (p43_2_0 x0 x1 x5 b4 r1) (oc h0 (oc h1 (oc h2 (oc h1 (oc (xDA h4) on)))))) fun h2 h =>
   tS fk43 (p43_2_1 x0 x1 x5 b4) (oc h0 (oc h1 (oc h2 on))) (ih _ _ _ _ _ h)) fun h0 h =>
   bE h fun r1 h1 h => dS h fk43 (p43_2_2 x0 x1 x5 b4 r1) (oc h0 (oc (impl_ErrorValue_ok h1) on))
theorem c43_e {N : Nat} : ∀ a0 a1 r, xB1 N a0 a1 = some r → RE Try.f43 I43 (xA2 a0 a1) (xAm r) := fun a0 a1 r h =>
 tE fk43 (p43_e_3 a0 a1) on (c43_2 _ _ _ _ _ _ h)
theorem xBP {N : Nat} {a0 : List Bnd} {a1 : Str} {r : Val} (h : xB1 N  a0 a1 = some r) : AbC 43 (xA2 a0 a1) (xAm r) :=
 AbsCalls.of_reach fk43 rfl rfl (Nat.le_of_ble_eq_true rfl) (c43_e a0 a1 r h)
noncomputable def I8 : Info := { body := (Try.f8.body).getD .skip, nt := 59, results := [.tmp 2], keep := [0, 4, 6, 8, 10, 12, 16, 20, 68, 70, 72, 74, 76, 106, 11], live := [(8, [6, 8, 12, 70, 72, 74])], modes := [(3, [(2, .take, false)]), (5, [(6, .take, false)]), (10, [(3, .take, false)]), (12, [(1, .take, false)])] }
theorem fk8 : FnOk Try.prog 8 Try.f8 I8 := ⟨Try.func8, by kernel_rfl, by kernel_rfl, by kernel_rfl, by kernel_rfl⟩
def S8_8 (x3 : List Bnd) (x4 : Str) (x6 : List Bnd) (x35 : List Str) (x36 x37 : Int) : St := [(6, .v false [.sl .own .bnd x3]), (8, .v false [.str x4]), (12, .v false [.sl .own .bnd x6]), (70, .v false [.sl .own .str x35]), (72, .v false [.int .i64 x36]), (74, .v false [.int .i64 x37])]
theorem p8_8_0 (x3 : List Bnd) (x4 : Str) (x6 : List Bnd) (x35 : List Str) (x36 x37 : Int) (r1 r2 : Val) (r3 : Bool) : rS 8 I8 (S8_8 x3 x4 x6 x35 x36 x37) [Y, Y, Y] [xAm r1, xAm r2, xAn r3] = dn (xBz false) [(decide ((x37 : Int) < x36)) = true, (0 : Int) ≤ x37 ∧ x37 < (Ln x35), (!(((gD x35 (tN x37) Ty.str.dflt) : Str) == x4)) = true, AbC 43 (xA2 x6 (gD x35 (tN x37) Ty.str.dflt)) (xAm r1), AbC 43 (xA2 x3 (gD x35 (tN x37) Ty.str.dflt)) (xAm r2), AbC 38 (xAT r1 r2) (xAn r3), (!r3) = true] := by kernel_rfl
theorem p8_8_1 (x3 : List Bnd) (x4 : Str) (x6 : List Bnd) (x35 : List Str) (x36 x37 : Int) (r1 r2 : Val) (r3 : Bool) : rS 8 I8 (S8_8 x3 x4 x6 x35 x36 x37) [Y, Y, F] [xAm r1, xAm r2, xAn r3] = st 8 I8 (S8_8 x3 x4 x6 x35 x36 (W (x37 + 1))) [(decide ((x37 : Int) < x36)) = true, (0 : Int) ≤ x37 ∧ x37 < (Ln x35), (!(((gD x35 (tN x37) Ty.str.dflt) : Str) == x4)) = true, AbC 43 (xA2 x6 (gD x35 (tN x37) Ty.str.dflt)) (xAm r1), AbC 43 (xA2 x3 (gD x35 (tN x37) Ty.str.dflt)) (xAm r2), AbC 38 (xAT r1 r2) (xAn r3), (!r3) = false] := by kernel_rfl
theorem p8_8_2 (x3 : List Bnd) (x4 : Str) (x6 : List Bnd) (x35 : List Str) (x36 x37 : Int) : rS 8 I8 (S8_8 x3 x4 x6 x35 x36 x37) [Y, F, F] [] = st 8 I8 (S8_8 x3 x4 x6 x35 x36 (W (x37 + 1))) [(decide ((x37 : Int) < x36)) = true, (0 : Int) ≤ x37 ∧ x37 < (Ln x35), (!(((gD x35 (tN x37) Ty.str.dflt) : Str) == x4)) = false, false = false] := by kernel_rfl
theorem p8_8_3 (x3 : List Bnd) (x4 : Str) (x6 : List Bnd) (x35 : List Str) (x36 x37 : Int) (r1 r2 : Val) (r3 : Bool) : rS 8 I8 (S8_8 x3 x4 x6 x35 x36 x37) [F] [xAm r1, xAt r2, xAn r3] = dn (xBz r3) [(decide ((x37 : Int) < x36)) = false, AbC 43 (xA2 x3 [110, 111, 98, 111, 100, 121]) (xAm r1), AbC 44 (xA1 1) (xAt r2), AbC 38 (xAT r1 r2) (xAn r3)] := by kernel_rfl
theorem p8_e_4 (a0 : List Int) (r1 : Bool) : rE I8 (xCu a0) [Y] [xB3 r1] = dn (xBz true) [AbC 29 (xDl a0) (xB3 r1), r1 = true] := by kernel_rfl
theorem p8_e_5 (a0 : List Int) (r1 : Bool) (r2 : (List Bnd) × Str × Val) (r3 : (List Bnd)) (r4 : Val) (r5 : Bool) : rE I8 (xCu a0) [F, Y, Y] [xB3 r1, xA8 r2, xBO r3, xAm r4, xAn r5] = dn (xBz false) [AbC 29 (xDl a0) (xB3 r1), r1 = false, AbC 41 (xCb a0) (xA8 r2), AbC 42 (xDo r2.1 r2.2.1 r2.2.2) (xBO r3), AbC 43 (xA2 r3 r2.2.1) (xAm r4), AbC 38 (xAT r4 r2.2.2) (xAn r5), (!r5) = true, true = true] := by kernel_rfl
theorem p8_e_6 (a0 : List Int) (r1 : Bool) (r2 : (List Bnd) × Str × Val) (r3 : (List Bnd)) (r4 : Val) (r5 : Bool) : rE I8 (xCu a0) [F, F, Y] [xB3 r1, xA8 r2, xBO r3, xAm r4, xAn r5] = dn (xBz false) [AbC 29 (xDl a0) (xB3 r1), r1 = false, AbC 41 (xCb a0) (xA8 r2), AbC 42 (xDo r2.1 r2.2.1 r2.2.2) (xBO r3), AbC 43 (xA2 r3 r2.2.1) (xAm r4), AbC 38 (xAT r4 r2.2.2) (xAn r5), (!r5) = false, (((Ln r3 : Int) : Int) != (W ((Ln r2.1 : Int) + 1))) = true] := by kernel_rfl
theorem p8_e_7 (a0 : List Int) (r1 : Bool) (r2 : (List Bnd) × Str × Val) (r3 : (List Bnd)) (r4 : Val) (r5 : Bool) : rE I8 (xCu a0) [F, F, F] [xB3 r1, xA8 r2, xBO r3, xAm r4, xAn r5] = st 8 I8 (S8_8 r2.1 r2.2.1 r3 [[97], [98], [99], [122]] (Ln [[97], [98], [99], [122]] : Int) 0) [AbC 29 (xDl a0) (xB3 r1), r1 = false, AbC 41 (xCb a0) (xA8 r2), AbC 42 (xDo r2.1 r2.2.1 r2.2.2) (xBO r3), AbC 43 (xA2 r3 r2.2.1) (xAm r4), AbC 38 (xAT r4 r2.2.2) (xAn r5), (!r5) = false, (((Ln r3 : Int) : Int) != (W ((Ln r2.1 : Int) + 1))) = false] := by kernel_rfl
theorem c8_8 {N : Nat} : ∀ n x3 x4 x6 x35 x36 x37 r, xBi N n x3 x4 x6 x35 x36 x37 = some r → RS Try.f8 I8 8 (S8_8 x3 x4 x6 x35 x36 x37) (xBz r) := by
 intro n
 induction n with
 | zero => exact fun _ _ _ _ _ _ _ h => nE h
 | succ n ih =>
  exact fun x3 x4 x6 x35 x36 x37 r h =>
   cE h (fun h0 h => iE h fun h1 h => cE h (fun h2 h => bE h fun r1 h3 h => bE h fun r2 h4 h => bE h fun r3 h5 h => cE h (fun h6 h => dS h fk8 (p8_8_0 x3 x4 x6 x35 x36 x37 r1 r2 r3) (oc h0 (oc h1 (oc h2 (oc (xBP h3) (oc (xBP h4) (oc (xBB h5) (oc h6 on)))))))) fun h6 h =>
   tS fk8 (p8_8_1 x3 x4 x6 x35 x36 x37 r1 r2 r3) (oc h0 (oc h1 (oc h2 (oc (xBP h3) (oc (xBP h4) (oc (xBB h5) (oc h6 on))))))) (ih _ _ _ _ _ _ _ h)) fun h2 h =>
   tS fk8 (p8_8_2 x3 x4 x6 x35 x36 x37) (oc h0 (oc h1 (oc h2 (oc rfl on)))) (ih _ _ _ _ _ _ _ h)) fun h0 h =>
   bE h fun r1 h1 h => bE h fun r2 h2 h => bE h fun r3 h3 h => dS h fk8 (p8_8_3 x3 x4 x6 x35 x36 x37 r1 r2 r3) (oc h0 (oc (xBP h1) (oc (xCj h2) (oc (xBB h3) on))))
theorem c8_e {N : Nat} : ∀ a0 r, xDO N a0 = some r → RE Try.f8 I8 (xCu a0) (xBz r) := fun a0 r h =>
 bE h fun r1 h0 h => cE h (fun h1 h => dE h fk8 (p8_e_4 a0 r1) (oc (xED h0) (oc h1 on))) fun h1 h =>
 bE h fun r2 h2 h => bE h fun r3 h3 h => bE h fun r4 h4 h => bE h fun r5 h5 h => cE h (fun h6 h => dE h fk8 (p8_e_5 a0 r1 r2 r3 r4 r5) (oc (xED h0) (oc h1 (oc (xDT h2) (oc (xE0 h3) (oc (xBP h4) (oc (xBB h5) (oc h6 (oc rfl on))))))))) fun h6 h =>
 cE h (fun h7 h => dE h fk8 (p8_e_6 a0 r1 r2 r3 r4 r5) (oc (xED h0) (oc h1 (oc (xDT h2) (oc (xE0 h3) (oc (xBP h4) (oc (xBB h5) (oc h6 (oc h7 on))))))))) fun h7 h =>
 tE fk8 (p8_e_7 a0 r1 r2 r3 r4 r5) (oc (xED h0) (oc h1 (oc (xDT h2) (oc (xE0 h3) (oc (xBP h4) (oc (xBB h5) (oc h6 (oc h7 on)))))))) (c8_8 _ _ _ _ _ _ _ _ h)
theorem laws_FnScope_ok {N : Nat} {a0 : List Int} {r : Bool} (h : xDO N  a0 = some r) : AbC 8 (xCu a0) (xBz r) :=
 AbsCalls.of_reach fk8 rfl rfl (Nat.le_of_ble_eq_true rfl) (c8_e a0 r h)
end Go.Ab.T
end
section
namespace Go.Ab
set_option linter.unusedVariables false
def Big (p : Nat → Prop) : Prop := ∃ k, ∀ N, k ≤ N → p N
def Big2 (p : Nat → Nat → Prop) : Prop := ∃ k, ∀ N n, k ≤ N → k ≤ n → p N n
theorem Big.imp {p q : Nat → Prop} (h : Big p) (f : ∀ N, p N → q N) : Big q := h.elim fun k hk => ⟨k, fun N hN => f N (hk N hN)⟩
theorem Big2.imp {p q : Nat → Nat → Prop} (h : Big2 p) (f : ∀ N n, p N n → q N n) : Big2 q := h.elim fun k hk => ⟨k, fun N n h1 h2 => f N n (hk N n h1 h2)⟩
theorem Big.of {p : Nat → Prop} (h : ∀ N, p N) : Big p := ⟨0, fun N _ => h N⟩
theorem Big2.of {p : Nat → Nat → Prop} (h : ∀ N n, p N n) : Big2 p := ⟨0, fun N n _ _ => h N n⟩
theorem Big.and {p q : Nat → Prop} (h : Big p) (h' : Big q) : Big fun N => p N ∧ q N := by
  obtain ⟨a, ha⟩ := h; obtain ⟨b, hb⟩ := h'
  exact ⟨max a b, fun N hN => ⟨ha N (by omega), hb N (by omega)⟩⟩
theorem Big2.and {p q : Nat → Nat → Prop} (h : Big2 p) (h' : Big2 q) : Big2 fun N n => p N n ∧ q N n := by
  obtain ⟨a, ha⟩ := h; obtain ⟨b, hb⟩ := h'
  exact ⟨max a b, fun N n h1 h2 => ⟨ha N n (by omega) (by omega), hb N n (by omega) (by omega)⟩⟩
theorem Big.two {p : Nat → Prop} (h : Big p) : Big2 fun N _ => p N := h.elim fun k hk => ⟨k, fun N _ h _ => hk N h⟩
theorem Big2.diag {p : Nat → Nat → Prop} (h : Big2 p) : Big fun N => p N N := h.elim fun k hk => ⟨k, fun N h => hk N N h h⟩
theorem Big2.succ {p : Nat → Nat → Prop} (h : Big2 fun N n => p N (n + 1)) : Big2 p := by
  obtain ⟨k, hk⟩ := h
  refine ⟨k + 1, fun N n h1 h2 => ?_⟩
  obtain ⟨m, rfl⟩ : ∃ m, n = m + 1 := ⟨n - 1, by omega⟩
  exact hk N m (by omega) (by omega)
theorem Big.list {α : Type} {p : α → Nat → Prop} {l : List α} (h : ∀ x ∈ l, Big (p x)) : Big fun N => ∀ x ∈ l, p x N := by
  induction l with
  | nil => exact .of fun N x hx => by cases hx
  | cons a l ih =>
    refine ((h a List.mem_cons_self).and (ih fun x hx => h x (List.mem_cons_of_mem _ hx))).imp fun N ⟨h1, h2⟩ x hx => ?_
    rcases List.mem_cons.1 hx with rfl | hx
    · exact h1
    · exact h2 x hx
theorem Big2.list {α : Type} {p : α → Nat → Nat → Prop} {l : List α} (h : ∀ x ∈ l, Big2 (p x)) : Big2 fun N n => ∀ x ∈ l, p x N n := by
  induction l with
  | nil => exact .of fun N n x hx => by cases hx
  | cons a l ih =>
    refine ((h a List.mem_cons_self).and (ih fun x hx => h x (List.mem_cons_of_mem _ hx))).imp fun N n ⟨h1, h2⟩ x hx => ?_
    rcases List.mem_cons.1 hx with rfl | hx
    · exact h1
    · exact h2 x hx
theorem Big.get {p : Nat → Prop} (h : Big p) : ∃ N, p N := h.elim fun k hk => ⟨k, hk k (Nat.le_refl k)⟩
def I64 (x : Int) : Prop := -9223372036854775808 ≤ x ∧ x ≤ 9223372036854775807
theorem wrap_i64_def (x : Int) : IntKind.i64.wrap x = if x % 18446744073709551616 ≥ 9223372036854775808 then x % 18446744073709551616 - 18446744073709551616 else x % 18446744073709551616 := by
  show (if (true && decide (x % 18446744073709551616 ≥ 9223372036854775808)) = true then x % 18446744073709551616 - 18446744073709551616 else x % 18446744073709551616) = _
  simp only [Bool.true_and, decide_eq_true_eq]
theorem xBN {x : Int} (h1 : -9223372036854775808 ≤ x) (h2 : x ≤ 9223372036854775807) : IntKind.i64.wrap x = x := by
  rw [wrap_i64_def]
  split <;> omega
theorem i64_wrap (x : Int) : I64 (IntKind.i64.wrap x) := by
  rw [wrap_i64_def]
  unfold I64
  split <;> omega
theorem drop_cons {α : Type} {xs : List α} {i : Nat} {x : α} {l : List α} (h : xs.drop i = x :: l) : i < xs.length ∧ xs[i]? = some x ∧ xs.drop (i + 1) = l := by
  have h1 : i < xs.length := by
    rcases Nat.lt_or_ge i xs.length with h1 | h1
    · exact h1
    · rw [List.drop_eq_nil_of_le h1] at h; cases h
  rw [List.drop_eq_getElem_cons h1] at h
  cases h
  exact ⟨h1, by simp [h1], rfl⟩
theorem drop_nil {α : Type} {xs : List α} {i : Nat} (h : xs.drop i = []) : xs.length ≤ i := by simpa using h
end Go.Ab
end
section
namespace Go.Ab
set_option linter.unusedVariables false
inductive DK (K : Nat) : D → Prop where
  | int {k n} (h : (Lit.int k n).wf = true) : DK K (.int k n)
  | bool (b) : DK K (.bool b)
  | str {s : Str} (h : s.length ≤ K) : DK K (.str s)
  | sl {sz rows} (h : rows.length ≤ K) (hr : ∀ r ∈ rows, ∀ x ∈ r, DK K x) : DK K (.sl sz rows)
theorem DK.mono {K M : Nat} (hKM : K ≤ M) {d : D} (h : DK K d) : DK M d := by
  induction h with
  | int h => exact .int h
  | bool b => exact .bool b
  | str h => exact .str (by omega)
  | sl h _ ih => exact .sl (by omega) ih
theorem wf_i64 {n : Int} : (Lit.int .i64 n).wf = true ↔ I64 n := by
  show (decide (_ ≤ n) && decide (n ≤ _)) = true ↔ _
  rw [Bool.and_eq_true, decide_eq_true_eq, decide_eq_true_eq]
  exact Iff.rfl
theorem DK.i64 {K : Nat} {n : Int} : DK K (.int .i64 n) ↔ I64 n := ⟨fun h => by cases h with | int h => exact wf_i64.1 h, fun h => .int (wf_i64.2 h)⟩
theorem DK.str_iff {K : Nat} {s : Str} : DK K (.str s) ↔ s.length ≤ K := ⟨fun h => by cases h; assumption, .str⟩
theorem DK.sl_iff {K sz : Nat} {α : Type} {f : α → List D} {xs : List α} : DK K (.sl sz (xs.map f)) ↔ xs.length ≤ K ∧ ∀ x ∈ xs, ∀ d ∈ f x, DK K d := by
  constructor
  · intro h
    cases h with
    | sl h hr => exact ⟨by simpa using h, fun x hx => hr _ (List.mem_map_of_mem hx)⟩
  · rintro ⟨h, hr⟩
    refine .sl (by simpa using h) fun r hr' => ?_
    obtain ⟨x, hx, rfl⟩ := List.mem_map.1 hr'
    exact hr x hx
def LFit {α : Type} (K : Nat) (p : α → Prop) (l : List α) : Prop := l.length ≤ K ∧ ∀ x ∈ l, p x
def Ty.Fit (K : Nat) (T : Ty) (x : T.den) : Prop := ∀ d ∈ T.toD x, DK K d
def Org.Fit (o : Org) : Prop := I64 o.cell ∧ I64 o.row
def Rowd.Fit (K : Nat) (r : Rowd) : Prop := LFit K I64 r.cells ∧ LFit K Org.Fit r.frm
def Str.Fit (K : Nat) (s : Str) : Prop := s.length ≤ K
def Val.Fit (K : Nat) (v : Val) : Prop := ∀ d ∈ Val.toD v, DK K d
def Fil.Fit (K : Nat) (v : Fil) : Prop := Str.Fit K v.name ∧ I64 v.n
def Bnd.Fit (K : Nat) (v : Bnd) : Prop := Str.Fit K v.name ∧ v.value.Fit K
theorem rowd_fit {K : Nat} {r : Rowd} : (∀ d ∈ Rowd.toD r, DK K d) ↔ r.Fit K := by
  simp only [Rowd.toD, List.mem_cons, List.not_mem_nil, or_false, forall_eq_or_imp, forall_eq, DK.sl_iff, DK.i64, Rowd.Fit, LFit, Org.Fit]
theorem fil_fit {K : Nat} {r : Fil} : Ty.Fit K .fil r ↔ r.Fit K := by
  simp only [Ty.Fit, Ty.toD, List.mem_cons, List.not_mem_nil, or_false, forall_eq_or_imp, forall_eq, DK.str_iff, DK.i64, Fil.Fit, Str.Fit]
theorem Val.fit_iff {K : Nat} {v : Val} : v.Fit K ↔ I64 v.kind ∧ I64 v.n ∧ I64 v.step ∧ Str.Fit K v.text ∧ LFit K (Val.Fit K) v.list ∧ LFit K (Str.Fit K) v.columns ∧ LFit K (Rowd.Fit K) v.rows := by
  cases v
  simp only [Val.Fit, Val.toD, Val.toDs_eq, List.mem_cons, List.not_mem_nil, or_false, forall_eq_or_imp, forall_eq, DK.sl_iff, DK.i64, DK.str_iff, Str.Fit, LFit, Val.kind, Val.n, Val.step, Val.text, Val.list, Val.columns, Val.rows, rowd_fit]
theorem sizeOf_mem_list {l : List Val} {x : Val} (h : x ∈ l) (k n s : Int) (t : Str) (c : List Str) (r : List Rowd) : SizeOf.sizeOf x < SizeOf.sizeOf (Val.mk k n s t l c r) := by
  have := List.sizeOf_lt_of_mem h
  simp only [Val.mk.sizeOf_spec]
  omega
theorem Val.ind {p : Val → Prop} (h : ∀ k n s t l c r, (∀ x ∈ l, p x) → p (.mk k n s t l c r)) : ∀ v, p v
  | .mk k n s t l c r => h k n s t l c r fun x hx => Val.ind h x
termination_by v => SizeOf.sizeOf v
decreasing_by exact sizeOf_mem_list hx k n s t c r
end Go.Ab
end
section
namespace Go.Ab
set_option linter.unusedVariables false
theorem xDR {α σ ρ : Type} {L : Nat → Int → σ → Option ρ} (x0 : List α) (g : List α → σ → ρ) (Inv : Nat → σ → Prop)
    (hnil : ∀ n s, Inv x0.length s → L (n + 1) (x0.length : Nat) s = some (g [] s))
    (hcons : ∀ i x l s, x0.drop i = x :: l → i < x0.length → x0[i]? = some x → Inv i s →
      (∃ s', Inv (i + 1) s' ∧ g (x :: l) s = g l s' ∧ ∀ n, L (n + 1) (i : Nat) s = L n ((i + 1 : Nat) : Int) s') ∨ (∀ n, L (n + 1) (i : Nat) s = some (g (x :: l) s))) :
    ∀ n i s, Inv i s → i ≤ x0.length → x0.length < n + i → L n (i : Nat) s = some (g (x0.drop i) s) := by
  intro n
  induction n with
  | zero => intro i s _ h1 h2; omega
  | succ n ih =>
    intro i s hs hi hn
    cases hd : x0.drop i with
    | nil =>
      have := drop_nil hd
      obtain rfl : i = x0.length := by omega
      exact hnil n s hs
    | cons x l =>
      obtain ⟨h1, h2, h3⟩ := drop_cons hd
      rcases hcons i x l s hd h1 h2 hs with ⟨s', h4, h5, h6⟩ | h
      · rw [h6, ih (i + 1) s' h4 (by omega) (by omega), h3, h5]
      · exact h n
theorem xAS {α : Type} {xs : List α} {i : Nat} {x : α} (h : xs[i]? = some x) (d : α) : xs.getD i d = x := by simp [List.getD, h]
theorem xAk {i : Nat} {len : Nat} (h : i < len) (hl : len ≤ 9223372036854775807) : IntKind.i64.wrap ((i : Int) + 1) = ((i + 1 : Nat) : Int) := by
  rw [xBN (by omega) (by omega)]; omega
section
variable {α : Type} {d : α}
theorem eqLoop {L : Nat → Int → Option Bool} {x0 : List α} (hend : ∀ n, L (n + 1) (x0.length : Nat) = some true)
    (hcons : ∀ (i : Nat) x n, i < x0.length → x0[i]? = some x → x ∈ x0 → L (n + 1) (i : Nat) = L n ((i + 1 : Nat) : Int)) {n : Nat} (hn : x0.length < n) : L n 0 = some true := by
  have key := xDR (σ := Unit) (L := fun n i _ => L n i) x0 (fun _ _ => true) (fun _ _ => True) (fun n _ _ => hend n)
    (fun i x r s hd hi hx _ => .inl ⟨(), trivial, rfl, fun n => hcons i x n hi hx (List.mem_of_getElem? hx)⟩) n 0 () trivial (by omega) (by omega)
  exact key
end
end Go.Ab
end
section
namespace Go.Ab
set_option linter.unusedVariables false
theorem vk (a b c : Int) (t : Str) (l : List Val) (k : List Str) (r : List Rowd) : (Val.mk a b c t l k r).kind = a := rfl
theorem vn (a b c : Int) (t : Str) (l : List Val) (k : List Str) (r : List Rowd) : (Val.mk a b c t l k r).n = b := rfl
theorem vs (a b c : Int) (t : Str) (l : List Val) (k : List Str) (r : List Rowd) : (Val.mk a b c t l k r).step = c := rfl
theorem vt (a b c : Int) (t : Str) (l : List Val) (k : List Str) (r : List Rowd) : (Val.mk a b c t l k r).text = t := rfl
theorem vl (a b c : Int) (t : Str) (l : List Val) (k : List Str) (r : List Rowd) : (Val.mk a b c t l k r).list = l := rfl
theorem vc (a b c : Int) (t : Str) (l : List Val) (k : List Str) (r : List Rowd) : (Val.mk a b c t l k r).columns = k := rfl
theorem vr (a b c : Int) (t : Str) (l : List Val) (k : List Str) (r : List Rowd) : (Val.mk a b c t l k r).rows = r := rfl
theorem ek (a b : Int) (t : Str) (l : List Exp) : (Exp.mk a b t l).kind = a := rfl
theorem et (a b : Int) (t : Str) (l : List Exp) : (Exp.mk a b t l).text = t := rfl
theorem ea (a b : Int) (t : Str) (l : List Exp) : (Exp.mk a b t l).args = l := rfl
theorem big_lt (n : Nat) : Big fun N => n < N := ⟨n + 1, fun N h => by omega⟩
end Go.Ab
end
section
namespace Go.Ab
set_option linter.unusedVariables false
theorem getD_set_self {α : Type} {xs : List α} {i : Nat} (h : i < xs.length) (y d : α) : (xs.set i y).getD i d = y := by simp [List.getD, h]
end Go.Ab
end
section
namespace Go.Ab
set_option linter.unusedVariables false
set_option linter.unusedSimpArgs false
def xFi (c : UInt8) : Bool := decide ((c.toNat : Int) ≥ 97) && decide ((c.toNat : Int) ≤ 122)
def digitC (c : UInt8) : Bool := decide ((c.toNat : Int) ≥ 48) && decide ((c.toNat : Int) ≤ 57)
def xEh : List UInt8 → Bool → Bool
  | [], _ => true
  | x :: r, f => (xFi x || (!f && digitC x)) && xEh r false
theorem spec_l2Shape_eq {N : Nat} {s : Str} (hl : s.length ≤ 9223372036854775807) (hn : s.length < N) : xEk N s = some (xEh s true && decide ((s.length : Int) > 0)) :=
  xDR (L := fun n i _ => xA5 N n s i) s (fun l f => xEh l f && decide ((s.length : Int) > 0)) (fun i f => f = (i == 0)) (fun n _ _ => by simp [xA5, xEh])
    (fun i x l f hd hi hx hf => by
      have hi' : (i : Int) < (s.length : Int) := by omega
      have hi0 : ((i : Int) == 0) = f := by rw [hf]; cases i <;> simp <;> omega
      by_cases h1 : (xFi x || (!f && digitC x)) = true
      · refine .inl ⟨false, by simp, by simp [xEh, h1], fun n => ?_⟩
        simp only [xA5, decide_eq_true hi', cond_true, Int.toNat_natCast, xAS hx, xAk hi hl, hi0]
        rw [if_pos (by omega)]
        unfold xFi digitC at h1
        by_cases c1 : (x.toNat : Int) ≥ 97 <;> by_cases c2 : (x.toNat : Int) ≤ 122 <;> by_cases c3 : (x.toNat : Int) ≥ 48 <;> by_cases c4 : (x.toNat : Int) ≤ 57 <;> cases f <;>
          simp only [c1, c2, c3, c4, decide_true, decide_false, cond_true, cond_false, Bool.not_true, Bool.not_false, Bool.and_true, Bool.and_false, Bool.or_true, Bool.or_false, Bool.false_and, Bool.true_and, Bool.false_or, Bool.false_eq_true] at h1 ⊢
      · refine .inr fun n => ?_
        have h1 := Bool.eq_false_iff.2 h1
        simp only [xA5, decide_eq_true hi', cond_true, Int.toNat_natCast, xAS hx, xAk hi hl, hi0, xEh, h1, Bool.false_and]
        rw [if_pos (by omega)]
        unfold xFi digitC at h1
        by_cases c1 : (x.toNat : Int) ≥ 97 <;> by_cases c2 : (x.toNat : Int) ≤ 122 <;> by_cases c3 : (x.toNat : Int) ≥ 48 <;> by_cases c4 : (x.toNat : Int) ≤ 57 <;> cases f <;>
          simp only [c1, c2, c3, c4, decide_true, decide_false, cond_true, cond_false, Bool.not_true, Bool.not_false, Bool.and_true, Bool.and_false, Bool.or_true, Bool.or_false, Bool.false_and, Bool.true_and, Bool.false_or, Bool.true_eq_false] at h1 ⊢) N 0 true rfl (by omega) (by omega)
theorem xDH (N : Nat) (a b c : Int) : xDB N a b c = some (decide (b ≤ a) && decide (a ≤ c)) := by
  unfold xDB
  cases h : decide (b ≤ a) <;> simp
theorem xE4 (N : Nat) (a b c : Int) : xD4 N a b c = some (decide (b ≤ a) && decide (a ≤ c)) := by
  unfold xD4
  cases h : decide (b ≤ a)
  · rfl
  · rfl
theorem impl_isWord_eq {N : Nat} {s : Str} (hl : s.length ≤ 9223372036854775807) (hn : s.length < N) : impl_isWord N s = some (xEh s true && (decide ((1 : Int) ≤ s.length) && decide ((s.length : Int) ≤ 8))) :=
  xDR (L := fun n i _ => xBQ N n s i) s (fun l f => xEh l f && (decide ((1 : Int) ≤ s.length) && decide ((s.length : Int) ≤ 8))) (fun i f => f = (i == 0)) (fun n _ _ => by simp [xBQ, xEh, xDH])
    (fun i x l f hd hi hx hf => by
      have hi' : (i : Int) < (s.length : Int) := by omega
      have hi0 : ((i : Int) == 0) = f := by rw [hf]; cases i <;> simp <;> omega
      have e1 : decide ((x.toNat : Int) < 48) = !decide ((x.toNat : Int) ≥ 48) := by by_cases c : (x.toNat : Int) ≥ 48 <;> simp [c] <;> omega
      have e2 : decide ((x.toNat : Int) > 57) = !decide ((x.toNat : Int) ≤ 57) := by by_cases c : (x.toNat : Int) ≤ 57 <;> simp [c] <;> omega
      by_cases h1 : (xFi x || (!f && digitC x)) = true
      · refine .inl ⟨false, by simp, by simp [xEh, h1], fun n => ?_⟩
        simp only [xBQ, decide_eq_true hi', cond_true, Int.toNat_natCast, xAS hx, xAk hi hl, hi0, e1, e2]
        rw [if_pos (by omega)]
        unfold xFi digitC at h1
        by_cases c1 : (x.toNat : Int) ≥ 97 <;> by_cases c2 : (x.toNat : Int) ≤ 122 <;> by_cases c3 : (x.toNat : Int) ≥ 48 <;> by_cases c4 : (x.toNat : Int) ≤ 57 <;> cases f <;>
          simp only [c1, c2, c3, c4, decide_true, decide_false, cond_true, cond_false, Bool.not_true, Bool.not_false, Bool.and_true, Bool.and_false, Bool.or_true, Bool.or_false, Bool.false_and, Bool.true_and, Bool.false_or, Bool.false_eq_true] at h1 ⊢
      · refine .inr fun n => ?_
        have h1 := Bool.eq_false_iff.2 h1
        simp only [xBQ, decide_eq_true hi', cond_true, Int.toNat_natCast, xAS hx, xAk hi hl, hi0, e1, e2, xEh, h1, Bool.false_and]
        rw [if_pos (by omega)]
        unfold xFi digitC at h1
        by_cases c1 : (x.toNat : Int) ≥ 97 <;> by_cases c2 : (x.toNat : Int) ≤ 122 <;> by_cases c3 : (x.toNat : Int) ≥ 48 <;> by_cases c4 : (x.toNat : Int) ≤ 57 <;> cases f <;>
          simp only [c1, c2, c3, c4, decide_true, decide_false, cond_true, cond_false, Bool.not_true, Bool.not_false, Bool.and_true, Bool.and_false, Bool.or_true, Bool.or_false, Bool.false_and, Bool.true_and, Bool.false_or, Bool.true_eq_false] at h1 ⊢) N 0 true rfl (by omega) (by omega)
def xEt : List Str := [[108, 101, 116], [105, 110], [105, 102], [116, 104, 101, 110], [101, 108, 115, 101], [102, 111, 114], [100, 111], [108, 101, 110], [115, 117, 109], [116, 97, 107, 101], [115, 107, 105, 112], [114, 97, 110, 103, 101], [110, 116, 104], [119, 104, 101, 114, 101], [107, 101, 101, 112], [97, 100, 100], [103, 114, 111, 117, 112], [106, 111, 105, 110], [99, 111, 108, 117, 109, 110], [114, 111, 119, 115], [99, 108, 111, 99, 107], [99, 104, 97, 110, 99, 101], [102, 105, 108, 101], [116, 97, 98, 108, 101]]
theorem spec_l1Has_eq {N : Nat} {xs : List Str} {s : Str} (hl : xs.length ≤ 9223372036854775807) (hn : xs.length < N) : xEv N xs s = some (xs.any (· == s)) :=
  xDR (σ := Unit) (L := fun n i _ => xCH N n xs s i) xs (fun l _ => l.any (· == s)) (fun _ _ => True) (fun n _ _ => by simp [xCH])
    (fun i x l _ hd hi hx _ => by
      have hi' : (i : Int) < (xs.length : Int) := by omega
      cases h1 : x == s
      · refine .inl ⟨(), trivial, by simp [h1], fun n => ?_⟩
        simp only [xCH, decide_eq_true hi', cond_true, Int.toNat_natCast, xAS hx, h1, cond_false, xAk hi hl]
        rw [if_pos (by omega)]
      · refine .inr fun n => ?_
        simp only [xCH, decide_eq_true hi', cond_true, Int.toNat_natCast, xAS hx, h1]
        rw [if_pos (by omega)]
        simp [h1]) N 0 () trivial (by omega) (by omega)
def xE6 (s : Str) : Bool := xEt.any (· == s)
theorem spec_IsReserved_eq {N : Nat} {s : Str} (hn : 24 < N) : xC3 N s = some (xE6 s) := by
  unfold xC3 xDv
  rw [Option.bind_some, show ([[108, 101, 116], [105, 110], [105, 102], [116, 104, 101, 110], [101, 108, 115, 101], [102, 111, 114], [100, 111], [108, 101, 110], [115, 117, 109], [116, 97, 107, 101], [115, 107, 105, 112], [114, 97, 110, 103, 101], [110, 116, 104], [119, 104, 101, 114, 101], [107, 101, 101, 112], [97, 100, 100], [103, 114, 111, 117, 112], [106, 111, 105, 110], [99, 111, 108, 117, 109, 110], [114, 111, 119, 115], [99, 108, 111, 99, 107], [99, 104, 97, 110, 99, 101], [102, 105, 108, 101], [116, 97, 98, 108, 101]] : List Str) = xEt from rfl, spec_l1Has_eq (by decide) hn]
  rfl
theorem impl_IsReserved_eq (N : Nat) (s : Str) : xD0 N s = some (xE6 s) := by
  by_cases h : s ∈ xEt
  · have h' : xE6 s = true := List.any_eq_true.2 ⟨s, h, by simp⟩
    rw [h']
    simp only [xEt, List.mem_cons, List.not_mem_nil, or_false] at h
    rcases h with h | h | h | h | h | h | h | h | h | h | h | h | h | h | h | h | h | h | h | h | h | h | h | h <;> subst h <;> rfl
  · have h' : xE6 s = false := by
      unfold xE6
      rw [List.any_eq_false]
      intro x hx hxs
      exact h (by rw [← eq_of_beq hxs]; exact hx)
    rw [h']
    have hne : ∀ x ∈ xEt, (s == x) = false := by
      intro x hx
      cases hb : s == x
      · rfl
      · exact absurd (by rw [eq_of_beq hb]; exact hx) h
    simp only [xEt, List.mem_cons, List.not_mem_nil, or_false, forall_eq_or_imp, forall_eq] at hne
    simp only [xD0, xEd, hne, cond_false, Option.bind_some]
    rfl
def xEb (s : Str) : Bool := xEh s true && (decide ((1 : Int) ≤ s.length) && decide ((s.length : Int) ≤ 8)) && !xE6 s
theorem xFf {N : Nat} {s : Str} (hl : s.length ≤ 9223372036854775807) (hn : s.length < N) : xDS N s = some (xEb s) := by
  unfold xDS xEb
  rw [impl_isWord_eq hl hn, Option.bind_some]
  cases (xEh s true && (decide ((1 : Int) ≤ s.length) && decide ((s.length : Int) ≤ 8)))
  · rfl
  · rw [impl_IsReserved_eq]; rfl
theorem xFl {N : Nat} {s : Str} (hl : s.length ≤ 9223372036854775807) (hn : s.length < N) (hn2 : 24 < N) : xCL N s = some (xEb s) := by
  unfold xCL xEb
  rw [spec_l2Shape_eq hl hn, Option.bind_some, spec_IsReserved_eq hn2]
  have : decide ((s.length : Int) > 0) = decide ((1 : Int) ≤ s.length) := by by_cases c : (s.length : Int) > 0 <;> simp [c] <;> omega
  rw [this]
  cases xEh s true <;> cases decide ((1 : Int) ≤ s.length) <;> cases decide ((s.length : Int) ≤ 8) <;> rfl
end Go.Ab
end
section
namespace Go.Ab
set_option linter.unusedVariables false
set_option linter.unusedSimpArgs false
def xEE (n : Int) : Bool := decide ((-1000000000 : Int) ≤ n) && decide (n ≤ 1000000000)
theorem xES (N : Nat) (n : Int) : xCm N n = some (xEE n) := by simp [xCm, xE4, xEE]
theorem xEO (N : Nat) (n : Int) : xC4 N n = some (xEE n) := by simp [xC4, xDH, xEE]
theorem wrap_pred {i len : Nat} (h0 : i ≠ 0) (h : i < len) (hl : len ≤ 9223372036854775807) : IntKind.i64.wrap ((i : Int) - 1) = ((i - 1 : Nat) : Int) := by
  rw [xBN (by omega) (by omega)]; omega
end Go.Ab
end
