/- The statement FnEffects holds: plain functions, certificates, laws. Conditions: none. -/
import Derived.Test.YtbcfnggjagchiaaChecked
import Derived.Test.YtbcfnggjagchiaaProg
import Derived.Test.YtbcfnggjagchiaaRows
import Derived.Test.YtbcfnggjagchiaaL2
set_option linter.all false
section
namespace Go.Ab
set_option linter.unusedVariables false
def xDQ (N : Nat) : Nat → (List Str) → Int → Int → Option (Int)
  | 0, _, _, _ => none
  | n + 1, x0, x1, x5 =>
    bif (decide ((x5 : Int) < (List.length x0 : Int))) then (
      if (0 : Int) ≤ x5 ∧ x5 < (List.length x0) then
      bif (decide (((IntKind.i64.wrap (x1 - (List.length (List.getD x0 (Int.toNat x5) Ty.str.dflt) : Int))) : Int) < 0)) then (
        some (-1)
      ) else (
        (xDQ N n x0 (IntKind.i64.wrap (x1 - (List.length (List.getD x0 (Int.toNat x5) Ty.str.dflt) : Int))) (IntKind.i64.wrap (x5 + 1)))
      )
      else none
    ) else (
      some x1
    )
def laws_szStringS (N : Nat) (a0 : List Str) (a1 : Int) : Option (Int) :=
  bif (decide (((IntKind.i64.wrap (a1 - (List.length a0 : Int))) : Int) < 0)) then (
    some (-1)
  ) else (
    (xDQ N N a0 (IntKind.i64.wrap (a1 - (List.length a0 : Int))) 0)
  )
def laws_szIntS (N : Nat) (a0 : List Int) (a1 : Int) : Option (Int) :=
  bif (decide (((IntKind.i64.wrap (a1 - (List.length a0 : Int))) : Int) < 0)) then (
    some (-1)
  ) else (
    some (IntKind.i64.wrap (a1 - (List.length a0 : Int)))
  )
def laws_szOriginS (N : Nat) (a0 : List Org) (a1 : Int) : Option (Int) :=
  bif (decide (((IntKind.i64.wrap (a1 - (List.length a0 : Int))) : Int) < 0)) then (
    some (-1)
  ) else (
    some (IntKind.i64.wrap (a1 - (List.length a0 : Int)))
  )
def laws_szRow (N : Nat) (a0 : Rowd) (a1 : Int) : Option (Int) :=
  Option.bind (laws_szIntS N (Rowd.cells a0) a1) fun r1 =>
  bif (decide ((r1 : Int) < 0)) then (
    some (-1)
  ) else (
    Option.bind (laws_szOriginS N (Rowd.frm a0) r1) fun r2 =>
    bif (decide ((r2 : Int) < 0)) then (
      some (-1)
    ) else (
      some r2
    )
  )
def xEi (N : Nat) : Nat → (List Rowd) → Int → Int → Option (Int)
  | 0, _, _, _ => none
  | n + 1, x0, x1, x5 =>
    bif (decide ((x5 : Int) < (List.length x0 : Int))) then (
      if (0 : Int) ≤ x5 ∧ x5 < (List.length x0) then
      Option.bind (laws_szRow N (List.getD x0 (Int.toNat x5) Ty.row.dflt) x1) fun r1 =>
      bif (decide ((r1 : Int) < 0)) then (
        some (-1)
      ) else (
        (xEi N n x0 r1 (IntKind.i64.wrap (x5 + 1)))
      )
      else none
    ) else (
      some x1
    )
def laws_szRowS (N : Nat) (a0 : List Rowd) (a1 : Int) : Option (Int) :=
  bif (decide (((IntKind.i64.wrap (a1 - (List.length a0 : Int))) : Int) < 0)) then (
    some (-1)
  ) else (
    (xEi N N a0 (IntKind.i64.wrap (a1 - (List.length a0 : Int))) 0)
  )
def laws_szValue_body (N : Nat) (rc_laws_szValue : Val → Int → Option (Int)) (rc_laws_szValueS : (List Val) → Int → Option (Int)) (a0 : Val) (a1 : Int) : Option (Int) :=
  bif (decide (((IntKind.i64.wrap (a1 - (List.length (Val.text a0) : Int))) : Int) < 0)) then (
    some (-1)
  ) else (
    Option.bind (rc_laws_szValueS (Val.list a0) (IntKind.i64.wrap (a1 - (List.length (Val.text a0) : Int)))) fun r1 =>
    bif (decide ((r1 : Int) < 0)) then (
      some (-1)
    ) else (
      Option.bind (laws_szStringS N (Val.columns a0) r1) fun r2 =>
      bif (decide ((r2 : Int) < 0)) then (
        some (-1)
      ) else (
        Option.bind (laws_szRowS N (Val.rows a0) r2) fun r3 =>
        bif (decide ((r3 : Int) < 0)) then (
          some (-1)
        ) else (
          some r3
        )
      )
    )
  )
def xDZ (N : Nat) (rc_laws_szValue : Val → Int → Option (Int)) (rc_laws_szValueS : (List Val) → Int → Option (Int)) : Nat → (List Val) → Int → Int → Option (Int)
  | 0, _, _, _ => none
  | n + 1, x0, x1, x5 =>
    bif (decide ((x5 : Int) < (List.length x0 : Int))) then (
      if (0 : Int) ≤ x5 ∧ x5 < (List.length x0) then
      Option.bind (rc_laws_szValue (List.getD x0 (Int.toNat x5) Ty.val.dflt) x1) fun r1 =>
      bif (decide ((r1 : Int) < 0)) then (
        some (-1)
      ) else (
        (xDZ N rc_laws_szValue rc_laws_szValueS n x0 r1 (IntKind.i64.wrap (x5 + 1)))
      )
      else none
    ) else (
      some x1
    )
def laws_szValueS_body (N : Nat) (rc_laws_szValue : Val → Int → Option (Int)) (rc_laws_szValueS : (List Val) → Int → Option (Int)) (a0 : List Val) (a1 : Int) : Option (Int) :=
  bif (decide (((IntKind.i64.wrap (a1 - (List.length a0 : Int))) : Int) < 0)) then (
    some (-1)
  ) else (
    (xDZ N rc_laws_szValue rc_laws_szValueS N a0 (IntKind.i64.wrap (a1 - (List.length a0 : Int))) 0)
  )
structure laws_szValue_rec where
  c_laws_szValue : Val → Int → Option (Int)
  c_laws_szValueS : (List Val) → Int → Option (Int)
def xC1 (N : Nat) : Nat → laws_szValue_rec
  | 0 => ⟨fun _ _ => none, fun _ _ => none⟩
  | d + 1 => ⟨laws_szValue_body N (xC1 N d).c_laws_szValue (xC1 N d).c_laws_szValueS, laws_szValueS_body N (xC1 N d).c_laws_szValue (xC1 N d).c_laws_szValueS⟩
def laws_toStringS_b3 (N : Nat) : Nat → (List Str) → (List Str) → Int → Option ((List Str))
  | 0, _, _, _ => none
  | n + 1, x0, x3, x4 =>
    bif (decide ((x4 : Int) < (List.length x0 : Int))) then (
      if (0 : Int) ≤ x4 ∧ x4 < (List.length x0) then
      if (0 : Int) ≤ x4 ∧ x4 < (List.length x3) then
      (laws_toStringS_b3 N n x0 (List.set x3 (Int.toNat x4) (List.getD x0 (Int.toNat x4) Ty.str.dflt)) (IntKind.i64.wrap (x4 + 1)))
      else none
      else none
    ) else (
      some x3
    )
def laws_toIntS_b3 (N : Nat) : Nat → (List Int) → (List Int) → Int → Option ((List Int))
  | 0, _, _, _ => none
  | n + 1, x0, x3, x4 =>
    bif (decide ((x4 : Int) < (List.length x0 : Int))) then (
      if (0 : Int) ≤ x4 ∧ x4 < (List.length x0) then
      if (0 : Int) ≤ x4 ∧ x4 < (List.length x3) then
      (laws_toIntS_b3 N n x0 (List.set x3 (Int.toNat x4) (List.getD x0 (Int.toNat x4) Ty.int.dflt)) (IntKind.i64.wrap (x4 + 1)))
      else none
      else none
    ) else (
      some x3
    )
def laws_toOrigin (N : Nat) (a0 : Org) : Option (Org) :=
  some a0
def laws_toOriginS_b3 (N : Nat) : Nat → (List Org) → (List Org) → Int → Option ((List Org))
  | 0, _, _, _ => none
  | n + 1, x0, x3, x4 =>
    bif (decide ((x4 : Int) < (List.length x0 : Int))) then (
      if (0 : Int) ≤ x4 ∧ x4 < (List.length x0) then
      Option.bind (laws_toOrigin N (List.getD x0 (Int.toNat x4) Ty.org.dflt)) fun r1 =>
      if (0 : Int) ≤ x4 ∧ x4 < (List.length x3) then
      (laws_toOriginS_b3 N n x0 (List.set x3 (Int.toNat x4) r1) (IntKind.i64.wrap (x4 + 1)))
      else none
      else none
    ) else (
      some x3
    )
def xBV (a0 : Int) (a1 : Int) (a2 : Int) : List Arg := [.val (.v false [.int .i64 a0]), .val (.v false [.int .i64 a1]), .val (.v false [.int .i64 a2])]
def xA5 (r : Bool) : CallO := ⟨.v false [.bool r], [], []⟩
def xDd (N : Nat) (a0 : Int) (a1 : Int) (a2 : Int) : Option (Bool) :=
  bif (decide ((a0 : Int) ≥ a1)) then (
    some (decide ((a0 : Int) ≤ a2))
  ) else (
    some false
  )
def xAH (a0 : Int) : List Arg := [.val (.v false [.int .i64 a0])]
def xAl (r : Bool) : CallO := ⟨.v false [.bool r], [], []⟩
def xBu (N : Nat) (a0 : Int) : Option (Bool) :=
  Option.bind (xDd N a0 (-1000000000) 1000000000) fun r1 =>
  some r1
def xCu (a0 : Str) : List Arg := [.val (.v false [.str a0])]
def xAW (r : Bool) : CallO := ⟨.v false [.bool r], [], []⟩
def xAV (N : Nat) : Nat → Str → Int → Option (Bool)
  | 0, _, _ => none
  | n + 1, x0, x3 =>
    bif (decide ((x3 : Int) < (List.length x0 : Int))) then (
      if (0 : Int) ≤ x3 ∧ x3 < (List.length x0) then
      bif (decide ((((List.getD x0 (Int.toNat x3) 0).toNat : Int) : Int) < 32)) then (
        some false
      ) else (
        bif (decide ((((List.getD x0 (Int.toNat x3) 0).toNat : Int) : Int) > 126)) then (
          some false
        ) else (
          bif ((((List.getD x0 (Int.toNat x3) 0).toNat : Int) : Int) == 34) then (
            some false
          ) else (
            (xAV N n x0 (IntKind.i64.wrap (x3 + 1)))
          )
        )
      )
      else none
    ) else (
      some (decide (((List.length x0 : Int) : Int) ≤ 20))
    )
def xCB (N : Nat) (a0 : Str) : Option (Bool) :=
  (xAV N N a0 0)
def xBr (a0 : Val) : List Arg := [.val (.v true [.int .i64 (Val.kind a0), .int .i64 (Val.n a0), .int .i64 (Val.step a0), .str (Val.text a0), .sl .ro .val (Val.list a0), .sl .ro .str (Val.columns a0), .sl .ro .row (Val.rows a0)])]
def xAN (r : Bool) : CallO := ⟨.v false [.bool r], [], []⟩
def xC0 (N : Nat) (a0 : Val) : Option (Bool) :=
  bif (((Val.kind a0) : Int) == 1) then (
    some true
  ) else (
    bif (((Val.kind a0) : Int) == 2) then (
      some true
    ) else (
      some (((Val.kind a0) : Int) == 3)
    )
  )
def xDe (a0 : Int) (a1 : Int) : List Arg := [.val (.v false [.int .i64 a0]), .val (.v false [.int .i64 a1])]
def xCS (r : Int) : CallO := ⟨.v false [.int .i64 r], [], []⟩
def xDx (N : Nat) (a0 : Int) (a1 : Int) : Option (Int) :=
  bif (decide ((a0 : Int) > a1)) then (
    some a0
  ) else (
    some a1
  )
def xBh (a0 : Val) : List Arg := [.val (.v true [.int .i64 (Val.kind a0), .int .i64 (Val.n a0), .int .i64 (Val.step a0), .str (Val.text a0), .sl .ro .val (Val.list a0), .sl .ro .str (Val.columns a0), .sl .ro .row (Val.rows a0)])]
def xAM (r : Int) : CallO := ⟨.v false [.int .i64 r], [], []⟩
def xBZ (N : Nat) (rc_spec_DepthOf : Val → Option (Int)) : Nat → Int → Int → Val → Option (Int)
  | 0, _, _, _ => none
  | n + 1, x3, x4, b1 =>
    bif (decide ((x4 : Int) < (List.length (Val.list b1) : Int))) then (
      if (0 : Int) ≤ x4 ∧ x4 < (List.length (Val.list b1)) then
      Option.bind (rc_spec_DepthOf (List.getD (Val.list b1) (Int.toNat x4) Ty.val.dflt)) fun r1 =>
      Option.bind (xDx N x3 r1) fun r2 =>
      (xBZ N rc_spec_DepthOf n r2 (IntKind.i64.wrap (x4 + 1)) b1)
      else none
    ) else (
      some (IntKind.i64.wrap (x3 + 1))
    )
def xCQ (N : Nat) (rc_spec_DepthOf : Val → Option (Int)) (a0 : Val) : Option (Int) :=
  (xBZ N rc_spec_DepthOf N 0 0 a0)
def xB6 (N : Nat) : Nat → Val → Option (Int)
  | 0, _ => none
  | d + 1, a0 => xCQ N (xB6 N d) a0
def xDK (N : Nat) (a0 : Val) : Option (Int) := xB6 N N a0
def xCq (a0 : Str) : List Arg := [.val (.v false [.str a0])]
def xAq (r : Bool) : CallO := ⟨.v false [.bool r], [], []⟩
def xBa (N : Nat) : Nat → Str → Int → Option (Bool)
  | 0, _, _ => none
  | n + 1, x0, x3 =>
    bif (decide ((x3 : Int) < (List.length x0 : Int))) then (
      if (0 : Int) ≤ x3 ∧ x3 < (List.length x0) then
      bif (decide ((((List.getD x0 (Int.toNat x3) 0).toNat : Int) : Int) ≥ 97)) then (
        bif (decide ((((List.getD x0 (Int.toNat x3) 0).toNat : Int) : Int) ≥ 48)) then (
          bif (!(decide ((((List.getD x0 (Int.toNat x3) 0).toNat : Int) : Int) ≤ 122))) then (
            bif ((x3 : Int) == 0) then (
              some false
            ) else (
              bif (!(decide ((((List.getD x0 (Int.toNat x3) 0).toNat : Int) : Int) ≤ 57))) then (
                some false
              ) else (
                (xBa N n x0 (IntKind.i64.wrap (x3 + 1)))
              )
            )
          ) else (
            (xBa N n x0 (IntKind.i64.wrap (x3 + 1)))
          )
        ) else (
          bif (!(decide ((((List.getD x0 (Int.toNat x3) 0).toNat : Int) : Int) ≤ 122))) then (
            bif ((x3 : Int) == 0) then (
              some false
            ) else (
              some false
            )
          ) else (
            (xBa N n x0 (IntKind.i64.wrap (x3 + 1)))
          )
        )
      ) else (
        bif (decide ((((List.getD x0 (Int.toNat x3) 0).toNat : Int) : Int) ≥ 48)) then (
          bif ((x3 : Int) == 0) then (
            some false
          ) else (
            bif (!(decide ((((List.getD x0 (Int.toNat x3) 0).toNat : Int) : Int) ≤ 57))) then (
              some false
            ) else (
              (xBa N n x0 (IntKind.i64.wrap (x3 + 1)))
            )
          )
        ) else (
          bif ((x3 : Int) == 0) then (
            some false
          ) else (
            some false
          )
        )
      )
      else none
    ) else (
      some (decide (((List.length x0 : Int) : Int) > 0))
    )
def xDt (N : Nat) (a0 : Str) : Option (Bool) :=
  (xBa N N a0 0)
def xCJ : List Arg := []
def xCd (r : (List Str)) : CallO := ⟨.v false [.sl .own .str r], [], []⟩
def xCP (N : Nat) : Option ((List Str)) :=
  some [[108, 101, 116], [105, 110], [105, 102], [116, 104, 101, 110], [101, 108, 115, 101], [102, 111, 114], [100, 111], [108, 101, 110], [115, 117, 109], [116, 97, 107, 101], [115, 107, 105, 112], [114, 97, 110, 103, 101], [110, 116, 104], [119, 104, 101, 114, 101], [107, 101, 101, 112], [97, 100, 100], [103, 114, 111, 117, 112], [106, 111, 105, 110], [99, 111, 108, 117, 109, 110], [114, 111, 119, 115], [99, 108, 111, 99, 107], [99, 104, 97, 110, 99, 101], [102, 105, 108, 101], [116, 97, 98, 108, 101]]
def xCR (a0 : List Str) (a1 : Str) : List Arg := [.val (.v false [.sl .ro .str a0]), .val (.v false [.str a1])]
def xBt (r : Bool) : CallO := ⟨.v false [.bool r], [], []⟩
def xCc (N : Nat) : Nat → (List Str) → Str → Int → Option (Bool)
  | 0, _, _, _ => none
  | n + 1, x0, x1, x5 =>
    bif (decide ((x5 : Int) < (List.length x0 : Int))) then (
      if (0 : Int) ≤ x5 ∧ x5 < (List.length x0) then
      bif (((List.getD x0 (Int.toNat x5) Ty.str.dflt) : Str) == x1) then (
        some true
      ) else (
        (xCc N n x0 x1 (IntKind.i64.wrap (x5 + 1)))
      )
      else none
    ) else (
      some false
    )
def xDw (N : Nat) (a0 : List Str) (a1 : Str) : Option (Bool) :=
  (xCc N N a0 a1 0)
def xCI (a0 : Str) : List Arg := [.val (.v false [.str a0])]
def xCb (r : Bool) : CallO := ⟨.v false [.bool r], [], []⟩
def xCn (N : Nat) (a0 : Str) : Option (Bool) :=
  Option.bind (xCP N) fun r1 =>
  Option.bind (xDw N r1 a0) fun r2 =>
  some r2
def xBq (a0 : Str) : List Arg := [.val (.v false [.str a0])]
def xAU (r : Bool) : CallO := ⟨.v false [.bool r], [], []⟩
def xB7 (N : Nat) (a0 : Str) : Option (Bool) :=
  Option.bind (xDt N a0) fun r1 =>
  bif r1 then (
    bif (decide (((List.length a0 : Int) : Int) ≤ 8)) then (
      Option.bind (xCn N a0) fun r2 =>
      some (!r2)
    ) else (
      some false
    )
  ) else (
    some false
  )
def xCt (a0 : List Str) : List Arg := [.val (.v false [.sl .ro .str a0])]
def xBp (r : Bool) : CallO := ⟨.v false [.bool r], [], []⟩
def xA8 (N : Nat) : Nat → (List Str) → Int → Option (Bool)
  | 0, _, _ => none
  | n + 1, x0, x3 =>
    bif (decide ((x3 : Int) < (List.length x0 : Int))) then (
      if (0 : Int) ≤ x3 ∧ x3 ≤ (List.length x0) then
      if (0 : Int) ≤ x3 ∧ x3 < (List.length x0) then
      Option.bind (xDw N (List.take (Int.toNat x3) x0) (List.getD x0 (Int.toNat x3) Ty.str.dflt)) fun r1 =>
      bif r1 then (
        some false
      ) else (
        (xA8 N n x0 (IntKind.i64.wrap (x3 + 1)))
      )
      else none
      else none
    ) else (
      some true
    )
def xCz (N : Nat) (a0 : List Str) : Option (Bool) :=
  (xA8 N N a0 0)
def xBX (a0 : List Str) : List Arg := [.val (.v false [.sl .ro .str a0])]
def xAG (r : Bool) : CallO := ⟨.v false [.bool r], [], []⟩
def xBD (N : Nat) : Nat → (List Str) → Int → Option (Bool)
  | 0, _, _ => none
  | n + 1, x0, x3 =>
    bif (decide ((x3 : Int) < (List.length x0 : Int))) then (
      if (0 : Int) ≤ x3 ∧ x3 < (List.length x0) then
      Option.bind (xB7 N (List.getD x0 (Int.toNat x3) Ty.str.dflt)) fun r1 =>
      bif (!r1) then (
        some false
      ) else (
        (xBD N n x0 (IntKind.i64.wrap (x3 + 1)))
      )
      else none
    ) else (
      Option.bind (xDd N (List.length x0 : Int) 1 4) fun r1 =>
      bif r1 then (
        Option.bind (xCz N x0) fun r2 =>
        some r2
      ) else (
        some false
      )
    )
def xCZ (N : Nat) (a0 : List Str) : Option (Bool) :=
  (xBD N N a0 0)
def xBQ (a0 : Org) (a1 : Org) : List Arg := [.val (.v true [.int .i64 (Org.cell a0), .int .i64 (Org.row a0)]), .val (.v true [.int .i64 (Org.cell a1), .int .i64 (Org.row a1)])]
def xBo (r : Bool) : CallO := ⟨.v false [.bool r], [], []⟩
def xCU (N : Nat) (a0 : Org) (a1 : Org) : Option (Bool) :=
  bif (decide (((Org.cell a0) : Int) < (Org.cell a1))) then (
    some true
  ) else (
    bif (((Org.cell a0) : Int) == (Org.cell a1)) then (
      some (decide (((Org.row a0) : Int) < (Org.row a1)))
    ) else (
      some false
    )
  )
def xB2 (a0 : List Org) : List Arg := [.val (.v false [.sl .ro .org a0])]
def xAB (r : Bool) : CallO := ⟨.v false [.bool r], [], []⟩
def xAY (N : Nat) : Nat → (List Org) → Int → Option (Bool)
  | 0, _, _ => none
  | n + 1, x0, x3 =>
    bif (decide ((x3 : Int) < (List.length x0 : Int))) then (
      if (0 : Int) ≤ x3 ∧ x3 < (List.length x0) then
      bif (decide (((Org.cell (List.getD x0 (Int.toNat x3) Ty.org.dflt)) : Int) < 0)) then (
        some false
      ) else (
        bif (decide (((Org.row (List.getD x0 (Int.toNat x3) Ty.org.dflt)) : Int) < 0)) then (
          some false
        ) else (
          bif (decide ((x3 : Int) > 0)) then (
            if (0 : Int) ≤ (IntKind.i64.wrap (x3 - 1)) ∧ (IntKind.i64.wrap (x3 - 1)) < (List.length x0) then
            Option.bind (xCU N (List.getD x0 (Int.toNat (IntKind.i64.wrap (x3 - 1))) Ty.org.dflt) (List.getD x0 (Int.toNat x3) Ty.org.dflt)) fun r1 =>
            bif (!r1) then (
              some false
            ) else (
              (xAY N n x0 (IntKind.i64.wrap (x3 + 1)))
            )
            else none
          ) else (
            (xAY N n x0 (IntKind.i64.wrap (x3 + 1)))
          )
        )
      )
      else none
    ) else (
      some true
    )
def xCC (N : Nat) (a0 : List Org) : Option (Bool) :=
  (xAY N N a0 0)
def xCr (a0 : Val) : List Arg := [.val (.v true [.int .i64 (Val.kind a0), .int .i64 (Val.n a0), .int .i64 (Val.step a0), .str (Val.text a0), .sl .ro .val (Val.list a0), .sl .ro .str (Val.columns a0), .sl .ro .row (Val.rows a0)])]
def xAO (r : Bool) : CallO := ⟨.v false [.bool r], [], []⟩
def xBw (N : Nat) (k4 : Int → Val → Option (Bool)) : Nat → Int → Int → Val → Rowd → Option (Bool)
  | 0, _, _, _, _ => none
  | n + 1, x3, x5, b1, b4 =>
    bif (decide ((x5 : Int) < (List.length (Rowd.cells b4) : Int))) then (
      if (0 : Int) ≤ x5 ∧ x5 < (List.length (Rowd.cells b4)) then
      Option.bind (xBu N (List.getD (Rowd.cells b4) (Int.toNat x5) Ty.int.dflt)) fun r1 =>
      bif (!r1) then (
        some false
      ) else (
        (xBw N k4 n x3 (IntKind.i64.wrap (x5 + 1)) b1 b4)
      )
      else none
    ) else (
      (k4 (IntKind.i64.wrap (x3 + 1)) b1)
    )
def xBN (N : Nat) : Nat → Int → Val → Option (Bool)
  | 0, _, _ => none
  | n + 1, x3, b1 =>
    bif (decide ((x3 : Int) < (List.length (Val.rows b1) : Int))) then (
      if (0 : Int) ≤ x3 ∧ x3 < (List.length (Val.rows b1)) then
      bif (((List.length (Rowd.cells (List.getD (Val.rows b1) (Int.toNat x3) Ty.row.dflt)) : Int) : Int) != (List.length (Val.columns b1) : Int)) then (
        some false
      ) else (
        Option.bind (xCC N (Rowd.frm (List.getD (Val.rows b1) (Int.toNat x3) Ty.row.dflt))) fun r1 =>
        bif (!r1) then (
          some false
        ) else (
          (xBw N (fun z0 z1 => (xBN N n z0 z1)) N x3 0 b1 (List.getD (Val.rows b1) (Int.toNat x3) Ty.row.dflt))
        )
      )
      else none
    ) else (
      some true
    )
def xC9 (N : Nat) (a0 : Val) : Option (Bool) :=
  Option.bind (xCZ N (Val.columns a0)) fun r1 =>
  bif (!r1) then (
    some false
  ) else (
    bif (decide (((List.length (Val.rows a0) : Int) : Int) > 12)) then (
      some false
    ) else (
      (xBN N N 0 a0)
    )
  )
def xAb (a0 : Val) : List Arg := [.val (.v true [.int .i64 (Val.kind a0), .int .i64 (Val.n a0), .int .i64 (Val.step a0), .str (Val.text a0), .sl .ro .val (Val.list a0), .sl .ro .str (Val.columns a0), .sl .ro .row (Val.rows a0)])]
def xAa (r : Bool) : CallO := ⟨.v false [.bool r], [], []⟩
def xBg (N : Nat) (rc_spec_IsValidValue : Val → Option (Bool)) (rc_spec_l3List : Val → Option (Bool)) (a0 : Val) : Option (Bool) :=
  bif (((Val.kind a0) : Int) != 3) then (
    bif (decide (((List.length (Val.list a0) : Int) : Int) > 0)) then (
      some false
    ) else (
      bif (((Val.kind a0) : Int) != 5) then (
        bif (decide (((IntKind.i64.wrap ((List.length (Val.columns a0) : Int) + (List.length (Val.rows a0) : Int))) : Int) > 0)) then (
          some false
        ) else (
          bif (((Val.kind a0) : Int) != 2) then (
            bif (!(((Val.text a0) : Str) == [])) then (
              some false
            ) else (
              bif (((Val.kind a0) : Int) != 4) then (
                bif (((Val.step a0) : Int) != 0) then (
                  some false
                ) else (
                  bif (((Val.kind a0) : Int) == 1) then (
                    Option.bind (xBu N (Val.n a0)) fun r1 =>
                    some r1
                  ) else (
                    bif (((Val.kind a0) : Int) == 6) then (
                      Option.bind (xDd N (Val.n a0) 1 8) fun r1 =>
                      some r1
                    ) else (
                      some false
                    )
                  )
                )
              ) else (
                Option.bind (xBu N (Val.n a0)) fun r1 =>
                bif r1 then (
                  Option.bind (xBu N (Val.step a0)) fun r2 =>
                  some r2
                ) else (
                  some false
                )
              )
            )
          ) else (
            bif (((Val.step a0) : Int) != 0) then (
              some false
            ) else (
              bif (((Val.n a0) : Int) == 0) then (
                Option.bind (xCB N (Val.text a0)) fun r1 =>
                some r1
              ) else (
                some false
              )
            )
          )
        )
      ) else (
        bif (!(((Val.text a0) : Str) == [])) then (
          some false
        ) else (
          bif (((Val.step a0) : Int) != 0) then (
            some false
          ) else (
            bif (((Val.n a0) : Int) == 0) then (
              Option.bind (xC9 N a0) fun r1 =>
              some r1
            ) else (
              some false
            )
          )
        )
      )
    )
  ) else (
    bif (decide (((IntKind.i64.wrap ((List.length (Val.columns a0) : Int) + (List.length (Val.rows a0) : Int))) : Int) > 0)) then (
      some false
    ) else (
      bif (!(((Val.text a0) : Str) == [])) then (
        some false
      ) else (
        bif (((Val.step a0) : Int) != 0) then (
          some false
        ) else (
          bif (((Val.n a0) : Int) == 0) then (
            Option.bind (rc_spec_l3List a0) fun r1 =>
            some r1
          ) else (
            some false
          )
        )
      )
    )
  )
def xBs (a0 : Val) : List Arg := [.val (.v true [.int .i64 (Val.kind a0), .int .i64 (Val.n a0), .int .i64 (Val.step a0), .str (Val.text a0), .sl .ro .val (Val.list a0), .sl .ro .str (Val.columns a0), .sl .ro .row (Val.rows a0)])]
def xAJ (r : Bool) : CallO := ⟨.v false [.bool r], [], []⟩
def xBH (N : Nat) (rc_spec_IsValidValue : Val → Option (Bool)) (rc_spec_l3List : Val → Option (Bool)) : Nat → Int → Val → Option (Bool)
  | 0, _, _ => none
  | n + 1, x3, b1 =>
    bif (decide ((x3 : Int) < (List.length (Val.list b1) : Int))) then (
      if (0 : Int) ≤ x3 ∧ x3 < (List.length (Val.list b1)) then
      Option.bind (xC0 N (List.getD (Val.list b1) (Int.toNat x3) Ty.val.dflt)) fun r1 =>
      bif (!r1) then (
        some false
      ) else (
        Option.bind (rc_spec_IsValidValue (List.getD (Val.list b1) (Int.toNat x3) Ty.val.dflt)) fun r2 =>
        bif (!r2) then (
          some false
        ) else (
          (xBH N rc_spec_IsValidValue rc_spec_l3List n (IntKind.i64.wrap (x3 + 1)) b1)
        )
      )
      else none
    ) else (
      bif (decide (((List.length (Val.list b1) : Int) : Int) ≤ 8)) then (
        Option.bind (xDK N b1) fun r1 =>
        some (decide ((r1 : Int) ≤ 3))
      ) else (
        some false
      )
    )
def xC2 (N : Nat) (rc_spec_IsValidValue : Val → Option (Bool)) (rc_spec_l3List : Val → Option (Bool)) (a0 : Val) : Option (Bool) :=
  (xBH N rc_spec_IsValidValue rc_spec_l3List N 0 a0)
structure spec_IsValidValue_rec where
  c_spec_IsValidValue : Val → Option (Bool)
  c_spec_l3List : Val → Option (Bool)
def xAi (N : Nat) : Nat → spec_IsValidValue_rec
  | 0 => ⟨fun _ => none, fun _ => none⟩
  | d + 1 => ⟨xBg N (xAi N d).c_spec_IsValidValue (xAi N d).c_spec_l3List, xC2 N (xAi N d).c_spec_IsValidValue (xAi N d).c_spec_l3List⟩
def xDi (N : Nat) (a0 : Val) : Option (Bool) := (xAi N N).c_spec_IsValidValue a0
def xBf (a0 : Int) : List Arg := [.val (.v false [.int .i64 a0])]
def xAw (r : Val) : CallO := ⟨.v true [.int .i64 (Val.kind r), .int .i64 (Val.n r), .int .i64 (Val.step r), .str (Val.text r), .sl .own .val (Val.list r), .sl .own .str (Val.columns r), .sl .own .row (Val.rows r)], [], []⟩
def xAZ (N : Nat) (a0 : Int) : Option (Val) :=
  some (Val.mk 6 a0 0 [] [] [] [])
def xBC (a0 : Int) : List Arg := [.val (.v false [.int .i64 a0])]
def xAX (r : Val) : CallO := ⟨.v true [.int .i64 (Val.kind r), .int .i64 (Val.n r), .int .i64 (Val.step r), .str (Val.text r), .sl .own .val (Val.list r), .sl .own .str (Val.columns r), .sl .own .row (Val.rows r)], [], []⟩
def xBn (N : Nat) (a0 : Int) : Option (Val) :=
  some (Val.mk 1 a0 0 [] [] [] [])
def xB3 (a0 : List Str) (a1 : List Str) : List Arg := [.val (.v false [.sl .ro .str a0]), .val (.v false [.sl .ro .str a1])]
def xA1 (r : Bool) : CallO := ⟨.v false [.bool r], [], []⟩
def xB4 (N : Nat) : Nat → (List Str) → (List Str) → Int → Option (Bool)
  | 0, _, _, _ => none
  | n + 1, x0, x1, x5 =>
    bif (decide ((x5 : Int) < (List.length x0 : Int))) then (
      if (0 : Int) ≤ x5 ∧ x5 < (List.length x0) then
      if (0 : Int) ≤ x5 ∧ x5 < (List.length x1) then
      bif (!(((List.getD x0 (Int.toNat x5) Ty.str.dflt) : Str) == (List.getD x1 (Int.toNat x5) Ty.str.dflt))) then (
        some false
      ) else (
        (xB4 N n x0 x1 (IntKind.i64.wrap (x5 + 1)))
      )
      else none
      else none
    ) else (
      some true
    )
def xDa (N : Nat) (a0 : List Str) (a1 : List Str) : Option (Bool) :=
  bif (((List.length a0 : Int) : Int) != (List.length a1 : Int)) then (
    some false
  ) else (
    (xB4 N N a0 a1 0)
  )
def xBW (a0 : List Int) (a1 : List Int) : List Arg := [.val (.v false [.sl .ro .int a0]), .val (.v false [.sl .ro .int a1])]
def xAR (r : Bool) : CallO := ⟨.v false [.bool r], [], []⟩
def xCh (N : Nat) : Nat → (List Int) → (List Int) → Int → Option (Bool)
  | 0, _, _, _ => none
  | n + 1, x0, x1, x5 =>
    bif (decide ((x5 : Int) < (List.length x0 : Int))) then (
      if (0 : Int) ≤ x5 ∧ x5 < (List.length x0) then
      if (0 : Int) ≤ x5 ∧ x5 < (List.length x1) then
      bif (((List.getD x0 (Int.toNat x5) Ty.int.dflt) : Int) != (List.getD x1 (Int.toNat x5) Ty.int.dflt)) then (
        some false
      ) else (
        (xCh N n x0 x1 (IntKind.i64.wrap (x5 + 1)))
      )
      else none
      else none
    ) else (
      some true
    )
def xDj (N : Nat) (a0 : List Int) (a1 : List Int) : Option (Bool) :=
  bif (((List.length a0 : Int) : Int) != (List.length a1 : Int)) then (
    some false
  ) else (
    (xCh N N a0 a1 0)
  )
def xBY (a0 : List Org) (a1 : List Org) : List Arg := [.val (.v false [.sl .ro .org a0]), .val (.v false [.sl .ro .org a1])]
def xA3 (r : Bool) : CallO := ⟨.v false [.bool r], [], []⟩
def xBE (N : Nat) : Nat → (List Org) → (List Org) → Int → Option (Bool)
  | 0, _, _, _ => none
  | n + 1, x0, x1, x5 =>
    bif (decide ((x5 : Int) < (List.length x0 : Int))) then (
      if (0 : Int) ≤ x5 ∧ x5 < (List.length x0) then
      if (0 : Int) ≤ x5 ∧ x5 < (List.length x1) then
      bif (!((((Org.cell (List.getD x0 (Int.toNat x5) Ty.org.dflt)) : Int) == (Org.cell (List.getD x1 (Int.toNat x5) Ty.org.dflt))) && (((Org.row (List.getD x0 (Int.toNat x5) Ty.org.dflt)) : Int) == (Org.row (List.getD x1 (Int.toNat x5) Ty.org.dflt))))) then (
        some false
      ) else (
        (xBE N n x0 x1 (IntKind.i64.wrap (x5 + 1)))
      )
      else none
      else none
    ) else (
      some true
    )
def xCG (N : Nat) (a0 : List Org) (a1 : List Org) : Option (Bool) :=
  bif (((List.length a0 : Int) : Int) != (List.length a1 : Int)) then (
    some false
  ) else (
    (xBE N N a0 a1 0)
  )
def xAr (a0 : Val) (a1 : Val) (a2 : Bool) : List Arg := [.val (.v true [.int .i64 (Val.kind a0), .int .i64 (Val.n a0), .int .i64 (Val.step a0), .str (Val.text a0), .sl .ro .val (Val.list a0), .sl .ro .str (Val.columns a0), .sl .ro .row (Val.rows a0)]), .val (.v true [.int .i64 (Val.kind a1), .int .i64 (Val.n a1), .int .i64 (Val.step a1), .str (Val.text a1), .sl .ro .val (Val.list a1), .sl .ro .str (Val.columns a1), .sl .ro .row (Val.rows a1)]), .val (.v false [.bool a2])]
def xAm (r : Bool) : CallO := ⟨.v false [.bool r], [], []⟩
def xBI (N : Nat) (rc_spec_l3Same : Val → Val → Bool → Option (Bool)) : Nat → Bool → Int → Val → Val → Option (Bool)
  | 0, _, _, _, _ => none
  | n + 1, x2, x8, b3, b4 =>
    bif (decide ((x8 : Int) < (List.length (Val.rows b3) : Int))) then (
      if (0 : Int) ≤ x8 ∧ x8 < (List.length (Val.rows b3)) then
      if (0 : Int) ≤ x8 ∧ x8 < (List.length (Val.rows b4)) then
      Option.bind (xDj N (Rowd.cells (List.getD (Val.rows b3) (Int.toNat x8) Ty.row.dflt)) (Rowd.cells (List.getD (Val.rows b4) (Int.toNat x8) Ty.row.dflt))) fun r1 =>
      bif (!r1) then (
        some false
      ) else (
        bif x2 then (
          Option.bind (xCG N (Rowd.frm (List.getD (Val.rows b3) (Int.toNat x8) Ty.row.dflt)) (Rowd.frm (List.getD (Val.rows b4) (Int.toNat x8) Ty.row.dflt))) fun r2 =>
          bif (!r2) then (
            some false
          ) else (
            (xBI N rc_spec_l3Same n x2 (IntKind.i64.wrap (x8 + 1)) b3 b4)
          )
        ) else (
          (xBI N rc_spec_l3Same n x2 (IntKind.i64.wrap (x8 + 1)) b3 b4)
        )
      )
      else none
      else none
    ) else (
      some true
    )
def xCj (N : Nat) (rc_spec_l3Same : Val → Val → Bool → Option (Bool)) : Nat → Bool → Int → Val → Val → Option (Bool)
  | 0, _, _, _, _ => none
  | n + 1, x2, x7, b3, b4 =>
    bif (decide ((x7 : Int) < (List.length (Val.list b3) : Int))) then (
      if (0 : Int) ≤ x7 ∧ x7 < (List.length (Val.list b3)) then
      if (0 : Int) ≤ x7 ∧ x7 < (List.length (Val.list b4)) then
      Option.bind (rc_spec_l3Same (List.getD (Val.list b3) (Int.toNat x7) Ty.val.dflt) (List.getD (Val.list b4) (Int.toNat x7) Ty.val.dflt) x2) fun r1 =>
      bif (!r1) then (
        some false
      ) else (
        (xCj N rc_spec_l3Same n x2 (IntKind.i64.wrap (x7 + 1)) b3 b4)
      )
      else none
      else none
    ) else (
      (xBI N rc_spec_l3Same N x2 0 b3 b4)
    )
def xB8 (N : Nat) (rc_spec_l3Same : Val → Val → Bool → Option (Bool)) (a0 : Val) (a1 : Val) (a2 : Bool) : Option (Bool) :=
  bif (((Val.kind a0) : Int) != (Val.kind a1)) then (
    some false
  ) else (
    bif (((Val.n a0) : Int) != (Val.n a1)) then (
      some false
    ) else (
      bif (((Val.step a0) : Int) != (Val.step a1)) then (
        some false
      ) else (
        bif (!(((Val.text a0) : Str) == (Val.text a1))) then (
          some false
        ) else (
          bif (((List.length (Val.list a0) : Int) : Int) != (List.length (Val.list a1) : Int)) then (
            some false
          ) else (
            Option.bind (xDa N (Val.columns a0) (Val.columns a1)) fun r1 =>
            bif (!r1) then (
              some false
            ) else (
              bif (((List.length (Val.rows a0) : Int) : Int) != (List.length (Val.rows a1) : Int)) then (
                some false
              ) else (
                (xCj N rc_spec_l3Same N a2 0 a0 a1)
              )
            )
          )
        )
      )
    )
  )
def xBv (N : Nat) : Nat → Val → Val → Bool → Option (Bool)
  | 0, _, _, _ => none
  | d + 1, a0, a1, a2 => xB8 N (xBv N d) a0 a1 a2
def xEB (N : Nat) (a0 : Val) (a1 : Val) (a2 : Bool) : Option (Bool) := xBv N N a0 a1 a2
def xBU (a0 : Int) (a1 : Int) (a2 : Int) : List Arg := [.val (.v false [.int .i64 a0]), .val (.v false [.int .i64 a1]), .val (.v false [.int .i64 a2])]
def xBb (r : Bool) : CallO := ⟨.v false [.bool r], [], []⟩
def xCe (N : Nat) (a0 : Int) (a1 : Int) (a2 : Int) : Option (Bool) :=
  bif (decide ((a1 : Int) ≤ a0)) then (
    some (decide ((a0 : Int) ≤ a2))
  ) else (
    some false
  )
def xBm (a0 : Int) : List Arg := [.val (.v false [.int .i64 a0])]
def xAx (r : Bool) : CallO := ⟨.v false [.bool r], [], []⟩
def xBl (N : Nat) (a0 : Int) : Option (Bool) :=
  Option.bind (xCe N a0 (-1000000000) 1000000000) fun r1 =>
  some r1
def xCs (N : Nat) : Nat → Str → Int → Option (Bool)
  | 0, _, _ => none
  | n + 1, x0, x3 =>
    bif (decide ((x3 : Int) < (List.length x0 : Int))) then (
      if (0 : Int) ≤ x3 ∧ x3 < (List.length x0) then
      bif (decide ((((List.getD x0 (Int.toNat x3) 0).toNat : Int) : Int) < 32)) then (
        some false
      ) else (
        bif (decide ((((List.getD x0 (Int.toNat x3) 0).toNat : Int) : Int) > 126)) then (
          some false
        ) else (
          bif ((((List.getD x0 (Int.toNat x3) 0).toNat : Int) : Int) == 34) then (
            some false
          ) else (
            (xCs N n x0 (IntKind.i64.wrap (x3 + 1)))
          )
        )
      )
      else none
    ) else (
      some (decide (((List.length x0 : Int) : Int) ≤ 20))
    )
def xDY (N : Nat) (a0 : Str) : Option (Bool) :=
  (xCs N N a0 0)
def xBT (N : Nat) : Nat → Str → Int → Option (Bool)
  | 0, _, _ => none
  | n + 1, x0, x3 =>
    bif (decide ((x3 : Int) < (List.length x0 : Int))) then (
      if (0 : Int) ≤ x3 ∧ x3 < (List.length x0) then
      bif (decide ((((List.getD x0 (Int.toNat x3) 0).toNat : Int) : Int) ≥ 97)) then (
        bif (!(decide ((((List.getD x0 (Int.toNat x3) 0).toNat : Int) : Int) ≤ 122))) then (
          bif ((x3 : Int) == 0) then (
            some false
          ) else (
            bif (decide ((((List.getD x0 (Int.toNat x3) 0).toNat : Int) : Int) < 48)) then (
              some false
            ) else (
              bif (decide ((((List.getD x0 (Int.toNat x3) 0).toNat : Int) : Int) > 57)) then (
                some false
              ) else (
                (xBT N n x0 (IntKind.i64.wrap (x3 + 1)))
              )
            )
          )
        ) else (
          (xBT N n x0 (IntKind.i64.wrap (x3 + 1)))
        )
      ) else (
        bif ((x3 : Int) == 0) then (
          some false
        ) else (
          bif (decide ((((List.getD x0 (Int.toNat x3) 0).toNat : Int) : Int) < 48)) then (
            some false
          ) else (
            bif (decide ((((List.getD x0 (Int.toNat x3) 0).toNat : Int) : Int) > 57)) then (
              some false
            ) else (
              (xBT N n x0 (IntKind.i64.wrap (x3 + 1)))
            )
          )
        )
      )
      else none
    ) else (
      Option.bind (xCe N (List.length x0 : Int) 1 8) fun r1 =>
      some r1
    )
def impl_isWord (N : Nat) (a0 : Str) : Option (Bool) :=
  (xBT N N a0 0)
def xDH (N : Nat) (a0 : Str) : Option (Int) :=
  bif ((a0 : Str) == [99, 108, 111, 99, 107]) then (
    some 0
  ) else (
    bif ((a0 : Str) == [108, 101, 110]) then (
      some 1
    ) else (
      bif ((a0 : Str) == [115, 117, 109]) then (
        some 1
      ) else (
        bif ((a0 : Str) == [114, 111, 119, 115]) then (
          some 1
        ) else (
          bif ((a0 : Str) == [99, 104, 97, 110, 99, 101]) then (
            some 1
          ) else (
            bif ((a0 : Str) == [102, 105, 108, 101]) then (
              some 1
            ) else (
              bif ((a0 : Str) == [116, 97, 107, 101]) then (
                some 2
              ) else (
                bif ((a0 : Str) == [115, 107, 105, 112]) then (
                  some 2
                ) else (
                  bif ((a0 : Str) == [114, 97, 110, 103, 101]) then (
                    some 2
                  ) else (
                    bif ((a0 : Str) == [110, 116, 104]) then (
                      some 2
                    ) else (
                      bif ((a0 : Str) == [107, 101, 101, 112]) then (
                        some 2
                      ) else (
                        bif ((a0 : Str) == [99, 111, 108, 117, 109, 110]) then (
                          some 2
                        ) else (
                          bif ((a0 : Str) == [116, 97, 98, 108, 101]) then (
                            some 2
                          ) else (
                            bif ((a0 : Str) == [119, 104, 101, 114, 101]) then (
                              some 3
                            ) else (
                              bif ((a0 : Str) == [103, 114, 111, 117, 112]) then (
                                some 3
                              ) else (
                                bif ((a0 : Str) == [106, 111, 105, 110]) then (
                                  some 3
                                ) else (
                                  bif ((a0 : Str) == [97, 100, 100]) then (
                                    some 4
                                  ) else (
                                    some (-1)
                                  )
                                )
                              )
                            )
                          )
                        )
                      )
                    )
                  )
                )
              )
            )
          )
        )
      )
    )
  )
def xDz (N : Nat) (a0 : Str) : Option (Bool) :=
  bif ((a0 : Str) == [108, 101, 116]) then (
    some true
  ) else (
    bif ((a0 : Str) == [105, 110]) then (
      some true
    ) else (
      bif ((a0 : Str) == [105, 102]) then (
        some true
      ) else (
        bif ((a0 : Str) == [116, 104, 101, 110]) then (
          some true
        ) else (
          bif ((a0 : Str) == [101, 108, 115, 101]) then (
            some true
          ) else (
            bif ((a0 : Str) == [102, 111, 114]) then (
              some true
            ) else (
              bif ((a0 : Str) == [100, 111]) then (
                some true
              ) else (
                Option.bind (xDH N a0) fun r1 =>
                some (decide ((r1 : Int) ≥ 0))
              )
            )
          )
        )
      )
    )
  )
def xDv (N : Nat) (a0 : Str) : Option (Bool) :=
  Option.bind (impl_isWord N a0) fun r1 =>
  bif r1 then (
    Option.bind (xDz N a0) fun r2 =>
    some (!r2)
  ) else (
    some false
  )
def xCk (N : Nat) : Nat → Str → (List Str) → Int → Int → Option (Int)
  | 0, _, _, _, _ => none
  | n + 1, x1, x7, x8, x9 =>
    bif (decide ((x9 : Int) < x8)) then (
      if (0 : Int) ≤ x9 ∧ x9 < (List.length x7) then
      bif (((List.getD x7 (Int.toNat x9) Ty.str.dflt) : Str) == x1) then (
        some x9
      ) else (
        (xCk N n x1 x7 x8 (IntKind.i64.wrap (x9 + 1)))
      )
      else none
    ) else (
      some (-1)
    )
def impl_IndexOf (N : Nat) (a0 : List Str) (a1 : Str) : Option (Int) :=
  (xCk N N a1 a0 (List.length a0 : Int) 0)
def xBx (N : Nat) : Nat → (List Str) → (List Str) → Int → Int → Option (Bool)
  | 0, _, _, _, _ => none
  | n + 1, x0, x5, x6, x7 =>
    bif (decide ((x7 : Int) < x6)) then (
      if (0 : Int) ≤ x7 ∧ x7 < (List.length x5) then
      Option.bind (impl_IndexOf N x0 (List.getD x5 (Int.toNat x7) Ty.str.dflt)) fun r1 =>
      bif ((r1 : Int) != x7) then (
        some false
      ) else (
        (xBx N n x0 x5 x6 (IntKind.i64.wrap (x7 + 1)))
      )
      else none
    ) else (
      some true
    )
def xDX (N : Nat) (a0 : List Str) : Option (Bool) :=
  (xBx N N a0 a0 (List.length a0 : Int) 0)
def xB9 (N : Nat) : Nat → (List Str) → (List Str) → Int → Int → Option (Bool)
  | 0, _, _, _, _ => none
  | n + 1, x0, x5, x6, x7 =>
    bif (decide ((x7 : Int) < x6)) then (
      if (0 : Int) ≤ x7 ∧ x7 < (List.length x5) then
      Option.bind (xDv N (List.getD x5 (Int.toNat x7) Ty.str.dflt)) fun r1 =>
      bif (!r1) then (
        some false
      ) else (
        (xB9 N n x0 x5 x6 (IntKind.i64.wrap (x7 + 1)))
      )
      else none
    ) else (
      Option.bind (xCe N (List.length x0 : Int) 1 4) fun r1 =>
      bif r1 then (
        Option.bind (xDX N x0) fun r2 =>
        some r2
      ) else (
        some false
      )
    )
def xD6 (N : Nat) (a0 : List Str) : Option (Bool) :=
  (xB9 N N a0 a0 (List.length a0 : Int) 0)
def xDP (N : Nat) (a0 : Org) (a1 : Org) : Option (Bool) :=
  bif (decide (((Org.cell a0) : Int) < (Org.cell a1))) then (
    some true
  ) else (
    bif (((Org.cell a0) : Int) == (Org.cell a1)) then (
      some (decide (((Org.row a0) : Int) < (Org.row a1)))
    ) else (
      some false
    )
  )
def xBP (N : Nat) (k4 : (List Rowd) → Int → Int → Val → Option (Bool)) : Nat → (List Rowd) → Int → Int → (List Org) → Int → Int → Val → Rowd → Option (Bool)
  | 0, _, _, _, _, _, _, _, _ => none
  | n + 1, x20, x21, x22, x45, x46, x47, b1, b4 =>
    bif (decide ((x47 : Int) < x46)) then (
      if (0 : Int) ≤ x47 ∧ x47 < (List.length x45) then
      bif (decide (((Org.cell (List.getD x45 (Int.toNat x47) Ty.org.dflt)) : Int) < 0)) then (
        some false
      ) else (
        bif (decide (((Org.row (List.getD x45 (Int.toNat x47) Ty.org.dflt)) : Int) < 0)) then (
          some false
        ) else (
          bif (decide ((x47 : Int) > 0)) then (
            if (0 : Int) ≤ (IntKind.i64.wrap (x47 - 1)) ∧ (IntKind.i64.wrap (x47 - 1)) < (List.length (Rowd.frm b4)) then
            Option.bind (xDP N (List.getD (Rowd.frm b4) (Int.toNat (IntKind.i64.wrap (x47 - 1))) Ty.org.dflt) (List.getD x45 (Int.toNat x47) Ty.org.dflt)) fun r1 =>
            bif (!r1) then (
              some false
            ) else (
              (xBP N k4 n x20 x21 x22 x45 x46 (IntKind.i64.wrap (x47 + 1)) b1 b4)
            )
            else none
          ) else (
            (xBP N k4 n x20 x21 x22 x45 x46 (IntKind.i64.wrap (x47 + 1)) b1 b4)
          )
        )
      )
      else none
    ) else (
      (k4 x20 x21 (IntKind.i64.wrap (x22 + 1)) b1)
    )
def xCm (N : Nat) (k4 : (List Rowd) → Int → Int → Val → Option (Bool)) : Nat → (List Rowd) → Int → Int → (List Int) → Int → Int → Val → Rowd → Option (Bool)
  | 0, _, _, _, _, _, _, _, _ => none
  | n + 1, x20, x21, x22, x34, x35, x36, b1, b4 =>
    bif (decide ((x36 : Int) < x35)) then (
      if (0 : Int) ≤ x36 ∧ x36 < (List.length x34) then
      Option.bind (xBl N (List.getD x34 (Int.toNat x36) Ty.int.dflt)) fun r1 =>
      bif (!r1) then (
        some false
      ) else (
        (xCm N k4 n x20 x21 x22 x34 x35 (IntKind.i64.wrap (x36 + 1)) b1 b4)
      )
      else none
    ) else (
      (xBP N k4 N x20 x21 x22 (Rowd.frm b4) (List.length (Rowd.frm b4) : Int) 0 b1 b4)
    )
def xCl (N : Nat) : Nat → (List Rowd) → Int → Int → Val → Option (Bool)
  | 0, _, _, _, _ => none
  | n + 1, x20, x21, x22, b1 =>
    bif (decide ((x22 : Int) < x21)) then (
      if (0 : Int) ≤ x22 ∧ x22 < (List.length x20) then
      bif (((List.length (Rowd.cells (List.getD x20 (Int.toNat x22) Ty.row.dflt)) : Int) : Int) != (List.length (Val.columns b1) : Int)) then (
        some false
      ) else (
        (xCm N (fun z0 z1 z2 z3 => (xCl N n z0 z1 z2 z3)) N x20 x21 x22 (Rowd.cells (List.getD x20 (Int.toNat x22) Ty.row.dflt)) (List.length (Rowd.cells (List.getD x20 (Int.toNat x22) Ty.row.dflt)) : Int) 0 b1 (List.getD x20 (Int.toNat x22) Ty.row.dflt))
      )
      else none
    ) else (
      some true
    )
def xDI (N : Nat) (a0 : Val) : Option (Bool) :=
  Option.bind (xD6 N (Val.columns a0)) fun r1 =>
  bif (!r1) then (
    some false
  ) else (
    bif (decide (((List.length (Val.rows a0) : Int) : Int) > 12)) then (
      some false
    ) else (
      (xCl N N (Val.rows a0) (List.length (Val.rows a0) : Int) 0 a0)
    )
  )
def xCK (N : Nat) (rc_impl_DepthOf : Val → Option (Int)) : Nat → Int → (List Val) → Int → Int → Option (Int)
  | 0, _, _, _, _ => none
  | n + 1, x3, x7, x8, x9 =>
    bif (decide ((x9 : Int) < x8)) then (
      if (0 : Int) ≤ x9 ∧ x9 < (List.length x7) then
      Option.bind (rc_impl_DepthOf (List.getD x7 (Int.toNat x9) Ty.val.dflt)) fun r1 =>
      (xCK N rc_impl_DepthOf n (if (r1 : Int) > x3 then r1 else x3) x7 x8 (IntKind.i64.wrap (x9 + 1)))
      else none
    ) else (
      some (IntKind.i64.wrap (x3 + 1))
    )
def impl_DepthOf_body (N : Nat) (rc_impl_DepthOf : Val → Option (Int)) (a0 : Val) : Option (Int) :=
  (xCK N rc_impl_DepthOf N 0 (Val.list a0) (List.length (Val.list a0) : Int) 0)
def xCw (N : Nat) : Nat → Val → Option (Int)
  | 0, _ => none
  | d + 1, a0 => impl_DepthOf_body N (xCw N d) a0
def xD5 (N : Nat) (a0 : Val) : Option (Int) := xCw N N a0
def xAs (N : Nat) (rc_impl_IsValidValue : Val → Option (Bool)) : Nat → (List Val) → Int → Int → Val → Option (Bool)
  | 0, _, _, _, _ => none
  | n + 1, x124, x125, x126, b1 =>
    bif (decide ((x126 : Int) < x125)) then (
      if (0 : Int) ≤ x126 ∧ x126 < (List.length x124) then
      bif (((Val.kind (List.getD x124 (Int.toNat x126) Ty.val.dflt)) : Int) != 1) then (
        bif (((Val.kind (List.getD x124 (Int.toNat x126) Ty.val.dflt)) : Int) != 2) then (
          bif (((Val.kind (List.getD x124 (Int.toNat x126) Ty.val.dflt)) : Int) != 3) then (
            some false
          ) else (
            Option.bind (rc_impl_IsValidValue (List.getD x124 (Int.toNat x126) Ty.val.dflt)) fun r1 =>
            bif (!r1) then (
              some false
            ) else (
              (xAs N rc_impl_IsValidValue n x124 x125 (IntKind.i64.wrap (x126 + 1)) b1)
            )
          )
        ) else (
          Option.bind (rc_impl_IsValidValue (List.getD x124 (Int.toNat x126) Ty.val.dflt)) fun r1 =>
          bif (!r1) then (
            some false
          ) else (
            (xAs N rc_impl_IsValidValue n x124 x125 (IntKind.i64.wrap (x126 + 1)) b1)
          )
        )
      ) else (
        Option.bind (rc_impl_IsValidValue (List.getD x124 (Int.toNat x126) Ty.val.dflt)) fun r1 =>
        bif (!r1) then (
          some false
        ) else (
          (xAs N rc_impl_IsValidValue n x124 x125 (IntKind.i64.wrap (x126 + 1)) b1)
        )
      )
      else none
    ) else (
      bif (((Val.n b1) : Int) == 0) then (
        bif (((Val.step b1) : Int) == 0) then (
          bif (((Val.text b1) : Str) == []) then (
            bif (((List.length (Val.columns b1) : Int) : Int) == 0) then (
              bif (((List.length (Val.rows b1) : Int) : Int) == 0) then (
                bif (decide (((List.length (Val.list b1) : Int) : Int) ≤ 8)) then (
                  Option.bind (xD5 N b1) fun r1 =>
                  some (decide ((r1 : Int) ≤ 3))
                ) else (
                  some false
                )
              ) else (
                some false
              )
            ) else (
              some false
            )
          ) else (
            some false
          )
        ) else (
          some false
        )
      ) else (
        some false
      )
    )
def xCH (N : Nat) (rc_impl_IsValidValue : Val → Option (Bool)) (a0 : Val) : Option (Bool) :=
  bif (((List.length (Val.list a0) : Int) : Int) == 0) then (
    bif (((List.length (Val.columns a0) : Int) : Int) == 0) then (
      bif (((Val.kind a0) : Int) == 1) then (
        bif (((List.length (Val.rows a0) : Int) : Int) == 0) then (
          bif (((Val.step a0) : Int) == 0) then (
            bif (((Val.text a0) : Str) == []) then (
              Option.bind (xBl N (Val.n a0)) fun r1 =>
              some r1
            ) else (
              some false
            )
          ) else (
            some false
          )
        ) else (
          some false
        )
      ) else (
        bif (((Val.kind a0) : Int) == 2) then (
          bif (((List.length (Val.rows a0) : Int) : Int) == 0) then (
            bif (((Val.n a0) : Int) == 0) then (
              bif (((Val.step a0) : Int) == 0) then (
                Option.bind (xDY N (Val.text a0)) fun r1 =>
                some r1
              ) else (
                some false
              )
            ) else (
              some false
            )
          ) else (
            some false
          )
        ) else (
          bif (((Val.kind a0) : Int) == 4) then (
            bif (((List.length (Val.rows a0) : Int) : Int) == 0) then (
              bif (((Val.text a0) : Str) == []) then (
                Option.bind (xBl N (Val.n a0)) fun r1 =>
                bif r1 then (
                  Option.bind (xBl N (Val.step a0)) fun r2 =>
                  some r2
                ) else (
                  some false
                )
              ) else (
                some false
              )
            ) else (
              some false
            )
          ) else (
            bif (((Val.kind a0) : Int) == 6) then (
              bif (((List.length (Val.rows a0) : Int) : Int) == 0) then (
                bif (((Val.step a0) : Int) == 0) then (
                  bif (((Val.text a0) : Str) == []) then (
                    Option.bind (xCe N (Val.n a0) 1 8) fun r1 =>
                    some r1
                  ) else (
                    some false
                  )
                ) else (
                  some false
                )
              ) else (
                some false
              )
            ) else (
              bif (((Val.kind a0) : Int) == 5) then (
                bif (((Val.n a0) : Int) == 0) then (
                  bif (((Val.step a0) : Int) == 0) then (
                    bif (((Val.text a0) : Str) == []) then (
                      Option.bind (xDI N a0) fun r1 =>
                      some r1
                    ) else (
                      some false
                    )
                  ) else (
                    some false
                  )
                ) else (
                  some false
                )
              ) else (
                bif (((Val.kind a0) : Int) == 3) then (
                  (xAs N rc_impl_IsValidValue N (Val.list a0) (List.length (Val.list a0) : Int) 0 a0)
                ) else (
                  some false
                )
              )
            )
          )
        )
      )
    ) else (
      bif (((Val.kind a0) : Int) == 1) then (
        some false
      ) else (
        bif (((Val.kind a0) : Int) == 2) then (
          some false
        ) else (
          bif (((Val.kind a0) : Int) == 4) then (
            some false
          ) else (
            bif (((Val.kind a0) : Int) == 6) then (
              some false
            ) else (
              bif (((Val.kind a0) : Int) == 5) then (
                bif (((Val.n a0) : Int) == 0) then (
                  bif (((Val.step a0) : Int) == 0) then (
                    bif (((Val.text a0) : Str) == []) then (
                      Option.bind (xDI N a0) fun r1 =>
                      some r1
                    ) else (
                      some false
                    )
                  ) else (
                    some false
                  )
                ) else (
                  some false
                )
              ) else (
                bif (((Val.kind a0) : Int) == 3) then (
                  (xAs N rc_impl_IsValidValue N (Val.list a0) (List.length (Val.list a0) : Int) 0 a0)
                ) else (
                  some false
                )
              )
            )
          )
        )
      )
    )
  ) else (
    bif (((Val.kind a0) : Int) == 1) then (
      some false
    ) else (
      bif (((Val.kind a0) : Int) == 2) then (
        some false
      ) else (
        bif (((Val.kind a0) : Int) == 4) then (
          some false
        ) else (
          bif (((Val.kind a0) : Int) == 6) then (
            some false
          ) else (
            bif (((Val.kind a0) : Int) == 5) then (
              bif (((Val.n a0) : Int) == 0) then (
                bif (((Val.step a0) : Int) == 0) then (
                  bif (((Val.text a0) : Str) == []) then (
                    some false
                  ) else (
                    some false
                  )
                ) else (
                  some false
                )
              ) else (
                some false
              )
            ) else (
              bif (((Val.kind a0) : Int) == 3) then (
                (xAs N rc_impl_IsValidValue N (Val.list a0) (List.length (Val.list a0) : Int) 0 a0)
              ) else (
                some false
              )
            )
          )
        )
      )
    )
  )
def xAS (N : Nat) : Nat → Val → Option (Bool)
  | 0, _ => none
  | d + 1, a0 => xCH N (xAS N d) a0
def xA6 (a0 : Int) : List Arg := [.val (.v false [.int .i64 a0])]
def xAp (r : Val) : CallO := ⟨.v true [.int .i64 (Val.kind r), .int .i64 (Val.n r), .int .i64 (Val.step r), .str (Val.text r), .sl .own .val (Val.list r), .sl .own .str (Val.columns r), .sl .own .row (Val.rows r)], [], []⟩
def xAL (N : Nat) (a0 : Int) : Option (Val) :=
  some (Val.mk 6 a0 0 [] [] [] [])
def xBz (a0 : Int) : List Arg := [.val (.v false [.int .i64 a0])]
def xAT (r : Val) : CallO := ⟨.v true [.int .i64 (Val.kind r), .int .i64 (Val.n r), .int .i64 (Val.step r), .str (Val.text r), .sl .own .val (Val.list r), .sl .own .str (Val.columns r), .sl .own .row (Val.rows r)], [], []⟩
def xBk (N : Nat) (a0 : Int) : Option (Val) :=
  some (Val.mk 1 a0 0 [] [] [] [])
def laws_markIntS_b2 (N : Nat) : Nat → (List Int) → Int → Int → Option (Int × (List Int))
  | 0, _, _, _ => none
  | n + 1, x0, x1, x5 =>
    bif (decide ((x5 : Int) < (List.length x0 : Int))) then (
      if (0 : Int) ≤ x5 ∧ x5 < (List.length x0) then
      (laws_markIntS_b2 N n (List.set x0 (Int.toNat x5) x1) (IntKind.i64.wrap (x1 + 1)) (IntKind.i64.wrap (x5 + 1)))
      else none
    ) else (
      some (x1, x0)
    )
def xBA (a0 : List Int) : List Arg := [.val (.v false [.sl .ro .byte a0])]
def xAz (r : Bool) : CallO := ⟨.v false [.bool r], [], []⟩
def laws_big (N : Nat) (a0 : List Int) : Option (Bool) :=
  some (decide (((List.length a0 : Int) : Int) > 1048576))
def xDf (a0 : List Int) : List Arg := [.val (.v false [.sl .ro .byte a0])]
def xBR (r : Cur) : CallO := ⟨.tup [(false, [.ptr 0 0]), (true, [.sl .ro .byte (Cur.b r), .int .i64 (Cur.i r), .int .i64 (Cur.h r)])], [], []⟩
def xCv (N : Nat) : Nat → (List Int) → Int → Int → Option (Cur)
  | 0, _, _, _ => none
  | n + 1, x0, x3, x4 =>
    bif (decide ((x4 : Int) < (List.length x0 : Int))) then (
      bif (decide ((x4 : Int) < 4000)) then (
        if (0 : Int) ≤ x4 ∧ x4 < (List.length x0) then
        (xCv N n x0 (andI .i64 (IntKind.i64.wrap ((IntKind.i64.wrap ((IntKind.i64.wrap (x3 * 131)) + (IntKind.i64.wrap ((List.getD x0 (Int.toNat x4) Ty.byte.dflt))))) + 7)) 1073741823) (IntKind.i64.wrap (x4 + 1)))
        else none
      ) else (
        some (Cur.mk x0 0 x3)
      )
    ) else (
      some (Cur.mk x0 0 x3)
    )
def xDy (N : Nat) (a0 : List Int) : Option (Cur) :=
  (xCv N N a0 (IntKind.i64.wrap (26583 + (List.length a0 : Int))) 0)
def xBF (a0 : Cur) : List Arg := [.box [.sl .ro .byte (Cur.b a0), .int .i64 (Cur.i a0), .int .i64 (Cur.h a0)]]
def xAQ (r : Int × Cur) : CallO := ⟨.v false [.int .i64 r.1], [[.sl .ro .byte (Cur.b r.2), .int .i64 (Cur.i r.2), .int .i64 (Cur.h r.2)]], []⟩
def xCg (N : Nat) (a0 : Cur) : Option (Int × Cur) :=
  bif (decide (((Cur.i a0) : Int) < (List.length (Cur.b a0) : Int))) then (
    if (0 : Int) ≤ (Cur.i a0) ∧ (Cur.i a0) < (List.length (Cur.b a0)) then
    some ((andI .i64 (IntKind.i64.wrap ((andI .i64 (xorI .i64 (Int.fdiv (IntKind.i64.wrap ((IntKind.i64.wrap ((Cur.h a0) * 6364136223846793005)) + 1442695040888963407)) ((2 : Int) ^ (Int.toNat 33))) (Int.fdiv (IntKind.i64.wrap ((IntKind.i64.wrap ((Cur.h a0) * 6364136223846793005)) + 1442695040888963407)) ((2 : Int) ^ (Int.toNat 45)))) 255) + (IntKind.i64.wrap ((List.getD (Cur.b a0) (Int.toNat (Cur.i a0)) Ty.byte.dflt))))) 255), (Cur.mk (Cur.b a0) (IntKind.i64.wrap ((Cur.i a0) + 1)) (IntKind.i64.wrap ((IntKind.i64.wrap ((Cur.h a0) * 6364136223846793005)) + 1442695040888963407))))
    else none
  ) else (
    some ((andI .i64 (xorI .i64 (Int.fdiv (IntKind.i64.wrap ((IntKind.i64.wrap ((Cur.h a0) * 6364136223846793005)) + 1442695040888963407)) ((2 : Int) ^ (Int.toNat 33))) (Int.fdiv (IntKind.i64.wrap ((IntKind.i64.wrap ((Cur.h a0) * 6364136223846793005)) + 1442695040888963407)) ((2 : Int) ^ (Int.toNat 45)))) 255), (Cur.mk (Cur.b a0) (Cur.i a0) (IntKind.i64.wrap ((IntKind.i64.wrap ((Cur.h a0) * 6364136223846793005)) + 1442695040888963407))))
  )
def xAk (a0 : Cur) (a1 : Int) : List Arg := [.box [.sl .ro .byte (Cur.b a0), .int .i64 (Cur.i a0), .int .i64 (Cur.h a0)], .val (.v false [.int .i64 a1])]
def xAc (r : Int × Cur) : CallO := ⟨.v false [.int .i64 r.1], [[.sl .ro .byte (Cur.b r.2), .int .i64 (Cur.i r.2), .int .i64 (Cur.h r.2)]], []⟩
def xAt (N : Nat) (a0 : Cur) (a1 : Int) : Option (Int × Cur) :=
  bif (decide ((a1 : Int) ≤ 0)) then (
    some (0, a0)
  ) else (
    bif (decide ((a1 : Int) ≤ 256)) then (
      Option.bind (xCg N a0) fun r1 =>
      if a1 ≠ (0 : Int) then
      some ((Int.tmod r1.1 a1), r1.2)
      else none
    ) else (
      Option.bind (xCg N a0) fun r1 =>
      Option.bind (xCg N r1.2) fun r2 =>
      Option.bind (xCg N r2.2) fun r3 =>
      Option.bind (xCg N r3.2) fun r4 =>
      if a1 ≠ (0 : Int) then
      some ((Int.tmod (IntKind.i64.wrap ((IntKind.i64.wrap ((IntKind.i64.wrap ((IntKind.i64.wrap (r1.1 * 16777216)) + (IntKind.i64.wrap (r2.1 * 65536)))) + (IntKind.i64.wrap (r3.1 * 256)))) + r4.1)) a1), r4.2)
      else none
    )
  )
def xBG (a0 : Cur) (a1 : Int) : List Arg := [.box [.sl .ro .byte (Cur.b a0), .int .i64 (Cur.i a0), .int .i64 (Cur.h a0)], .val (.v false [.int .i64 a1])]
def xAI (r : Bool × Cur) : CallO := ⟨.v false [.bool r.1], [[.sl .ro .byte (Cur.b r.2), .int .i64 (Cur.i r.2), .int .i64 (Cur.h r.2)]], []⟩
def xCO (N : Nat) (a0 : Cur) (a1 : Int) : Option (Bool × Cur) :=
  Option.bind (xAt N a0 a1) fun r1 =>
  some (((r1.1 : Int) == 0), r1.2)
def xBL (a0 : Cur) : List Arg := [.box [.sl .ro .byte (Cur.b a0), .int .i64 (Cur.i a0), .int .i64 (Cur.h a0)]]
def xA0 (r : Wld × Cur) : CallO := ⟨.v true [.int .i64 (Wld.clock r.1), .int .i64 (Wld.seed r.1), .sl .own .fil (Wld.files r.1)], [[.sl .ro .byte (Cur.b r.2), .int .i64 (Cur.i r.2), .int .i64 (Cur.h r.2)]], []⟩
def xBj (N : Nat) : Nat → (List Str) → Int → Int → Cur → Wld → Wld → Option (Wld × Cur)
  | 0, _, _, _, _, _, _ => none
  | n + 1, x17, x18, x19, b0, b2, b3 =>
    bif (decide ((x19 : Int) < x18)) then (
      if (0 : Int) ≤ x19 ∧ x19 < (List.length x17) then
      Option.bind (xCO N b0 3) fun r1 =>
      bif (!r1.1) then (
        Option.bind (xAt N r1.2 9) fun r2 =>
        if List.length (Wld.files b3) + List.length [(Fil.mk (List.getD x17 (Int.toNat x19) Ty.str.dflt) r2.1)] ≤ Lim then
        (xBj N n x17 x18 (IntKind.i64.wrap (x19 + 1)) r2.2 b2 (Wld.mk (Wld.clock b3) (Wld.seed b3) ((Wld.files b3) ++ [(Fil.mk (List.getD x17 (Int.toNat x19) Ty.str.dflt) r2.1)])))
        else none
      ) else (
        (xBj N n x17 x18 (IntKind.i64.wrap (x19 + 1)) r1.2 b2 b3)
      )
      else none
    ) else (
      some (b3, b0)
    )
def xDr (N : Nat) (a0 : Cur) : Option (Wld × Cur) :=
  Option.bind (xAt N a0 20) fun r1 =>
  Option.bind (xAt N r1.2 1000) fun r2 =>
  Option.bind (xCO N r2.2 10) fun r3 =>
  bif r3.1 then (
    Option.bind (xAt N r3.2 2) fun r4 =>
    (xBj N N [[102], [103], [104]] (List.length [[102], [103], [104]] : Int) 0 r4.2 (Wld.mk 0 0 []) (Wld.mk (IntKind.i64.wrap (999 + r4.1)) r2.1 []))
  ) else (
    (xBj N N [[102], [103], [104]] (List.length [[102], [103], [104]] : Int) 0 r3.2 (Wld.mk 0 0 []) (Wld.mk r1.1 r2.1 []))
  )
def xCT (a0 : Cur) (a1 : List Int) : List Arg := [.box [.sl .ro .byte (Cur.b a0), .int .i64 (Cur.i a0), .int .i64 (Cur.h a0)], .val (.v false [.sl .ro .int a1])]
def xCp (r : Int × Cur) : CallO := ⟨.v false [.int .i64 r.1], [[.sl .ro .byte (Cur.b r.2), .int .i64 (Cur.i r.2), .int .i64 (Cur.h r.2)]], []⟩
def xCF (N : Nat) (a0 : Cur) (a1 : List Int) : Option (Int × Cur) :=
  Option.bind (xAt N a0 (List.length a1 : Int)) fun r1 =>
  if (0 : Int) ≤ r1.1 ∧ r1.1 < (List.length a1) then
  some ((List.getD a1 (Int.toNat r1.1) Ty.int.dflt), r1.2)
  else none
def xCY (a0 : Cur) (a1 : List Str) : List Arg := [.box [.sl .ro .byte (Cur.b a0), .int .i64 (Cur.i a0), .int .i64 (Cur.h a0)], .val (.v false [.sl .ro .str a1])]
def xCi (r : Str × Cur) : CallO := ⟨.v false [.str r.1], [[.sl .ro .byte (Cur.b r.2), .int .i64 (Cur.i r.2), .int .i64 (Cur.h r.2)]], []⟩
def xDk (N : Nat) (a0 : Cur) (a1 : List Str) : Option (Str × Cur) :=
  Option.bind (xAt N a0 (List.length a1 : Int)) fun r1 =>
  if (0 : Int) ≤ r1.1 ∧ r1.1 < (List.length a1) then
  some ((List.getD a1 (Int.toNat r1.1) Ty.str.dflt), r1.2)
  else none
def xBK (a0 : Cur) : List Arg := [.box [.sl .ro .byte (Cur.b a0), .int .i64 (Cur.i a0), .int .i64 (Cur.h a0)]]
def xBi (r : Wld × Cur) : CallO := ⟨.v true [.int .i64 (Wld.clock r.1), .int .i64 (Wld.seed r.1), .sl .own .fil (Wld.files r.1)], [[.sl .ro .byte (Cur.b r.2), .int .i64 (Cur.i r.2), .int .i64 (Cur.h r.2)]], []⟩
def xDq (N : Nat) (a0 : Cur) : Option (Wld × Cur) :=
  Option.bind (xDr N a0) fun r1 =>
  Option.bind (xAt N r1.2 10) fun r2 =>
  bif ((r2.1 : Int) == 0) then (
    Option.bind (xCF N r2.2 [(-1), 1001, 9223372036854775807]) fun r3 =>
    some ((Wld.mk r3.1 (Wld.seed r1.1) (Wld.files r1.1)), r3.2)
  ) else (
    bif ((r2.1 : Int) == 1) then (
      Option.bind (xDk N r2.2 [[102], [122], [108, 101, 116]]) fun r3 =>
      if List.length (Wld.files r1.1) + List.length [(Fil.mk r3.1 2000000000)] ≤ Lim then
      some ((Wld.mk (Wld.clock r1.1) (Wld.seed r1.1) ((Wld.files r1.1) ++ [(Fil.mk r3.1 2000000000)])), r3.2)
      else none
    ) else (
      bif ((r2.1 : Int) == 2) then (
        some ((Wld.mk (Wld.clock r1.1) 1000001 (Wld.files r1.1)), r2.2)
      ) else (
        some (r1.1, r2.2)
      )
    )
  )
def spec_l3Num (N : Nat) (a0 : Cur) : Option (Int × Cur) :=
  Option.bind (xCO N a0 12) fun r1 =>
  bif r1.1 then (
    Option.bind (xCF N r1.2 [1000000000, (-1000000000), 999999999, 500000000, 40000]) fun r2 =>
    some (r2.1, r2.2)
  ) else (
    Option.bind (xAt N r1.2 12) fun r2 =>
    some ((IntKind.i64.wrap (r2.1 - 3)), r2.2)
  )
def xBy (a0 : Wld) (a1 : Str) : List Arg := [.val (.v true [.int .i64 (Wld.clock a0), .int .i64 (Wld.seed a0), .sl .ro .fil (Wld.files a0)]), .val (.v false [.str a1])]
def xAy (r : Int × Bool) : CallO := ⟨.tup [(false, [.int .i64 r.1]), (false, [.bool r.2])], [], []⟩
def xA7 (N : Nat) : Nat → Str → (List Fil) → Int → Int → Option (Int × Bool)
  | 0, _, _, _, _ => none
  | n + 1, x1, x9, x10, x11 =>
    bif (decide ((x11 : Int) < x10)) then (
      if (0 : Int) ≤ x11 ∧ x11 < (List.length x9) then
      bif (((Fil.name (List.getD x9 (Int.toNat x11) Ty.fil.dflt)) : Str) == x1) then (
        some ((Fil.n (List.getD x9 (Int.toNat x11) Ty.fil.dflt)), true)
      ) else (
        (xA7 N n x1 x9 x10 (IntKind.i64.wrap (x11 + 1)))
      )
      else none
    ) else (
      some (0, false)
    )
def xCx (N : Nat) (a0 : Wld) (a1 : Str) : Option (Int × Bool) :=
  (xA7 N N a1 (Wld.files a0) (List.length (Wld.files a0) : Int) 0)
def xCM (a0 : Cur) : List Arg := [.box [.sl .ro .byte (Cur.b a0), .int .i64 (Cur.i a0), .int .i64 (Cur.h a0)]]
def xB1 (r : Rea × Cur) : CallO := ⟨.v true [.int .i64 (Rea.kind r.1), .int .i64 (Rea.n r.1), .int .i64 (Rea.time r.1), .str (Rea.text r.1), .int .i64 (Val.kind (Rea.result r.1)), .int .i64 (Val.n (Rea.result r.1)), .int .i64 (Val.step (Rea.result r.1)), .str (Val.text (Rea.result r.1)), .sl .own .val (Val.list (Rea.result r.1)), .sl .own .str (Val.columns (Rea.result r.1)), .sl .own .row (Val.rows (Rea.result r.1))], [[.sl .ro .byte (Cur.b r.2), .int .i64 (Cur.i r.2), .int .i64 (Cur.h r.2)]], []⟩
def xDs (N : Nat) (a0 : Cur) : Option (Rea × Cur) :=
  Option.bind (xAt N a0 3) fun r1 =>
  Option.bind (xAt N r1.2 7) fun r2 =>
  Option.bind (xDk N r2.2 [[102], [103], [104], [122]]) fun r3 =>
  Option.bind (xAt N r3.2 3) fun r4 =>
  some ((Rea.mk (IntKind.i64.wrap (1 + r1.1)) r2.1 r4.1 r3.1 (Val.mk 0 0 0 [] [] [] [])), r4.2)
def xAn (a0 : List Int) : List Arg := [.val (.v false [.sl .ro .byte a0])]
def xAf (r : Wld × Int × Int × Rea) : CallO := ⟨.tup [(true, [.int .i64 (Wld.clock r.1), .int .i64 (Wld.seed r.1), .sl .own .fil (Wld.files r.1)]), (false, [.int .i64 r.2.1]), (false, [.int .i64 r.2.2.1]), (true, [.int .i64 (Rea.kind r.2.2.2), .int .i64 (Rea.n r.2.2.2), .int .i64 (Rea.time r.2.2.2), .str (Rea.text r.2.2.2), .int .i64 (Val.kind (Rea.result r.2.2.2)), .int .i64 (Val.n (Rea.result r.2.2.2)), .int .i64 (Val.step (Rea.result r.2.2.2)), .str (Val.text (Rea.result r.2.2.2)), .sl .own .val (Val.list (Rea.result r.2.2.2)), .sl .own .str (Val.columns (Rea.result r.2.2.2)), .sl .own .row (Val.rows (Rea.result r.2.2.2))])], [], []⟩
def xBJ (N : Nat) (a0 : List Int) : Option (Wld × Int × Int × Rea) :=
  Option.bind (xDy N a0) fun r1 =>
  Option.bind (xDq N r1) fun r2 =>
  Option.bind (xDs N r2.2) fun r3 =>
  Option.bind (xCO N r3.2 8) fun r4 =>
  bif r4.1 then (
    Option.bind (xAt N r4.2 6) fun r5 =>
    Option.bind (xAt N r5.2 9) fun r6 =>
    Option.bind (xAt N r6.2 5) fun r7 =>
    some (r2.1, r6.1, (IntKind.i64.wrap (1 + r7.1)), (Rea.mk r5.1 (Rea.n r3.1) (Rea.time r3.1) (Rea.text r3.1) (Rea.result r3.1)))
  ) else (
    Option.bind (xAt N r4.2 9) fun r5 =>
    Option.bind (xAt N r5.2 5) fun r6 =>
    some (r2.1, r5.1, (IntKind.i64.wrap (1 + r6.1)), r3.1)
  )
def xDh (a0 : Int) (a1 : Int) (a2 : Int) (a3 : Int) : List Arg := [.val (.v false [.int .i64 a0]), .val (.v false [.int .i64 a1]), .val (.v false [.int .i64 a2]), .val (.v false [.int .i64 a3])]
def xCL (r : Int) : CallO := ⟨.v false [.int .i64 r], [], []⟩
def xEb (N : Nat) (a0 : Int) (a1 : Int) (a2 : Int) (a3 : Int) : Option (Int) :=
  bif (decide (((Int.tmod (IntKind.i64.wrap ((IntKind.i64.wrap ((IntKind.i64.wrap ((IntKind.i64.wrap (48271 * a0)) + (IntKind.i64.wrap (7919 * a1)))) + (IntKind.i64.wrap (104729 * a2)))) + (IntKind.i64.wrap (1299709 * a3)))) 2147483647) : Int) < 0)) then (
    some (Int.tmod (IntKind.i64.wrap (16807 * (IntKind.i64.wrap ((Int.tmod (IntKind.i64.wrap ((IntKind.i64.wrap ((IntKind.i64.wrap ((IntKind.i64.wrap (48271 * a0)) + (IntKind.i64.wrap (7919 * a1)))) + (IntKind.i64.wrap (104729 * a2)))) + (IntKind.i64.wrap (1299709 * a3)))) 2147483647) + 2147483647)))) 2147483647)
  ) else (
    some (Int.tmod (IntKind.i64.wrap (16807 * (Int.tmod (IntKind.i64.wrap ((IntKind.i64.wrap ((IntKind.i64.wrap ((IntKind.i64.wrap (48271 * a0)) + (IntKind.i64.wrap (7919 * a1)))) + (IntKind.i64.wrap (104729 * a2)))) + (IntKind.i64.wrap (1299709 * a3)))) 2147483647))) 2147483647)
  )
def xAg (a0 : Wld) (a1 : Int) (a2 : Int) (a3 : Rea) : List Arg := [.val (.v true [.int .i64 (Wld.clock a0), .int .i64 (Wld.seed a0), .sl .ro .fil (Wld.files a0)]), .val (.v false [.int .i64 a1]), .val (.v false [.int .i64 a2]), .val (.v true [.int .i64 (Rea.kind a3), .int .i64 (Rea.n a3), .int .i64 (Rea.time a3), .str (Rea.text a3), .int .i64 (Val.kind (Rea.result a3)), .int .i64 (Val.n (Rea.result a3)), .int .i64 (Val.step (Rea.result a3)), .str (Val.text (Rea.result a3)), .sl .ro .val (Val.list (Rea.result a3)), .sl .ro .str (Val.columns (Rea.result a3)), .sl .ro .row (Val.rows (Rea.result a3))])]
def xAd (r : Val) : CallO := ⟨.v true [.int .i64 (Val.kind r), .int .i64 (Val.n r), .int .i64 (Val.step r), .str (Val.text r), .sl .own .val (Val.list r), .sl .own .str (Val.columns r), .sl .own .row (Val.rows r)], [], []⟩
def xA2 (N : Nat) (a0 : Wld) (a1 : Int) (a2 : Int) (a3 : Rea) : Option (Val) :=
  bif (((Rea.kind a3) : Int) == 1) then (
    Option.bind (xBl N (Wld.clock a0)) fun r1 =>
    bif (!r1) then (
      Option.bind (xAL N 4) fun r2 =>
      some r2
    ) else (
      Option.bind (xBk N (Wld.clock a0)) fun r2 =>
      some r2
    )
  ) else (
    bif (((Rea.kind a3) : Int) == 2) then (
      Option.bind (xCe N (Rea.n a3) 1 1000000000) fun r1 =>
      bif (!r1) then (
        Option.bind (xAL N 5) fun r2 =>
        some r2
      ) else (
        Option.bind (xEb N (Wld.seed a0) a1 a2 (Rea.time a3)) fun r2 =>
        if (Rea.n a3) ≠ (0 : Int) then
        Option.bind (xBl N (Int.tmod r2 (Rea.n a3))) fun r3 =>
        bif (!r3) then (
          Option.bind (xAL N 4) fun r4 =>
          some r4
        ) else (
          Option.bind (xBk N (Int.tmod r2 (Rea.n a3))) fun r4 =>
          some r4
        )
        else none
      )
    ) else (
      bif (((Rea.kind a3) : Int) == 3) then (
        Option.bind (xCx N a0 (Rea.text a3)) fun r1 =>
        bif (!r1.2) then (
          Option.bind (xAL N 1) fun r2 =>
          some r2
        ) else (
          Option.bind (xBl N r1.1) fun r2 =>
          bif (!r2) then (
            Option.bind (xAL N 4) fun r3 =>
            some r3
          ) else (
            Option.bind (xBk N r1.1) fun r3 =>
            some r3
          )
        )
      ) else (
        Option.bind (xAL N 4) fun r1 =>
        some r1
      )
    )
  )
def xCo (a0 : Int) : List Arg := [.val (.v false [.int .i64 a0])]
def xBM (r : Int) : CallO := ⟨.v false [.int .i64 r], [], []⟩
def xCN (N : Nat) (a0 : Int) : Option (Int) :=
  bif (decide (((Int.tmod a0 2147483647) : Int) < 0)) then (
    some (IntKind.i64.wrap ((Int.tmod a0 2147483647) + 2147483647))
  ) else (
    some (Int.tmod a0 2147483647)
  )
def xDV (a0 : Int) (a1 : Int) (a2 : Int) (a3 : Int) : List Arg := [.val (.v false [.int .i64 a0]), .val (.v false [.int .i64 a1]), .val (.v false [.int .i64 a2]), .val (.v false [.int .i64 a3])]
def xDC (r : Int) : CallO := ⟨.v false [.int .i64 r], [], []⟩
def xEe (N : Nat) (a0 : Int) (a1 : Int) (a2 : Int) (a3 : Int) : Option (Int) :=
  Option.bind (xCN N (IntKind.i64.wrap ((IntKind.i64.wrap ((IntKind.i64.wrap ((IntKind.i64.wrap (48271 * a0)) + (IntKind.i64.wrap (7919 * a1)))) + (IntKind.i64.wrap (104729 * a2)))) + (IntKind.i64.wrap (1299709 * a3))))) fun r1 =>
  Option.bind (xCN N (IntKind.i64.wrap (16807 * r1))) fun r2 =>
  some r2
def xBB (a0 : Wld) (a1 : Str) : List Arg := [.val (.v true [.int .i64 (Wld.clock a0), .int .i64 (Wld.seed a0), .sl .ro .fil (Wld.files a0)]), .val (.v false [.str a1])]
def xAA (r : Int × Bool) : CallO := ⟨.tup [(false, [.int .i64 r.1]), (false, [.bool r.2])], [], []⟩
def xA9 (N : Nat) : Nat → Str → Int → Wld → Option (Int × Bool)
  | 0, _, _, _ => none
  | n + 1, x1, x6, b2 =>
    bif (decide ((x6 : Int) < (List.length (Wld.files b2) : Int))) then (
      if (0 : Int) ≤ x6 ∧ x6 < (List.length (Wld.files b2)) then
      bif (((Fil.name (List.getD (Wld.files b2) (Int.toNat x6) Ty.fil.dflt)) : Str) == x1) then (
        some ((Fil.n (List.getD (Wld.files b2) (Int.toNat x6) Ty.fil.dflt)), true)
      ) else (
        (xA9 N n x1 (IntKind.i64.wrap (x6 + 1)) b2)
      )
      else none
    ) else (
      some (0, false)
    )
def xCA (N : Nat) (a0 : Wld) (a1 : Str) : Option (Int × Bool) :=
  (xA9 N N a1 0 a0)
def xAj (a0 : Wld) (a1 : Int) (a2 : Int) (a3 : Rea) : List Arg := [.val (.v true [.int .i64 (Wld.clock a0), .int .i64 (Wld.seed a0), .sl .ro .fil (Wld.files a0)]), .val (.v false [.int .i64 a1]), .val (.v false [.int .i64 a2]), .val (.v true [.int .i64 (Rea.kind a3), .int .i64 (Rea.n a3), .int .i64 (Rea.time a3), .str (Rea.text a3), .int .i64 (Val.kind (Rea.result a3)), .int .i64 (Val.n (Rea.result a3)), .int .i64 (Val.step (Rea.result a3)), .str (Val.text (Rea.result a3)), .sl .ro .val (Val.list (Rea.result a3)), .sl .ro .str (Val.columns (Rea.result a3)), .sl .ro .row (Val.rows (Rea.result a3))])]
def xAe (r : Val) : CallO := ⟨.v true [.int .i64 (Val.kind r), .int .i64 (Val.n r), .int .i64 (Val.step r), .str (Val.text r), .sl .own .val (Val.list r), .sl .own .str (Val.columns r), .sl .own .row (Val.rows r)], [], []⟩
def xBe (N : Nat) (a0 : Wld) (a1 : Int) (a2 : Int) (a3 : Rea) : Option (Val) :=
  bif (((Rea.kind a3) : Int) == 1) then (
    Option.bind (xBu N (Wld.clock a0)) fun r1 =>
    bif r1 then (
      Option.bind (xBn N (Wld.clock a0)) fun r2 =>
      some r2
    ) else (
      Option.bind (xAZ N 4) fun r2 =>
      some r2
    )
  ) else (
    bif (((Rea.kind a3) : Int) == 2) then (
      Option.bind (xDd N (Rea.n a3) 1 1000000000) fun r1 =>
      bif (!r1) then (
        Option.bind (xAZ N 5) fun r2 =>
        some r2
      ) else (
        Option.bind (xEe N (Wld.seed a0) a1 a2 (Rea.time a3)) fun r2 =>
        if (Rea.n a3) ≠ (0 : Int) then
        Option.bind (xBn N (Int.tmod r2 (Rea.n a3))) fun r3 =>
        some r3
        else none
      )
    ) else (
      bif (((Rea.kind a3) : Int) == 3) then (
        Option.bind (xCA N a0 (Rea.text a3)) fun r1 =>
        bif (!r1.2) then (
          Option.bind (xAZ N 1) fun r2 =>
          some r2
        ) else (
          Option.bind (xBu N r1.1) fun r2 =>
          bif r2 then (
            Option.bind (xBn N r1.1) fun r3 =>
            some r3
          ) else (
            Option.bind (xAZ N 4) fun r3 =>
            some r3
          )
        )
      ) else (
        Option.bind (xAZ N 4) fun r1 =>
        some r1
      )
    )
  )
def xAv (a0 : Val) (a1 : Val) : List Arg := [.val (.v true [.int .i64 (Val.kind a0), .int .i64 (Val.n a0), .int .i64 (Val.step a0), .str (Val.text a0), .sl .ro .val (Val.list a0), .sl .ro .str (Val.columns a0), .sl .ro .row (Val.rows a0)]), .val (.v true [.int .i64 (Val.kind a1), .int .i64 (Val.n a1), .int .i64 (Val.step a1), .str (Val.text a1), .sl .ro .val (Val.list a1), .sl .ro .str (Val.columns a1), .sl .ro .row (Val.rows a1)])]
def xAh (r : Bool) : CallO := ⟨.v false [.bool r], [], []⟩
def xB0 (N : Nat) (a0 : Val) (a1 : Val) : Option (Bool) :=
  Option.bind (xEB N a0 a1 true) fun r1 =>
  some r1
def xAE (a0 : List Int) : List Arg := [.val (.v false [.sl .ro .byte a0])]
def xAF (r : Bool) : CallO := ⟨.v false [.bool r], [], []⟩
def xCD (N : Nat) (a0 : List Int) : Option (Bool) :=
  Option.bind (laws_big N a0) fun r1 =>
  bif r1 then (
    some true
  ) else (
    Option.bind (xBJ N a0) fun r2 =>
    Option.bind (xA2 N r2.1 r2.2.1 r2.2.2.1 r2.2.2.2) fun r3 =>
    Option.bind (xBe N r2.1 r2.2.1 r2.2.2.1 r2.2.2.2) fun r4 =>
    Option.bind (xB0 N r3 r4) fun r5 =>
    bif (!r5) then (
      some false
    ) else (
      Option.bind (xDi N r3) fun r6 =>
      bif (!r6) then (
        some false
      ) else (
        bif (((Rea.kind r2.2.2.2) : Int) == 2) then (
          bif (decide (((Rea.n r2.2.2.2) : Int) ≥ 1)) then (
            bif (decide (((Rea.n r2.2.2.2) : Int) ≤ 1000000000)) then (
              bif (((Val.kind r3) : Int) == 1) then (
                bif (decide (((Val.n r3) : Int) ≥ 0)) then (
                  bif (decide (((Val.n r3) : Int) < (Rea.n r2.2.2.2))) then (
                    Option.bind (xA2 N (Wld.mk 0 (Wld.seed r2.1) []) r2.2.1 r2.2.2.1 r2.2.2.2) fun r7 =>
                    Option.bind (xB0 N r7 r3) fun r8 =>
                    some r8
                  ) else (
                    some false
                  )
                ) else (
                  some false
                )
              ) else (
                some false
              )
            ) else (
              some true
            )
          ) else (
            some true
          )
        ) else (
          some true
        )
      )
    )
  )
end Go.Ab
end
section
open Go.Proofs
namespace Go.Ab.T
abbrev AbC (f : FuncId) (a : List Arg) (r : CallO) : Prop := AbsCalls Try.prog f a r
end Go.Ab.T
end
section
open Go.Proofs
namespace Go.Ab.T
set_option linter.unusedVariables false
set_option maxRecDepth 100000
def tt : TT := [(3, { zero := some [.int .i64 0], ik := some .i64 }),
 (4, { zero := some [.bool false], isBool := true }),
 (5, { zero := some [.int .u8 0], ik := some .u8 }),
 (9, { zero := some [.str []], isStr := true }),
 (22, { zero := some [.sl .own .val []], elem := some (26, .val) }),
 (23, { zero := some [.sl .own .str []], elem := some (9, .str) }),
 (24, { zero := some [.sl .own .row []], elem := some (133, .row) }),
 (26, { sz := 7, agg := true, zero := some [.int .i64 0, .int .i64 0, .int .i64 0, .str [], .sl .own .val [], .sl .own .str [], .sl .own .row []], offs := [0, 1, 2, 3, 4, 5, 6], fsz := [1, 1, 1, 1, 1, 1, 1] }),
 (28, { zero := some [.sl .own .val []], elem := some (31, .val) }),
 (29, { zero := some [.sl .own .row []], elem := some (107, .row) }),
 (31, { sz := 7, agg := true, zero := some [.int .i64 0, .int .i64 0, .int .i64 0, .str [], .sl .own .val [], .sl .own .str [], .sl .own .row []], offs := [0, 1, 2, 3, 4, 5, 6], fsz := [1, 1, 1, 1, 1, 1, 1] }),
 (49, { sz := 11, agg := true, zero := some [.int .i64 0, .int .i64 0, .int .i64 0, .str [], .int .i64 0, .int .i64 0, .int .i64 0, .str [], .sl .own .val [], .sl .own .str [], .sl .own .row []], offs := [0, 1, 2, 3, 4], fsz := [1, 1, 1, 1, 7] }),
 (56, { zero := some [.sl .own .byte []], elem := some (5, .byte) }),
 (58, { zero := some [.sl .own .fil []], elem := some (69, .fil) }),
 (60, { sz := 3, agg := true, zero := some [.int .i64 0, .int .i64 0, .sl .own .fil []], offs := [0, 1, 2], fsz := [1, 1, 1] }),
 (69, { sz := 2, agg := true, zero := some [.str [], .int .i64 0], offs := [0, 1], fsz := [1, 1] }),
 (102, { zero := some [.sl .own .int []], elem := some (3, .int) }),
 (105, { zero := some [.sl .own .org []], elem := some (156, .org) }),
 (107, { sz := 2, agg := true, zero := some [.sl .own .int [], .sl .own .org []], offs := [0, 1], fsz := [1, 1] }),
 (131, { zero := some [.sl .own .org []], elem := some (165, .org) }),
 (133, { sz := 2, agg := true, zero := some [.sl .own .int [], .sl .own .org []], offs := [0, 1], fsz := [1, 1] }),
 (141, { sz := 3, agg := true, zero := some [.sl .own .byte [], .int .i64 0, .int .i64 0], offs := [0, 1, 2], fsz := [1, 1, 1] }),
 (156, { sz := 2, agg := true, zero := some [.int .i64 0, .int .i64 0], offs := [0, 1], fsz := [1, 1], same := true }),
 (165, { sz := 2, agg := true, zero := some [.int .i64 0, .int .i64 0], offs := [0, 1], fsz := [1, 1], same := true })]
theorem ttok : TTok Try.prog tt := ttChk_ok (by kernel_rfl)
theorem mix : Try.prog.follows .mixedOrders = true := by kernel_rfl
noncomputable def I64 : Info := { body := (Try.f64.body).getD .skip, nt := 23, results := [.tmp 2], keep := [0, 4, 6, 8, 22], live := [(3, [0, 6, 8])], modes := [(5, [(0, .ref, false)]), (6, [(0, .take, false)])], ext := [], lnt := [], casts := [], fcast := [] }
noncomputable def I108 : Info := { body := (Try.f108.body).getD .skip, nt := 15, results := [.tmp 6], keep := [0, 2, 4, 12], live := [], modes := [(1, [(3, .take, false)])], ext := [], lnt := [], casts := [], fcast := [] }
theorem fk108 : FnOk Try.prog 108 Try.f108 I108 := ⟨Try.func108, by kernel_rfl, by kernel_rfl, by kernel_rfl, by kernel_rfl⟩
theorem p108_e_0 (a0 a1 a2 : Int) : run tt (AbsCalls Try.prog) I108 3000 false [.code I108.body] ⟨(zBm 0 (xBV a0 a1 a2)), [true], [], []⟩ = some (.done (xA5 (decide ((a0 : Int) ≤ a2))) [(decide ((a0 : Int) ≥ a1)) = true]) := by kernel_rfl
theorem p108_e_1 (a0 a1 a2 : Int) : run tt (AbsCalls Try.prog) I108 3000 false [.code I108.body] ⟨(zBm 0 (xBV a0 a1 a2)), [false], [], []⟩ = some (.done (xA5 false) [(decide ((a0 : Int) ≥ a1)) = false]) := by kernel_rfl
theorem c108_e {N : Nat} : ∀ a0 a1 a2 r, xDd N a0 a1 a2 = some r → Reach Try.prog Try.f108 I108 [.code I108.body] (zBm 0 (xBV a0 a1 a2)) (xA5 r) := by
 intro a0 a1 a2 r h
 unfold xDd at h
 rcases cond_inv h with ⟨h0, h⟩ | ⟨h0, h⟩
 ·obtain rfl := Option.some.inj h
  exact Reach.done ttok mix fk108 (p108_e_0 a0 a1 a2) (obs_cons h0 obs_nil)
 ·obtain rfl := Option.some.inj h
  exact Reach.done ttok mix fk108 (p108_e_1 a0 a1 a2) (obs_cons h0 obs_nil)
theorem xC8 {N : Nat} {a0 : Int} {a1 : Int} {a2 : Int} {r : Bool} (h : xDd N  a0 a1 a2 = some r) : AbC 108 (xBV a0 a1 a2) (xA5 r) :=
 AbsCalls.of_reach fk108 rfl rfl (Nat.le_of_ble_eq_true rfl) (c108_e a0 a1 a2 r h)
noncomputable def I85 : Info := { body := (Try.f85.body).getD .skip, nt := 5, results := [.tmp 2], keep := [0, 4], live := [], modes := [], ext := [], lnt := [], casts := [], fcast := [] }
theorem fk85 : FnOk Try.prog 85 Try.f85 I85 := ⟨Try.func85, by kernel_rfl, by kernel_rfl, by kernel_rfl, by kernel_rfl⟩
theorem p85_e_0 (a0 : Int) (r1 : Bool) : run tt (AbsCalls Try.prog) I85 3000 false [.code I85.body] ⟨(zBm 0 (xAH a0)), [], [xA5 r1], []⟩ = some (.done (xAl r1) [AbC 108 (xBV a0 (-1000000000) 1000000000) (xA5 r1)]) := by kernel_rfl
theorem c85_e {N : Nat} : ∀ a0 r, xBu N a0 = some r → Reach Try.prog Try.f85 I85 [.code I85.body] (zBm 0 (xAH a0)) (xAl r) := by
 intro a0 r h
 unfold xBu at h
 obtain ⟨r1, h0, h⟩ := bind_inv h
 obtain rfl := Option.some.inj h
 exact Reach.done ttok mix fk85 (p85_e_0 a0 r1) (obs_cons (xC8 h0) obs_nil)
theorem xBc {N : Nat} {a0 : Int} {r : Bool} (h : xBu N  a0 = some r) : AbC 85 (xAH a0) (xAl r) :=
 AbsCalls.of_reach fk85 rfl rfl (Nat.le_of_ble_eq_true rfl) (c85_e a0 r h)
noncomputable def I111 : Info := { body := (Try.f111.body).getD .skip, nt := 29, results := [.tmp 2], keep := [0, 4, 6, 14, 50], live := [(2, [0, 6])], modes := [(4, [(4, .take, false), (10, .take, false)])], ext := [], lnt := [], casts := [], fcast := [] }
theorem fk111 : FnOk Try.prog 111 Try.f111 I111 := ⟨Try.func111, by kernel_rfl, by kernel_rfl, by kernel_rfl, by kernel_rfl⟩
def S111_2 (x0 : Str) (x3 : Int) : St := [(0, .v false [.str x0]), (6, .v false [.int .i64 x3])]
theorem p111_2_0 (x0 : Str) (x3 : Int) : run tt (AbsCalls Try.prog) I111 3000 true (stkAt 2 I111.body) ⟨(S111_2 x0 x3), [true, true, true, true], [], []⟩ = some (.done (xAW false) [(decide ((x3 : Int) < (List.length x0 : Int))) = true, (0 : Int) ≤ x3 ∧ x3 < (List.length x0), (decide ((((List.getD x0 (Int.toNat x3) 0).toNat : Int) : Int) < 32)) = true, true = true, true = true]) := by kernel_rfl
theorem p111_2_1 (x0 : Str) (x3 : Int) : run tt (AbsCalls Try.prog) I111 3000 true (stkAt 2 I111.body) ⟨(S111_2 x0 x3), [true, false, true, true], [], []⟩ = some (.done (xAW false) [(decide ((x3 : Int) < (List.length x0 : Int))) = true, (0 : Int) ≤ x3 ∧ x3 < (List.length x0), (decide ((((List.getD x0 (Int.toNat x3) 0).toNat : Int) : Int) < 32)) = false, (0 : Int) ≤ x3 ∧ x3 < (List.length x0), (decide ((((List.getD x0 (Int.toNat x3) 0).toNat : Int) : Int) > 126)) = true, true = true]) := by kernel_rfl
theorem p111_2_2 (x0 : Str) (x3 : Int) : run tt (AbsCalls Try.prog) I111 3000 true (stkAt 2 I111.body) ⟨(S111_2 x0 x3), [true, false, false, true], [], []⟩ = some (.done (xAW false) [(decide ((x3 : Int) < (List.length x0 : Int))) = true, (0 : Int) ≤ x3 ∧ x3 < (List.length x0), (decide ((((List.getD x0 (Int.toNat x3) 0).toNat : Int) : Int) < 32)) = false, (0 : Int) ≤ x3 ∧ x3 < (List.length x0), (decide ((((List.getD x0 (Int.toNat x3) 0).toNat : Int) : Int) > 126)) = false, (0 : Int) ≤ x3 ∧ x3 < (List.length x0), ((((List.getD x0 (Int.toNat x3) 0).toNat : Int) : Int) == 34) = true]) := by kernel_rfl
theorem p111_2_3 (x0 : Str) (x3 : Int) : run tt (AbsCalls Try.prog) I111 3000 true (stkAt 2 I111.body) ⟨(S111_2 x0 x3), [true, false, false, false], [], []⟩ = some (.stop (stkAt 2 I111.body) (S111_2 x0 (IntKind.i64.wrap (x3 + 1))) [(decide ((x3 : Int) < (List.length x0 : Int))) = true, (0 : Int) ≤ x3 ∧ x3 < (List.length x0), (decide ((((List.getD x0 (Int.toNat x3) 0).toNat : Int) : Int) < 32)) = false, (0 : Int) ≤ x3 ∧ x3 < (List.length x0), (decide ((((List.getD x0 (Int.toNat x3) 0).toNat : Int) : Int) > 126)) = false, (0 : Int) ≤ x3 ∧ x3 < (List.length x0), ((((List.getD x0 (Int.toNat x3) 0).toNat : Int) : Int) == 34) = false]) := by kernel_rfl
theorem p111_2_4 (x0 : Str) (x3 : Int) : run tt (AbsCalls Try.prog) I111 3000 true (stkAt 2 I111.body) ⟨(S111_2 x0 x3), [false], [], []⟩ = some (.done (xAW (decide (((List.length x0 : Int) : Int) ≤ 20))) [(decide ((x3 : Int) < (List.length x0 : Int))) = false]) := by kernel_rfl
theorem p111_e_5 (a0 : Str) : run tt (AbsCalls Try.prog) I111 3000 false [.code I111.body] ⟨(zBm 0 (xCu a0)), [], [], []⟩ = some (.stop (stkAt 2 I111.body) (S111_2 a0 0) []) := by kernel_rfl
theorem c111_2 {N : Nat} : ∀ n x0 x3 r, xAV N n x0 x3 = some r → Reach Try.prog Try.f111 I111 (stkAt 2 I111.body) (S111_2 x0 x3) (xAW r) := by
 intro n
 induction n with
 | zero => intro x0 x3 r h; have h' : (none : Option (Bool)) = some r := h; cases h'
 | succ n ih =>
  intro x0 x3 r h
  rw [xAV] at h
  rcases cond_inv h with ⟨h0, h⟩ | ⟨h0, h⟩
  ·obtain ⟨h1, h⟩ := ite_inv h
   rcases cond_inv h with ⟨h2, h⟩ | ⟨h2, h⟩
   ·obtain rfl := Option.some.inj h
    exact Reach.done ttok mix fk111 (p111_2_0 x0 x3) (obs_cons h0 (obs_cons h1 (obs_cons h2 (obs_cons rfl (obs_cons rfl obs_nil)))))
   ·rcases cond_inv h with ⟨h4, h⟩ | ⟨h4, h⟩
    ·obtain rfl := Option.some.inj h
     exact Reach.done ttok mix fk111 (p111_2_1 x0 x3) (obs_cons h0 (obs_cons h1 (obs_cons h2 (obs_cons h1 (obs_cons h4 (obs_cons rfl obs_nil))))))
    ·rcases cond_inv h with ⟨h6, h⟩ | ⟨h6, h⟩
     ·obtain rfl := Option.some.inj h
      exact Reach.done ttok mix fk111 (p111_2_2 x0 x3) (obs_cons h0 (obs_cons h1 (obs_cons h2 (obs_cons h1 (obs_cons h4 (obs_cons h1 (obs_cons h6 obs_nil)))))))
     ·exact Reach.stop ttok mix fk111 (p111_2_3 x0 x3) (obs_cons h0 (obs_cons h1 (obs_cons h2 (obs_cons h1 (obs_cons h4 (obs_cons h1 (obs_cons h6 obs_nil))))))) (ih _ _ _ h)
  ·obtain rfl := Option.some.inj h
   exact Reach.done ttok mix fk111 (p111_2_4 x0 x3) (obs_cons h0 obs_nil)
theorem c111_e {N : Nat} : ∀ a0 r, xCB N a0 = some r → Reach Try.prog Try.f111 I111 [.code I111.body] (zBm 0 (xCu a0)) (xAW r) := by
 intro a0 r h
 unfold xCB at h
 exact Reach.stop ttok mix fk111 (p111_e_5 a0) obs_nil (c111_2   _ _ _ _ h)
theorem xEy {N : Nat} {a0 : Str} {r : Bool} (h : xCB N  a0 = some r) : AbC 111 (xCu a0) (xAW r) :=
 AbsCalls.of_reach fk111 rfl rfl (Nat.le_of_ble_eq_true rfl) (c111_e a0 r h)
noncomputable def I152 : Info := { body := (Try.f152.body).getD .skip, nt := 16, results := [.tmp 2], keep := [0, 2, 4, 3], live := [], modes := [(1, [(3, .take, false), (8, .take, false)])], ext := [], lnt := [], casts := [], fcast := [] }
theorem fk152 : FnOk Try.prog 152 Try.f152 I152 := ⟨Try.func152, by kernel_rfl, by kernel_rfl, by kernel_rfl, by kernel_rfl⟩
theorem p152_e_0 (a0 : Val) : run tt (AbsCalls Try.prog) I152 3000 false [.code I152.body] ⟨(zBm 0 (xBr a0)), [true, true], [], []⟩ = some (.done (xAN true) [(((Val.kind a0) : Int) == 1) = true, true = true]) := by kernel_rfl
theorem p152_e_1 (a0 : Val) : run tt (AbsCalls Try.prog) I152 3000 false [.code I152.body] ⟨(zBm 0 (xBr a0)), [false, true], [], []⟩ = some (.done (xAN true) [(((Val.kind a0) : Int) == 1) = false, (((Val.kind a0) : Int) == 2) = true]) := by kernel_rfl
theorem p152_e_2 (a0 : Val) : run tt (AbsCalls Try.prog) I152 3000 false [.code I152.body] ⟨(zBm 0 (xBr a0)), [false, false], [], []⟩ = some (.done (xAN (((Val.kind a0) : Int) == 3)) [(((Val.kind a0) : Int) == 1) = false, (((Val.kind a0) : Int) == 2) = false]) := by kernel_rfl
theorem c152_e {N : Nat} : ∀ a0 r, xC0 N a0 = some r → Reach Try.prog Try.f152 I152 [.code I152.body] (zBm 0 (xBr a0)) (xAN r) := by
 intro a0 r h
 unfold xC0 at h
 rcases cond_inv h with ⟨h0, h⟩ | ⟨h0, h⟩
 ·obtain rfl := Option.some.inj h
  exact Reach.done ttok mix fk152 (p152_e_0 a0) (obs_cons h0 (obs_cons rfl obs_nil))
 ·rcases cond_inv h with ⟨h1, h⟩ | ⟨h1, h⟩
  ·obtain rfl := Option.some.inj h
   exact Reach.done ttok mix fk152 (p152_e_1 a0) (obs_cons h0 (obs_cons h1 obs_nil))
  ·obtain rfl := Option.some.inj h
   exact Reach.done ttok mix fk152 (p152_e_2 a0) (obs_cons h0 (obs_cons h1 obs_nil))
theorem xDm {N : Nat} {a0 : Val} {r : Bool} (h : xC0 N  a0 = some r) : AbC 152 (xBr a0) (xAN r) :=
 AbsCalls.of_reach fk152 rfl rfl (Nat.le_of_ble_eq_true rfl) (c152_e a0 r h)
noncomputable def I177 : Info := { body := (Try.f177.body).getD .skip, nt := 10, results := [.tmp 4], keep := [0, 2, 8, 14], live := [], modes := [], ext := [], lnt := [], casts := [], fcast := [] }
theorem fk177 : FnOk Try.prog 177 Try.f177 I177 := ⟨Try.func177, by kernel_rfl, by kernel_rfl, by kernel_rfl, by kernel_rfl⟩
theorem p177_e_0 (a0 a1 : Int) : run tt (AbsCalls Try.prog) I177 3000 false [.code I177.body] ⟨(zBm 0 (xDe a0 a1)), [true], [], []⟩ = some (.done (xCS a0) [(decide ((a0 : Int) > a1)) = true]) := by kernel_rfl
theorem p177_e_1 (a0 a1 : Int) : run tt (AbsCalls Try.prog) I177 3000 false [.code I177.body] ⟨(zBm 0 (xDe a0 a1)), [false], [], []⟩ = some (.done (xCS a1) [(decide ((a0 : Int) > a1)) = false]) := by kernel_rfl
theorem c177_e {N : Nat} : ∀ a0 a1 r, xDx N a0 a1 = some r → Reach Try.prog Try.f177 I177 [.code I177.body] (zBm 0 (xDe a0 a1)) (xCS r) := by
 intro a0 a1 r h
 unfold xDx at h
 rcases cond_inv h with ⟨h0, h⟩ | ⟨h0, h⟩
 ·obtain rfl := Option.some.inj h
  exact Reach.done ttok mix fk177 (p177_e_0 a0 a1) (obs_cons h0 obs_nil)
 ·obtain rfl := Option.some.inj h
  exact Reach.done ttok mix fk177 (p177_e_1 a0 a1) (obs_cons h0 obs_nil)
theorem spec_l1Max_ok {N : Nat} {a0 : Int} {a1 : Int} {r : Int} (h : xDx N  a0 a1 = some r) : AbC 177 (xDe a0 a1) (xCS r) :=
 AbsCalls.of_reach fk177 rfl rfl (Nat.le_of_ble_eq_true rfl) (c177_e a0 a1 r h)
noncomputable def I153 : Info := { body := (Try.f153.body).getD .skip, nt := 22, results := [.tmp 2], keep := [0, 2, 4, 6, 8, 18, 3], live := [(3, [2, 6, 8, 3])], modes := [], ext := [], lnt := [], casts := [], fcast := [] }
theorem fk153 : FnOk Try.prog 153 Try.f153 I153 := ⟨Try.func153, by kernel_rfl, by kernel_rfl, by kernel_rfl, by kernel_rfl⟩
def S153_3 (x3 x4 : Int) (b1 : Val) : St := [(2, .v false [.ptr 1 0]), (6, .v false [.int .i64 x3]), (8, .v false [.int .i64 x4]), (3, .v true [.int .i64 (Val.kind b1), .int .i64 (Val.n b1), .int .i64 (Val.step b1), .str (Val.text b1), .sl .ro .val (Val.list b1), .sl .ro .str (Val.columns b1), .sl .ro .row (Val.rows b1)])]
theorem p153_3_0 (x3 x4 : Int) (b1 : Val) (r1 r2 : Int) : run tt (AbsCalls Try.prog) I153 3000 true (stkAt 3 I153.body) ⟨(S153_3 x3 x4 b1), [true], [xAM r1, xCS r2], []⟩ = some (.stop (stkAt 3 I153.body) (S153_3 r2 (IntKind.i64.wrap (x4 + 1)) b1) [(decide ((x4 : Int) < (List.length (Val.list b1) : Int))) = true, (0 : Int) ≤ x4 ∧ x4 < (List.length (Val.list b1)), AbC 153 (xBh (List.getD (Val.list b1) (Int.toNat x4) Ty.val.dflt)) (xAM r1), AbC 177 (xDe x3 r1) (xCS r2)]) := by kernel_rfl
theorem p153_3_1 (x3 x4 : Int) (b1 : Val) : run tt (AbsCalls Try.prog) I153 3000 true (stkAt 3 I153.body) ⟨(S153_3 x3 x4 b1), [false], [], []⟩ = some (.done (xAM (IntKind.i64.wrap (x3 + 1))) [(decide ((x4 : Int) < (List.length (Val.list b1) : Int))) = false]) := by kernel_rfl
theorem p153_e_2 (a0 : Val) : run tt (AbsCalls Try.prog) I153 3000 false [.code I153.body] ⟨(zBm 0 (xBh a0)), [], [], []⟩ = some (.stop (stkAt 3 I153.body) (S153_3 0 0 a0) []) := by kernel_rfl
theorem c153_3 {N : Nat} {rc_spec_DepthOf : Val → Option (Int)} (hrc_spec_DepthOf : ∀ a0 r, rc_spec_DepthOf a0 = some r → AbC 153 (xBh a0) (xAM r)) : ∀ n x3 x4 b1 r, xBZ N rc_spec_DepthOf n x3 x4 b1 = some r → Reach Try.prog Try.f153 I153 (stkAt 3 I153.body) (S153_3 x3 x4 b1) (xAM r) := by
 intro n
 induction n with
 | zero => intro x3 x4 b1 r h; have h' : (none : Option (Int)) = some r := h; cases h'
 | succ n ih =>
  intro x3 x4 b1 r h
  rw [xBZ] at h
  rcases cond_inv h with ⟨h0, h⟩ | ⟨h0, h⟩
  ·obtain ⟨h1, h⟩ := ite_inv h
   obtain ⟨r1, h2, h⟩ := bind_inv h
   obtain ⟨r2, h3, h⟩ := bind_inv h
   exact Reach.stop ttok mix fk153 (p153_3_0 x3 x4 b1 r1 r2) (obs_cons h0 (obs_cons h1 (obs_cons (hrc_spec_DepthOf _ _ h2) (obs_cons (spec_l1Max_ok h3) obs_nil)))) (ih _ _ _ _ h)
  ·obtain rfl := Option.some.inj h
   exact Reach.done ttok mix fk153 (p153_3_1 x3 x4 b1) (obs_cons h0 obs_nil)
theorem c153_e {N : Nat} {rc_spec_DepthOf : Val → Option (Int)} (hrc_spec_DepthOf : ∀ a0 r, rc_spec_DepthOf a0 = some r → AbC 153 (xBh a0) (xAM r)) : ∀ a0 r, xCQ N rc_spec_DepthOf a0 = some r → Reach Try.prog Try.f153 I153 [.code I153.body] (zBm 0 (xBh a0)) (xAM r) := by
 intro a0 r h
 unfold xCQ at h
 exact Reach.stop ttok mix fk153 (p153_e_2 a0) obs_nil (c153_3 hrc_spec_DepthOf  _ _ _ _ _ h)
theorem xEg {N : Nat} {rc_spec_DepthOf : Val → Option (Int)} (hrc_spec_DepthOf : ∀ a0 r, rc_spec_DepthOf a0 = some r → AbC 153 (xBh a0) (xAM r)) {a0 : Val} {r : Int} (h : xCQ N rc_spec_DepthOf a0 = some r) : AbC 153 (xBh a0) (xAM r) :=
 AbsCalls.of_reach fk153 rfl rfl (Nat.le_of_ble_eq_true rfl) (c153_e hrc_spec_DepthOf a0 r h)
theorem xEv {N : Nat} : ∀ d, (∀ a0 r, xB6 N d a0 = some r → AbC 153 (xBh a0) (xAM r)) := by
 intro d
 induction d with
 | zero => intro _ r h; have h' : (none : Option (Int)) = some r := h; cases h'
 | succ d ih => intro _ r h; exact xEg (N := N) ih h
theorem spec_DepthOf_ok {N : Nat} {a0 : Val} {r : Int} (h : xDK N a0 = some r) : AbC 153 (xBh a0) (xAM r) := xEv N _ r h
noncomputable def I137 : Info := { body := (Try.f137.body).getD .skip, nt := 45, results := [.tmp 2], keep := [0, 4, 6, 8, 10, 18, 82], live := [(2, [0, 6])], modes := [(4, [(4, .take, false)]), (5, [(4, .take, false)]), (6, [(0, .take, false), (2, .take, false), (5, .take, false), (6, .take, false)])], ext := [], lnt := [], casts := [], fcast := [] }
theorem xEk : FnOk Try.prog 137 Try.f137 I137 := ⟨Try.func137, by kernel_rfl, by kernel_rfl, by kernel_rfl, by kernel_rfl⟩
def xDb (x0 : Str) (x3 : Int) : St := [(0, .v false [.str x0]), (6, .v false [.int .i64 x3])]
theorem p137_2_0 (x0 : Str) (x3 : Int) : run tt (AbsCalls Try.prog) I137 3000 true (stkAt 2 I137.body) ⟨(xDb x0 x3), [true, true, true, true, true, true], [], []⟩ = some (.done (xAq false) [(decide ((x3 : Int) < (List.length x0 : Int))) = true, (0 : Int) ≤ x3 ∧ x3 < (List.length x0), (decide ((((List.getD x0 (Int.toNat x3) 0).toNat : Int) : Int) ≥ 97)) = true, (0 : Int) ≤ x3 ∧ x3 < (List.length x0), (0 : Int) ≤ x3 ∧ x3 < (List.length x0), (decide ((((List.getD x0 (Int.toNat x3) 0).toNat : Int) : Int) ≥ 48)) = true, (0 : Int) ≤ x3 ∧ x3 < (List.length x0), (!(decide ((((List.getD x0 (Int.toNat x3) 0).toNat : Int) : Int) ≤ 122))) = true, ((x3 : Int) == 0) = true, true = true]) := by kernel_rfl
theorem p137_2_1 (x0 : Str) (x3 : Int) : run tt (AbsCalls Try.prog) I137 3000 true (stkAt 2 I137.body) ⟨(xDb x0 x3), [true, true, true, true, false, true], [], []⟩ = some (.done (xAq false) [(decide ((x3 : Int) < (List.length x0 : Int))) = true, (0 : Int) ≤ x3 ∧ x3 < (List.length x0), (decide ((((List.getD x0 (Int.toNat x3) 0).toNat : Int) : Int) ≥ 97)) = true, (0 : Int) ≤ x3 ∧ x3 < (List.length x0), (0 : Int) ≤ x3 ∧ x3 < (List.length x0), (decide ((((List.getD x0 (Int.toNat x3) 0).toNat : Int) : Int) ≥ 48)) = true, (0 : Int) ≤ x3 ∧ x3 < (List.length x0), (!(decide ((((List.getD x0 (Int.toNat x3) 0).toNat : Int) : Int) ≤ 122))) = true, ((x3 : Int) == 0) = false, (!(decide ((((List.getD x0 (Int.toNat x3) 0).toNat : Int) : Int) ≤ 57))) = true]) := by kernel_rfl
theorem p137_2_2 (x0 : Str) (x3 : Int) : run tt (AbsCalls Try.prog) I137 3000 true (stkAt 2 I137.body) ⟨(xDb x0 x3), [true, true, true, true, false, false], [], []⟩ = some (.stop (stkAt 2 I137.body) (xDb x0 (IntKind.i64.wrap (x3 + 1))) [(decide ((x3 : Int) < (List.length x0 : Int))) = true, (0 : Int) ≤ x3 ∧ x3 < (List.length x0), (decide ((((List.getD x0 (Int.toNat x3) 0).toNat : Int) : Int) ≥ 97)) = true, (0 : Int) ≤ x3 ∧ x3 < (List.length x0), (0 : Int) ≤ x3 ∧ x3 < (List.length x0), (decide ((((List.getD x0 (Int.toNat x3) 0).toNat : Int) : Int) ≥ 48)) = true, (0 : Int) ≤ x3 ∧ x3 < (List.length x0), (!(decide ((((List.getD x0 (Int.toNat x3) 0).toNat : Int) : Int) ≤ 122))) = true, ((x3 : Int) == 0) = false, (!(decide ((((List.getD x0 (Int.toNat x3) 0).toNat : Int) : Int) ≤ 57))) = false]) := by kernel_rfl
theorem p137_2_3 (x0 : Str) (x3 : Int) : run tt (AbsCalls Try.prog) I137 3000 true (stkAt 2 I137.body) ⟨(xDb x0 x3), [true, true, true, false, false], [], []⟩ = some (.stop (stkAt 2 I137.body) (xDb x0 (IntKind.i64.wrap (x3 + 1))) [(decide ((x3 : Int) < (List.length x0 : Int))) = true, (0 : Int) ≤ x3 ∧ x3 < (List.length x0), (decide ((((List.getD x0 (Int.toNat x3) 0).toNat : Int) : Int) ≥ 97)) = true, (0 : Int) ≤ x3 ∧ x3 < (List.length x0), (0 : Int) ≤ x3 ∧ x3 < (List.length x0), (decide ((((List.getD x0 (Int.toNat x3) 0).toNat : Int) : Int) ≥ 48)) = true, (0 : Int) ≤ x3 ∧ x3 < (List.length x0), (!(decide ((((List.getD x0 (Int.toNat x3) 0).toNat : Int) : Int) ≤ 122))) = false, false = false]) := by kernel_rfl
theorem p137_2_4 (x0 : Str) (x3 : Int) : run tt (AbsCalls Try.prog) I137 3000 true (stkAt 2 I137.body) ⟨(xDb x0 x3), [true, true, false, true, true, true], [], []⟩ = some (.done (xAq false) [(decide ((x3 : Int) < (List.length x0 : Int))) = true, (0 : Int) ≤ x3 ∧ x3 < (List.length x0), (decide ((((List.getD x0 (Int.toNat x3) 0).toNat : Int) : Int) ≥ 97)) = true, (0 : Int) ≤ x3 ∧ x3 < (List.length x0), (0 : Int) ≤ x3 ∧ x3 < (List.length x0), (decide ((((List.getD x0 (Int.toNat x3) 0).toNat : Int) : Int) ≥ 48)) = false, (!(decide ((((List.getD x0 (Int.toNat x3) 0).toNat : Int) : Int) ≤ 122))) = true, ((x3 : Int) == 0) = true, true = true]) := by kernel_rfl
theorem p137_2_5 (x0 : Str) (x3 : Int) : run tt (AbsCalls Try.prog) I137 3000 true (stkAt 2 I137.body) ⟨(xDb x0 x3), [true, true, false, true, false, true], [], []⟩ = some (.done (xAq false) [(decide ((x3 : Int) < (List.length x0 : Int))) = true, (0 : Int) ≤ x3 ∧ x3 < (List.length x0), (decide ((((List.getD x0 (Int.toNat x3) 0).toNat : Int) : Int) ≥ 97)) = true, (0 : Int) ≤ x3 ∧ x3 < (List.length x0), (0 : Int) ≤ x3 ∧ x3 < (List.length x0), (decide ((((List.getD x0 (Int.toNat x3) 0).toNat : Int) : Int) ≥ 48)) = false, (!(decide ((((List.getD x0 (Int.toNat x3) 0).toNat : Int) : Int) ≤ 122))) = true, ((x3 : Int) == 0) = false, (!false) = true]) := by kernel_rfl
theorem p137_2_6 (x0 : Str) (x3 : Int) : run tt (AbsCalls Try.prog) I137 3000 true (stkAt 2 I137.body) ⟨(xDb x0 x3), [true, true, false, false, false], [], []⟩ = some (.stop (stkAt 2 I137.body) (xDb x0 (IntKind.i64.wrap (x3 + 1))) [(decide ((x3 : Int) < (List.length x0 : Int))) = true, (0 : Int) ≤ x3 ∧ x3 < (List.length x0), (decide ((((List.getD x0 (Int.toNat x3) 0).toNat : Int) : Int) ≥ 97)) = true, (0 : Int) ≤ x3 ∧ x3 < (List.length x0), (0 : Int) ≤ x3 ∧ x3 < (List.length x0), (decide ((((List.getD x0 (Int.toNat x3) 0).toNat : Int) : Int) ≥ 48)) = false, (!(decide ((((List.getD x0 (Int.toNat x3) 0).toNat : Int) : Int) ≤ 122))) = false, false = false]) := by kernel_rfl
theorem p137_2_7 (x0 : Str) (x3 : Int) : run tt (AbsCalls Try.prog) I137 3000 true (stkAt 2 I137.body) ⟨(xDb x0 x3), [true, false, true, true, true, true], [], []⟩ = some (.done (xAq false) [(decide ((x3 : Int) < (List.length x0 : Int))) = true, (0 : Int) ≤ x3 ∧ x3 < (List.length x0), (decide ((((List.getD x0 (Int.toNat x3) 0).toNat : Int) : Int) ≥ 97)) = false, (0 : Int) ≤ x3 ∧ x3 < (List.length x0), (decide ((((List.getD x0 (Int.toNat x3) 0).toNat : Int) : Int) ≥ 48)) = true, (0 : Int) ≤ x3 ∧ x3 < (List.length x0), (!false) = true, ((x3 : Int) == 0) = true, true = true]) := by kernel_rfl
theorem p137_2_8 (x0 : Str) (x3 : Int) : run tt (AbsCalls Try.prog) I137 3000 true (stkAt 2 I137.body) ⟨(xDb x0 x3), [true, false, true, true, false, true], [], []⟩ = some (.done (xAq false) [(decide ((x3 : Int) < (List.length x0 : Int))) = true, (0 : Int) ≤ x3 ∧ x3 < (List.length x0), (decide ((((List.getD x0 (Int.toNat x3) 0).toNat : Int) : Int) ≥ 97)) = false, (0 : Int) ≤ x3 ∧ x3 < (List.length x0), (decide ((((List.getD x0 (Int.toNat x3) 0).toNat : Int) : Int) ≥ 48)) = true, (0 : Int) ≤ x3 ∧ x3 < (List.length x0), (!false) = true, ((x3 : Int) == 0) = false, (!(decide ((((List.getD x0 (Int.toNat x3) 0).toNat : Int) : Int) ≤ 57))) = true]) := by kernel_rfl
theorem p137_2_9 (x0 : Str) (x3 : Int) : run tt (AbsCalls Try.prog) I137 3000 true (stkAt 2 I137.body) ⟨(xDb x0 x3), [true, false, true, true, false, false], [], []⟩ = some (.stop (stkAt 2 I137.body) (xDb x0 (IntKind.i64.wrap (x3 + 1))) [(decide ((x3 : Int) < (List.length x0 : Int))) = true, (0 : Int) ≤ x3 ∧ x3 < (List.length x0), (decide ((((List.getD x0 (Int.toNat x3) 0).toNat : Int) : Int) ≥ 97)) = false, (0 : Int) ≤ x3 ∧ x3 < (List.length x0), (decide ((((List.getD x0 (Int.toNat x3) 0).toNat : Int) : Int) ≥ 48)) = true, (0 : Int) ≤ x3 ∧ x3 < (List.length x0), (!false) = true, ((x3 : Int) == 0) = false, (!(decide ((((List.getD x0 (Int.toNat x3) 0).toNat : Int) : Int) ≤ 57))) = false]) := by kernel_rfl
theorem p137_2_10 (x0 : Str) (x3 : Int) : run tt (AbsCalls Try.prog) I137 3000 true (stkAt 2 I137.body) ⟨(xDb x0 x3), [true, false, false, true, true, true], [], []⟩ = some (.done (xAq false) [(decide ((x3 : Int) < (List.length x0 : Int))) = true, (0 : Int) ≤ x3 ∧ x3 < (List.length x0), (decide ((((List.getD x0 (Int.toNat x3) 0).toNat : Int) : Int) ≥ 97)) = false, (0 : Int) ≤ x3 ∧ x3 < (List.length x0), (decide ((((List.getD x0 (Int.toNat x3) 0).toNat : Int) : Int) ≥ 48)) = false, (!false) = true, ((x3 : Int) == 0) = true, true = true]) := by kernel_rfl
theorem p137_2_11 (x0 : Str) (x3 : Int) : run tt (AbsCalls Try.prog) I137 3000 true (stkAt 2 I137.body) ⟨(xDb x0 x3), [true, false, false, true, false, true], [], []⟩ = some (.done (xAq false) [(decide ((x3 : Int) < (List.length x0 : Int))) = true, (0 : Int) ≤ x3 ∧ x3 < (List.length x0), (decide ((((List.getD x0 (Int.toNat x3) 0).toNat : Int) : Int) ≥ 97)) = false, (0 : Int) ≤ x3 ∧ x3 < (List.length x0), (decide ((((List.getD x0 (Int.toNat x3) 0).toNat : Int) : Int) ≥ 48)) = false, (!false) = true, ((x3 : Int) == 0) = false, (!false) = true]) := by kernel_rfl
theorem p137_2_12 (x0 : Str) (x3 : Int) : run tt (AbsCalls Try.prog) I137 3000 true (stkAt 2 I137.body) ⟨(xDb x0 x3), [false], [], []⟩ = some (.done (xAq (decide (((List.length x0 : Int) : Int) > 0))) [(decide ((x3 : Int) < (List.length x0 : Int))) = false]) := by kernel_rfl
theorem p137_e_13 (a0 : Str) : run tt (AbsCalls Try.prog) I137 3000 false [.code I137.body] ⟨(zBm 0 (xCq a0)), [], [], []⟩ = some (.stop (stkAt 2 I137.body) (xDb a0 0) []) := by kernel_rfl
theorem c137_2 {N : Nat} : ∀ n x0 x3 r, xBa N n x0 x3 = some r → Reach Try.prog Try.f137 I137 (stkAt 2 I137.body) (xDb x0 x3) (xAq r) := by
 intro n
 induction n with
 | zero => intro x0 x3 r h; have h' : (none : Option (Bool)) = some r := h; cases h'
 | succ n ih =>
  intro x0 x3 r h
  rw [xBa] at h
  rcases cond_inv h with ⟨h0, h⟩ | ⟨h0, h⟩
  ·obtain ⟨h1, h⟩ := ite_inv h
   rcases cond_inv h with ⟨h2, h⟩ | ⟨h2, h⟩
   ·rcases cond_inv h with ⟨h5, h⟩ | ⟨h5, h⟩
    ·rcases cond_inv h with ⟨h7, h⟩ | ⟨h7, h⟩
     ·rcases cond_inv h with ⟨h8, h⟩ | ⟨h8, h⟩
      ·obtain rfl := Option.some.inj h
       exact Reach.done ttok mix xEk (p137_2_0 x0 x3) (obs_cons h0 (obs_cons h1 (obs_cons h2 (obs_cons h1 (obs_cons h1 (obs_cons h5 (obs_cons h1 (obs_cons h7 (obs_cons h8 (obs_cons rfl obs_nil))))))))))
      ·rcases cond_inv h with ⟨h9, h⟩ | ⟨h9, h⟩
       ·obtain rfl := Option.some.inj h
        exact Reach.done ttok mix xEk (p137_2_1 x0 x3) (obs_cons h0 (obs_cons h1 (obs_cons h2 (obs_cons h1 (obs_cons h1 (obs_cons h5 (obs_cons h1 (obs_cons h7 (obs_cons h8 (obs_cons h9 obs_nil))))))))))
       ·exact Reach.stop ttok mix xEk (p137_2_2 x0 x3) (obs_cons h0 (obs_cons h1 (obs_cons h2 (obs_cons h1 (obs_cons h1 (obs_cons h5 (obs_cons h1 (obs_cons h7 (obs_cons h8 (obs_cons h9 obs_nil)))))))))) (ih _ _ _ h)
     ·exact Reach.stop ttok mix xEk (p137_2_3 x0 x3) (obs_cons h0 (obs_cons h1 (obs_cons h2 (obs_cons h1 (obs_cons h1 (obs_cons h5 (obs_cons h1 (obs_cons h7 (obs_cons rfl obs_nil))))))))) (ih _ _ _ h)
    ·rcases cond_inv h with ⟨h6, h⟩ | ⟨h6, h⟩
     ·rcases cond_inv h with ⟨h7, h⟩ | ⟨h7, h⟩
      ·obtain rfl := Option.some.inj h
       exact Reach.done ttok mix xEk (p137_2_4 x0 x3) (obs_cons h0 (obs_cons h1 (obs_cons h2 (obs_cons h1 (obs_cons h1 (obs_cons h5 (obs_cons h6 (obs_cons h7 (obs_cons rfl obs_nil)))))))))
      ·obtain rfl := Option.some.inj h
       exact Reach.done ttok mix xEk (p137_2_5 x0 x3) (obs_cons h0 (obs_cons h1 (obs_cons h2 (obs_cons h1 (obs_cons h1 (obs_cons h5 (obs_cons h6 (obs_cons h7 (obs_cons rfl obs_nil)))))))))
     ·exact Reach.stop ttok mix xEk (p137_2_6 x0 x3) (obs_cons h0 (obs_cons h1 (obs_cons h2 (obs_cons h1 (obs_cons h1 (obs_cons h5 (obs_cons h6 (obs_cons rfl obs_nil)))))))) (ih _ _ _ h)
   ·rcases cond_inv h with ⟨h4, h⟩ | ⟨h4, h⟩
    ·rcases cond_inv h with ⟨h7, h⟩ | ⟨h7, h⟩
     ·obtain rfl := Option.some.inj h
      exact Reach.done ttok mix xEk (p137_2_7 x0 x3) (obs_cons h0 (obs_cons h1 (obs_cons h2 (obs_cons h1 (obs_cons h4 (obs_cons h1 (obs_cons rfl (obs_cons h7 (obs_cons rfl obs_nil)))))))))
     ·rcases cond_inv h with ⟨h8, h⟩ | ⟨h8, h⟩
      ·obtain rfl := Option.some.inj h
       exact Reach.done ttok mix xEk (p137_2_8 x0 x3) (obs_cons h0 (obs_cons h1 (obs_cons h2 (obs_cons h1 (obs_cons h4 (obs_cons h1 (obs_cons rfl (obs_cons h7 (obs_cons h8 obs_nil)))))))))
      ·exact Reach.stop ttok mix xEk (p137_2_9 x0 x3) (obs_cons h0 (obs_cons h1 (obs_cons h2 (obs_cons h1 (obs_cons h4 (obs_cons h1 (obs_cons rfl (obs_cons h7 (obs_cons h8 obs_nil))))))))) (ih _ _ _ h)
    ·rcases cond_inv h with ⟨h6, h⟩ | ⟨h6, h⟩
     ·obtain rfl := Option.some.inj h
      exact Reach.done ttok mix xEk (p137_2_10 x0 x3) (obs_cons h0 (obs_cons h1 (obs_cons h2 (obs_cons h1 (obs_cons h4 (obs_cons rfl (obs_cons h6 (obs_cons rfl obs_nil))))))))
     ·obtain rfl := Option.some.inj h
      exact Reach.done ttok mix xEk (p137_2_11 x0 x3) (obs_cons h0 (obs_cons h1 (obs_cons h2 (obs_cons h1 (obs_cons h4 (obs_cons rfl (obs_cons h6 (obs_cons rfl obs_nil))))))))
  ·obtain rfl := Option.some.inj h
   exact Reach.done ttok mix xEk (p137_2_12 x0 x3) (obs_cons h0 obs_nil)
theorem c137_e {N : Nat} : ∀ a0 r, xDt N a0 = some r → Reach Try.prog Try.f137 I137 [.code I137.body] (zBm 0 (xCq a0)) (xAq r) := by
 intro a0 r h
 unfold xDt at h
 exact Reach.stop ttok mix xEk (p137_e_13 a0) obs_nil (c137_2   _ _ _ _ h)
theorem xDD {N : Nat} {a0 : Str} {r : Bool} (h : xDt N  a0 = some r) : AbC 137 (xCq a0) (xAq r) :=
 AbsCalls.of_reach xEk rfl rfl (Nat.le_of_ble_eq_true rfl) (c137_e a0 r h)
noncomputable def I175 : Info := { body := (Try.f175.body).getD .skip, nt := 2, results := [.tmp 0], keep := [0], live := [], modes := [], ext := [], lnt := [], casts := [], fcast := [] }
theorem fk175 : FnOk Try.prog 175 Try.f175 I175 := ⟨Try.func175, by kernel_rfl, by kernel_rfl, by kernel_rfl, by kernel_rfl⟩
theorem p175_e_0 : run tt (AbsCalls Try.prog) I175 3000 false [.code I175.body] ⟨(zBm 0 (xCJ )), [], [], []⟩ = some (.done (xCd [[108, 101, 116], [105, 110], [105, 102], [116, 104, 101, 110], [101, 108, 115, 101], [102, 111, 114], [100, 111], [108, 101, 110], [115, 117, 109], [116, 97, 107, 101], [115, 107, 105, 112], [114, 97, 110, 103, 101], [110, 116, 104], [119, 104, 101, 114, 101], [107, 101, 101, 112], [97, 100, 100], [103, 114, 111, 117, 112], [106, 111, 105, 110], [99, 111, 108, 117, 109, 110], [114, 111, 119, 115], [99, 108, 111, 99, 107], [99, 104, 97, 110, 99, 101], [102, 105, 108, 101], [116, 97, 98, 108, 101]]) []) := by kernel_rfl
theorem c175_e {N : Nat} : ∀ r, xCP N = some r → Reach Try.prog Try.f175 I175 [.code I175.body] (zBm 0 (xCJ )) (xCd r) := by
 intro r h
 unfold xCP at h
 obtain rfl := Option.some.inj h
 exact Reach.done ttok mix fk175 (p175_e_0) obs_nil
theorem spec_l2Reserved_ok {N : Nat} {r : (List Str)} (h : xCP N   = some r) : AbC 175 (xCJ ) (xCd r) :=
 AbsCalls.of_reach fk175 rfl rfl (Nat.le_of_ble_eq_true rfl) (c175_e  r h)
noncomputable def I174 : Info := { body := (Try.f174.body).getD .skip, nt := 18, results := [.tmp 4], keep := [0, 2, 8, 10, 18, 34], live := [(2, [0, 2, 10])], modes := [], ext := [], lnt := [], casts := [], fcast := [] }
theorem fk174 : FnOk Try.prog 174 Try.f174 I174 := ⟨Try.func174, by kernel_rfl, by kernel_rfl, by kernel_rfl, by kernel_rfl⟩
def S174_2 (x0 : List Str) (x1 : Str) (x5 : Int) : St := [(0, .v false [.sl .ro .str x0]), (2, .v false [.str x1]), (10, .v false [.int .i64 x5])]
theorem p174_2_0 (x0 : List Str) (x1 : Str) (x5 : Int) : run tt (AbsCalls Try.prog) I174 3000 true (stkAt 2 I174.body) ⟨(S174_2 x0 x1 x5), [true, true], [], []⟩ = some (.done (xBt true) [(decide ((x5 : Int) < (List.length x0 : Int))) = true, (0 : Int) ≤ x5 ∧ x5 < (List.length x0), (((List.getD x0 (Int.toNat x5) Ty.str.dflt) : Str) == x1) = true]) := by kernel_rfl
theorem p174_2_1 (x0 : List Str) (x1 : Str) (x5 : Int) : run tt (AbsCalls Try.prog) I174 3000 true (stkAt 2 I174.body) ⟨(S174_2 x0 x1 x5), [true, false], [], []⟩ = some (.stop (stkAt 2 I174.body) (S174_2 x0 x1 (IntKind.i64.wrap (x5 + 1))) [(decide ((x5 : Int) < (List.length x0 : Int))) = true, (0 : Int) ≤ x5 ∧ x5 < (List.length x0), (((List.getD x0 (Int.toNat x5) Ty.str.dflt) : Str) == x1) = false]) := by kernel_rfl
theorem p174_2_2 (x0 : List Str) (x1 : Str) (x5 : Int) : run tt (AbsCalls Try.prog) I174 3000 true (stkAt 2 I174.body) ⟨(S174_2 x0 x1 x5), [false], [], []⟩ = some (.done (xBt false) [(decide ((x5 : Int) < (List.length x0 : Int))) = false]) := by kernel_rfl
theorem p174_e_3 (a0 : List Str) (a1 : Str) : run tt (AbsCalls Try.prog) I174 3000 false [.code I174.body] ⟨(zBm 0 (xCR a0 a1)), [], [], []⟩ = some (.stop (stkAt 2 I174.body) (S174_2 a0 a1 0) []) := by kernel_rfl
theorem c174_2 {N : Nat} : ∀ n x0 x1 x5 r, xCc N n x0 x1 x5 = some r → Reach Try.prog Try.f174 I174 (stkAt 2 I174.body) (S174_2 x0 x1 x5) (xBt r) := by
 intro n
 induction n with
 | zero => intro x0 x1 x5 r h; have h' : (none : Option (Bool)) = some r := h; cases h'
 | succ n ih =>
  intro x0 x1 x5 r h
  rw [xCc] at h
  rcases cond_inv h with ⟨h0, h⟩ | ⟨h0, h⟩
  ·obtain ⟨h1, h⟩ := ite_inv h
   rcases cond_inv h with ⟨h2, h⟩ | ⟨h2, h⟩
   ·obtain rfl := Option.some.inj h
    exact Reach.done ttok mix fk174 (p174_2_0 x0 x1 x5) (obs_cons h0 (obs_cons h1 (obs_cons h2 obs_nil)))
   ·exact Reach.stop ttok mix fk174 (p174_2_1 x0 x1 x5) (obs_cons h0 (obs_cons h1 (obs_cons h2 obs_nil))) (ih _ _ _ _ h)
  ·obtain rfl := Option.some.inj h
   exact Reach.done ttok mix fk174 (p174_2_2 x0 x1 x5) (obs_cons h0 obs_nil)
theorem c174_e {N : Nat} : ∀ a0 a1 r, xDw N a0 a1 = some r → Reach Try.prog Try.f174 I174 [.code I174.body] (zBm 0 (xCR a0 a1)) (xBt r) := by
 intro a0 a1 r h
 unfold xDw at h
 exact Reach.stop ttok mix fk174 (p174_e_3 a0 a1) obs_nil (c174_2   _ _ _ _ _ h)
theorem xDW {N : Nat} {a0 : List Str} {a1 : Str} {r : Bool} (h : xDw N  a0 a1 = some r) : AbC 174 (xCR a0 a1) (xBt r) :=
 AbsCalls.of_reach fk174 rfl rfl (Nat.le_of_ble_eq_true rfl) (c174_e a0 a1 r h)
noncomputable def I138 : Info := { body := (Try.f138.body).getD .skip, nt := 6, results := [.tmp 2], keep := [0, 4], live := [], modes := [], ext := [], lnt := [], casts := [], fcast := [] }
theorem fk138 : FnOk Try.prog 138 Try.f138 I138 := ⟨Try.func138, by kernel_rfl, by kernel_rfl, by kernel_rfl, by kernel_rfl⟩
theorem p138_e_0 (a0 : Str) (r1 : (List Str)) (r2 : Bool) : run tt (AbsCalls Try.prog) I138 3000 false [.code I138.body] ⟨(zBm 0 (xCI a0)), [], [xCd r1, xBt r2], []⟩ = some (.done (xCb r2) [AbC 175 xCJ (xCd r1), AbC 174 (xCR r1 a0) (xBt r2)]) := by kernel_rfl
theorem c138_e {N : Nat} : ∀ a0 r, xCn N a0 = some r → Reach Try.prog Try.f138 I138 [.code I138.body] (zBm 0 (xCI a0)) (xCb r) := by
 intro a0 r h
 unfold xCn at h
 obtain ⟨r1, h0, h⟩ := bind_inv h
 obtain ⟨r2, h1, h⟩ := bind_inv h
 obtain rfl := Option.some.inj h
 exact Reach.done ttok mix fk138 (p138_e_0 a0 r1 r2) (obs_cons (spec_l2Reserved_ok h0) (obs_cons (xDW h1) obs_nil))
theorem spec_IsReserved_ok {N : Nat} {a0 : Str} {r : Bool} (h : xCn N  a0 = some r) : AbC 138 (xCI a0) (xCb r) :=
 AbsCalls.of_reach fk138 rfl rfl (Nat.le_of_ble_eq_true rfl) (c138_e a0 r h)
noncomputable def I83 : Info := { body := (Try.f83.body).getD .skip, nt := 15, results := [.tmp 2], keep := [0, 4], live := [], modes := [(1, [(2, .take, false), (7, .take, false)])], ext := [], lnt := [], casts := [], fcast := [] }
theorem fk83 : FnOk Try.prog 83 Try.f83 I83 := ⟨Try.func83, by kernel_rfl, by kernel_rfl, by kernel_rfl, by kernel_rfl⟩
theorem p83_e_0 (a0 : Str) (r1 r2 : Bool) : run tt (AbsCalls Try.prog) I83 3000 false [.code I83.body] ⟨(zBm 0 (xBq a0)), [true, true], [xAq r1, xCb r2], []⟩ = some (.done (xAU (!r2)) [AbC 137 (xCq a0) (xAq r1), r1 = true, (decide (((List.length a0 : Int) : Int) ≤ 8)) = true, AbC 138 (xCI a0) (xCb r2)]) := by kernel_rfl
theorem p83_e_1 (a0 : Str) (r1 : Bool) : run tt (AbsCalls Try.prog) I83 3000 false [.code I83.body] ⟨(zBm 0 (xBq a0)), [true, false], [xAq r1], []⟩ = some (.done (xAU false) [AbC 137 (xCq a0) (xAq r1), r1 = true, (decide (((List.length a0 : Int) : Int) ≤ 8)) = false]) := by kernel_rfl
theorem p83_e_2 (a0 : Str) (r1 : Bool) : run tt (AbsCalls Try.prog) I83 3000 false [.code I83.body] ⟨(zBm 0 (xBq a0)), [false, false], [xAq r1], []⟩ = some (.done (xAU false) [AbC 137 (xCq a0) (xAq r1), r1 = false, false = false]) := by kernel_rfl
theorem c83_e {N : Nat} : ∀ a0 r, xB7 N a0 = some r → Reach Try.prog Try.f83 I83 [.code I83.body] (zBm 0 (xBq a0)) (xAU r) := by
 intro a0 r h
 unfold xB7 at h
 obtain ⟨r1, h0, h⟩ := bind_inv h
 rcases cond_inv h with ⟨h1, h⟩ | ⟨h1, h⟩
 ·rcases cond_inv h with ⟨h2, h⟩ | ⟨h2, h⟩
  ·obtain ⟨r2, h3, h⟩ := bind_inv h
   obtain rfl := Option.some.inj h
   exact Reach.done ttok mix fk83 (p83_e_0 a0 r1 r2) (obs_cons (xDD h0) (obs_cons h1 (obs_cons h2 (obs_cons (spec_IsReserved_ok h3) obs_nil))))
  ·obtain rfl := Option.some.inj h
   exact Reach.done ttok mix fk83 (p83_e_1 a0 r1) (obs_cons (xDD h0) (obs_cons h1 (obs_cons h2 obs_nil)))
 ·obtain rfl := Option.some.inj h
  exact Reach.done ttok mix fk83 (p83_e_2 a0 r1) (obs_cons (xDD h0) (obs_cons h1 (obs_cons rfl obs_nil)))
theorem xDA {N : Nat} {a0 : Str} {r : Bool} (h : xB7 N  a0 = some r) : AbC 83 (xBq a0) (xAU r) :=
 AbsCalls.of_reach fk83 rfl rfl (Nat.le_of_ble_eq_true rfl) (c83_e a0 r h)
noncomputable def I178 : Info := { body := (Try.f178.body).getD .skip, nt := 18, results := [.tmp 2], keep := [0, 4, 6, 14, 34], live := [(2, [0, 6])], modes := [], ext := [], lnt := [], casts := [], fcast := [] }
theorem fk178 : FnOk Try.prog 178 Try.f178 I178 := ⟨Try.func178, by kernel_rfl, by kernel_rfl, by kernel_rfl, by kernel_rfl⟩
def S178_2 (x0 : List Str) (x3 : Int) : St := [(0, .v false [.sl .ro .str x0]), (6, .v false [.int .i64 x3])]
theorem p178_2_0 (x0 : List Str) (x3 : Int) (r1 : Bool) : run tt (AbsCalls Try.prog) I178 3000 true (stkAt 2 I178.body) ⟨(S178_2 x0 x3), [true, true], [xBt r1], []⟩ = some (.done (xBp false) [(decide ((x3 : Int) < (List.length x0 : Int))) = true, (0 : Int) ≤ x3 ∧ x3 ≤ (List.length x0), (0 : Int) ≤ x3 ∧ x3 < (List.length x0), AbC 174 (xCR (List.take (Int.toNat x3) x0) (List.getD x0 (Int.toNat x3) Ty.str.dflt)) (xBt r1), r1 = true]) := by kernel_rfl
theorem p178_2_1 (x0 : List Str) (x3 : Int) (r1 : Bool) : run tt (AbsCalls Try.prog) I178 3000 true (stkAt 2 I178.body) ⟨(S178_2 x0 x3), [true, false], [xBt r1], []⟩ = some (.stop (stkAt 2 I178.body) (S178_2 x0 (IntKind.i64.wrap (x3 + 1))) [(decide ((x3 : Int) < (List.length x0 : Int))) = true, (0 : Int) ≤ x3 ∧ x3 ≤ (List.length x0), (0 : Int) ≤ x3 ∧ x3 < (List.length x0), AbC 174 (xCR (List.take (Int.toNat x3) x0) (List.getD x0 (Int.toNat x3) Ty.str.dflt)) (xBt r1), r1 = false]) := by kernel_rfl
theorem p178_2_2 (x0 : List Str) (x3 : Int) : run tt (AbsCalls Try.prog) I178 3000 true (stkAt 2 I178.body) ⟨(S178_2 x0 x3), [false], [], []⟩ = some (.done (xBp true) [(decide ((x3 : Int) < (List.length x0 : Int))) = false]) := by kernel_rfl
theorem p178_e_3 (a0 : List Str) : run tt (AbsCalls Try.prog) I178 3000 false [.code I178.body] ⟨(zBm 0 (xCt a0)), [], [], []⟩ = some (.stop (stkAt 2 I178.body) (S178_2 a0 0) []) := by kernel_rfl
theorem c178_2 {N : Nat} : ∀ n x0 x3 r, xA8 N n x0 x3 = some r → Reach Try.prog Try.f178 I178 (stkAt 2 I178.body) (S178_2 x0 x3) (xBp r) := by
 intro n
 induction n with
 | zero => intro x0 x3 r h; have h' : (none : Option (Bool)) = some r := h; cases h'
 | succ n ih =>
  intro x0 x3 r h
  rw [xA8] at h
  rcases cond_inv h with ⟨h0, h⟩ | ⟨h0, h⟩
  ·obtain ⟨h1, h⟩ := ite_inv h
   obtain ⟨h2, h⟩ := ite_inv h
   obtain ⟨r1, h3, h⟩ := bind_inv h
   rcases cond_inv h with ⟨h4, h⟩ | ⟨h4, h⟩
   ·obtain rfl := Option.some.inj h
    exact Reach.done ttok mix fk178 (p178_2_0 x0 x3 r1) (obs_cons h0 (obs_cons h1 (obs_cons h2 (obs_cons (xDW h3) (obs_cons h4 obs_nil)))))
   ·exact Reach.stop ttok mix fk178 (p178_2_1 x0 x3 r1) (obs_cons h0 (obs_cons h1 (obs_cons h2 (obs_cons (xDW h3) (obs_cons h4 obs_nil))))) (ih _ _ _ h)
  ·obtain rfl := Option.some.inj h
   exact Reach.done ttok mix fk178 (p178_2_2 x0 x3) (obs_cons h0 obs_nil)
theorem c178_e {N : Nat} : ∀ a0 r, xCz N a0 = some r → Reach Try.prog Try.f178 I178 [.code I178.body] (zBm 0 (xCt a0)) (xBp r) := by
 intro a0 r h
 unfold xCz at h
 exact Reach.stop ttok mix fk178 (p178_e_3 a0) obs_nil (c178_2   _ _ _ _ h)
theorem xEu {N : Nat} {a0 : List Str} {r : Bool} (h : xCz N  a0 = some r) : AbC 178 (xCt a0) (xBp r) :=
 AbsCalls.of_reach fk178 rfl rfl (Nat.le_of_ble_eq_true rfl) (c178_e a0 r h)
noncomputable def I154 : Info := { body := (Try.f154.body).getD .skip, nt := 23, results := [.tmp 2], keep := [0, 4, 6, 14, 30], live := [(2, [0, 6])], modes := [(6, [(3, .take, false)])], ext := [], lnt := [], casts := [], fcast := [] }
theorem fk154 : FnOk Try.prog 154 Try.f154 I154 := ⟨Try.func154, by kernel_rfl, by kernel_rfl, by kernel_rfl, by kernel_rfl⟩
def S154_2 (x0 : List Str) (x3 : Int) : St := [(0, .v false [.sl .ro .str x0]), (6, .v false [.int .i64 x3])]
theorem p154_2_0 (x0 : List Str) (x3 : Int) (r1 : Bool) : run tt (AbsCalls Try.prog) I154 3000 true (stkAt 2 I154.body) ⟨(S154_2 x0 x3), [true, true], [xAU r1], []⟩ = some (.done (xAG false) [(decide ((x3 : Int) < (List.length x0 : Int))) = true, (0 : Int) ≤ x3 ∧ x3 < (List.length x0), AbC 83 (xBq (List.getD x0 (Int.toNat x3) Ty.str.dflt)) (xAU r1), (!r1) = true]) := by kernel_rfl
theorem p154_2_1 (x0 : List Str) (x3 : Int) (r1 : Bool) : run tt (AbsCalls Try.prog) I154 3000 true (stkAt 2 I154.body) ⟨(S154_2 x0 x3), [true, false], [xAU r1], []⟩ = some (.stop (stkAt 2 I154.body) (S154_2 x0 (IntKind.i64.wrap (x3 + 1))) [(decide ((x3 : Int) < (List.length x0 : Int))) = true, (0 : Int) ≤ x3 ∧ x3 < (List.length x0), AbC 83 (xBq (List.getD x0 (Int.toNat x3) Ty.str.dflt)) (xAU r1), (!r1) = false]) := by kernel_rfl
theorem p154_2_2 (x0 : List Str) (x3 : Int) (r1 r2 : Bool) : run tt (AbsCalls Try.prog) I154 3000 true (stkAt 2 I154.body) ⟨(S154_2 x0 x3), [false, true], [xA5 r1, xBp r2], []⟩ = some (.done (xAG r2) [(decide ((x3 : Int) < (List.length x0 : Int))) = false, AbC 108 (xBV (List.length x0 : Int) 1 4) (xA5 r1), r1 = true, AbC 178 (xCt x0) (xBp r2)]) := by kernel_rfl
theorem p154_2_3 (x0 : List Str) (x3 : Int) (r1 : Bool) : run tt (AbsCalls Try.prog) I154 3000 true (stkAt 2 I154.body) ⟨(S154_2 x0 x3), [false, false], [xA5 r1], []⟩ = some (.done (xAG false) [(decide ((x3 : Int) < (List.length x0 : Int))) = false, AbC 108 (xBV (List.length x0 : Int) 1 4) (xA5 r1), r1 = false]) := by kernel_rfl
theorem p154_e_4 (a0 : List Str) : run tt (AbsCalls Try.prog) I154 3000 false [.code I154.body] ⟨(zBm 0 (xBX a0)), [], [], []⟩ = some (.stop (stkAt 2 I154.body) (S154_2 a0 0) []) := by kernel_rfl
theorem c154_2 {N : Nat} : ∀ n x0 x3 r, xBD N n x0 x3 = some r → Reach Try.prog Try.f154 I154 (stkAt 2 I154.body) (S154_2 x0 x3) (xAG r) := by
 intro n
 induction n with
 | zero => intro x0 x3 r h; have h' : (none : Option (Bool)) = some r := h; cases h'
 | succ n ih =>
  intro x0 x3 r h
  rw [xBD] at h
  rcases cond_inv h with ⟨h0, h⟩ | ⟨h0, h⟩
  ·obtain ⟨h1, h⟩ := ite_inv h
   obtain ⟨r1, h2, h⟩ := bind_inv h
   rcases cond_inv h with ⟨h3, h⟩ | ⟨h3, h⟩
   ·obtain rfl := Option.some.inj h
    exact Reach.done ttok mix fk154 (p154_2_0 x0 x3 r1) (obs_cons h0 (obs_cons h1 (obs_cons (xDA h2) (obs_cons h3 obs_nil))))
   ·exact Reach.stop ttok mix fk154 (p154_2_1 x0 x3 r1) (obs_cons h0 (obs_cons h1 (obs_cons (xDA h2) (obs_cons h3 obs_nil)))) (ih _ _ _ h)
  ·obtain ⟨r1, h1, h⟩ := bind_inv h
   rcases cond_inv h with ⟨h2, h⟩ | ⟨h2, h⟩
   ·obtain ⟨r2, h3, h⟩ := bind_inv h
    obtain rfl := Option.some.inj h
    exact Reach.done ttok mix fk154 (p154_2_2 x0 x3 r1 r2) (obs_cons h0 (obs_cons (xC8 h1) (obs_cons h2 (obs_cons (xEu h3) obs_nil))))
   ·obtain rfl := Option.some.inj h
    exact Reach.done ttok mix fk154 (p154_2_3 x0 x3 r1) (obs_cons h0 (obs_cons (xC8 h1) (obs_cons h2 obs_nil)))
theorem c154_e {N : Nat} : ∀ a0 r, xCZ N a0 = some r → Reach Try.prog Try.f154 I154 [.code I154.body] (zBm 0 (xBX a0)) (xAG r) := by
 intro a0 r h
 unfold xCZ at h
 exact Reach.stop ttok mix fk154 (p154_e_4 a0) obs_nil (c154_2   _ _ _ _ h)
theorem xDl {N : Nat} {a0 : List Str} {r : Bool} (h : xCZ N  a0 = some r) : AbC 154 (xBX a0) (xAG r) :=
 AbsCalls.of_reach fk154 rfl rfl (Nat.le_of_ble_eq_true rfl) (c154_e a0 r h)
noncomputable def I179 : Info := { body := (Try.f179.body).getD .skip, nt := 24, results := [.tmp 4], keep := [0, 2, 4, 6, 8, 5, 7], live := [], modes := [(1, [(5, .take, false), (11, .take, false)])], ext := [], lnt := [], casts := [], fcast := [] }
theorem fk179 : FnOk Try.prog 179 Try.f179 I179 := ⟨Try.func179, by kernel_rfl, by kernel_rfl, by kernel_rfl, by kernel_rfl⟩
theorem p179_e_0 (a0 a1 : Org) : run tt (AbsCalls Try.prog) I179 3000 false [.code I179.body] ⟨(zBm 0 (xBQ a0 a1)), [true], [], []⟩ = some (.done (xBo true) [(decide (((Org.cell a0) : Int) < (Org.cell a1))) = true]) := by kernel_rfl
theorem p179_e_1 (a0 a1 : Org) : run tt (AbsCalls Try.prog) I179 3000 false [.code I179.body] ⟨(zBm 0 (xBQ a0 a1)), [false, true], [], []⟩ = some (.done (xBo (decide (((Org.row a0) : Int) < (Org.row a1)))) [(decide (((Org.cell a0) : Int) < (Org.cell a1))) = false, (((Org.cell a0) : Int) == (Org.cell a1)) = true]) := by kernel_rfl
theorem p179_e_2 (a0 a1 : Org) : run tt (AbsCalls Try.prog) I179 3000 false [.code I179.body] ⟨(zBm 0 (xBQ a0 a1)), [false, false], [], []⟩ = some (.done (xBo false) [(decide (((Org.cell a0) : Int) < (Org.cell a1))) = false, (((Org.cell a0) : Int) == (Org.cell a1)) = false]) := by kernel_rfl
theorem c179_e {N : Nat} : ∀ a0 a1 r, xCU N a0 a1 = some r → Reach Try.prog Try.f179 I179 [.code I179.body] (zBm 0 (xBQ a0 a1)) (xBo r) := by
 intro a0 a1 r h
 unfold xCU at h
 rcases cond_inv h with ⟨h0, h⟩ | ⟨h0, h⟩
 ·obtain rfl := Option.some.inj h
  exact Reach.done ttok mix fk179 (p179_e_0 a0 a1) (obs_cons h0 obs_nil)
 ·rcases cond_inv h with ⟨h1, h⟩ | ⟨h1, h⟩
  ·obtain rfl := Option.some.inj h
   exact Reach.done ttok mix fk179 (p179_e_1 a0 a1) (obs_cons h0 (obs_cons h1 obs_nil))
  ·obtain rfl := Option.some.inj h
   exact Reach.done ttok mix fk179 (p179_e_2 a0 a1) (obs_cons h0 (obs_cons h1 obs_nil))
theorem xD1 {N : Nat} {a0 : Org} {a1 : Org} {r : Bool} (h : xCU N  a0 a1 = some r) : AbC 179 (xBQ a0 a1) (xBo r) :=
 AbsCalls.of_reach fk179 rfl rfl (Nat.le_of_ble_eq_true rfl) (c179_e a0 a1 r h)
noncomputable def I155 : Info := { body := (Try.f155.body).getD .skip, nt := 41, results := [.tmp 2], keep := [0, 4, 6, 14, 80], live := [(2, [0, 6])], modes := [(4, [(6, .take, false), (14, .take, false), (17, .take, false)])], ext := [], lnt := [], casts := [], fcast := [] }
theorem fk155 : FnOk Try.prog 155 Try.f155 I155 := ⟨Try.func155, by kernel_rfl, by kernel_rfl, by kernel_rfl, by kernel_rfl⟩
def xEh (x0 : List Org) (x3 : Int) : St := [(0, .v false [.sl .ro .org x0]), (6, .v false [.int .i64 x3])]
theorem p155_2_0 (x0 : List Org) (x3 : Int) : run tt (AbsCalls Try.prog) I155 3000 true (stkAt 2 I155.body) ⟨(xEh x0 x3), [true, true, true, true], [], []⟩ = some (.done (xAB false) [(decide ((x3 : Int) < (List.length x0 : Int))) = true, (0 : Int) ≤ x3 ∧ x3 < (List.length x0), (decide (((Org.cell (List.getD x0 (Int.toNat x3) Ty.org.dflt)) : Int) < 0)) = true, true = true, true = true]) := by kernel_rfl
theorem p155_2_1 (x0 : List Org) (x3 : Int) : run tt (AbsCalls Try.prog) I155 3000 true (stkAt 2 I155.body) ⟨(xEh x0 x3), [true, false, true, true], [], []⟩ = some (.done (xAB false) [(decide ((x3 : Int) < (List.length x0 : Int))) = true, (0 : Int) ≤ x3 ∧ x3 < (List.length x0), (decide (((Org.cell (List.getD x0 (Int.toNat x3) Ty.org.dflt)) : Int) < 0)) = false, (0 : Int) ≤ x3 ∧ x3 < (List.length x0), (decide (((Org.row (List.getD x0 (Int.toNat x3) Ty.org.dflt)) : Int) < 0)) = true, true = true]) := by kernel_rfl
theorem p155_2_2 (x0 : List Org) (x3 : Int) (r1 : Bool) : run tt (AbsCalls Try.prog) I155 3000 true (stkAt 2 I155.body) ⟨(xEh x0 x3), [true, false, false, true, true], [xBo r1], []⟩ = some (.done (xAB false) [(decide ((x3 : Int) < (List.length x0 : Int))) = true, (0 : Int) ≤ x3 ∧ x3 < (List.length x0), (decide (((Org.cell (List.getD x0 (Int.toNat x3) Ty.org.dflt)) : Int) < 0)) = false, (0 : Int) ≤ x3 ∧ x3 < (List.length x0), (decide (((Org.row (List.getD x0 (Int.toNat x3) Ty.org.dflt)) : Int) < 0)) = false, (decide ((x3 : Int) > 0)) = true, (0 : Int) ≤ (IntKind.i64.wrap (x3 - 1)) ∧ (IntKind.i64.wrap (x3 - 1)) < (List.length x0), (0 : Int) ≤ x3 ∧ x3 < (List.length x0), AbC 179 (xBQ (List.getD x0 (Int.toNat (IntKind.i64.wrap (x3 - 1))) Ty.org.dflt) (List.getD x0 (Int.toNat x3) Ty.org.dflt)) (xBo r1), (!r1) = true]) := by kernel_rfl
theorem p155_2_3 (x0 : List Org) (x3 : Int) (r1 : Bool) : run tt (AbsCalls Try.prog) I155 3000 true (stkAt 2 I155.body) ⟨(xEh x0 x3), [true, false, false, true, false], [xBo r1], []⟩ = some (.stop (stkAt 2 I155.body) (xEh x0 (IntKind.i64.wrap (x3 + 1))) [(decide ((x3 : Int) < (List.length x0 : Int))) = true, (0 : Int) ≤ x3 ∧ x3 < (List.length x0), (decide (((Org.cell (List.getD x0 (Int.toNat x3) Ty.org.dflt)) : Int) < 0)) = false, (0 : Int) ≤ x3 ∧ x3 < (List.length x0), (decide (((Org.row (List.getD x0 (Int.toNat x3) Ty.org.dflt)) : Int) < 0)) = false, (decide ((x3 : Int) > 0)) = true, (0 : Int) ≤ (IntKind.i64.wrap (x3 - 1)) ∧ (IntKind.i64.wrap (x3 - 1)) < (List.length x0), (0 : Int) ≤ x3 ∧ x3 < (List.length x0), AbC 179 (xBQ (List.getD x0 (Int.toNat (IntKind.i64.wrap (x3 - 1))) Ty.org.dflt) (List.getD x0 (Int.toNat x3) Ty.org.dflt)) (xBo r1), (!r1) = false]) := by kernel_rfl
theorem p155_2_4 (x0 : List Org) (x3 : Int) : run tt (AbsCalls Try.prog) I155 3000 true (stkAt 2 I155.body) ⟨(xEh x0 x3), [true, false, false, false, false], [], []⟩ = some (.stop (stkAt 2 I155.body) (xEh x0 (IntKind.i64.wrap (x3 + 1))) [(decide ((x3 : Int) < (List.length x0 : Int))) = true, (0 : Int) ≤ x3 ∧ x3 < (List.length x0), (decide (((Org.cell (List.getD x0 (Int.toNat x3) Ty.org.dflt)) : Int) < 0)) = false, (0 : Int) ≤ x3 ∧ x3 < (List.length x0), (decide (((Org.row (List.getD x0 (Int.toNat x3) Ty.org.dflt)) : Int) < 0)) = false, (decide ((x3 : Int) > 0)) = false, false = false]) := by kernel_rfl
theorem p155_2_5 (x0 : List Org) (x3 : Int) : run tt (AbsCalls Try.prog) I155 3000 true (stkAt 2 I155.body) ⟨(xEh x0 x3), [false], [], []⟩ = some (.done (xAB true) [(decide ((x3 : Int) < (List.length x0 : Int))) = false]) := by kernel_rfl
theorem p155_e_6 (a0 : List Org) : run tt (AbsCalls Try.prog) I155 3000 false [.code I155.body] ⟨(zBm 0 (xB2 a0)), [], [], []⟩ = some (.stop (stkAt 2 I155.body) (xEh a0 0) []) := by kernel_rfl
theorem c155_2 {N : Nat} : ∀ n x0 x3 r, xAY N n x0 x3 = some r → Reach Try.prog Try.f155 I155 (stkAt 2 I155.body) (xEh x0 x3) (xAB r) := by
 intro n
 induction n with
 | zero => intro x0 x3 r h; have h' : (none : Option (Bool)) = some r := h; cases h'
 | succ n ih =>
  intro x0 x3 r h
  rw [xAY] at h
  rcases cond_inv h with ⟨h0, h⟩ | ⟨h0, h⟩
  ·obtain ⟨h1, h⟩ := ite_inv h
   rcases cond_inv h with ⟨h2, h⟩ | ⟨h2, h⟩
   ·obtain rfl := Option.some.inj h
    exact Reach.done ttok mix fk155 (p155_2_0 x0 x3) (obs_cons h0 (obs_cons h1 (obs_cons h2 (obs_cons rfl (obs_cons rfl obs_nil)))))
   ·rcases cond_inv h with ⟨h4, h⟩ | ⟨h4, h⟩
    ·obtain rfl := Option.some.inj h
     exact Reach.done ttok mix fk155 (p155_2_1 x0 x3) (obs_cons h0 (obs_cons h1 (obs_cons h2 (obs_cons h1 (obs_cons h4 (obs_cons rfl obs_nil))))))
    ·rcases cond_inv h with ⟨h5, h⟩ | ⟨h5, h⟩
     ·obtain ⟨h6, h⟩ := ite_inv h
      obtain ⟨r1, h8, h⟩ := bind_inv h
      rcases cond_inv h with ⟨h9, h⟩ | ⟨h9, h⟩
      ·obtain rfl := Option.some.inj h
       exact Reach.done ttok mix fk155 (p155_2_2 x0 x3 r1) (obs_cons h0 (obs_cons h1 (obs_cons h2 (obs_cons h1 (obs_cons h4 (obs_cons h5 (obs_cons h6 (obs_cons h1 (obs_cons (xD1 h8) (obs_cons h9 obs_nil))))))))))
      ·exact Reach.stop ttok mix fk155 (p155_2_3 x0 x3 r1) (obs_cons h0 (obs_cons h1 (obs_cons h2 (obs_cons h1 (obs_cons h4 (obs_cons h5 (obs_cons h6 (obs_cons h1 (obs_cons (xD1 h8) (obs_cons h9 obs_nil)))))))))) (ih _ _ _ h)
     ·exact Reach.stop ttok mix fk155 (p155_2_4 x0 x3) (obs_cons h0 (obs_cons h1 (obs_cons h2 (obs_cons h1 (obs_cons h4 (obs_cons h5 (obs_cons rfl obs_nil))))))) (ih _ _ _ h)
  ·obtain rfl := Option.some.inj h
   exact Reach.done ttok mix fk155 (p155_2_5 x0 x3) (obs_cons h0 obs_nil)
theorem c155_e {N : Nat} : ∀ a0 r, xCC N a0 = some r → Reach Try.prog Try.f155 I155 [.code I155.body] (zBm 0 (xB2 a0)) (xAB r) := by
 intro a0 r h
 unfold xCC at h
 exact Reach.stop ttok mix fk155 (p155_e_6 a0) obs_nil (c155_2   _ _ _ _ h)
theorem xDE {N : Nat} {a0 : List Org} {r : Bool} (h : xCC N  a0 = some r) : AbC 155 (xB2 a0) (xAB r) :=
 AbsCalls.of_reach fk155 rfl rfl (Nat.le_of_ble_eq_true rfl) (c155_e a0 r h)
noncomputable def I113 : Info := { body := (Try.f113.body).getD .skip, nt := 55, results := [.tmp 2], keep := [0, 2, 4, 6, 8, 10, 30, 40, 80, 90, 108, 3, 9], live := [(4, [2, 6, 3]), (10, [2, 6, 8, 10, 3, 9])], modes := [(1, [(4, .take, false)]), (7, [(7, .take, false)])], ext := [], lnt := [], casts := [], fcast := [] }
theorem fk113 : FnOk Try.prog 113 Try.f113 I113 := ⟨Try.func113, by kernel_rfl, by kernel_rfl, by kernel_rfl, by kernel_rfl⟩
def S113_4 (x3 : Int) (b1 : Val) : St := [(2, .v false [.ptr 1 0]), (6, .v false [.int .i64 x3]), (3, .v true [.int .i64 (Val.kind b1), .int .i64 (Val.n b1), .int .i64 (Val.step b1), .str (Val.text b1), .sl .ro .val (Val.list b1), .sl .ro .str (Val.columns b1), .sl .ro .row (Val.rows b1)])]
def S113_10 (x3 x5 : Int) (b1 : Val) (b4 : Rowd) : St := [(2, .v false [.ptr 1 0]), (6, .v false [.int .i64 x3]), (8, .v false [.ptr 4 0]), (10, .v false [.int .i64 x5]), (3, .v true [.int .i64 (Val.kind b1), .int .i64 (Val.n b1), .int .i64 (Val.step b1), .str (Val.text b1), .sl .ro .val (Val.list b1), .sl .ro .str (Val.columns b1), .sl .ro .row (Val.rows b1)]), (9, .v true [.sl .ro .int (Rowd.cells b4), .sl .ro .org (Rowd.frm b4)])]
theorem p113_10_0 (x3 x5 : Int) (b1 : Val) (b4 : Rowd) (r1 : Bool) : run tt (AbsCalls Try.prog) I113 3000 true (stkAt 10 I113.body) ⟨(S113_10 x3 x5 b1 b4), [true, true], [xAl r1], []⟩ = some (.done (xAO false) [(decide ((x5 : Int) < (List.length (Rowd.cells b4) : Int))) = true, (0 : Int) ≤ x5 ∧ x5 < (List.length (Rowd.cells b4)), AbC 85 (xAH (List.getD (Rowd.cells b4) (Int.toNat x5) Ty.int.dflt)) (xAl r1), (!r1) = true]) := by kernel_rfl
theorem p113_10_1 (x3 x5 : Int) (b1 : Val) (b4 : Rowd) (r1 : Bool) : run tt (AbsCalls Try.prog) I113 3000 true (stkAt 10 I113.body) ⟨(S113_10 x3 x5 b1 b4), [true, false], [xAl r1], []⟩ = some (.stop (stkAt 10 I113.body) (S113_10 x3 (IntKind.i64.wrap (x5 + 1)) b1 b4) [(decide ((x5 : Int) < (List.length (Rowd.cells b4) : Int))) = true, (0 : Int) ≤ x5 ∧ x5 < (List.length (Rowd.cells b4)), AbC 85 (xAH (List.getD (Rowd.cells b4) (Int.toNat x5) Ty.int.dflt)) (xAl r1), (!r1) = false]) := by kernel_rfl
theorem p113_10_2 (x3 x5 : Int) (b1 : Val) (b4 : Rowd) : run tt (AbsCalls Try.prog) I113 3000 true (stkAt 10 I113.body) ⟨(S113_10 x3 x5 b1 b4), [false], [], []⟩ = some (.stop (stkAt 4 I113.body) (S113_4 (IntKind.i64.wrap (x3 + 1)) b1) [(decide ((x5 : Int) < (List.length (Rowd.cells b4) : Int))) = false]) := by kernel_rfl
theorem p113_4_3 (x3 : Int) (b1 : Val) : run tt (AbsCalls Try.prog) I113 3000 true (stkAt 4 I113.body) ⟨(S113_4 x3 b1), [true, true, true], [], []⟩ = some (.done (xAO false) [(decide ((x3 : Int) < (List.length (Val.rows b1) : Int))) = true, (0 : Int) ≤ x3 ∧ x3 < (List.length (Val.rows b1)), (((List.length (Rowd.cells (List.getD (Val.rows b1) (Int.toNat x3) Ty.row.dflt)) : Int) : Int) != (List.length (Val.columns b1) : Int)) = true, true = true]) := by kernel_rfl
theorem p113_4_4 (x3 : Int) (b1 : Val) (r1 : Bool) : run tt (AbsCalls Try.prog) I113 3000 true (stkAt 4 I113.body) ⟨(S113_4 x3 b1), [true, false, true], [xAB r1], []⟩ = some (.done (xAO false) [(decide ((x3 : Int) < (List.length (Val.rows b1) : Int))) = true, (0 : Int) ≤ x3 ∧ x3 < (List.length (Val.rows b1)), (((List.length (Rowd.cells (List.getD (Val.rows b1) (Int.toNat x3) Ty.row.dflt)) : Int) : Int) != (List.length (Val.columns b1) : Int)) = false, AbC 155 (xB2 (Rowd.frm (List.getD (Val.rows b1) (Int.toNat x3) Ty.row.dflt))) (xAB r1), (!r1) = true]) := by kernel_rfl
theorem p113_4_5 (x3 : Int) (b1 : Val) (r1 : Bool) : run tt (AbsCalls Try.prog) I113 3000 true (stkAt 4 I113.body) ⟨(S113_4 x3 b1), [true, false, false], [xAB r1], []⟩ = some (.stop (stkAt 10 I113.body) (S113_10 x3 0 b1 (List.getD (Val.rows b1) (Int.toNat x3) Ty.row.dflt)) [(decide ((x3 : Int) < (List.length (Val.rows b1) : Int))) = true, (0 : Int) ≤ x3 ∧ x3 < (List.length (Val.rows b1)), (((List.length (Rowd.cells (List.getD (Val.rows b1) (Int.toNat x3) Ty.row.dflt)) : Int) : Int) != (List.length (Val.columns b1) : Int)) = false, AbC 155 (xB2 (Rowd.frm (List.getD (Val.rows b1) (Int.toNat x3) Ty.row.dflt))) (xAB r1), (!r1) = false]) := by kernel_rfl
theorem p113_4_6 (x3 : Int) (b1 : Val) : run tt (AbsCalls Try.prog) I113 3000 true (stkAt 4 I113.body) ⟨(S113_4 x3 b1), [false], [], []⟩ = some (.done (xAO true) [(decide ((x3 : Int) < (List.length (Val.rows b1) : Int))) = false]) := by kernel_rfl
theorem p113_e_7 (a0 : Val) (r1 : Bool) : run tt (AbsCalls Try.prog) I113 3000 false [.code I113.body] ⟨(zBm 0 (xCr a0)), [true, true], [xAG r1], []⟩ = some (.done (xAO false) [AbC 154 (xBX (Val.columns a0)) (xAG r1), (!r1) = true, true = true]) := by kernel_rfl
theorem p113_e_8 (a0 : Val) (r1 : Bool) : run tt (AbsCalls Try.prog) I113 3000 false [.code I113.body] ⟨(zBm 0 (xCr a0)), [false, true], [xAG r1], []⟩ = some (.done (xAO false) [AbC 154 (xBX (Val.columns a0)) (xAG r1), (!r1) = false, (decide (((List.length (Val.rows a0) : Int) : Int) > 12)) = true]) := by kernel_rfl
theorem p113_e_9 (a0 : Val) (r1 : Bool) : run tt (AbsCalls Try.prog) I113 3000 false [.code I113.body] ⟨(zBm 0 (xCr a0)), [false, false], [xAG r1], []⟩ = some (.stop (stkAt 4 I113.body) (S113_4 0 a0) [AbC 154 (xBX (Val.columns a0)) (xAG r1), (!r1) = false, (decide (((List.length (Val.rows a0) : Int) : Int) > 12)) = false]) := by kernel_rfl
theorem c113_10 {N : Nat} {k4 : Int → Val → Option (Bool)} (hk4 : ∀ z0 z1 r, k4 z0 z1 = some r → Reach Try.prog Try.f113 I113 (stkAt 4 I113.body) (S113_4 z0 z1) (xAO r)) : ∀ n x3 x5 b1 b4 r, xBw N k4 n x3 x5 b1 b4 = some r → Reach Try.prog Try.f113 I113 (stkAt 10 I113.body) (S113_10 x3 x5 b1 b4) (xAO r) := by
 intro n
 induction n with
 | zero => intro x3 x5 b1 b4 r h; have h' : (none : Option (Bool)) = some r := h; cases h'
 | succ n ih =>
  intro x3 x5 b1 b4 r h
  rw [xBw] at h
  rcases cond_inv h with ⟨h0, h⟩ | ⟨h0, h⟩
  ·obtain ⟨h1, h⟩ := ite_inv h
   obtain ⟨r1, h2, h⟩ := bind_inv h
   rcases cond_inv h with ⟨h3, h⟩ | ⟨h3, h⟩
   ·obtain rfl := Option.some.inj h
    exact Reach.done ttok mix fk113 (p113_10_0 x3 x5 b1 b4 r1) (obs_cons h0 (obs_cons h1 (obs_cons (xBc h2) (obs_cons h3 obs_nil))))
   ·exact Reach.stop ttok mix fk113 (p113_10_1 x3 x5 b1 b4 r1) (obs_cons h0 (obs_cons h1 (obs_cons (xBc h2) (obs_cons h3 obs_nil)))) (ih _ _ _ _ _ h)
  ·exact Reach.stop ttok mix fk113 (p113_10_2 x3 x5 b1 b4) (obs_cons h0 obs_nil) (hk4 _ _ _ h)
theorem c113_4 {N : Nat} : ∀ n x3 b1 r, xBN N n x3 b1 = some r → Reach Try.prog Try.f113 I113 (stkAt 4 I113.body) (S113_4 x3 b1) (xAO r) := by
 intro n
 induction n with
 | zero => intro x3 b1 r h; have h' : (none : Option (Bool)) = some r := h; cases h'
 | succ n ih =>
  intro x3 b1 r h
  rw [xBN] at h
  rcases cond_inv h with ⟨h0, h⟩ | ⟨h0, h⟩
  ·obtain ⟨h1, h⟩ := ite_inv h
   rcases cond_inv h with ⟨h2, h⟩ | ⟨h2, h⟩
   ·obtain rfl := Option.some.inj h
    exact Reach.done ttok mix fk113 (p113_4_3 x3 b1) (obs_cons h0 (obs_cons h1 (obs_cons h2 (obs_cons rfl obs_nil))))
   ·obtain ⟨r1, h3, h⟩ := bind_inv h
    rcases cond_inv h with ⟨h4, h⟩ | ⟨h4, h⟩
    ·obtain rfl := Option.some.inj h
     exact Reach.done ttok mix fk113 (p113_4_4 x3 b1 r1) (obs_cons h0 (obs_cons h1 (obs_cons h2 (obs_cons (xDE h3) (obs_cons h4 obs_nil)))))
    ·exact Reach.stop ttok mix fk113 (p113_4_5 x3 b1 r1) (obs_cons h0 (obs_cons h1 (obs_cons h2 (obs_cons (xDE h3) (obs_cons h4 obs_nil))))) (c113_10  ih _ _ _ _ _ _ h)
  ·obtain rfl := Option.some.inj h
   exact Reach.done ttok mix fk113 (p113_4_6 x3 b1) (obs_cons h0 obs_nil)
theorem c113_e {N : Nat} : ∀ a0 r, xC9 N a0 = some r → Reach Try.prog Try.f113 I113 [.code I113.body] (zBm 0 (xCr a0)) (xAO r) := by
 intro a0 r h
 unfold xC9 at h
 obtain ⟨r1, h0, h⟩ := bind_inv h
 rcases cond_inv h with ⟨h1, h⟩ | ⟨h1, h⟩
 ·obtain rfl := Option.some.inj h
  exact Reach.done ttok mix fk113 (p113_e_7 a0 r1) (obs_cons (xDl h0) (obs_cons h1 (obs_cons rfl obs_nil)))
 ·rcases cond_inv h with ⟨h2, h⟩ | ⟨h2, h⟩
  ·obtain rfl := Option.some.inj h
   exact Reach.done ttok mix fk113 (p113_e_8 a0 r1) (obs_cons (xDl h0) (obs_cons h1 (obs_cons h2 obs_nil)))
  ·exact Reach.stop ttok mix fk113 (p113_e_9 a0 r1) (obs_cons (xDl h0) (obs_cons h1 (obs_cons h2 obs_nil))) (c113_4   _ _ _ _ h)
theorem spec_l3Table_ok {N : Nat} {a0 : Val} {r : Bool} (h : xC9 N  a0 = some r) : AbC 113 (xCr a0) (xAO r) :=
 AbsCalls.of_reach fk113 rfl rfl (Nat.le_of_ble_eq_true rfl) (c113_e a0 r h)
end Go.Ab.T
end
section
open Go.Proofs
namespace Go.Ab.T
set_option linter.unusedVariables false
set_option maxRecDepth 100000
noncomputable def I40 : Info := { body := (Try.f40.body).getD .skip, nt := 95, results := [.tmp 2], keep := [0, 2, 4, 52, 88, 92, 94, 104, 124, 142, 162, 180, 3], live := [], modes := [(1, [(3, .take, false), (9, .take, false), (13, .take, false)]), (3, [(3, .take, false), (8, .take, false), (12, .take, false)]), (9, [(3, .take, false)]), (11, [(3, .take, false)]), (13, [(3, .take, false)]), (15, [(3, .take, false)])], ext := [], lnt := [], casts := [], fcast := [] }
theorem fk40 : FnOk Try.prog 40 Try.f40 I40 := ⟨Try.func40, by kernel_rfl, by kernel_rfl, by kernel_rfl, by kernel_rfl⟩
theorem p40_e_0 (a0 : Val) : run tt (AbsCalls Try.prog) I40 3000 false [.code I40.body] ⟨(zBm 0 (xAb a0)), [true, true, true], [], []⟩ = some (.done (xAa false) [(((Val.kind a0) : Int) != 3) = true, (decide (((List.length (Val.list a0) : Int) : Int) > 0)) = true, true = true]) := by kernel_rfl
theorem p40_e_1 (a0 : Val) : run tt (AbsCalls Try.prog) I40 3000 false [.code I40.body] ⟨(zBm 0 (xAb a0)), [true, false, true, true], [], []⟩ = some (.done (xAa false) [(((Val.kind a0) : Int) != 3) = true, (decide (((List.length (Val.list a0) : Int) : Int) > 0)) = false, (((Val.kind a0) : Int) != 5) = true, (decide (((IntKind.i64.wrap ((List.length (Val.columns a0) : Int) + (List.length (Val.rows a0) : Int))) : Int) > 0)) = true]) := by kernel_rfl
theorem p40_e_2 (a0 : Val) : run tt (AbsCalls Try.prog) I40 3000 false [.code I40.body] ⟨(zBm 0 (xAb a0)), [true, false, true, false, true, true, true], [], []⟩ = some (.done (xAa false) [(((Val.kind a0) : Int) != 3) = true, (decide (((List.length (Val.list a0) : Int) : Int) > 0)) = false, (((Val.kind a0) : Int) != 5) = true, (decide (((IntKind.i64.wrap ((List.length (Val.columns a0) : Int) + (List.length (Val.rows a0) : Int))) : Int) > 0)) = false, (((Val.kind a0) : Int) != 2) = true, (!(((Val.text a0) : Str) == [])) = true, true = true]) := by kernel_rfl
theorem p40_e_3 (a0 : Val) : run tt (AbsCalls Try.prog) I40 3000 false [.code I40.body] ⟨(zBm 0 (xAb a0)), [true, false, true, false, true, false, true, true], [], []⟩ = some (.done (xAa false) [(((Val.kind a0) : Int) != 3) = true, (decide (((List.length (Val.list a0) : Int) : Int) > 0)) = false, (((Val.kind a0) : Int) != 5) = true, (decide (((IntKind.i64.wrap ((List.length (Val.columns a0) : Int) + (List.length (Val.rows a0) : Int))) : Int) > 0)) = false, (((Val.kind a0) : Int) != 2) = true, (!(((Val.text a0) : Str) == [])) = false, (((Val.kind a0) : Int) != 4) = true, (((Val.step a0) : Int) != 0) = true]) := by kernel_rfl
theorem p40_e_4 (a0 : Val) (r1 : Bool) : run tt (AbsCalls Try.prog) I40 3000 false [.code I40.body] ⟨(zBm 0 (xAb a0)), [true, false, true, false, true, false, true, false, true], [xAl r1], []⟩ = some (.done (xAa r1) [(((Val.kind a0) : Int) != 3) = true, (decide (((List.length (Val.list a0) : Int) : Int) > 0)) = false, (((Val.kind a0) : Int) != 5) = true, (decide (((IntKind.i64.wrap ((List.length (Val.columns a0) : Int) + (List.length (Val.rows a0) : Int))) : Int) > 0)) = false, (((Val.kind a0) : Int) != 2) = true, (!(((Val.text a0) : Str) == [])) = false, (((Val.kind a0) : Int) != 4) = true, (((Val.step a0) : Int) != 0) = false, (((Val.kind a0) : Int) == 1) = true, AbC 85 (xAH (Val.n a0)) (xAl r1)]) := by kernel_rfl
theorem p40_e_5 (a0 : Val) (r1 : Bool) : run tt (AbsCalls Try.prog) I40 3000 false [.code I40.body] ⟨(zBm 0 (xAb a0)), [true, false, true, false, true, false, true, false, false, false, false, false, false, true], [xA5 r1], []⟩ = some (.done (xAa r1) [(((Val.kind a0) : Int) != 3) = true, (decide (((List.length (Val.list a0) : Int) : Int) > 0)) = false, (((Val.kind a0) : Int) != 5) = true, (decide (((IntKind.i64.wrap ((List.length (Val.columns a0) : Int) + (List.length (Val.rows a0) : Int))) : Int) > 0)) = false, (((Val.kind a0) : Int) != 2) = true, (!(((Val.text a0) : Str) == [])) = false, (((Val.kind a0) : Int) != 4) = true, (((Val.step a0) : Int) != 0) = false, (((Val.kind a0) : Int) == 1) = false, (((Val.kind a0) : Int) == 2) = false, (((Val.kind a0) : Int) == 3) = false, (((Val.kind a0) : Int) == 4) = false, (((Val.kind a0) : Int) == 5) = false, (((Val.kind a0) : Int) == 6) = true, AbC 108 (xBV (Val.n a0) 1 8) (xA5 r1)]) := by kernel_rfl
theorem p40_e_6 (a0 : Val) : run tt (AbsCalls Try.prog) I40 3000 false [.code I40.body] ⟨(zBm 0 (xAb a0)), [true, false, true, false, true, false, true, false, false, false, false, false, false, false], [], []⟩ = some (.done (xAa false) [(((Val.kind a0) : Int) != 3) = true, (decide (((List.length (Val.list a0) : Int) : Int) > 0)) = false, (((Val.kind a0) : Int) != 5) = true, (decide (((IntKind.i64.wrap ((List.length (Val.columns a0) : Int) + (List.length (Val.rows a0) : Int))) : Int) > 0)) = false, (((Val.kind a0) : Int) != 2) = true, (!(((Val.text a0) : Str) == [])) = false, (((Val.kind a0) : Int) != 4) = true, (((Val.step a0) : Int) != 0) = false, (((Val.kind a0) : Int) == 1) = false, (((Val.kind a0) : Int) == 2) = false, (((Val.kind a0) : Int) == 3) = false, (((Val.kind a0) : Int) == 4) = false, (((Val.kind a0) : Int) == 5) = false, (((Val.kind a0) : Int) == 6) = false]) := by kernel_rfl
theorem p40_e_7 (a0 : Val) (r1 r2 : Bool) : run tt (AbsCalls Try.prog) I40 3000 false [.code I40.body] ⟨(zBm 0 (xAb a0)), [true, false, true, false, true, false, false, false, false, false, false, true, true], [xAl r1, xAl r2], []⟩ = some (.done (xAa r2) [(((Val.kind a0) : Int) != 3) = true, (decide (((List.length (Val.list a0) : Int) : Int) > 0)) = false, (((Val.kind a0) : Int) != 5) = true, (decide (((IntKind.i64.wrap ((List.length (Val.columns a0) : Int) + (List.length (Val.rows a0) : Int))) : Int) > 0)) = false, (((Val.kind a0) : Int) != 2) = true, (!(((Val.text a0) : Str) == [])) = false, (((Val.kind a0) : Int) != 4) = false, false = false, (((Val.kind a0) : Int) == 1) = false, (((Val.kind a0) : Int) == 2) = false, (((Val.kind a0) : Int) == 3) = false, (((Val.kind a0) : Int) == 4) = true, AbC 85 (xAH (Val.n a0)) (xAl r1), r1 = true, AbC 85 (xAH (Val.step a0)) (xAl r2)]) := by kernel_rfl
theorem p40_e_8 (a0 : Val) (r1 : Bool) : run tt (AbsCalls Try.prog) I40 3000 false [.code I40.body] ⟨(zBm 0 (xAb a0)), [true, false, true, false, true, false, false, false, false, false, false, true, false], [xAl r1], []⟩ = some (.done (xAa false) [(((Val.kind a0) : Int) != 3) = true, (decide (((List.length (Val.list a0) : Int) : Int) > 0)) = false, (((Val.kind a0) : Int) != 5) = true, (decide (((IntKind.i64.wrap ((List.length (Val.columns a0) : Int) + (List.length (Val.rows a0) : Int))) : Int) > 0)) = false, (((Val.kind a0) : Int) != 2) = true, (!(((Val.text a0) : Str) == [])) = false, (((Val.kind a0) : Int) != 4) = false, false = false, (((Val.kind a0) : Int) == 1) = false, (((Val.kind a0) : Int) == 2) = false, (((Val.kind a0) : Int) == 3) = false, (((Val.kind a0) : Int) == 4) = true, AbC 85 (xAH (Val.n a0)) (xAl r1), r1 = false]) := by kernel_rfl
theorem p40_e_9 (a0 : Val) : run tt (AbsCalls Try.prog) I40 3000 false [.code I40.body] ⟨(zBm 0 (xAb a0)), [true, false, true, false, false, false, true, true], [], []⟩ = some (.done (xAa false) [(((Val.kind a0) : Int) != 3) = true, (decide (((List.length (Val.list a0) : Int) : Int) > 0)) = false, (((Val.kind a0) : Int) != 5) = true, (decide (((IntKind.i64.wrap ((List.length (Val.columns a0) : Int) + (List.length (Val.rows a0) : Int))) : Int) > 0)) = false, (((Val.kind a0) : Int) != 2) = false, false = false, (((Val.kind a0) : Int) != 4) = true, (((Val.step a0) : Int) != 0) = true]) := by kernel_rfl
theorem p40_e_10 (a0 : Val) (r1 : Bool) : run tt (AbsCalls Try.prog) I40 3000 false [.code I40.body] ⟨(zBm 0 (xAb a0)), [true, false, true, false, false, false, true, false, false, true, true], [xAW r1], []⟩ = some (.done (xAa r1) [(((Val.kind a0) : Int) != 3) = true, (decide (((List.length (Val.list a0) : Int) : Int) > 0)) = false, (((Val.kind a0) : Int) != 5) = true, (decide (((IntKind.i64.wrap ((List.length (Val.columns a0) : Int) + (List.length (Val.rows a0) : Int))) : Int) > 0)) = false, (((Val.kind a0) : Int) != 2) = false, false = false, (((Val.kind a0) : Int) != 4) = true, (((Val.step a0) : Int) != 0) = false, (((Val.kind a0) : Int) == 1) = false, (((Val.kind a0) : Int) == 2) = true, (((Val.n a0) : Int) == 0) = true, AbC 111 (xCu (Val.text a0)) (xAW r1)]) := by kernel_rfl
theorem p40_e_11 (a0 : Val) : run tt (AbsCalls Try.prog) I40 3000 false [.code I40.body] ⟨(zBm 0 (xAb a0)), [true, false, true, false, false, false, true, false, false, true, false], [], []⟩ = some (.done (xAa false) [(((Val.kind a0) : Int) != 3) = true, (decide (((List.length (Val.list a0) : Int) : Int) > 0)) = false, (((Val.kind a0) : Int) != 5) = true, (decide (((IntKind.i64.wrap ((List.length (Val.columns a0) : Int) + (List.length (Val.rows a0) : Int))) : Int) > 0)) = false, (((Val.kind a0) : Int) != 2) = false, false = false, (((Val.kind a0) : Int) != 4) = true, (((Val.step a0) : Int) != 0) = false, (((Val.kind a0) : Int) == 1) = false, (((Val.kind a0) : Int) == 2) = true, (((Val.n a0) : Int) == 0) = false]) := by kernel_rfl
theorem p40_e_12 (a0 : Val) : run tt (AbsCalls Try.prog) I40 3000 false [.code I40.body] ⟨(zBm 0 (xAb a0)), [true, false, false, false, true, true, true], [], []⟩ = some (.done (xAa false) [(((Val.kind a0) : Int) != 3) = true, (decide (((List.length (Val.list a0) : Int) : Int) > 0)) = false, (((Val.kind a0) : Int) != 5) = false, false = false, (((Val.kind a0) : Int) != 2) = true, (!(((Val.text a0) : Str) == [])) = true, true = true]) := by kernel_rfl
theorem p40_e_13 (a0 : Val) : run tt (AbsCalls Try.prog) I40 3000 false [.code I40.body] ⟨(zBm 0 (xAb a0)), [true, false, false, false, true, false, true, true], [], []⟩ = some (.done (xAa false) [(((Val.kind a0) : Int) != 3) = true, (decide (((List.length (Val.list a0) : Int) : Int) > 0)) = false, (((Val.kind a0) : Int) != 5) = false, false = false, (((Val.kind a0) : Int) != 2) = true, (!(((Val.text a0) : Str) == [])) = false, (((Val.kind a0) : Int) != 4) = true, (((Val.step a0) : Int) != 0) = true]) := by kernel_rfl
theorem p40_e_14 (a0 : Val) (r1 : Bool) : run tt (AbsCalls Try.prog) I40 3000 false [.code I40.body] ⟨(zBm 0 (xAb a0)), [true, false, false, false, true, false, true, false, false, false, false, false, true, true], [xAO r1], []⟩ = some (.done (xAa r1) [(((Val.kind a0) : Int) != 3) = true, (decide (((List.length (Val.list a0) : Int) : Int) > 0)) = false, (((Val.kind a0) : Int) != 5) = false, false = false, (((Val.kind a0) : Int) != 2) = true, (!(((Val.text a0) : Str) == [])) = false, (((Val.kind a0) : Int) != 4) = true, (((Val.step a0) : Int) != 0) = false, (((Val.kind a0) : Int) == 1) = false, (((Val.kind a0) : Int) == 2) = false, (((Val.kind a0) : Int) == 3) = false, (((Val.kind a0) : Int) == 4) = false, (((Val.kind a0) : Int) == 5) = true, (((Val.n a0) : Int) == 0) = true, AbC 113 (xCr a0) (xAO r1)]) := by kernel_rfl
theorem p40_e_15 (a0 : Val) : run tt (AbsCalls Try.prog) I40 3000 false [.code I40.body] ⟨(zBm 0 (xAb a0)), [true, false, false, false, true, false, true, false, false, false, false, false, true, false], [], []⟩ = some (.done (xAa false) [(((Val.kind a0) : Int) != 3) = true, (decide (((List.length (Val.list a0) : Int) : Int) > 0)) = false, (((Val.kind a0) : Int) != 5) = false, false = false, (((Val.kind a0) : Int) != 2) = true, (!(((Val.text a0) : Str) == [])) = false, (((Val.kind a0) : Int) != 4) = true, (((Val.step a0) : Int) != 0) = false, (((Val.kind a0) : Int) == 1) = false, (((Val.kind a0) : Int) == 2) = false, (((Val.kind a0) : Int) == 3) = false, (((Val.kind a0) : Int) == 4) = false, (((Val.kind a0) : Int) == 5) = true, (((Val.n a0) : Int) == 0) = false]) := by kernel_rfl
theorem p40_e_16 (a0 : Val) : run tt (AbsCalls Try.prog) I40 3000 false [.code I40.body] ⟨(zBm 0 (xAb a0)), [false, false, true, true], [], []⟩ = some (.done (xAa false) [(((Val.kind a0) : Int) != 3) = false, false = false, (((Val.kind a0) : Int) != 5) = true, (decide (((IntKind.i64.wrap ((List.length (Val.columns a0) : Int) + (List.length (Val.rows a0) : Int))) : Int) > 0)) = true]) := by kernel_rfl
theorem p40_e_17 (a0 : Val) : run tt (AbsCalls Try.prog) I40 3000 false [.code I40.body] ⟨(zBm 0 (xAb a0)), [false, false, true, false, true, true, true], [], []⟩ = some (.done (xAa false) [(((Val.kind a0) : Int) != 3) = false, false = false, (((Val.kind a0) : Int) != 5) = true, (decide (((IntKind.i64.wrap ((List.length (Val.columns a0) : Int) + (List.length (Val.rows a0) : Int))) : Int) > 0)) = false, (((Val.kind a0) : Int) != 2) = true, (!(((Val.text a0) : Str) == [])) = true, true = true]) := by kernel_rfl
theorem p40_e_18 (a0 : Val) : run tt (AbsCalls Try.prog) I40 3000 false [.code I40.body] ⟨(zBm 0 (xAb a0)), [false, false, true, false, true, false, true, true], [], []⟩ = some (.done (xAa false) [(((Val.kind a0) : Int) != 3) = false, false = false, (((Val.kind a0) : Int) != 5) = true, (decide (((IntKind.i64.wrap ((List.length (Val.columns a0) : Int) + (List.length (Val.rows a0) : Int))) : Int) > 0)) = false, (((Val.kind a0) : Int) != 2) = true, (!(((Val.text a0) : Str) == [])) = false, (((Val.kind a0) : Int) != 4) = true, (((Val.step a0) : Int) != 0) = true]) := by kernel_rfl
theorem p40_e_19 (a0 : Val) (r1 : Bool) : run tt (AbsCalls Try.prog) I40 3000 false [.code I40.body] ⟨(zBm 0 (xAb a0)), [false, false, true, false, true, false, true, false, false, false, true, true], [xAJ r1], []⟩ = some (.done (xAa r1) [(((Val.kind a0) : Int) != 3) = false, false = false, (((Val.kind a0) : Int) != 5) = true, (decide (((IntKind.i64.wrap ((List.length (Val.columns a0) : Int) + (List.length (Val.rows a0) : Int))) : Int) > 0)) = false, (((Val.kind a0) : Int) != 2) = true, (!(((Val.text a0) : Str) == [])) = false, (((Val.kind a0) : Int) != 4) = true, (((Val.step a0) : Int) != 0) = false, (((Val.kind a0) : Int) == 1) = false, (((Val.kind a0) : Int) == 2) = false, (((Val.kind a0) : Int) == 3) = true, (((Val.n a0) : Int) == 0) = true, AbC 112 (xBs a0) (xAJ r1)]) := by kernel_rfl
theorem p40_e_20 (a0 : Val) : run tt (AbsCalls Try.prog) I40 3000 false [.code I40.body] ⟨(zBm 0 (xAb a0)), [false, false, true, false, true, false, true, false, false, false, true, false], [], []⟩ = some (.done (xAa false) [(((Val.kind a0) : Int) != 3) = false, false = false, (((Val.kind a0) : Int) != 5) = true, (decide (((IntKind.i64.wrap ((List.length (Val.columns a0) : Int) + (List.length (Val.rows a0) : Int))) : Int) > 0)) = false, (((Val.kind a0) : Int) != 2) = true, (!(((Val.text a0) : Str) == [])) = false, (((Val.kind a0) : Int) != 4) = true, (((Val.step a0) : Int) != 0) = false, (((Val.kind a0) : Int) == 1) = false, (((Val.kind a0) : Int) == 2) = false, (((Val.kind a0) : Int) == 3) = true, (((Val.n a0) : Int) == 0) = false]) := by kernel_rfl
theorem c40_e {N : Nat} {rc_spec_IsValidValue : Val → Option (Bool)} (hrc_spec_IsValidValue : ∀ a0 r, rc_spec_IsValidValue a0 = some r → AbC 40 (xAb a0) (xAa r)) {rc_spec_l3List : Val → Option (Bool)} (hrc_spec_l3List : ∀ a0 r, rc_spec_l3List a0 = some r → AbC 112 (xBs a0) (xAJ r)) : ∀ a0 r, xBg N rc_spec_IsValidValue rc_spec_l3List a0 = some r → Reach Try.prog Try.f40 I40 [.code I40.body] (zBm 0 (xAb a0)) (xAa r) := by
 intro a0 r h
 unfold xBg at h
 rcases cond_inv h with ⟨h0, h⟩ | ⟨h0, h⟩
 ·rcases cond_inv h with ⟨h1, h⟩ | ⟨h1, h⟩
  ·obtain rfl := Option.some.inj h
   exact Reach.done ttok mix fk40 (p40_e_0 a0) (obs_cons h0 (obs_cons h1 (obs_cons rfl obs_nil)))
  ·rcases cond_inv h with ⟨h2, h⟩ | ⟨h2, h⟩
   ·rcases cond_inv h with ⟨h3, h⟩ | ⟨h3, h⟩
    ·obtain rfl := Option.some.inj h
     exact Reach.done ttok mix fk40 (p40_e_1 a0) (obs_cons h0 (obs_cons h1 (obs_cons h2 (obs_cons h3 obs_nil))))
    ·rcases cond_inv h with ⟨h4, h⟩ | ⟨h4, h⟩
     ·rcases cond_inv h with ⟨h5, h⟩ | ⟨h5, h⟩
      ·obtain rfl := Option.some.inj h
       exact Reach.done ttok mix fk40 (p40_e_2 a0) (obs_cons h0 (obs_cons h1 (obs_cons h2 (obs_cons h3 (obs_cons h4 (obs_cons h5 (obs_cons rfl obs_nil)))))))
      ·rcases cond_inv h with ⟨h6, h⟩ | ⟨h6, h⟩
       ·rcases cond_inv h with ⟨h7, h⟩ | ⟨h7, h⟩
        ·obtain rfl := Option.some.inj h
         exact Reach.done ttok mix fk40 (p40_e_3 a0) (obs_cons h0 (obs_cons h1 (obs_cons h2 (obs_cons h3 (obs_cons h4 (obs_cons h5 (obs_cons h6 (obs_cons h7 obs_nil))))))))
        ·rcases cond_inv h with ⟨h8, h⟩ | ⟨h8, h⟩
         ·obtain ⟨r1, h9, h⟩ := bind_inv h
          obtain rfl := Option.some.inj h
          exact Reach.done ttok mix fk40 (p40_e_4 a0 r1) (obs_cons h0 (obs_cons h1 (obs_cons h2 (obs_cons h3 (obs_cons h4 (obs_cons h5 (obs_cons h6 (obs_cons h7 (obs_cons h8 (obs_cons (xBc h9) obs_nil))))))))))
         ·rcases cond_inv h with ⟨h13, h⟩ | ⟨h13, h⟩
          ·obtain ⟨r1, h14, h⟩ := bind_inv h
           obtain rfl := Option.some.inj h
           exact Reach.done ttok mix fk40 (p40_e_5 a0 r1) (obs_cons h0 (obs_cons h1 (obs_cons h2 (obs_cons h3 (obs_cons h4 (obs_cons h5 (obs_cons h6 (obs_cons h7 (obs_cons h8 (obs_cons (of_not h4) (obs_cons (of_not h0) (obs_cons (of_not h6) (obs_cons (of_not h2) (obs_cons h13 (obs_cons (xC8 h14) obs_nil)))))))))))))))
          ·obtain rfl := Option.some.inj h
           exact Reach.done ttok mix fk40 (p40_e_6 a0) (obs_cons h0 (obs_cons h1 (obs_cons h2 (obs_cons h3 (obs_cons h4 (obs_cons h5 (obs_cons h6 (obs_cons h7 (obs_cons h8 (obs_cons (of_not h4) (obs_cons (of_not h0) (obs_cons (of_not h6) (obs_cons (of_not h2) (obs_cons h13 obs_nil))))))))))))))
       ·obtain ⟨r1, h12, h⟩ := bind_inv h
        rcases cond_inv h with ⟨h13, h⟩ | ⟨h13, h⟩
        ·obtain ⟨r2, h14, h⟩ := bind_inv h
         obtain rfl := Option.some.inj h
         exact Reach.done ttok mix fk40 (p40_e_7 a0 r1 r2) (obs_cons h0 (obs_cons h1 (obs_cons h2 (obs_cons h3 (obs_cons h4 (obs_cons h5 (obs_cons h6 (obs_cons rfl (obs_cons (eq_ne (of_not h6) rfl) (obs_cons (of_not h4) (obs_cons (of_not h0) (obs_cons (of_not h6) (obs_cons (xBc h12) (obs_cons h13 (obs_cons (xBc h14) obs_nil)))))))))))))))
        ·obtain rfl := Option.some.inj h
         exact Reach.done ttok mix fk40 (p40_e_8 a0 r1) (obs_cons h0 (obs_cons h1 (obs_cons h2 (obs_cons h3 (obs_cons h4 (obs_cons h5 (obs_cons h6 (obs_cons rfl (obs_cons (eq_ne (of_not h6) rfl) (obs_cons (of_not h4) (obs_cons (of_not h0) (obs_cons (of_not h6) (obs_cons (xBc h12) (obs_cons h13 obs_nil))))))))))))))
     ·rcases cond_inv h with ⟨h7, h⟩ | ⟨h7, h⟩
      ·obtain rfl := Option.some.inj h
       exact Reach.done ttok mix fk40 (p40_e_9 a0) (obs_cons h0 (obs_cons h1 (obs_cons h2 (obs_cons h3 (obs_cons h4 (obs_cons rfl (obs_cons (not_of (eq_ne (of_not h4) rfl)) (obs_cons h7 obs_nil))))))))
      ·rcases cond_inv h with ⟨h10, h⟩ | ⟨h10, h⟩
       ·obtain ⟨r1, h11, h⟩ := bind_inv h
        obtain rfl := Option.some.inj h
        exact Reach.done ttok mix fk40 (p40_e_10 a0 r1) (obs_cons h0 (obs_cons h1 (obs_cons h2 (obs_cons h3 (obs_cons h4 (obs_cons rfl (obs_cons (not_of (eq_ne (of_not h4) rfl)) (obs_cons h7 (obs_cons (eq_ne (of_not h4) rfl) (obs_cons (of_not h4) (obs_cons h10 (obs_cons (xEy h11) obs_nil))))))))))))
       ·obtain rfl := Option.some.inj h
        exact Reach.done ttok mix fk40 (p40_e_11 a0) (obs_cons h0 (obs_cons h1 (obs_cons h2 (obs_cons h3 (obs_cons h4 (obs_cons rfl (obs_cons (not_of (eq_ne (of_not h4) rfl)) (obs_cons h7 (obs_cons (eq_ne (of_not h4) rfl) (obs_cons (of_not h4) (obs_cons h10 obs_nil)))))))))))
   ·rcases cond_inv h with ⟨h5, h⟩ | ⟨h5, h⟩
    ·obtain rfl := Option.some.inj h
     exact Reach.done ttok mix fk40 (p40_e_12 a0) (obs_cons h0 (obs_cons h1 (obs_cons h2 (obs_cons rfl (obs_cons (not_of (eq_ne (of_not h2) rfl)) (obs_cons h5 (obs_cons rfl obs_nil)))))))
    ·rcases cond_inv h with ⟨h7, h⟩ | ⟨h7, h⟩
     ·obtain rfl := Option.some.inj h
      exact Reach.done ttok mix fk40 (p40_e_13 a0) (obs_cons h0 (obs_cons h1 (obs_cons h2 (obs_cons rfl (obs_cons (not_of (eq_ne (of_not h2) rfl)) (obs_cons h5 (obs_cons (not_of (eq_ne (of_not h2) rfl)) (obs_cons h7 obs_nil))))))))
     ·rcases cond_inv h with ⟨h13, h⟩ | ⟨h13, h⟩
      ·obtain ⟨r1, h14, h⟩ := bind_inv h
       obtain rfl := Option.some.inj h
       exact Reach.done ttok mix fk40 (p40_e_14 a0 r1) (obs_cons h0 (obs_cons h1 (obs_cons h2 (obs_cons rfl (obs_cons (not_of (eq_ne (of_not h2) rfl)) (obs_cons h5 (obs_cons (not_of (eq_ne (of_not h2) rfl)) (obs_cons h7 (obs_cons (eq_ne (of_not h2) rfl) (obs_cons (eq_ne (of_not h2) rfl) (obs_cons (of_not h0) (obs_cons (eq_ne (of_not h2) rfl) (obs_cons (of_not h2) (obs_cons h13 (obs_cons (spec_l3Table_ok h14) obs_nil)))))))))))))))
      ·obtain rfl := Option.some.inj h
       exact Reach.done ttok mix fk40 (p40_e_15 a0) (obs_cons h0 (obs_cons h1 (obs_cons h2 (obs_cons rfl (obs_cons (not_of (eq_ne (of_not h2) rfl)) (obs_cons h5 (obs_cons (not_of (eq_ne (of_not h2) rfl)) (obs_cons h7 (obs_cons (eq_ne (of_not h2) rfl) (obs_cons (eq_ne (of_not h2) rfl) (obs_cons (of_not h0) (obs_cons (eq_ne (of_not h2) rfl) (obs_cons (of_not h2) (obs_cons h13 obs_nil))))))))))))))
 ·rcases cond_inv h with ⟨h3, h⟩ | ⟨h3, h⟩
  ·obtain rfl := Option.some.inj h
   exact Reach.done ttok mix fk40 (p40_e_16 a0) (obs_cons h0 (obs_cons rfl (obs_cons (not_of (eq_ne (of_not h0) rfl)) (obs_cons h3 obs_nil))))
  ·rcases cond_inv h with ⟨h5, h⟩ | ⟨h5, h⟩
   ·obtain rfl := Option.some.inj h
    exact Reach.done ttok mix fk40 (p40_e_17 a0) (obs_cons h0 (obs_cons rfl (obs_cons (not_of (eq_ne (of_not h0) rfl)) (obs_cons h3 (obs_cons (not_of (eq_ne (of_not h0) rfl)) (obs_cons h5 (obs_cons rfl obs_nil)))))))
   ·rcases cond_inv h with ⟨h7, h⟩ | ⟨h7, h⟩
    ·obtain rfl := Option.some.inj h
     exact Reach.done ttok mix fk40 (p40_e_18 a0) (obs_cons h0 (obs_cons rfl (obs_cons (not_of (eq_ne (of_not h0) rfl)) (obs_cons h3 (obs_cons (not_of (eq_ne (of_not h0) rfl)) (obs_cons h5 (obs_cons (not_of (eq_ne (of_not h0) rfl)) (obs_cons h7 obs_nil))))))))
    ·rcases cond_inv h with ⟨h11, h⟩ | ⟨h11, h⟩
     ·obtain ⟨r1, h12, h⟩ := bind_inv h
      obtain rfl := Option.some.inj h
      exact Reach.done ttok mix fk40 (p40_e_19 a0 r1) (obs_cons h0 (obs_cons rfl (obs_cons (not_of (eq_ne (of_not h0) rfl)) (obs_cons h3 (obs_cons (not_of (eq_ne (of_not h0) rfl)) (obs_cons h5 (obs_cons (not_of (eq_ne (of_not h0) rfl)) (obs_cons h7 (obs_cons (eq_ne (of_not h0) rfl) (obs_cons (eq_ne (of_not h0) rfl) (obs_cons (of_not h0) (obs_cons h11 (obs_cons (hrc_spec_l3List _ _ h12) obs_nil)))))))))))))
     ·obtain rfl := Option.some.inj h
      exact Reach.done ttok mix fk40 (p40_e_20 a0) (obs_cons h0 (obs_cons rfl (obs_cons (not_of (eq_ne (of_not h0) rfl)) (obs_cons h3 (obs_cons (not_of (eq_ne (of_not h0) rfl)) (obs_cons h5 (obs_cons (not_of (eq_ne (of_not h0) rfl)) (obs_cons h7 (obs_cons (eq_ne (of_not h0) rfl) (obs_cons (eq_ne (of_not h0) rfl) (obs_cons (of_not h0) (obs_cons h11 obs_nil))))))))))))
theorem xDN {N : Nat} {rc_spec_IsValidValue : Val → Option (Bool)} (hrc_spec_IsValidValue : ∀ a0 r, rc_spec_IsValidValue a0 = some r → AbC 40 (xAb a0) (xAa r)) {rc_spec_l3List : Val → Option (Bool)} (hrc_spec_l3List : ∀ a0 r, rc_spec_l3List a0 = some r → AbC 112 (xBs a0) (xAJ r)) {a0 : Val} {r : Bool} (h : xBg N rc_spec_IsValidValue rc_spec_l3List a0 = some r) : AbC 40 (xAb a0) (xAa r) :=
 AbsCalls.of_reach fk40 rfl rfl (Nat.le_of_ble_eq_true rfl) (c40_e hrc_spec_IsValidValue hrc_spec_l3List a0 r h)
noncomputable def I112 : Info := { body := (Try.f112.body).getD .skip, nt := 36, results := [.tmp 2], keep := [0, 2, 4, 6, 16, 52, 3], live := [(2, [2, 6, 3])], modes := [(4, [(7, .take, false)]), (6, [(4, .take, false)])], ext := [], lnt := [], casts := [], fcast := [] }
theorem fk112 : FnOk Try.prog 112 Try.f112 I112 := ⟨Try.func112, by kernel_rfl, by kernel_rfl, by kernel_rfl, by kernel_rfl⟩
def S112_2 (x3 : Int) (b1 : Val) : St := [(2, .v false [.ptr 1 0]), (6, .v false [.int .i64 x3]), (3, .v true [.int .i64 (Val.kind b1), .int .i64 (Val.n b1), .int .i64 (Val.step b1), .str (Val.text b1), .sl .ro .val (Val.list b1), .sl .ro .str (Val.columns b1), .sl .ro .row (Val.rows b1)])]
theorem p112_2_0 (x3 : Int) (b1 : Val) (r1 : Bool) : run tt (AbsCalls Try.prog) I112 3000 true (stkAt 2 I112.body) ⟨(S112_2 x3 b1), [true, true, true], [xAN r1], []⟩ = some (.done (xAJ false) [(decide ((x3 : Int) < (List.length (Val.list b1) : Int))) = true, (0 : Int) ≤ x3 ∧ x3 < (List.length (Val.list b1)), AbC 152 (xBr (List.getD (Val.list b1) (Int.toNat x3) Ty.val.dflt)) (xAN r1), (!r1) = true, true = true]) := by kernel_rfl
theorem p112_2_1 (x3 : Int) (b1 : Val) (r1 r2 : Bool) : run tt (AbsCalls Try.prog) I112 3000 true (stkAt 2 I112.body) ⟨(S112_2 x3 b1), [true, false, true], [xAN r1, xAa r2], []⟩ = some (.done (xAJ false) [(decide ((x3 : Int) < (List.length (Val.list b1) : Int))) = true, (0 : Int) ≤ x3 ∧ x3 < (List.length (Val.list b1)), AbC 152 (xBr (List.getD (Val.list b1) (Int.toNat x3) Ty.val.dflt)) (xAN r1), (!r1) = false, (0 : Int) ≤ x3 ∧ x3 < (List.length (Val.list b1)), AbC 40 (xAb (List.getD (Val.list b1) (Int.toNat x3) Ty.val.dflt)) (xAa r2), (!r2) = true]) := by kernel_rfl
theorem p112_2_2 (x3 : Int) (b1 : Val) (r1 r2 : Bool) : run tt (AbsCalls Try.prog) I112 3000 true (stkAt 2 I112.body) ⟨(S112_2 x3 b1), [true, false, false], [xAN r1, xAa r2], []⟩ = some (.stop (stkAt 2 I112.body) (S112_2 (IntKind.i64.wrap (x3 + 1)) b1) [(decide ((x3 : Int) < (List.length (Val.list b1) : Int))) = true, (0 : Int) ≤ x3 ∧ x3 < (List.length (Val.list b1)), AbC 152 (xBr (List.getD (Val.list b1) (Int.toNat x3) Ty.val.dflt)) (xAN r1), (!r1) = false, (0 : Int) ≤ x3 ∧ x3 < (List.length (Val.list b1)), AbC 40 (xAb (List.getD (Val.list b1) (Int.toNat x3) Ty.val.dflt)) (xAa r2), (!r2) = false]) := by kernel_rfl
theorem p112_2_3 (x3 : Int) (b1 : Val) (r1 : Int) : run tt (AbsCalls Try.prog) I112 3000 true (stkAt 2 I112.body) ⟨(S112_2 x3 b1), [false, true], [xAM r1], []⟩ = some (.done (xAJ (decide ((r1 : Int) ≤ 3))) [(decide ((x3 : Int) < (List.length (Val.list b1) : Int))) = false, (decide (((List.length (Val.list b1) : Int) : Int) ≤ 8)) = true, AbC 153 (xBh b1) (xAM r1)]) := by kernel_rfl
theorem p112_2_4 (x3 : Int) (b1 : Val) : run tt (AbsCalls Try.prog) I112 3000 true (stkAt 2 I112.body) ⟨(S112_2 x3 b1), [false, false], [], []⟩ = some (.done (xAJ false) [(decide ((x3 : Int) < (List.length (Val.list b1) : Int))) = false, (decide (((List.length (Val.list b1) : Int) : Int) ≤ 8)) = false]) := by kernel_rfl
theorem p112_e_5 (a0 : Val) : run tt (AbsCalls Try.prog) I112 3000 false [.code I112.body] ⟨(zBm 0 (xBs a0)), [], [], []⟩ = some (.stop (stkAt 2 I112.body) (S112_2 0 a0) []) := by kernel_rfl
theorem c112_2 {N : Nat} {rc_spec_IsValidValue : Val → Option (Bool)} (hrc_spec_IsValidValue : ∀ a0 r, rc_spec_IsValidValue a0 = some r → AbC 40 (xAb a0) (xAa r)) {rc_spec_l3List : Val → Option (Bool)} (hrc_spec_l3List : ∀ a0 r, rc_spec_l3List a0 = some r → AbC 112 (xBs a0) (xAJ r)) : ∀ n x3 b1 r, xBH N rc_spec_IsValidValue rc_spec_l3List n x3 b1 = some r → Reach Try.prog Try.f112 I112 (stkAt 2 I112.body) (S112_2 x3 b1) (xAJ r) := by
 intro n
 induction n with
 | zero => intro x3 b1 r h; have h' : (none : Option (Bool)) = some r := h; cases h'
 | succ n ih =>
  intro x3 b1 r h
  rw [xBH] at h
  rcases cond_inv h with ⟨h0, h⟩ | ⟨h0, h⟩
  ·obtain ⟨h1, h⟩ := ite_inv h
   obtain ⟨r1, h2, h⟩ := bind_inv h
   rcases cond_inv h with ⟨h3, h⟩ | ⟨h3, h⟩
   ·obtain rfl := Option.some.inj h
    exact Reach.done ttok mix fk112 (p112_2_0 x3 b1 r1) (obs_cons h0 (obs_cons h1 (obs_cons (xDm h2) (obs_cons h3 (obs_cons rfl obs_nil)))))
   ·obtain ⟨r2, h5, h⟩ := bind_inv h
    rcases cond_inv h with ⟨h6, h⟩ | ⟨h6, h⟩
    ·obtain rfl := Option.some.inj h
     exact Reach.done ttok mix fk112 (p112_2_1 x3 b1 r1 r2) (obs_cons h0 (obs_cons h1 (obs_cons (xDm h2) (obs_cons h3 (obs_cons h1 (obs_cons (hrc_spec_IsValidValue _ _ h5) (obs_cons h6 obs_nil)))))))
    ·exact Reach.stop ttok mix fk112 (p112_2_2 x3 b1 r1 r2) (obs_cons h0 (obs_cons h1 (obs_cons (xDm h2) (obs_cons h3 (obs_cons h1 (obs_cons (hrc_spec_IsValidValue _ _ h5) (obs_cons h6 obs_nil))))))) (ih _ _ _ h)
  ·rcases cond_inv h with ⟨h1, h⟩ | ⟨h1, h⟩
   ·obtain ⟨r1, h2, h⟩ := bind_inv h
    obtain rfl := Option.some.inj h
    exact Reach.done ttok mix fk112 (p112_2_3 x3 b1 r1) (obs_cons h0 (obs_cons h1 (obs_cons (spec_DepthOf_ok h2) obs_nil)))
   ·obtain rfl := Option.some.inj h
    exact Reach.done ttok mix fk112 (p112_2_4 x3 b1) (obs_cons h0 (obs_cons h1 obs_nil))
theorem c112_e {N : Nat} {rc_spec_IsValidValue : Val → Option (Bool)} (hrc_spec_IsValidValue : ∀ a0 r, rc_spec_IsValidValue a0 = some r → AbC 40 (xAb a0) (xAa r)) {rc_spec_l3List : Val → Option (Bool)} (hrc_spec_l3List : ∀ a0 r, rc_spec_l3List a0 = some r → AbC 112 (xBs a0) (xAJ r)) : ∀ a0 r, xC2 N rc_spec_IsValidValue rc_spec_l3List a0 = some r → Reach Try.prog Try.f112 I112 [.code I112.body] (zBm 0 (xBs a0)) (xAJ r) := by
 intro a0 r h
 unfold xC2 at h
 exact Reach.stop ttok mix fk112 (p112_e_5 a0) obs_nil (c112_2 hrc_spec_IsValidValue hrc_spec_l3List  _ _ _ _ h)
theorem xEA {N : Nat} {rc_spec_IsValidValue : Val → Option (Bool)} (hrc_spec_IsValidValue : ∀ a0 r, rc_spec_IsValidValue a0 = some r → AbC 40 (xAb a0) (xAa r)) {rc_spec_l3List : Val → Option (Bool)} (hrc_spec_l3List : ∀ a0 r, rc_spec_l3List a0 = some r → AbC 112 (xBs a0) (xAJ r)) {a0 : Val} {r : Bool} (h : xC2 N rc_spec_IsValidValue rc_spec_l3List a0 = some r) : AbC 112 (xBs a0) (xAJ r) :=
 AbsCalls.of_reach fk112 rfl rfl (Nat.le_of_ble_eq_true rfl) (c112_e hrc_spec_IsValidValue hrc_spec_l3List a0 r h)
theorem xDS {N : Nat} : ∀ d, (∀ a0 r, (xAi N d).c_spec_IsValidValue a0 = some r → AbC 40 (xAb a0) (xAa r)) ∧ (∀ a0 r, (xAi N d).c_spec_l3List a0 = some r → AbC 112 (xBs a0) (xAJ r)) := by
 intro d
 induction d with
 | zero =>
  refine ⟨?_, ?_⟩ <;> (intros; rename_i h; cases h)
 | succ d ih =>
  obtain ⟨ih0, ih1⟩ := ih
  refine ⟨?_, ?_⟩
  ·intro _ r h; exact xDN (N := N) ih0 ih1 h
  ·intro _ r h; exact xEA (N := N) ih0 ih1 h
theorem xA4 {N : Nat} {a0 : Val} {r : Bool} (h : xDi N a0 = some r) : AbC 40 (xAb a0) (xAa r) := (xDS N).1 _ r h
noncomputable def I44 : Info := { body := (Try.f44.body).getD .skip, nt := 5, results := [.cell 2 31], keep := [0, 4, 5], live := [], modes := [], ext := [], lnt := [], casts := [], fcast := [] }
theorem fk44 : FnOk Try.prog 44 Try.f44 I44 := ⟨Try.func44, by kernel_rfl, by kernel_rfl, by kernel_rfl, by kernel_rfl⟩
theorem p44_e_0 (a0 : Int) : run tt (AbsCalls Try.prog) I44 3000 false [.code I44.body] ⟨(zBm 0 (xBf a0)), [], [], []⟩ = some (.done (xAw (Val.mk 6 a0 0 [] [] [] [])) []) := by kernel_rfl
theorem c44_e {N : Nat} : ∀ a0 r, xAZ N a0 = some r → Reach Try.prog Try.f44 I44 [.code I44.body] (zBm 0 (xBf a0)) (xAw r) := by
 intro a0 r h
 unfold xAZ at h
 obtain rfl := Option.some.inj h
 exact Reach.done ttok mix fk44 (p44_e_0 a0) obs_nil
theorem xCa {N : Nat} {a0 : Int} {r : Val} (h : xAZ N  a0 = some r) : AbC 44 (xBf a0) (xAw r) :=
 AbsCalls.of_reach fk44 rfl rfl (Nat.le_of_ble_eq_true rfl) (c44_e a0 r h)
noncomputable def I51 : Info := { body := (Try.f51.body).getD .skip, nt := 5, results := [.cell 2 31], keep := [0, 4, 5], live := [], modes := [], ext := [], lnt := [], casts := [], fcast := [] }
theorem fk51 : FnOk Try.prog 51 Try.f51 I51 := ⟨Try.func51, by kernel_rfl, by kernel_rfl, by kernel_rfl, by kernel_rfl⟩
theorem p51_e_0 (a0 : Int) : run tt (AbsCalls Try.prog) I51 3000 false [.code I51.body] ⟨(zBm 0 (xBC a0)), [], [], []⟩ = some (.done (xAX (Val.mk 1 a0 0 [] [] [] [])) []) := by kernel_rfl
theorem c51_e {N : Nat} : ∀ a0 r, xBn N a0 = some r → Reach Try.prog Try.f51 I51 [.code I51.body] (zBm 0 (xBC a0)) (xAX r) := by
 intro a0 r h
 unfold xBn at h
 obtain rfl := Option.some.inj h
 exact Reach.done ttok mix fk51 (p51_e_0 a0) obs_nil
theorem xC7 {N : Nat} {a0 : Int} {r : Val} (h : xBn N  a0 = some r) : AbC 51 (xBC a0) (xAX r) :=
 AbsCalls.of_reach fk51 rfl rfl (Nat.le_of_ble_eq_true rfl) (c51_e a0 r h)
noncomputable def I148 : Info := { body := (Try.f148.body).getD .skip, nt := 26, results := [.tmp 4], keep := [0, 2, 8, 10, 20, 28, 50], live := [(4, [0, 2, 10])], modes := [], ext := [], lnt := [], casts := [], fcast := [] }
theorem fk148 : FnOk Try.prog 148 Try.f148 I148 := ⟨Try.func148, by kernel_rfl, by kernel_rfl, by kernel_rfl, by kernel_rfl⟩
def S148_4 (x0 x1 : List Str) (x5 : Int) : St := [(0, .v false [.sl .ro .str x0]), (2, .v false [.sl .ro .str x1]), (10, .v false [.int .i64 x5])]
theorem p148_4_0 (x0 x1 : List Str) (x5 : Int) : run tt (AbsCalls Try.prog) I148 3000 true (stkAt 4 I148.body) ⟨(S148_4 x0 x1 x5), [true, true], [], []⟩ = some (.done (xA1 false) [(decide ((x5 : Int) < (List.length x0 : Int))) = true, (0 : Int) ≤ x5 ∧ x5 < (List.length x0), (0 : Int) ≤ x5 ∧ x5 < (List.length x1), (!(((List.getD x0 (Int.toNat x5) Ty.str.dflt) : Str) == (List.getD x1 (Int.toNat x5) Ty.str.dflt))) = true]) := by kernel_rfl
theorem p148_4_1 (x0 x1 : List Str) (x5 : Int) : run tt (AbsCalls Try.prog) I148 3000 true (stkAt 4 I148.body) ⟨(S148_4 x0 x1 x5), [true, false], [], []⟩ = some (.stop (stkAt 4 I148.body) (S148_4 x0 x1 (IntKind.i64.wrap (x5 + 1))) [(decide ((x5 : Int) < (List.length x0 : Int))) = true, (0 : Int) ≤ x5 ∧ x5 < (List.length x0), (0 : Int) ≤ x5 ∧ x5 < (List.length x1), (!(((List.getD x0 (Int.toNat x5) Ty.str.dflt) : Str) == (List.getD x1 (Int.toNat x5) Ty.str.dflt))) = false]) := by kernel_rfl
theorem p148_4_2 (x0 x1 : List Str) (x5 : Int) : run tt (AbsCalls Try.prog) I148 3000 true (stkAt 4 I148.body) ⟨(S148_4 x0 x1 x5), [false], [], []⟩ = some (.done (xA1 true) [(decide ((x5 : Int) < (List.length x0 : Int))) = false]) := by kernel_rfl
theorem p148_e_3 (a0 a1 : List Str) : run tt (AbsCalls Try.prog) I148 3000 false [.code I148.body] ⟨(zBm 0 (xB3 a0 a1)), [true], [], []⟩ = some (.done (xA1 false) [(((List.length a0 : Int) : Int) != (List.length a1 : Int)) = true]) := by kernel_rfl
theorem p148_e_4 (a0 a1 : List Str) : run tt (AbsCalls Try.prog) I148 3000 false [.code I148.body] ⟨(zBm 0 (xB3 a0 a1)), [false], [], []⟩ = some (.stop (stkAt 4 I148.body) (S148_4 a0 a1 0) [(((List.length a0 : Int) : Int) != (List.length a1 : Int)) = false]) := by kernel_rfl
theorem c148_4 {N : Nat} : ∀ n x0 x1 x5 r, xB4 N n x0 x1 x5 = some r → Reach Try.prog Try.f148 I148 (stkAt 4 I148.body) (S148_4 x0 x1 x5) (xA1 r) := by
 intro n
 induction n with
 | zero => intro x0 x1 x5 r h; have h' : (none : Option (Bool)) = some r := h; cases h'
 | succ n ih =>
  intro x0 x1 x5 r h
  rw [xB4] at h
  rcases cond_inv h with ⟨h0, h⟩ | ⟨h0, h⟩
  ·obtain ⟨h1, h⟩ := ite_inv h
   obtain ⟨h2, h⟩ := ite_inv h
   rcases cond_inv h with ⟨h3, h⟩ | ⟨h3, h⟩
   ·obtain rfl := Option.some.inj h
    exact Reach.done ttok mix fk148 (p148_4_0 x0 x1 x5) (obs_cons h0 (obs_cons h1 (obs_cons h2 (obs_cons h3 obs_nil))))
   ·exact Reach.stop ttok mix fk148 (p148_4_1 x0 x1 x5) (obs_cons h0 (obs_cons h1 (obs_cons h2 (obs_cons h3 obs_nil)))) (ih _ _ _ _ h)
  ·obtain rfl := Option.some.inj h
   exact Reach.done ttok mix fk148 (p148_4_2 x0 x1 x5) (obs_cons h0 obs_nil)
theorem c148_e {N : Nat} : ∀ a0 a1 r, xDa N a0 a1 = some r → Reach Try.prog Try.f148 I148 [.code I148.body] (zBm 0 (xB3 a0 a1)) (xA1 r) := by
 intro a0 a1 r h
 unfold xDa at h
 rcases cond_inv h with ⟨h0, h⟩ | ⟨h0, h⟩
 ·obtain rfl := Option.some.inj h
  exact Reach.done ttok mix fk148 (p148_e_3 a0 a1) (obs_cons h0 obs_nil)
 ·exact Reach.stop ttok mix fk148 (p148_e_4 a0 a1) (obs_cons h0 obs_nil) (c148_4   _ _ _ _ _ h)
theorem xDF {N : Nat} {a0 : List Str} {a1 : List Str} {r : Bool} (h : xDa N  a0 a1 = some r) : AbC 148 (xB3 a0 a1) (xA1 r) :=
 AbsCalls.of_reach fk148 rfl rfl (Nat.le_of_ble_eq_true rfl) (c148_e a0 a1 r h)
noncomputable def I149 : Info := { body := (Try.f149.body).getD .skip, nt := 26, results := [.tmp 4], keep := [0, 2, 8, 10, 20, 28, 50], live := [(4, [0, 2, 10])], modes := [], ext := [], lnt := [], casts := [], fcast := [] }
theorem fk149 : FnOk Try.prog 149 Try.f149 I149 := ⟨Try.func149, by kernel_rfl, by kernel_rfl, by kernel_rfl, by kernel_rfl⟩
def S149_4 (x0 x1 : List Int) (x5 : Int) : St := [(0, .v false [.sl .ro .int x0]), (2, .v false [.sl .ro .int x1]), (10, .v false [.int .i64 x5])]
theorem p149_4_0 (x0 x1 : List Int) (x5 : Int) : run tt (AbsCalls Try.prog) I149 3000 true (stkAt 4 I149.body) ⟨(S149_4 x0 x1 x5), [true, true], [], []⟩ = some (.done (xAR false) [(decide ((x5 : Int) < (List.length x0 : Int))) = true, (0 : Int) ≤ x5 ∧ x5 < (List.length x0), (0 : Int) ≤ x5 ∧ x5 < (List.length x1), (((List.getD x0 (Int.toNat x5) Ty.int.dflt) : Int) != (List.getD x1 (Int.toNat x5) Ty.int.dflt)) = true]) := by kernel_rfl
theorem p149_4_1 (x0 x1 : List Int) (x5 : Int) : run tt (AbsCalls Try.prog) I149 3000 true (stkAt 4 I149.body) ⟨(S149_4 x0 x1 x5), [true, false], [], []⟩ = some (.stop (stkAt 4 I149.body) (S149_4 x0 x1 (IntKind.i64.wrap (x5 + 1))) [(decide ((x5 : Int) < (List.length x0 : Int))) = true, (0 : Int) ≤ x5 ∧ x5 < (List.length x0), (0 : Int) ≤ x5 ∧ x5 < (List.length x1), (((List.getD x0 (Int.toNat x5) Ty.int.dflt) : Int) != (List.getD x1 (Int.toNat x5) Ty.int.dflt)) = false]) := by kernel_rfl
theorem p149_4_2 (x0 x1 : List Int) (x5 : Int) : run tt (AbsCalls Try.prog) I149 3000 true (stkAt 4 I149.body) ⟨(S149_4 x0 x1 x5), [false], [], []⟩ = some (.done (xAR true) [(decide ((x5 : Int) < (List.length x0 : Int))) = false]) := by kernel_rfl
theorem p149_e_3 (a0 a1 : List Int) : run tt (AbsCalls Try.prog) I149 3000 false [.code I149.body] ⟨(zBm 0 (xBW a0 a1)), [true], [], []⟩ = some (.done (xAR false) [(((List.length a0 : Int) : Int) != (List.length a1 : Int)) = true]) := by kernel_rfl
theorem p149_e_4 (a0 a1 : List Int) : run tt (AbsCalls Try.prog) I149 3000 false [.code I149.body] ⟨(zBm 0 (xBW a0 a1)), [false], [], []⟩ = some (.stop (stkAt 4 I149.body) (S149_4 a0 a1 0) [(((List.length a0 : Int) : Int) != (List.length a1 : Int)) = false]) := by kernel_rfl
theorem c149_4 {N : Nat} : ∀ n x0 x1 x5 r, xCh N n x0 x1 x5 = some r → Reach Try.prog Try.f149 I149 (stkAt 4 I149.body) (S149_4 x0 x1 x5) (xAR r) := by
 intro n
 induction n with
 | zero => intro x0 x1 x5 r h; have h' : (none : Option (Bool)) = some r := h; cases h'
 | succ n ih =>
  intro x0 x1 x5 r h
  rw [xCh] at h
  rcases cond_inv h with ⟨h0, h⟩ | ⟨h0, h⟩
  ·obtain ⟨h1, h⟩ := ite_inv h
   obtain ⟨h2, h⟩ := ite_inv h
   rcases cond_inv h with ⟨h3, h⟩ | ⟨h3, h⟩
   ·obtain rfl := Option.some.inj h
    exact Reach.done ttok mix fk149 (p149_4_0 x0 x1 x5) (obs_cons h0 (obs_cons h1 (obs_cons h2 (obs_cons h3 obs_nil))))
   ·exact Reach.stop ttok mix fk149 (p149_4_1 x0 x1 x5) (obs_cons h0 (obs_cons h1 (obs_cons h2 (obs_cons h3 obs_nil)))) (ih _ _ _ _ h)
  ·obtain rfl := Option.some.inj h
   exact Reach.done ttok mix fk149 (p149_4_2 x0 x1 x5) (obs_cons h0 obs_nil)
theorem c149_e {N : Nat} : ∀ a0 a1 r, xDj N a0 a1 = some r → Reach Try.prog Try.f149 I149 [.code I149.body] (zBm 0 (xBW a0 a1)) (xAR r) := by
 intro a0 a1 r h
 unfold xDj at h
 rcases cond_inv h with ⟨h0, h⟩ | ⟨h0, h⟩
 ·obtain rfl := Option.some.inj h
  exact Reach.done ttok mix fk149 (p149_e_3 a0 a1) (obs_cons h0 obs_nil)
 ·exact Reach.stop ttok mix fk149 (p149_e_4 a0 a1) (obs_cons h0 obs_nil) (c149_4   _ _ _ _ _ h)
theorem xDp {N : Nat} {a0 : List Int} {a1 : List Int} {r : Bool} (h : xDj N  a0 a1 = some r) : AbC 149 (xBW a0 a1) (xAR r) :=
 AbsCalls.of_reach fk149 rfl rfl (Nat.le_of_ble_eq_true rfl) (c149_e a0 a1 r h)
noncomputable def I150 : Info := { body := (Try.f150.body).getD .skip, nt := 26, results := [.tmp 4], keep := [0, 2, 8, 10, 20, 28, 50], live := [(4, [0, 2, 10])], modes := [], ext := [], lnt := [], casts := [], fcast := [] }
theorem fk150 : FnOk Try.prog 150 Try.f150 I150 := ⟨Try.func150, by kernel_rfl, by kernel_rfl, by kernel_rfl, by kernel_rfl⟩
def S150_4 (x0 x1 : List Org) (x5 : Int) : St := [(0, .v false [.sl .ro .org x0]), (2, .v false [.sl .ro .org x1]), (10, .v false [.int .i64 x5])]
theorem p150_4_0 (x0 x1 : List Org) (x5 : Int) : run tt (AbsCalls Try.prog) I150 3000 true (stkAt 4 I150.body) ⟨(S150_4 x0 x1 x5), [true, true], [], []⟩ = some (.done (xA3 false) [(decide ((x5 : Int) < (List.length x0 : Int))) = true, (0 : Int) ≤ x5 ∧ x5 < (List.length x0), (0 : Int) ≤ x5 ∧ x5 < (List.length x1), (!((((Org.cell (List.getD x0 (Int.toNat x5) Ty.org.dflt)) : Int) == (Org.cell (List.getD x1 (Int.toNat x5) Ty.org.dflt))) && (((Org.row (List.getD x0 (Int.toNat x5) Ty.org.dflt)) : Int) == (Org.row (List.getD x1 (Int.toNat x5) Ty.org.dflt))))) = true]) := by kernel_rfl
theorem p150_4_1 (x0 x1 : List Org) (x5 : Int) : run tt (AbsCalls Try.prog) I150 3000 true (stkAt 4 I150.body) ⟨(S150_4 x0 x1 x5), [true, false], [], []⟩ = some (.stop (stkAt 4 I150.body) (S150_4 x0 x1 (IntKind.i64.wrap (x5 + 1))) [(decide ((x5 : Int) < (List.length x0 : Int))) = true, (0 : Int) ≤ x5 ∧ x5 < (List.length x0), (0 : Int) ≤ x5 ∧ x5 < (List.length x1), (!((((Org.cell (List.getD x0 (Int.toNat x5) Ty.org.dflt)) : Int) == (Org.cell (List.getD x1 (Int.toNat x5) Ty.org.dflt))) && (((Org.row (List.getD x0 (Int.toNat x5) Ty.org.dflt)) : Int) == (Org.row (List.getD x1 (Int.toNat x5) Ty.org.dflt))))) = false]) := by kernel_rfl
theorem p150_4_2 (x0 x1 : List Org) (x5 : Int) : run tt (AbsCalls Try.prog) I150 3000 true (stkAt 4 I150.body) ⟨(S150_4 x0 x1 x5), [false], [], []⟩ = some (.done (xA3 true) [(decide ((x5 : Int) < (List.length x0 : Int))) = false]) := by kernel_rfl
theorem p150_e_3 (a0 a1 : List Org) : run tt (AbsCalls Try.prog) I150 3000 false [.code I150.body] ⟨(zBm 0 (xBY a0 a1)), [true], [], []⟩ = some (.done (xA3 false) [(((List.length a0 : Int) : Int) != (List.length a1 : Int)) = true]) := by kernel_rfl
theorem p150_e_4 (a0 a1 : List Org) : run tt (AbsCalls Try.prog) I150 3000 false [.code I150.body] ⟨(zBm 0 (xBY a0 a1)), [false], [], []⟩ = some (.stop (stkAt 4 I150.body) (S150_4 a0 a1 0) [(((List.length a0 : Int) : Int) != (List.length a1 : Int)) = false]) := by kernel_rfl
theorem c150_4 {N : Nat} : ∀ n x0 x1 x5 r, xBE N n x0 x1 x5 = some r → Reach Try.prog Try.f150 I150 (stkAt 4 I150.body) (S150_4 x0 x1 x5) (xA3 r) := by
 intro n
 induction n with
 | zero => intro x0 x1 x5 r h; have h' : (none : Option (Bool)) = some r := h; cases h'
 | succ n ih =>
  intro x0 x1 x5 r h
  rw [xBE] at h
  rcases cond_inv h with ⟨h0, h⟩ | ⟨h0, h⟩
  ·obtain ⟨h1, h⟩ := ite_inv h
   obtain ⟨h2, h⟩ := ite_inv h
   rcases cond_inv h with ⟨h3, h⟩ | ⟨h3, h⟩
   ·obtain rfl := Option.some.inj h
    exact Reach.done ttok mix fk150 (p150_4_0 x0 x1 x5) (obs_cons h0 (obs_cons h1 (obs_cons h2 (obs_cons h3 obs_nil))))
   ·exact Reach.stop ttok mix fk150 (p150_4_1 x0 x1 x5) (obs_cons h0 (obs_cons h1 (obs_cons h2 (obs_cons h3 obs_nil)))) (ih _ _ _ _ h)
  ·obtain rfl := Option.some.inj h
   exact Reach.done ttok mix fk150 (p150_4_2 x0 x1 x5) (obs_cons h0 obs_nil)
theorem c150_e {N : Nat} : ∀ a0 a1 r, xCG N a0 a1 = some r → Reach Try.prog Try.f150 I150 [.code I150.body] (zBm 0 (xBY a0 a1)) (xA3 r) := by
 intro a0 a1 r h
 unfold xCG at h
 rcases cond_inv h with ⟨h0, h⟩ | ⟨h0, h⟩
 ·obtain rfl := Option.some.inj h
  exact Reach.done ttok mix fk150 (p150_e_3 a0 a1) (obs_cons h0 obs_nil)
 ·exact Reach.stop ttok mix fk150 (p150_e_4 a0 a1) (obs_cons h0 obs_nil) (c150_4   _ _ _ _ _ h)
theorem xDT {N : Nat} {a0 : List Org} {a1 : List Org} {r : Bool} (h : xCG N  a0 a1 = some r) : AbC 150 (xBY a0 a1) (xA3 r) :=
 AbsCalls.of_reach fk150 rfl rfl (Nat.le_of_ble_eq_true rfl) (c150_e a0 a1 r h)
noncomputable def I107 : Info := { body := (Try.f107.body).getD .skip, nt := 121, results := [.tmp 6], keep := [0, 2, 4, 6, 8, 12, 14, 16, 120, 130, 160, 170, 240, 7, 9], live := [(4, [4, 6, 8, 14, 7, 9]), (9, [4, 6, 8, 16, 7, 9])], modes := [(1, [(5, .take, false), (12, .take, false), (19, .take, false), (26, .take, false), (35, .take, false), (43, .take, false)]), (11, [(14, .take, false), (16, .take, false)])], ext := [], lnt := [], casts := [], fcast := [] }
theorem xD4 : FnOk Try.prog 107 Try.f107 I107 := ⟨Try.func107, by kernel_rfl, by kernel_rfl, by kernel_rfl, by kernel_rfl⟩
def S107_4 (x2 : Bool) (x7 : Int) (b3 b4 : Val) : St := [(4, .v false [.bool x2]), (6, .v false [.ptr 3 0]), (8, .v false [.ptr 4 0]), (14, .v false [.int .i64 x7]), (7, .v true [.int .i64 (Val.kind b3), .int .i64 (Val.n b3), .int .i64 (Val.step b3), .str (Val.text b3), .sl .ro .val (Val.list b3), .sl .ro .str (Val.columns b3), .sl .ro .row (Val.rows b3)]), (9, .v true [.int .i64 (Val.kind b4), .int .i64 (Val.n b4), .int .i64 (Val.step b4), .str (Val.text b4), .sl .ro .val (Val.list b4), .sl .ro .str (Val.columns b4), .sl .ro .row (Val.rows b4)])]
def S107_9 (x2 : Bool) (x8 : Int) (b3 b4 : Val) : St := [(4, .v false [.bool x2]), (6, .v false [.ptr 3 0]), (8, .v false [.ptr 4 0]), (16, .v false [.int .i64 x8]), (7, .v true [.int .i64 (Val.kind b3), .int .i64 (Val.n b3), .int .i64 (Val.step b3), .str (Val.text b3), .sl .ro .val (Val.list b3), .sl .ro .str (Val.columns b3), .sl .ro .row (Val.rows b3)]), (9, .v true [.int .i64 (Val.kind b4), .int .i64 (Val.n b4), .int .i64 (Val.step b4), .str (Val.text b4), .sl .ro .val (Val.list b4), .sl .ro .str (Val.columns b4), .sl .ro .row (Val.rows b4)])]
theorem p107_9_0 (x2 : Bool) (x8 : Int) (b3 b4 : Val) (r1 : Bool) : run tt (AbsCalls Try.prog) I107 3000 true (stkAt 9 I107.body) ⟨(S107_9 x2 x8 b3 b4), [true, true, true], [xAR r1], []⟩ = some (.done (xAm false) [(decide ((x8 : Int) < (List.length (Val.rows b3) : Int))) = true, (0 : Int) ≤ x8 ∧ x8 < (List.length (Val.rows b3)), (0 : Int) ≤ x8 ∧ x8 < (List.length (Val.rows b4)), AbC 149 (xBW (Rowd.cells (List.getD (Val.rows b3) (Int.toNat x8) Ty.row.dflt)) (Rowd.cells (List.getD (Val.rows b4) (Int.toNat x8) Ty.row.dflt))) (xAR r1), (!r1) = true, true = true]) := by kernel_rfl
theorem p107_9_1 (x2 : Bool) (x8 : Int) (b3 b4 : Val) (r1 r2 : Bool) : run tt (AbsCalls Try.prog) I107 3000 true (stkAt 9 I107.body) ⟨(S107_9 x2 x8 b3 b4), [true, false, true, true], [xAR r1, xA3 r2], []⟩ = some (.done (xAm false) [(decide ((x8 : Int) < (List.length (Val.rows b3) : Int))) = true, (0 : Int) ≤ x8 ∧ x8 < (List.length (Val.rows b3)), (0 : Int) ≤ x8 ∧ x8 < (List.length (Val.rows b4)), AbC 149 (xBW (Rowd.cells (List.getD (Val.rows b3) (Int.toNat x8) Ty.row.dflt)) (Rowd.cells (List.getD (Val.rows b4) (Int.toNat x8) Ty.row.dflt))) (xAR r1), (!r1) = false, x2 = true, (0 : Int) ≤ x8 ∧ x8 < (List.length (Val.rows b3)), (0 : Int) ≤ x8 ∧ x8 < (List.length (Val.rows b4)), AbC 150 (xBY (Rowd.frm (List.getD (Val.rows b3) (Int.toNat x8) Ty.row.dflt)) (Rowd.frm (List.getD (Val.rows b4) (Int.toNat x8) Ty.row.dflt))) (xA3 r2), (!r2) = true]) := by kernel_rfl
theorem p107_9_2 (x2 : Bool) (x8 : Int) (b3 b4 : Val) (r1 r2 : Bool) : run tt (AbsCalls Try.prog) I107 3000 true (stkAt 9 I107.body) ⟨(S107_9 x2 x8 b3 b4), [true, false, true, false], [xAR r1, xA3 r2], []⟩ = some (.stop (stkAt 9 I107.body) (S107_9 x2 (IntKind.i64.wrap (x8 + 1)) b3 b4) [(decide ((x8 : Int) < (List.length (Val.rows b3) : Int))) = true, (0 : Int) ≤ x8 ∧ x8 < (List.length (Val.rows b3)), (0 : Int) ≤ x8 ∧ x8 < (List.length (Val.rows b4)), AbC 149 (xBW (Rowd.cells (List.getD (Val.rows b3) (Int.toNat x8) Ty.row.dflt)) (Rowd.cells (List.getD (Val.rows b4) (Int.toNat x8) Ty.row.dflt))) (xAR r1), (!r1) = false, x2 = true, (0 : Int) ≤ x8 ∧ x8 < (List.length (Val.rows b3)), (0 : Int) ≤ x8 ∧ x8 < (List.length (Val.rows b4)), AbC 150 (xBY (Rowd.frm (List.getD (Val.rows b3) (Int.toNat x8) Ty.row.dflt)) (Rowd.frm (List.getD (Val.rows b4) (Int.toNat x8) Ty.row.dflt))) (xA3 r2), (!r2) = false]) := by kernel_rfl
theorem p107_9_3 (x2 : Bool) (x8 : Int) (b3 b4 : Val) (r1 : Bool) : run tt (AbsCalls Try.prog) I107 3000 true (stkAt 9 I107.body) ⟨(S107_9 x2 x8 b3 b4), [true, false, false, false], [xAR r1], []⟩ = some (.stop (stkAt 9 I107.body) (S107_9 x2 (IntKind.i64.wrap (x8 + 1)) b3 b4) [(decide ((x8 : Int) < (List.length (Val.rows b3) : Int))) = true, (0 : Int) ≤ x8 ∧ x8 < (List.length (Val.rows b3)), (0 : Int) ≤ x8 ∧ x8 < (List.length (Val.rows b4)), AbC 149 (xBW (Rowd.cells (List.getD (Val.rows b3) (Int.toNat x8) Ty.row.dflt)) (Rowd.cells (List.getD (Val.rows b4) (Int.toNat x8) Ty.row.dflt))) (xAR r1), (!r1) = false, x2 = false, false = false]) := by kernel_rfl
theorem p107_9_4 (x2 : Bool) (x8 : Int) (b3 b4 : Val) : run tt (AbsCalls Try.prog) I107 3000 true (stkAt 9 I107.body) ⟨(S107_9 x2 x8 b3 b4), [false], [], []⟩ = some (.done (xAm true) [(decide ((x8 : Int) < (List.length (Val.rows b3) : Int))) = false]) := by kernel_rfl
theorem p107_4_5 (x2 : Bool) (x7 : Int) (b3 b4 : Val) (r1 : Bool) : run tt (AbsCalls Try.prog) I107 3000 true (stkAt 4 I107.body) ⟨(S107_4 x2 x7 b3 b4), [true, true], [xAm r1], []⟩ = some (.done (xAm false) [(decide ((x7 : Int) < (List.length (Val.list b3) : Int))) = true, (0 : Int) ≤ x7 ∧ x7 < (List.length (Val.list b3)), (0 : Int) ≤ x7 ∧ x7 < (List.length (Val.list b4)), AbC 107 (xAr (List.getD (Val.list b3) (Int.toNat x7) Ty.val.dflt) (List.getD (Val.list b4) (Int.toNat x7) Ty.val.dflt) x2) (xAm r1), (!r1) = true]) := by kernel_rfl
theorem p107_4_6 (x2 : Bool) (x7 : Int) (b3 b4 : Val) (r1 : Bool) : run tt (AbsCalls Try.prog) I107 3000 true (stkAt 4 I107.body) ⟨(S107_4 x2 x7 b3 b4), [true, false], [xAm r1], []⟩ = some (.stop (stkAt 4 I107.body) (S107_4 x2 (IntKind.i64.wrap (x7 + 1)) b3 b4) [(decide ((x7 : Int) < (List.length (Val.list b3) : Int))) = true, (0 : Int) ≤ x7 ∧ x7 < (List.length (Val.list b3)), (0 : Int) ≤ x7 ∧ x7 < (List.length (Val.list b4)), AbC 107 (xAr (List.getD (Val.list b3) (Int.toNat x7) Ty.val.dflt) (List.getD (Val.list b4) (Int.toNat x7) Ty.val.dflt) x2) (xAm r1), (!r1) = false]) := by kernel_rfl
theorem p107_4_7 (x2 : Bool) (x7 : Int) (b3 b4 : Val) : run tt (AbsCalls Try.prog) I107 3000 true (stkAt 4 I107.body) ⟨(S107_4 x2 x7 b3 b4), [false], [], []⟩ = some (.stop (stkAt 9 I107.body) (S107_9 x2 0 b3 b4) [(decide ((x7 : Int) < (List.length (Val.list b3) : Int))) = false]) := by kernel_rfl
theorem p107_e_8 (a0 a1 : Val) (a2 : Bool) : run tt (AbsCalls Try.prog) I107 3000 false [.code I107.body] ⟨(zBm 0 (xAr a0 a1 a2)), [true, true, true, true, true, true, true], [], []⟩ = some (.done (xAm false) [(((Val.kind a0) : Int) != (Val.kind a1)) = true, true = true, true = true, true = true, true = true, true = true, true = true]) := by kernel_rfl
theorem p107_e_9 (a0 a1 : Val) (a2 : Bool) : run tt (AbsCalls Try.prog) I107 3000 false [.code I107.body] ⟨(zBm 0 (xAr a0 a1 a2)), [false, true, true, true, true, true, true], [], []⟩ = some (.done (xAm false) [(((Val.kind a0) : Int) != (Val.kind a1)) = false, (((Val.n a0) : Int) != (Val.n a1)) = true, true = true, true = true, true = true, true = true, true = true]) := by kernel_rfl
theorem p107_e_10 (a0 a1 : Val) (a2 : Bool) : run tt (AbsCalls Try.prog) I107 3000 false [.code I107.body] ⟨(zBm 0 (xAr a0 a1 a2)), [false, false, true, true, true, true, true], [], []⟩ = some (.done (xAm false) [(((Val.kind a0) : Int) != (Val.kind a1)) = false, (((Val.n a0) : Int) != (Val.n a1)) = false, (((Val.step a0) : Int) != (Val.step a1)) = true, true = true, true = true, true = true, true = true]) := by kernel_rfl
theorem p107_e_11 (a0 a1 : Val) (a2 : Bool) : run tt (AbsCalls Try.prog) I107 3000 false [.code I107.body] ⟨(zBm 0 (xAr a0 a1 a2)), [false, false, false, true, true, true, true], [], []⟩ = some (.done (xAm false) [(((Val.kind a0) : Int) != (Val.kind a1)) = false, (((Val.n a0) : Int) != (Val.n a1)) = false, (((Val.step a0) : Int) != (Val.step a1)) = false, (!(((Val.text a0) : Str) == (Val.text a1))) = true, true = true, true = true, true = true]) := by kernel_rfl
theorem p107_e_12 (a0 a1 : Val) (a2 : Bool) : run tt (AbsCalls Try.prog) I107 3000 false [.code I107.body] ⟨(zBm 0 (xAr a0 a1 a2)), [false, false, false, false, true, true, true], [], []⟩ = some (.done (xAm false) [(((Val.kind a0) : Int) != (Val.kind a1)) = false, (((Val.n a0) : Int) != (Val.n a1)) = false, (((Val.step a0) : Int) != (Val.step a1)) = false, (!(((Val.text a0) : Str) == (Val.text a1))) = false, (((List.length (Val.list a0) : Int) : Int) != (List.length (Val.list a1) : Int)) = true, true = true, true = true]) := by kernel_rfl
theorem p107_e_13 (a0 a1 : Val) (a2 r1 : Bool) : run tt (AbsCalls Try.prog) I107 3000 false [.code I107.body] ⟨(zBm 0 (xAr a0 a1 a2)), [false, false, false, false, false, true, true], [xA1 r1], []⟩ = some (.done (xAm false) [(((Val.kind a0) : Int) != (Val.kind a1)) = false, (((Val.n a0) : Int) != (Val.n a1)) = false, (((Val.step a0) : Int) != (Val.step a1)) = false, (!(((Val.text a0) : Str) == (Val.text a1))) = false, (((List.length (Val.list a0) : Int) : Int) != (List.length (Val.list a1) : Int)) = false, AbC 148 (xB3 (Val.columns a0) (Val.columns a1)) (xA1 r1), (!r1) = true, true = true]) := by kernel_rfl
theorem p107_e_14 (a0 a1 : Val) (a2 r1 : Bool) : run tt (AbsCalls Try.prog) I107 3000 false [.code I107.body] ⟨(zBm 0 (xAr a0 a1 a2)), [false, false, false, false, false, false, true], [xA1 r1], []⟩ = some (.done (xAm false) [(((Val.kind a0) : Int) != (Val.kind a1)) = false, (((Val.n a0) : Int) != (Val.n a1)) = false, (((Val.step a0) : Int) != (Val.step a1)) = false, (!(((Val.text a0) : Str) == (Val.text a1))) = false, (((List.length (Val.list a0) : Int) : Int) != (List.length (Val.list a1) : Int)) = false, AbC 148 (xB3 (Val.columns a0) (Val.columns a1)) (xA1 r1), (!r1) = false, (((List.length (Val.rows a0) : Int) : Int) != (List.length (Val.rows a1) : Int)) = true]) := by kernel_rfl
theorem p107_e_15 (a0 a1 : Val) (a2 r1 : Bool) : run tt (AbsCalls Try.prog) I107 3000 false [.code I107.body] ⟨(zBm 0 (xAr a0 a1 a2)), [false, false, false, false, false, false, false], [xA1 r1], []⟩ = some (.stop (stkAt 4 I107.body) (S107_4 a2 0 a0 a1) [(((Val.kind a0) : Int) != (Val.kind a1)) = false, (((Val.n a0) : Int) != (Val.n a1)) = false, (((Val.step a0) : Int) != (Val.step a1)) = false, (!(((Val.text a0) : Str) == (Val.text a1))) = false, (((List.length (Val.list a0) : Int) : Int) != (List.length (Val.list a1) : Int)) = false, AbC 148 (xB3 (Val.columns a0) (Val.columns a1)) (xA1 r1), (!r1) = false, (((List.length (Val.rows a0) : Int) : Int) != (List.length (Val.rows a1) : Int)) = false]) := by kernel_rfl
theorem c107_9 {N : Nat} {rc_spec_l3Same : Val → Val → Bool → Option (Bool)} (hrc_spec_l3Same : ∀ a0 a1 a2 r, rc_spec_l3Same a0 a1 a2 = some r → AbC 107 (xAr a0 a1 a2) (xAm r)) : ∀ n x2 x8 b3 b4 r, xBI N rc_spec_l3Same n x2 x8 b3 b4 = some r → Reach Try.prog Try.f107 I107 (stkAt 9 I107.body) (S107_9 x2 x8 b3 b4) (xAm r) := by
 intro n
 induction n with
 | zero => intro x2 x8 b3 b4 r h; have h' : (none : Option (Bool)) = some r := h; cases h'
 | succ n ih =>
  intro x2 x8 b3 b4 r h
  rw [xBI] at h
  rcases cond_inv h with ⟨h0, h⟩ | ⟨h0, h⟩
  ·obtain ⟨h1, h⟩ := ite_inv h
   obtain ⟨h2, h⟩ := ite_inv h
   obtain ⟨r1, h3, h⟩ := bind_inv h
   rcases cond_inv h with ⟨h4, h⟩ | ⟨h4, h⟩
   ·obtain rfl := Option.some.inj h
    exact Reach.done ttok mix xD4 (p107_9_0 x2 x8 b3 b4 r1) (obs_cons h0 (obs_cons h1 (obs_cons h2 (obs_cons (xDp h3) (obs_cons h4 (obs_cons rfl obs_nil))))))
   ·rcases cond_inv h with ⟨h5, h⟩ | ⟨h5, h⟩
    ·obtain ⟨r2, h8, h⟩ := bind_inv h
     rcases cond_inv h with ⟨h9, h⟩ | ⟨h9, h⟩
     ·obtain rfl := Option.some.inj h
      exact Reach.done ttok mix xD4 (p107_9_1 x2 x8 b3 b4 r1 r2) (obs_cons h0 (obs_cons h1 (obs_cons h2 (obs_cons (xDp h3) (obs_cons h4 (obs_cons h5 (obs_cons h1 (obs_cons h2 (obs_cons (xDT h8) (obs_cons h9 obs_nil))))))))))
     ·exact Reach.stop ttok mix xD4 (p107_9_2 x2 x8 b3 b4 r1 r2) (obs_cons h0 (obs_cons h1 (obs_cons h2 (obs_cons (xDp h3) (obs_cons h4 (obs_cons h5 (obs_cons h1 (obs_cons h2 (obs_cons (xDT h8) (obs_cons h9 obs_nil)))))))))) (ih _ _ _ _ _ h)
    ·exact Reach.stop ttok mix xD4 (p107_9_3 x2 x8 b3 b4 r1) (obs_cons h0 (obs_cons h1 (obs_cons h2 (obs_cons (xDp h3) (obs_cons h4 (obs_cons h5 (obs_cons rfl obs_nil))))))) (ih _ _ _ _ _ h)
  ·obtain rfl := Option.some.inj h
   exact Reach.done ttok mix xD4 (p107_9_4 x2 x8 b3 b4) (obs_cons h0 obs_nil)
theorem c107_4 {N : Nat} {rc_spec_l3Same : Val → Val → Bool → Option (Bool)} (hrc_spec_l3Same : ∀ a0 a1 a2 r, rc_spec_l3Same a0 a1 a2 = some r → AbC 107 (xAr a0 a1 a2) (xAm r)) : ∀ n x2 x7 b3 b4 r, xCj N rc_spec_l3Same n x2 x7 b3 b4 = some r → Reach Try.prog Try.f107 I107 (stkAt 4 I107.body) (S107_4 x2 x7 b3 b4) (xAm r) := by
 intro n
 induction n with
 | zero => intro x2 x7 b3 b4 r h; have h' : (none : Option (Bool)) = some r := h; cases h'
 | succ n ih =>
  intro x2 x7 b3 b4 r h
  rw [xCj] at h
  rcases cond_inv h with ⟨h0, h⟩ | ⟨h0, h⟩
  ·obtain ⟨h1, h⟩ := ite_inv h
   obtain ⟨h2, h⟩ := ite_inv h
   obtain ⟨r1, h3, h⟩ := bind_inv h
   rcases cond_inv h with ⟨h4, h⟩ | ⟨h4, h⟩
   ·obtain rfl := Option.some.inj h
    exact Reach.done ttok mix xD4 (p107_4_5 x2 x7 b3 b4 r1) (obs_cons h0 (obs_cons h1 (obs_cons h2 (obs_cons (hrc_spec_l3Same _ _ _ _ h3) (obs_cons h4 obs_nil)))))
   ·exact Reach.stop ttok mix xD4 (p107_4_6 x2 x7 b3 b4 r1) (obs_cons h0 (obs_cons h1 (obs_cons h2 (obs_cons (hrc_spec_l3Same _ _ _ _ h3) (obs_cons h4 obs_nil))))) (ih _ _ _ _ _ h)
  ·exact Reach.stop ttok mix xD4 (p107_4_7 x2 x7 b3 b4) (obs_cons h0 obs_nil) (c107_9 hrc_spec_l3Same  _ _ _ _ _ _ h)
theorem c107_e {N : Nat} {rc_spec_l3Same : Val → Val → Bool → Option (Bool)} (hrc_spec_l3Same : ∀ a0 a1 a2 r, rc_spec_l3Same a0 a1 a2 = some r → AbC 107 (xAr a0 a1 a2) (xAm r)) : ∀ a0 a1 a2 r, xB8 N rc_spec_l3Same a0 a1 a2 = some r → Reach Try.prog Try.f107 I107 [.code I107.body] (zBm 0 (xAr a0 a1 a2)) (xAm r) := by
 intro a0 a1 a2 r h
 unfold xB8 at h
 rcases cond_inv h with ⟨h0, h⟩ | ⟨h0, h⟩
 ·obtain rfl := Option.some.inj h
  exact Reach.done ttok mix xD4 (p107_e_8 a0 a1 a2) (obs_cons h0 (obs_cons rfl (obs_cons rfl (obs_cons rfl (obs_cons rfl (obs_cons rfl (obs_cons rfl obs_nil)))))))
 ·rcases cond_inv h with ⟨h1, h⟩ | ⟨h1, h⟩
  ·obtain rfl := Option.some.inj h
   exact Reach.done ttok mix xD4 (p107_e_9 a0 a1 a2) (obs_cons h0 (obs_cons h1 (obs_cons rfl (obs_cons rfl (obs_cons rfl (obs_cons rfl (obs_cons rfl obs_nil)))))))
  ·rcases cond_inv h with ⟨h2, h⟩ | ⟨h2, h⟩
   ·obtain rfl := Option.some.inj h
    exact Reach.done ttok mix xD4 (p107_e_10 a0 a1 a2) (obs_cons h0 (obs_cons h1 (obs_cons h2 (obs_cons rfl (obs_cons rfl (obs_cons rfl (obs_cons rfl obs_nil)))))))
   ·rcases cond_inv h with ⟨h3, h⟩ | ⟨h3, h⟩
    ·obtain rfl := Option.some.inj h
     exact Reach.done ttok mix xD4 (p107_e_11 a0 a1 a2) (obs_cons h0 (obs_cons h1 (obs_cons h2 (obs_cons h3 (obs_cons rfl (obs_cons rfl (obs_cons rfl obs_nil)))))))
    ·rcases cond_inv h with ⟨h4, h⟩ | ⟨h4, h⟩
     ·obtain rfl := Option.some.inj h
      exact Reach.done ttok mix xD4 (p107_e_12 a0 a1 a2) (obs_cons h0 (obs_cons h1 (obs_cons h2 (obs_cons h3 (obs_cons h4 (obs_cons rfl (obs_cons rfl obs_nil)))))))
     ·obtain ⟨r1, h5, h⟩ := bind_inv h
      rcases cond_inv h with ⟨h6, h⟩ | ⟨h6, h⟩
      ·obtain rfl := Option.some.inj h
       exact Reach.done ttok mix xD4 (p107_e_13 a0 a1 a2 r1) (obs_cons h0 (obs_cons h1 (obs_cons h2 (obs_cons h3 (obs_cons h4 (obs_cons (xDF h5) (obs_cons h6 (obs_cons rfl obs_nil))))))))
      ·rcases cond_inv h with ⟨h7, h⟩ | ⟨h7, h⟩
       ·obtain rfl := Option.some.inj h
        exact Reach.done ttok mix xD4 (p107_e_14 a0 a1 a2 r1) (obs_cons h0 (obs_cons h1 (obs_cons h2 (obs_cons h3 (obs_cons h4 (obs_cons (xDF h5) (obs_cons h6 (obs_cons h7 obs_nil))))))))
       ·exact Reach.stop ttok mix xD4 (p107_e_15 a0 a1 a2 r1) (obs_cons h0 (obs_cons h1 (obs_cons h2 (obs_cons h3 (obs_cons h4 (obs_cons (xDF h5) (obs_cons h6 (obs_cons h7 obs_nil)))))))) (c107_4 hrc_spec_l3Same  _ _ _ _ _ _ h)
theorem xEC {N : Nat} {rc_spec_l3Same : Val → Val → Bool → Option (Bool)} (hrc_spec_l3Same : ∀ a0 a1 a2 r, rc_spec_l3Same a0 a1 a2 = some r → AbC 107 (xAr a0 a1 a2) (xAm r)) {a0 : Val} {a1 : Val} {a2 : Bool} {r : Bool} (h : xB8 N rc_spec_l3Same a0 a1 a2 = some r) : AbC 107 (xAr a0 a1 a2) (xAm r) :=
 AbsCalls.of_reach xD4 rfl rfl (Nat.le_of_ble_eq_true rfl) (c107_e hrc_spec_l3Same a0 a1 a2 r h)
theorem spec_l3Same_fix_ok {N : Nat} : ∀ d, (∀ a0 a1 a2 r, xBv N d a0 a1 a2 = some r → AbC 107 (xAr a0 a1 a2) (xAm r)) := by
 intro d
 induction d with
 | zero => intro _ _ _ r h; have h' : (none : Option (Bool)) = some r := h; cases h'
 | succ d ih => intro _ _ _ r h; exact xEC (N := N) ih h
theorem spec_l3Same_ok {N : Nat} {a0 : Val} {a1 : Val} {a2 : Bool} {r : Bool} (h : xEB N a0 a1 a2 = some r) : AbC 107 (xAr a0 a1 a2) (xAm r) := spec_l3Same_fix_ok N _ _ _ r h
noncomputable def I101 : Info := { body := (Try.f101.body).getD .skip, nt := 15, results := [.tmp 6], keep := [0, 2, 4, 12], live := [], modes := [(1, [(3, .take, false)])], ext := [], lnt := [], casts := [], fcast := [] }
theorem fk101 : FnOk Try.prog 101 Try.f101 I101 := ⟨Try.func101, by kernel_rfl, by kernel_rfl, by kernel_rfl, by kernel_rfl⟩
theorem p101_e_0 (a0 a1 a2 : Int) : run tt (AbsCalls Try.prog) I101 3000 false [.code I101.body] ⟨(zBm 0 (xBU a0 a1 a2)), [true], [], []⟩ = some (.done (xBb (decide ((a0 : Int) ≤ a2))) [(decide ((a1 : Int) ≤ a0)) = true]) := by kernel_rfl
theorem p101_e_1 (a0 a1 a2 : Int) : run tt (AbsCalls Try.prog) I101 3000 false [.code I101.body] ⟨(zBm 0 (xBU a0 a1 a2)), [false], [], []⟩ = some (.done (xBb false) [(decide ((a1 : Int) ≤ a0)) = false]) := by kernel_rfl
theorem c101_e {N : Nat} : ∀ a0 a1 a2 r, xCe N a0 a1 a2 = some r → Reach Try.prog Try.f101 I101 [.code I101.body] (zBm 0 (xBU a0 a1 a2)) (xBb r) := by
 intro a0 a1 a2 r h
 unfold xCe at h
 rcases cond_inv h with ⟨h0, h⟩ | ⟨h0, h⟩
 ·obtain rfl := Option.some.inj h
  exact Reach.done ttok mix fk101 (p101_e_0 a0 a1 a2) (obs_cons h0 obs_nil)
 ·obtain rfl := Option.some.inj h
  exact Reach.done ttok mix fk101 (p101_e_1 a0 a1 a2) (obs_cons h0 obs_nil)
theorem xDo {N : Nat} {a0 : Int} {a1 : Int} {a2 : Int} {r : Bool} (h : xCe N  a0 a1 a2 = some r) : AbC 101 (xBU a0 a1 a2) (xBb r) :=
 AbsCalls.of_reach fk101 rfl rfl (Nat.le_of_ble_eq_true rfl) (c101_e a0 a1 a2 r h)
noncomputable def I90 : Info := { body := (Try.f90.body).getD .skip, nt := 5, results := [.tmp 2], keep := [0, 4], live := [], modes := [], ext := [], lnt := [], casts := [], fcast := [] }
theorem fk90 : FnOk Try.prog 90 Try.f90 I90 := ⟨Try.func90, by kernel_rfl, by kernel_rfl, by kernel_rfl, by kernel_rfl⟩
theorem p90_e_0 (a0 : Int) (r1 : Bool) : run tt (AbsCalls Try.prog) I90 3000 false [.code I90.body] ⟨(zBm 0 (xBm a0)), [], [xBb r1], []⟩ = some (.done (xAx r1) [AbC 101 (xBU a0 (-1000000000) 1000000000) (xBb r1)]) := by kernel_rfl
theorem c90_e {N : Nat} : ∀ a0 r, xBl N a0 = some r → Reach Try.prog Try.f90 I90 [.code I90.body] (zBm 0 (xBm a0)) (xAx r) := by
 intro a0 r h
 unfold xBl at h
 obtain ⟨r1, h0, h⟩ := bind_inv h
 obtain rfl := Option.some.inj h
 exact Reach.done ttok mix fk90 (p90_e_0 a0 r1) (obs_cons (xDo h0) obs_nil)
theorem xB5 {N : Nat} {a0 : Int} {r : Bool} (h : xBl N  a0 = some r) : AbC 90 (xBm a0) (xAx r) :=
 AbsCalls.of_reach fk90 rfl rfl (Nat.le_of_ble_eq_true rfl) (c90_e a0 r h)
end Go.Ab.T
end
section
open Go.Proofs
namespace Go.Ab.T
set_option linter.unusedVariables false
set_option maxRecDepth 100000
noncomputable def I67 : Info := { body := (Try.f67.body).getD .skip, nt := 5, results := [.cell 2 31], keep := [0, 4, 5], live := [], modes := [], ext := [], lnt := [], casts := [], fcast := [] }
theorem fk67 : FnOk Try.prog 67 Try.f67 I67 := ⟨Try.func67, by kernel_rfl, by kernel_rfl, by kernel_rfl, by kernel_rfl⟩
theorem p67_e_0 (a0 : Int) : run tt (AbsCalls Try.prog) I67 3000 false [.code I67.body] ⟨(zBm 0 (xA6 a0)), [], [], []⟩ = some (.done (xAp (Val.mk 6 a0 0 [] [] [] [])) []) := by kernel_rfl
theorem c67_e {N : Nat} : ∀ a0 r, xAL N a0 = some r → Reach Try.prog Try.f67 I67 [.code I67.body] (zBm 0 (xA6 a0)) (xAp r) := by
 intro a0 r h
 unfold xAL at h
 obtain rfl := Option.some.inj h
 exact Reach.done ttok mix fk67 (p67_e_0 a0) obs_nil
theorem xBO {N : Nat} {a0 : Int} {r : Val} (h : xAL N  a0 = some r) : AbC 67 (xA6 a0) (xAp r) :=
 AbsCalls.of_reach fk67 rfl rfl (Nat.le_of_ble_eq_true rfl) (c67_e a0 r h)
noncomputable def I106 : Info := { body := (Try.f106.body).getD .skip, nt := 5, results := [.cell 2 31], keep := [0, 4, 5], live := [], modes := [], ext := [], lnt := [], casts := [], fcast := [] }
theorem fk106 : FnOk Try.prog 106 Try.f106 I106 := ⟨Try.func106, by kernel_rfl, by kernel_rfl, by kernel_rfl, by kernel_rfl⟩
theorem p106_e_0 (a0 : Int) : run tt (AbsCalls Try.prog) I106 3000 false [.code I106.body] ⟨(zBm 0 (xBz a0)), [], [], []⟩ = some (.done (xAT (Val.mk 1 a0 0 [] [] [] [])) []) := by kernel_rfl
theorem c106_e {N : Nat} : ∀ a0 r, xBk N a0 = some r → Reach Try.prog Try.f106 I106 [.code I106.body] (zBm 0 (xBz a0)) (xAT r) := by
 intro a0 r h
 unfold xBk at h
 obtain rfl := Option.some.inj h
 exact Reach.done ttok mix fk106 (p106_e_0 a0) obs_nil
theorem xC5 {N : Nat} {a0 : Int} {r : Val} (h : xBk N  a0 = some r) : AbC 106 (xBz a0) (xAT r) :=
 AbsCalls.of_reach fk106 rfl rfl (Nat.le_of_ble_eq_true rfl) (c106_e a0 r h)
end Go.Ab.T
end
section
open Go.Proofs
namespace Go.Ab.T
set_option linter.unusedVariables false
set_option maxRecDepth 100000
noncomputable def I29 : Info := { body := (Try.f29.body).getD .skip, nt := 6, results := [.tmp 2], keep := [0, 4], live := [], modes := [], ext := [], lnt := [], casts := [], fcast := [] }
theorem fk29 : FnOk Try.prog 29 Try.f29 I29 := ⟨Try.func29, by kernel_rfl, by kernel_rfl, by kernel_rfl, by kernel_rfl⟩
theorem p29_e_0 (a0 : List Int) : run tt (AbsCalls Try.prog) I29 3000 false [.code I29.body] ⟨(zBm 0 (xBA a0)), [], [], []⟩ = some (.done (xAz (decide (((List.length a0 : Int) : Int) > 1048576))) []) := by kernel_rfl
theorem c29_e {N : Nat} : ∀ a0 r, laws_big N a0 = some r → Reach Try.prog Try.f29 I29 [.code I29.body] (zBm 0 (xBA a0)) (xAz r) := by
 intro a0 r h
 unfold laws_big at h
 obtain rfl := Option.some.inj h
 exact Reach.done ttok mix fk29 (p29_e_0 a0) obs_nil
theorem xCf {N : Nat} {a0 : List Int} {r : Bool} (h : laws_big N  a0 = some r) : AbC 29 (xBA a0) (xAz r) :=
 AbsCalls.of_reach fk29 rfl rfl (Nat.le_of_ble_eq_true rfl) (c29_e a0 r h)
noncomputable def I94 : Info := { body := (Try.f94.body).getD .skip, nt := 32, results := [.tmp 2], keep := [0, 4, 6, 8, 30, 63], live := [(3, [0, 6, 8])], modes := [(3, [(4, .take, false)])], ext := [], lnt := [], casts := [], fcast := [] }
theorem fk94 : FnOk Try.prog 94 Try.f94 I94 := ⟨Try.func94, by kernel_rfl, by kernel_rfl, by kernel_rfl, by kernel_rfl⟩
def S94_3 (x0 : List Int) (x3 x4 : Int) : St := [(0, .v false [.sl .ro .byte x0]), (6, .v false [.int .i64 x3]), (8, .v false [.int .i64 x4])]
theorem p94_3_0 (x0 : List Int) (x3 x4 : Int) : run tt (AbsCalls Try.prog) I94 3000 true (stkAt 3 I94.body) ⟨(S94_3 x0 x3 x4), [true, true], [], []⟩ = some (.stop (stkAt 3 I94.body) (S94_3 x0 (andI .i64 (IntKind.i64.wrap ((IntKind.i64.wrap ((IntKind.i64.wrap (x3 * 131)) + (IntKind.i64.wrap ((List.getD x0 (Int.toNat x4) Ty.byte.dflt))))) + 7)) 1073741823) (IntKind.i64.wrap (x4 + 1))) [(decide ((x4 : Int) < (List.length x0 : Int))) = true, (decide ((x4 : Int) < 4000)) = true, (0 : Int) ≤ x4 ∧ x4 < (List.length x0)]) := by kernel_rfl
theorem p94_3_1 (x0 : List Int) (x3 x4 : Int) : run tt (AbsCalls Try.prog) I94 3000 true (stkAt 3 I94.body) ⟨(S94_3 x0 x3 x4), [true, false], [], []⟩ = some (.done (xBR (Cur.mk x0 0 x3)) [(decide ((x4 : Int) < (List.length x0 : Int))) = true, (decide ((x4 : Int) < 4000)) = false]) := by kernel_rfl
theorem p94_3_2 (x0 : List Int) (x3 x4 : Int) : run tt (AbsCalls Try.prog) I94 3000 true (stkAt 3 I94.body) ⟨(S94_3 x0 x3 x4), [false, false], [], []⟩ = some (.done (xBR (Cur.mk x0 0 x3)) [(decide ((x4 : Int) < (List.length x0 : Int))) = false, false = false]) := by kernel_rfl
theorem p94_e_3 (a0 : List Int) : run tt (AbsCalls Try.prog) I94 3000 false [.code I94.body] ⟨(zBm 0 (xDf a0)), [], [], []⟩ = some (.stop (stkAt 3 I94.body) (S94_3 a0 (IntKind.i64.wrap (26583 + (List.length a0 : Int))) 0) []) := by kernel_rfl
theorem c94_3 {N : Nat} : ∀ n x0 x3 x4 r, xCv N n x0 x3 x4 = some r → Reach Try.prog Try.f94 I94 (stkAt 3 I94.body) (S94_3 x0 x3 x4) (xBR r) := by
 intro n
 induction n with
 | zero => intro x0 x3 x4 r h; have h' : (none : Option (Cur)) = some r := h; cases h'
 | succ n ih =>
  intro x0 x3 x4 r h
  rw [xCv] at h
  rcases cond_inv h with ⟨h0, h⟩ | ⟨h0, h⟩
  ·rcases cond_inv h with ⟨h1, h⟩ | ⟨h1, h⟩
   ·obtain ⟨h2, h⟩ := ite_inv h
    exact Reach.stop ttok mix fk94 (p94_3_0 x0 x3 x4) (obs_cons h0 (obs_cons h1 (obs_cons h2 obs_nil))) (ih _ _ _ _ h)
   ·obtain rfl := Option.some.inj h
    exact Reach.done ttok mix fk94 (p94_3_1 x0 x3 x4) (obs_cons h0 (obs_cons h1 obs_nil))
  ·obtain rfl := Option.some.inj h
   exact Reach.done ttok mix fk94 (p94_3_2 x0 x3 x4) (obs_cons h0 (obs_cons rfl obs_nil))
theorem c94_e {N : Nat} : ∀ a0 r, xDy N a0 = some r → Reach Try.prog Try.f94 I94 [.code I94.body] (zBm 0 (xDf a0)) (xBR r) := by
 intro a0 r h
 unfold xDy at h
 exact Reach.stop ttok mix fk94 (p94_e_3 a0) obs_nil (c94_3   _ _ _ _ _ h)
theorem spec_l1New_ok {N : Nat} {a0 : List Int} {r : Cur} (h : xDy N  a0 = some r) : AbC 94 (xDf a0) (xBR r) :=
 AbsCalls.of_reach fk94 rfl rfl (Nat.le_of_ble_eq_true rfl) (c94_e a0 r h)
noncomputable def I147 : Info := { body := (Try.f147.body).getD .skip, nt := 58, results := [.tmp 2], keep := [0, 4, 6, 68, 1], live := [], modes := [], ext := [0], lnt := [], casts := [], fcast := [] }
theorem fk147 : FnOk Try.prog 147 Try.f147 I147 := ⟨Try.func147, by kernel_rfl, by kernel_rfl, by kernel_rfl, by kernel_rfl⟩
theorem p147_e_0 (a0 : Cur) : run tt (AbsCalls Try.prog) I147 3000 false [.code I147.body] ⟨(zBm 0 (xBF a0)), [true], [], []⟩ = some (.done (xAQ ((andI .i64 (IntKind.i64.wrap ((andI .i64 (xorI .i64 (Int.fdiv (IntKind.i64.wrap ((IntKind.i64.wrap ((Cur.h a0) * 6364136223846793005)) + 1442695040888963407)) ((2 : Int) ^ (Int.toNat 33))) (Int.fdiv (IntKind.i64.wrap ((IntKind.i64.wrap ((Cur.h a0) * 6364136223846793005)) + 1442695040888963407)) ((2 : Int) ^ (Int.toNat 45)))) 255) + (IntKind.i64.wrap ((List.getD (Cur.b a0) (Int.toNat (Cur.i a0)) Ty.byte.dflt))))) 255), (Cur.mk (Cur.b a0) (IntKind.i64.wrap ((Cur.i a0) + 1)) (IntKind.i64.wrap ((IntKind.i64.wrap ((Cur.h a0) * 6364136223846793005)) + 1442695040888963407))))) [(0 : Int) ≤ 33 ∧ (33 : Int) < 64, (0 : Int) ≤ 45 ∧ (45 : Int) < 64, (decide (((Cur.i a0) : Int) < (List.length (Cur.b a0) : Int))) = true, (0 : Int) ≤ (Cur.i a0) ∧ (Cur.i a0) < (List.length (Cur.b a0))]) := by kernel_rfl
theorem p147_e_1 (a0 : Cur) : run tt (AbsCalls Try.prog) I147 3000 false [.code I147.body] ⟨(zBm 0 (xBF a0)), [false], [], []⟩ = some (.done (xAQ ((andI .i64 (xorI .i64 (Int.fdiv (IntKind.i64.wrap ((IntKind.i64.wrap ((Cur.h a0) * 6364136223846793005)) + 1442695040888963407)) ((2 : Int) ^ (Int.toNat 33))) (Int.fdiv (IntKind.i64.wrap ((IntKind.i64.wrap ((Cur.h a0) * 6364136223846793005)) + 1442695040888963407)) ((2 : Int) ^ (Int.toNat 45)))) 255), (Cur.mk (Cur.b a0) (Cur.i a0) (IntKind.i64.wrap ((IntKind.i64.wrap ((Cur.h a0) * 6364136223846793005)) + 1442695040888963407))))) [(0 : Int) ≤ 33 ∧ (33 : Int) < 64, (0 : Int) ≤ 45 ∧ (45 : Int) < 64, (decide (((Cur.i a0) : Int) < (List.length (Cur.b a0) : Int))) = false]) := by kernel_rfl
theorem c147_e {N : Nat} : ∀ a0 r, xCg N a0 = some r → Reach Try.prog Try.f147 I147 [.code I147.body] (zBm 0 (xBF a0)) (xAQ r) := by
 intro a0 r h
 unfold xCg at h
 rcases cond_inv h with ⟨h2, h⟩ | ⟨h2, h⟩
 ·obtain ⟨h3, h⟩ := ite_inv h
  obtain rfl := Option.some.inj h
  exact Reach.done ttok mix fk147 (p147_e_0 a0) (obs_cons (by decide) (obs_cons (by decide) (obs_cons h2 (obs_cons h3 obs_nil))))
 ·obtain rfl := Option.some.inj h
  exact Reach.done ttok mix fk147 (p147_e_1 a0) (obs_cons (by decide) (obs_cons (by decide) (obs_cons h2 obs_nil)))
theorem xCX {N : Nat} {a0 : Cur} {r : Int × Cur} (h : xCg N  a0 = some r) : AbC 147 (xBF a0) (xAQ r) :=
 AbsCalls.of_reach fk147 rfl rfl (Nat.le_of_ble_eq_true rfl) (c147_e a0 r h)
noncomputable def I104 : Info := { body := (Try.f104.body).getD .skip, nt := 37, results := [.tmp 4], keep := [0, 2, 8, 10, 12, 14, 16, 20, 24, 1], live := [], modes := [(9, [(0, .take, false), (2, .take, false), (5, .take, false), (8, .take, false)])], ext := [0], lnt := [], casts := [], fcast := [] }
theorem fk104 : FnOk Try.prog 104 Try.f104 I104 := ⟨Try.func104, by kernel_rfl, by kernel_rfl, by kernel_rfl, by kernel_rfl⟩
theorem p104_e_0 (a0 : Cur) (a1 : Int) : run tt (AbsCalls Try.prog) I104 3000 false [.code I104.body] ⟨(zBm 0 (xAk a0 a1)), [true], [], []⟩ = some (.done (xAc (0, a0)) [(decide ((a1 : Int) ≤ 0)) = true]) := by kernel_rfl
theorem p104_e_1 (a0 : Cur) (a1 : Int) (r1 : Int × Cur) : run tt (AbsCalls Try.prog) I104 3000 false [.code I104.body] ⟨(zBm 0 (xAk a0 a1)), [false, true], [xAQ r1], []⟩ = some (.done (xAc ((Int.tmod r1.1 a1), r1.2)) [(decide ((a1 : Int) ≤ 0)) = false, (decide ((a1 : Int) ≤ 256)) = true, AbC 147 (xBF a0) (xAQ r1), a1 ≠ (0 : Int)]) := by kernel_rfl
theorem p104_e_2 (a0 : Cur) (a1 : Int) (r1 : Int × Cur) (r2 : Int × Cur) (r3 : Int × Cur) (r4 : Int × Cur) : run tt (AbsCalls Try.prog) I104 3000 false [.code I104.body] ⟨(zBm 0 (xAk a0 a1)), [false, false], [xAQ r1, xAQ r2, xAQ r3, xAQ r4], []⟩ = some (.done (xAc ((Int.tmod (IntKind.i64.wrap ((IntKind.i64.wrap ((IntKind.i64.wrap ((IntKind.i64.wrap (r1.1 * 16777216)) + (IntKind.i64.wrap (r2.1 * 65536)))) + (IntKind.i64.wrap (r3.1 * 256)))) + r4.1)) a1), r4.2)) [(decide ((a1 : Int) ≤ 0)) = false, (decide ((a1 : Int) ≤ 256)) = false, AbC 147 (xBF a0) (xAQ r1), AbC 147 (xBF r1.2) (xAQ r2), AbC 147 (xBF r2.2) (xAQ r3), AbC 147 (xBF r3.2) (xAQ r4), a1 ≠ (0 : Int)]) := by kernel_rfl
theorem c104_e {N : Nat} : ∀ a0 a1 r, xAt N a0 a1 = some r → Reach Try.prog Try.f104 I104 [.code I104.body] (zBm 0 (xAk a0 a1)) (xAc r) := by
 intro a0 a1 r h
 unfold xAt at h
 rcases cond_inv h with ⟨h0, h⟩ | ⟨h0, h⟩
 ·obtain rfl := Option.some.inj h
  exact Reach.done ttok mix fk104 (p104_e_0 a0 a1) (obs_cons h0 obs_nil)
 ·rcases cond_inv h with ⟨h1, h⟩ | ⟨h1, h⟩
  ·obtain ⟨r1, h2, h⟩ := bind_inv h
   obtain ⟨h3, h⟩ := ite_inv h
   obtain rfl := Option.some.inj h
   exact Reach.done ttok mix fk104 (p104_e_1 a0 a1 r1) (obs_cons h0 (obs_cons h1 (obs_cons (xCX h2) (obs_cons h3 obs_nil))))
  ·obtain ⟨r1, h2, h⟩ := bind_inv h
   obtain ⟨r2, h3, h⟩ := bind_inv h
   obtain ⟨r3, h4, h⟩ := bind_inv h
   obtain ⟨r4, h5, h⟩ := bind_inv h
   obtain ⟨h6, h⟩ := ite_inv h
   obtain rfl := Option.some.inj h
   exact Reach.done ttok mix fk104 (p104_e_2 a0 a1 r1 r2 r3 r4) (obs_cons h0 (obs_cons h1 (obs_cons (xCX h2) (obs_cons (xCX h3) (obs_cons (xCX h4) (obs_cons (xCX h5) (obs_cons h6 obs_nil)))))))
theorem xAo {N : Nat} {a0 : Cur} {a1 : Int} {r : Int × Cur} (h : xAt N  a0 a1 = some r) : AbC 104 (xAk a0 a1) (xAc r) :=
 AbsCalls.of_reach fk104 rfl rfl (Nat.le_of_ble_eq_true rfl) (c104_e a0 a1 r h)
noncomputable def I103 : Info := { body := (Try.f103.body).getD .skip, nt := 9, results := [.tmp 4], keep := [0, 2, 8, 1], live := [], modes := [], ext := [0], lnt := [], casts := [], fcast := [] }
theorem fk103 : FnOk Try.prog 103 Try.f103 I103 := ⟨Try.func103, by kernel_rfl, by kernel_rfl, by kernel_rfl, by kernel_rfl⟩
theorem p103_e_0 (a0 : Cur) (a1 : Int) (r1 : Int × Cur) : run tt (AbsCalls Try.prog) I103 3000 false [.code I103.body] ⟨(zBm 0 (xBG a0 a1)), [], [xAc r1], []⟩ = some (.done (xAI (((r1.1 : Int) == 0), r1.2)) [AbC 104 (xAk a0 a1) (xAc r1)]) := by kernel_rfl
theorem c103_e {N : Nat} : ∀ a0 a1 r, xCO N a0 a1 = some r → Reach Try.prog Try.f103 I103 [.code I103.body] (zBm 0 (xBG a0 a1)) (xAI r) := by
 intro a0 a1 r h
 unfold xCO at h
 obtain ⟨r1, h0, h⟩ := bind_inv h
 obtain rfl := Option.some.inj h
 exact Reach.done ttok mix fk103 (p103_e_0 a0 a1 r1) (obs_cons (xAo h0) obs_nil)
theorem xCE {N : Nat} {a0 : Cur} {a1 : Int} {r : Bool × Cur} (h : xCO N  a0 a1 = some r) : AbC 103 (xBG a0 a1) (xAI r) :=
 AbsCalls.of_reach fk103 rfl rfl (Nat.le_of_ble_eq_true rfl) (c103_e a0 a1 r h)
end Go.Ab.T
end
section
open Go.Proofs
namespace Go.Ab.T
set_option linter.unusedVariables false
set_option maxRecDepth 100000
noncomputable def I144 : Info := { body := (Try.f144.body).getD .skip, nt := 37, results := [.cell 2 60], keep := [0, 4, 6, 10, 24, 34, 36, 38, 40, 50, 1, 5, 7], live := [(5, [0, 4, 6, 34, 36, 38, 1, 5, 7])], modes := [(8, [(1, .take, false), (2, .take, false)]), (9, [(1, .take, false)]), (10, [(0, .take, false)])], ext := [0], lnt := [], casts := [], fcast := [] }
theorem fk144 : FnOk Try.prog 144 Try.f144 I144 := ⟨Try.func144, by kernel_rfl, by kernel_rfl, by kernel_rfl, by kernel_rfl⟩
def S144_5 (x17 : List Str) (x18 x19 : Int) (b0 : Cur) (b2 b3 : Wld) : St := [(0, .v false [.ptr 0 0]), (4, .v false [.ptr 2 0]), (6, .v false [.ptr 3 0]), (34, .v false [.sl .own .str x17]), (36, .v false [.int .i64 x18]), (38, .v false [.int .i64 x19]), (1, .v true [.sl .ro .byte (Cur.b b0), .int .i64 (Cur.i b0), .int .i64 (Cur.h b0)]), (5, .v true [.int .i64 (Wld.clock b2), .int .i64 (Wld.seed b2), .sl .own .fil (Wld.files b2)]), (7, .v true [.int .i64 (Wld.clock b3), .int .i64 (Wld.seed b3), .sl .own .fil (Wld.files b3)])]
theorem p144_5_0 (x17 : List Str) (x18 x19 : Int) (b0 : Cur) (b2 b3 : Wld) (r1 : Bool × Cur) (r2 : Int × Cur) : run tt (AbsCalls Try.prog) I144 3000 true (stkAt 5 I144.body) ⟨(S144_5 x17 x18 x19 b0 b2 b3), [true, true], [xAI r1, xAc r2], []⟩ = some (.stop (stkAt 5 I144.body) (S144_5 x17 x18 (IntKind.i64.wrap (x19 + 1)) r2.2 b2 (Wld.mk (Wld.clock b3) (Wld.seed b3) ((Wld.files b3) ++ [(Fil.mk (List.getD x17 (Int.toNat x19) Ty.str.dflt) r2.1)]))) [(decide ((x19 : Int) < x18)) = true, (0 : Int) ≤ x19 ∧ x19 < (List.length x17), AbC 103 (xBG b0 3) (xAI r1), (!r1.1) = true, AbC 104 (xAk r1.2 9) (xAc r2), List.length (Wld.files b3) + List.length [(Fil.mk (List.getD x17 (Int.toNat x19) Ty.str.dflt) r2.1)] ≤ Lim]) := by kernel_rfl
theorem p144_5_1 (x17 : List Str) (x18 x19 : Int) (b0 : Cur) (b2 b3 : Wld) (r1 : Bool × Cur) : run tt (AbsCalls Try.prog) I144 3000 true (stkAt 5 I144.body) ⟨(S144_5 x17 x18 x19 b0 b2 b3), [true, false], [xAI r1], []⟩ = some (.stop (stkAt 5 I144.body) (S144_5 x17 x18 (IntKind.i64.wrap (x19 + 1)) r1.2 b2 b3) [(decide ((x19 : Int) < x18)) = true, (0 : Int) ≤ x19 ∧ x19 < (List.length x17), AbC 103 (xBG b0 3) (xAI r1), (!r1.1) = false]) := by kernel_rfl
theorem p144_5_2 (x17 : List Str) (x18 x19 : Int) (b0 : Cur) (b2 b3 : Wld) : run tt (AbsCalls Try.prog) I144 3000 true (stkAt 5 I144.body) ⟨(S144_5 x17 x18 x19 b0 b2 b3), [false], [], []⟩ = some (.done (xA0 (b3, b0)) [(decide ((x19 : Int) < x18)) = false]) := by kernel_rfl
theorem p144_e_3 (a0 : Cur) (r1 : Int × Cur) (r2 : Int × Cur) (r3 : Bool × Cur) (r4 : Int × Cur) : run tt (AbsCalls Try.prog) I144 3000 false [.code I144.body] ⟨(zBm 0 (xBL a0)), [true], [xAc r1, xAc r2, xAI r3, xAc r4], []⟩ = some (.stop (stkAt 5 I144.body) (S144_5 [[102], [103], [104]] (List.length [[102], [103], [104]] : Int) 0 r4.2 (Wld.mk 0 0 []) (Wld.mk (IntKind.i64.wrap (999 + r4.1)) r2.1 [])) [AbC 104 (xAk a0 20) (xAc r1), AbC 104 (xAk r1.2 1000) (xAc r2), AbC 103 (xBG r2.2 10) (xAI r3), r3.1 = true, AbC 104 (xAk r3.2 2) (xAc r4)]) := by kernel_rfl
theorem p144_e_4 (a0 : Cur) (r1 : Int × Cur) (r2 : Int × Cur) (r3 : Bool × Cur) : run tt (AbsCalls Try.prog) I144 3000 false [.code I144.body] ⟨(zBm 0 (xBL a0)), [false], [xAc r1, xAc r2, xAI r3], []⟩ = some (.stop (stkAt 5 I144.body) (S144_5 [[102], [103], [104]] (List.length [[102], [103], [104]] : Int) 0 r3.2 (Wld.mk 0 0 []) (Wld.mk r1.1 r2.1 [])) [AbC 104 (xAk a0 20) (xAc r1), AbC 104 (xAk r1.2 1000) (xAc r2), AbC 103 (xBG r2.2 10) (xAI r3), r3.1 = false]) := by kernel_rfl
theorem c144_5 {N : Nat} : ∀ n x17 x18 x19 b0 b2 b3 r, xBj N n x17 x18 x19 b0 b2 b3 = some r → Reach Try.prog Try.f144 I144 (stkAt 5 I144.body) (S144_5 x17 x18 x19 b0 b2 b3) (xA0 r) := by
 intro n
 induction n with
 | zero => intro x17 x18 x19 b0 b2 b3 r h; have h' : (none : Option (Wld × Cur)) = some r := h; cases h'
 | succ n ih =>
  intro x17 x18 x19 b0 b2 b3 r h
  rw [xBj] at h
  rcases cond_inv h with ⟨h0, h⟩ | ⟨h0, h⟩
  ·obtain ⟨h1, h⟩ := ite_inv h
   obtain ⟨r1, h2, h⟩ := bind_inv h
   rcases cond_inv h with ⟨h3, h⟩ | ⟨h3, h⟩
   ·obtain ⟨r2, h4, h⟩ := bind_inv h
    obtain ⟨h5, h⟩ := ite_inv h
    exact Reach.stop ttok mix fk144 (p144_5_0 x17 x18 x19 b0 b2 b3 r1 r2) (obs_cons h0 (obs_cons h1 (obs_cons (xCE h2) (obs_cons h3 (obs_cons (xAo h4) (obs_cons h5 obs_nil)))))) (ih _ _ _ _ _ _ _ h)
   ·exact Reach.stop ttok mix fk144 (p144_5_1 x17 x18 x19 b0 b2 b3 r1) (obs_cons h0 (obs_cons h1 (obs_cons (xCE h2) (obs_cons h3 obs_nil)))) (ih _ _ _ _ _ _ _ h)
  ·obtain rfl := Option.some.inj h
   exact Reach.done ttok mix fk144 (p144_5_2 x17 x18 x19 b0 b2 b3) (obs_cons h0 obs_nil)
theorem c144_e {N : Nat} : ∀ a0 r, xDr N a0 = some r → Reach Try.prog Try.f144 I144 [.code I144.body] (zBm 0 (xBL a0)) (xA0 r) := by
 intro a0 r h
 unfold xDr at h
 obtain ⟨r1, h0, h⟩ := bind_inv h
 obtain ⟨r2, h1, h⟩ := bind_inv h
 obtain ⟨r3, h2, h⟩ := bind_inv h
 rcases cond_inv h with ⟨h3, h⟩ | ⟨h3, h⟩
 ·obtain ⟨r4, h4, h⟩ := bind_inv h
  exact Reach.stop ttok mix fk144 (p144_e_3 a0 r1 r2 r3 r4) (obs_cons (xAo h0) (obs_cons (xAo h1) (obs_cons (xCE h2) (obs_cons h3 (obs_cons (xAo h4) obs_nil))))) (c144_5   _ _ _ _ _ _ _ _ h)
 ·exact Reach.stop ttok mix fk144 (p144_e_4 a0 r1 r2 r3) (obs_cons (xAo h0) (obs_cons (xAo h1) (obs_cons (xCE h2) (obs_cons h3 obs_nil)))) (c144_5   _ _ _ _ _ _ _ _ h)
theorem xDc {N : Nat} {a0 : Cur} {r : Wld × Cur} (h : xDr N  a0 = some r) : AbC 144 (xBL a0) (xA0 r) :=
 AbsCalls.of_reach fk144 rfl rfl (Nat.le_of_ble_eq_true rfl) (c144_e a0 r h)
noncomputable def I145 : Info := { body := (Try.f145.body).getD .skip, nt := 12, results := [.tmp 4], keep := [0, 2, 8, 1], live := [], modes := [], ext := [0], lnt := [], casts := [], fcast := [] }
theorem fk145 : FnOk Try.prog 145 Try.f145 I145 := ⟨Try.func145, by kernel_rfl, by kernel_rfl, by kernel_rfl, by kernel_rfl⟩
theorem p145_e_0 (a0 : Cur) (a1 : List Int) (r1 : Int × Cur) : run tt (AbsCalls Try.prog) I145 3000 false [.code I145.body] ⟨(zBm 0 (xCT a0 a1)), [], [xAc r1], []⟩ = some (.done (xCp ((List.getD a1 (Int.toNat r1.1) Ty.int.dflt), r1.2)) [AbC 104 (xAk a0 (List.length a1 : Int)) (xAc r1), (0 : Int) ≤ r1.1 ∧ r1.1 < (List.length a1)]) := by kernel_rfl
theorem c145_e {N : Nat} : ∀ a0 a1 r, xCF N a0 a1 = some r → Reach Try.prog Try.f145 I145 [.code I145.body] (zBm 0 (xCT a0 a1)) (xCp r) := by
 intro a0 a1 r h
 unfold xCF at h
 obtain ⟨r1, h0, h⟩ := bind_inv h
 obtain ⟨h1, h⟩ := ite_inv h
 obtain rfl := Option.some.inj h
 exact Reach.done ttok mix fk145 (p145_e_0 a0 a1 r1) (obs_cons (xAo h0) (obs_cons h1 obs_nil))
theorem spec_l1PickInt_ok {N : Nat} {a0 : Cur} {a1 : List Int} {r : Int × Cur} (h : xCF N  a0 a1 = some r) : AbC 145 (xCT a0 a1) (xCp r) :=
 AbsCalls.of_reach fk145 rfl rfl (Nat.le_of_ble_eq_true rfl) (c145_e a0 a1 r h)
noncomputable def I96 : Info := { body := (Try.f96.body).getD .skip, nt := 12, results := [.tmp 4], keep := [0, 2, 8, 1], live := [], modes := [], ext := [0], lnt := [], casts := [], fcast := [] }
theorem fk96 : FnOk Try.prog 96 Try.f96 I96 := ⟨Try.func96, by kernel_rfl, by kernel_rfl, by kernel_rfl, by kernel_rfl⟩
theorem p96_e_0 (a0 : Cur) (a1 : List Str) (r1 : Int × Cur) : run tt (AbsCalls Try.prog) I96 3000 false [.code I96.body] ⟨(zBm 0 (xCY a0 a1)), [], [xAc r1], []⟩ = some (.done (xCi ((List.getD a1 (Int.toNat r1.1) Ty.str.dflt), r1.2)) [AbC 104 (xAk a0 (List.length a1 : Int)) (xAc r1), (0 : Int) ≤ r1.1 ∧ r1.1 < (List.length a1)]) := by kernel_rfl
theorem c96_e {N : Nat} : ∀ a0 a1 r, xDk N a0 a1 = some r → Reach Try.prog Try.f96 I96 [.code I96.body] (zBm 0 (xCY a0 a1)) (xCi r) := by
 intro a0 a1 r h
 unfold xDk at h
 obtain ⟨r1, h0, h⟩ := bind_inv h
 obtain ⟨h1, h⟩ := ite_inv h
 obtain rfl := Option.some.inj h
 exact Reach.done ttok mix fk96 (p96_e_0 a0 a1 r1) (obs_cons (xAo h0) (obs_cons h1 obs_nil))
theorem xEj {N : Nat} {a0 : Cur} {a1 : List Str} {r : Str × Cur} (h : xDk N  a0 a1 = some r) : AbC 96 (xCY a0 a1) (xCi r) :=
 AbsCalls.of_reach fk96 rfl rfl (Nat.le_of_ble_eq_true rfl) (c96_e a0 a1 r h)
noncomputable def I95 : Info := { body := (Try.f95.body).getD .skip, nt := 29, results := [.cell 2 60], keep := [0, 4, 6, 14, 16, 28, 50, 1, 5, 7], live := [], modes := [(4, [(1, .cp, true)]), (6, [(1, .take, false), (3, .cp, true)]), (9, [(0, .take, false)])], ext := [0], lnt := [], casts := [], fcast := [] }
theorem fk95 : FnOk Try.prog 95 Try.f95 I95 := ⟨Try.func95, by kernel_rfl, by kernel_rfl, by kernel_rfl, by kernel_rfl⟩
theorem p95_e_0 (a0 : Cur) (r1 : Wld × Cur) (r2 : Int × Cur) (r3 : Int × Cur) : run tt (AbsCalls Try.prog) I95 3000 false [.code I95.body] ⟨(zBm 0 (xBK a0)), [true], [xA0 r1, xAc r2, xCp r3], []⟩ = some (.done (xBi ((Wld.mk r3.1 (Wld.seed r1.1) (Wld.files r1.1)), r3.2)) [AbC 144 (xBL a0) (xA0 r1), AbC 104 (xAk r1.2 10) (xAc r2), ((r2.1 : Int) == 0) = true, AbC 145 (xCT r2.2 [(-1), 1001, 9223372036854775807]) (xCp r3)]) := by kernel_rfl
theorem p95_e_1 (a0 : Cur) (r1 : Wld × Cur) (r2 : Int × Cur) (r3 : Str × Cur) : run tt (AbsCalls Try.prog) I95 3000 false [.code I95.body] ⟨(zBm 0 (xBK a0)), [false, true], [xA0 r1, xAc r2, xCi r3], []⟩ = some (.done (xBi ((Wld.mk (Wld.clock r1.1) (Wld.seed r1.1) ((Wld.files r1.1) ++ [(Fil.mk r3.1 2000000000)])), r3.2)) [AbC 144 (xBL a0) (xA0 r1), AbC 104 (xAk r1.2 10) (xAc r2), ((r2.1 : Int) == 0) = false, ((r2.1 : Int) == 1) = true, AbC 96 (xCY r2.2 [[102], [122], [108, 101, 116]]) (xCi r3), List.length (Wld.files r1.1) + List.length [(Fil.mk r3.1 2000000000)] ≤ Lim]) := by kernel_rfl
theorem p95_e_2 (a0 : Cur) (r1 : Wld × Cur) (r2 : Int × Cur) : run tt (AbsCalls Try.prog) I95 3000 false [.code I95.body] ⟨(zBm 0 (xBK a0)), [false, false, true], [xA0 r1, xAc r2], []⟩ = some (.done (xBi ((Wld.mk (Wld.clock r1.1) 1000001 (Wld.files r1.1)), r2.2)) [AbC 144 (xBL a0) (xA0 r1), AbC 104 (xAk r1.2 10) (xAc r2), ((r2.1 : Int) == 0) = false, ((r2.1 : Int) == 1) = false, ((r2.1 : Int) == 2) = true]) := by kernel_rfl
theorem p95_e_3 (a0 : Cur) (r1 : Wld × Cur) (r2 : Int × Cur) : run tt (AbsCalls Try.prog) I95 3000 false [.code I95.body] ⟨(zBm 0 (xBK a0)), [false, false, false], [xA0 r1, xAc r2], []⟩ = some (.done (xBi (r1.1, r2.2)) [AbC 144 (xBL a0) (xA0 r1), AbC 104 (xAk r1.2 10) (xAc r2), ((r2.1 : Int) == 0) = false, ((r2.1 : Int) == 1) = false, ((r2.1 : Int) == 2) = false]) := by kernel_rfl
theorem c95_e {N : Nat} : ∀ a0 r, xDq N a0 = some r → Reach Try.prog Try.f95 I95 [.code I95.body] (zBm 0 (xBK a0)) (xBi r) := by
 intro a0 r h
 unfold xDq at h
 obtain ⟨r1, h0, h⟩ := bind_inv h
 obtain ⟨r2, h1, h⟩ := bind_inv h
 rcases cond_inv h with ⟨h2, h⟩ | ⟨h2, h⟩
 ·obtain ⟨r3, h3, h⟩ := bind_inv h
  obtain rfl := Option.some.inj h
  exact Reach.done ttok mix fk95 (p95_e_0 a0 r1 r2 r3) (obs_cons (xDc h0) (obs_cons (xAo h1) (obs_cons h2 (obs_cons (spec_l1PickInt_ok h3) obs_nil))))
 ·rcases cond_inv h with ⟨h3, h⟩ | ⟨h3, h⟩
  ·obtain ⟨r3, h4, h⟩ := bind_inv h
   obtain ⟨h5, h⟩ := ite_inv h
   obtain rfl := Option.some.inj h
   exact Reach.done ttok mix fk95 (p95_e_1 a0 r1 r2 r3) (obs_cons (xDc h0) (obs_cons (xAo h1) (obs_cons h2 (obs_cons h3 (obs_cons (xEj h4) (obs_cons h5 obs_nil))))))
  ·rcases cond_inv h with ⟨h4, h⟩ | ⟨h4, h⟩
   ·obtain rfl := Option.some.inj h
    exact Reach.done ttok mix fk95 (p95_e_2 a0 r1 r2) (obs_cons (xDc h0) (obs_cons (xAo h1) (obs_cons h2 (obs_cons h3 (obs_cons h4 obs_nil)))))
   ·obtain rfl := Option.some.inj h
    exact Reach.done ttok mix fk95 (p95_e_3 a0 r1 r2) (obs_cons (xDc h0) (obs_cons (xAo h1) (obs_cons h2 (obs_cons h3 (obs_cons h4 obs_nil)))))
theorem xD7 {N : Nat} {a0 : Cur} {r : Wld × Cur} (h : xDq N  a0 = some r) : AbC 95 (xBK a0) (xBi r) :=
 AbsCalls.of_reach fk95 rfl rfl (Nat.le_of_ble_eq_true rfl) (c95_e a0 r h)
noncomputable def I34 : Info := { body := (Try.f34.body).getD .skip, nt := 22, results := [.tmp 4, .tmp 5], keep := [0, 2, 4, 8, 10, 14, 18, 20, 22, 24, 36, 5, 15], live := [(2, [2, 18, 20, 22])], modes := [(6, [(1, .take, false)])], ext := [], lnt := [], casts := [], fcast := [] }
theorem fk34 : FnOk Try.prog 34 Try.f34 I34 := ⟨Try.func34, by kernel_rfl, by kernel_rfl, by kernel_rfl, by kernel_rfl⟩
def S34_2 (x1 : Str) (x9 : List Fil) (x10 x11 : Int) : St := [(2, .v false [.str x1]), (18, .v false [.sl .ro .fil x9]), (20, .v false [.int .i64 x10]), (22, .v false [.int .i64 x11])]
theorem p34_2_0 (x1 : Str) (x9 : List Fil) (x10 x11 : Int) : run tt (AbsCalls Try.prog) I34 3000 true (stkAt 2 I34.body) ⟨(S34_2 x1 x9 x10 x11), [true, true], [], []⟩ = some (.done (xAy ((Fil.n (List.getD x9 (Int.toNat x11) Ty.fil.dflt)), true)) [(decide ((x11 : Int) < x10)) = true, (0 : Int) ≤ x11 ∧ x11 < (List.length x9), (((Fil.name (List.getD x9 (Int.toNat x11) Ty.fil.dflt)) : Str) == x1) = true]) := by kernel_rfl
theorem p34_2_1 (x1 : Str) (x9 : List Fil) (x10 x11 : Int) : run tt (AbsCalls Try.prog) I34 3000 true (stkAt 2 I34.body) ⟨(S34_2 x1 x9 x10 x11), [true, false], [], []⟩ = some (.stop (stkAt 2 I34.body) (S34_2 x1 x9 x10 (IntKind.i64.wrap (x11 + 1))) [(decide ((x11 : Int) < x10)) = true, (0 : Int) ≤ x11 ∧ x11 < (List.length x9), (((Fil.name (List.getD x9 (Int.toNat x11) Ty.fil.dflt)) : Str) == x1) = false]) := by kernel_rfl
theorem p34_2_2 (x1 : Str) (x9 : List Fil) (x10 x11 : Int) : run tt (AbsCalls Try.prog) I34 3000 true (stkAt 2 I34.body) ⟨(S34_2 x1 x9 x10 x11), [false], [], []⟩ = some (.done (xAy (0, false)) [(decide ((x11 : Int) < x10)) = false]) := by kernel_rfl
theorem p34_e_3 (a0 : Wld) (a1 : Str) : run tt (AbsCalls Try.prog) I34 3000 false [.code I34.body] ⟨(zBm 0 (xBy a0 a1)), [], [], []⟩ = some (.stop (stkAt 2 I34.body) (S34_2 a1 (Wld.files a0) (List.length (Wld.files a0) : Int) 0) []) := by kernel_rfl
theorem c34_2 {N : Nat} : ∀ n x1 x9 x10 x11 r, xA7 N n x1 x9 x10 x11 = some r → Reach Try.prog Try.f34 I34 (stkAt 2 I34.body) (S34_2 x1 x9 x10 x11) (xAy r) := by
 intro n
 induction n with
 | zero => intro x1 x9 x10 x11 r h; have h' : (none : Option (Int × Bool)) = some r := h; cases h'
 | succ n ih =>
  intro x1 x9 x10 x11 r h
  rw [xA7] at h
  rcases cond_inv h with ⟨h0, h⟩ | ⟨h0, h⟩
  ·obtain ⟨h1, h⟩ := ite_inv h
   rcases cond_inv h with ⟨h2, h⟩ | ⟨h2, h⟩
   ·obtain rfl := Option.some.inj h
    exact Reach.done ttok mix fk34 (p34_2_0 x1 x9 x10 x11) (obs_cons h0 (obs_cons h1 (obs_cons h2 obs_nil)))
   ·exact Reach.stop ttok mix fk34 (p34_2_1 x1 x9 x10 x11) (obs_cons h0 (obs_cons h1 (obs_cons h2 obs_nil))) (ih _ _ _ _ _ h)
  ·obtain rfl := Option.some.inj h
   exact Reach.done ttok mix fk34 (p34_2_2 x1 x9 x10 x11) (obs_cons h0 obs_nil)
theorem c34_e {N : Nat} : ∀ a0 a1 r, xCx N a0 a1 = some r → Reach Try.prog Try.f34 I34 [.code I34.body] (zBm 0 (xBy a0 a1)) (xAy r) := by
 intro a0 a1 r h
 unfold xCx at h
 exact Reach.stop ttok mix fk34 (p34_e_3 a0 a1) obs_nil (c34_2   _ _ _ _ _ _ h)
theorem xC4 {N : Nat} {a0 : Wld} {a1 : Str} {r : Int × Bool} (h : xCx N  a0 a1 = some r) : AbC 34 (xBy a0 a1) (xAy r) :=
 AbsCalls.of_reach fk34 rfl rfl (Nat.le_of_ble_eq_true rfl) (c34_e a0 a1 r h)
noncomputable def I102 : Info := { body := (Try.f102.body).getD .skip, nt := 14, results := [.cell 2 49], keep := [0, 4, 1, 5], live := [], modes := [(1, [(6, .cp, true)])], ext := [0], lnt := [], casts := [], fcast := [] }
theorem fk102 : FnOk Try.prog 102 Try.f102 I102 := ⟨Try.func102, by kernel_rfl, by kernel_rfl, by kernel_rfl, by kernel_rfl⟩
theorem p102_e_0 (a0 : Cur) (r1 : Int × Cur) (r2 : Int × Cur) (r3 : Str × Cur) (r4 : Int × Cur) : run tt (AbsCalls Try.prog) I102 3000 false [.code I102.body] ⟨(zBm 0 (xCM a0)), [], [xAc r1, xAc r2, xCi r3, xAc r4], []⟩ = some (.done (xB1 ((Rea.mk (IntKind.i64.wrap (1 + r1.1)) r2.1 r4.1 r3.1 (Val.mk 0 0 0 [] [] [] [])), r4.2)) [AbC 104 (xAk a0 3) (xAc r1), AbC 104 (xAk r1.2 7) (xAc r2), AbC 96 (xCY r2.2 [[102], [103], [104], [122]]) (xCi r3), AbC 104 (xAk r3.2 3) (xAc r4)]) := by kernel_rfl
theorem c102_e {N : Nat} : ∀ a0 r, xDs N a0 = some r → Reach Try.prog Try.f102 I102 [.code I102.body] (zBm 0 (xCM a0)) (xB1 r) := by
 intro a0 r h
 unfold xDs at h
 obtain ⟨r1, h0, h⟩ := bind_inv h
 obtain ⟨r2, h1, h⟩ := bind_inv h
 obtain ⟨r3, h2, h⟩ := bind_inv h
 obtain ⟨r4, h3, h⟩ := bind_inv h
 obtain rfl := Option.some.inj h
 exact Reach.done ttok mix fk102 (p102_e_0 a0 r1 r2 r3 r4) (obs_cons (xAo h0) (obs_cons (xAo h1) (obs_cons (xEj h2) (obs_cons (xAo h3) obs_nil))))
theorem xD8 {N : Nat} {a0 : Cur} {r : Rea × Cur} (h : xDs N  a0 = some r) : AbC 102 (xCM a0) (xB1 r) :=
 AbsCalls.of_reach fk102 rfl rfl (Nat.le_of_ble_eq_true rfl) (c102_e a0 r h)
noncomputable def I36 : Info := { body := (Try.f36.body).getD .skip, nt := 27, results := [.cell 2 60, .tmp 3, .tmp 4, .cell 5 49], keep := [0, 4, 6, 8, 10, 12, 14, 16, 32, 5, 11, 15, 17, 21], live := [], modes := [(6, [(0, .take, false), (6, .take, false)])], ext := [], lnt := [], casts := [], fcast := [] }
theorem fk36 : FnOk Try.prog 36 Try.f36 I36 := ⟨Try.func36, by kernel_rfl, by kernel_rfl, by kernel_rfl, by kernel_rfl⟩
theorem p36_e_0 (a0 : List Int) (r1 : Cur) (r2 : Wld × Cur) (r3 : Rea × Cur) (r4 : Bool × Cur) (r5 : Int × Cur) (r6 : Int × Cur) (r7 : Int × Cur) : run tt (AbsCalls Try.prog) I36 3000 false [.code I36.body] ⟨(zBm 0 (xAn a0)), [true], [xBR r1, xBi r2, xB1 r3, xAI r4, xAc r5, xAc r6, xAc r7], []⟩ = some (.done (xAf (r2.1, r6.1, (IntKind.i64.wrap (1 + r7.1)), (Rea.mk r5.1 (Rea.n r3.1) (Rea.time r3.1) (Rea.text r3.1) (Rea.result r3.1)))) [AbC 94 (xDf a0) (xBR r1), AbC 95 (xBK r1) (xBi r2), AbC 102 (xCM r2.2) (xB1 r3), AbC 103 (xBG r3.2 8) (xAI r4), r4.1 = true, AbC 104 (xAk r4.2 6) (xAc r5), AbC 104 (xAk r5.2 9) (xAc r6), AbC 104 (xAk r6.2 5) (xAc r7)]) := by kernel_rfl
theorem p36_e_1 (a0 : List Int) (r1 : Cur) (r2 : Wld × Cur) (r3 : Rea × Cur) (r4 : Bool × Cur) (r5 : Int × Cur) (r6 : Int × Cur) : run tt (AbsCalls Try.prog) I36 3000 false [.code I36.body] ⟨(zBm 0 (xAn a0)), [false], [xBR r1, xBi r2, xB1 r3, xAI r4, xAc r5, xAc r6], []⟩ = some (.done (xAf (r2.1, r5.1, (IntKind.i64.wrap (1 + r6.1)), r3.1)) [AbC 94 (xDf a0) (xBR r1), AbC 95 (xBK r1) (xBi r2), AbC 102 (xCM r2.2) (xB1 r3), AbC 103 (xBG r3.2 8) (xAI r4), r4.1 = false, AbC 104 (xAk r4.2 9) (xAc r5), AbC 104 (xAk r5.2 5) (xAc r6)]) := by kernel_rfl
theorem c36_e {N : Nat} : ∀ a0 r, xBJ N a0 = some r → Reach Try.prog Try.f36 I36 [.code I36.body] (zBm 0 (xAn a0)) (xAf r) := by
 intro a0 r h
 unfold xBJ at h
 obtain ⟨r1, h0, h⟩ := bind_inv h
 obtain ⟨r2, h1, h⟩ := bind_inv h
 obtain ⟨r3, h2, h⟩ := bind_inv h
 obtain ⟨r4, h3, h⟩ := bind_inv h
 rcases cond_inv h with ⟨h4, h⟩ | ⟨h4, h⟩
 ·obtain ⟨r5, h5, h⟩ := bind_inv h
  obtain ⟨r6, h6, h⟩ := bind_inv h
  obtain ⟨r7, h7, h⟩ := bind_inv h
  obtain rfl := Option.some.inj h
  exact Reach.done ttok mix fk36 (p36_e_0 a0 r1 r2 r3 r4 r5 r6 r7) (obs_cons (spec_l1New_ok h0) (obs_cons (xD7 h1) (obs_cons (xD8 h2) (obs_cons (xCE h3) (obs_cons h4 (obs_cons (xAo h5) (obs_cons (xAo h6) (obs_cons (xAo h7) obs_nil))))))))
 ·obtain ⟨r5, h5, h⟩ := bind_inv h
  obtain ⟨r6, h6, h⟩ := bind_inv h
  obtain rfl := Option.some.inj h
  exact Reach.done ttok mix fk36 (p36_e_1 a0 r1 r2 r3 r4 r5 r6) (obs_cons (spec_l1New_ok h0) (obs_cons (xD7 h1) (obs_cons (xD8 h2) (obs_cons (xCE h3) (obs_cons h4 (obs_cons (xAo h5) (obs_cons (xAo h6) obs_nil)))))))
theorem xAu {N : Nat} {a0 : List Int} {r : Wld × Int × Int × Rea} (h : xBJ N  a0 = some r) : AbC 36 (xAn a0) (xAf r) :=
 AbsCalls.of_reach fk36 rfl rfl (Nat.le_of_ble_eq_true rfl) (c36_e a0 r h)
noncomputable def I105 : Info := { body := (Try.f105.body).getD .skip, nt := 29, results := [.tmp 8], keep := [0, 2, 4, 6, 16, 18, 46], live := [], modes := [], ext := [], lnt := [], casts := [], fcast := [] }
theorem fk105 : FnOk Try.prog 105 Try.f105 I105 := ⟨Try.func105, by kernel_rfl, by kernel_rfl, by kernel_rfl, by kernel_rfl⟩
theorem p105_e_0 (a0 a1 a2 a3 : Int) : run tt (AbsCalls Try.prog) I105 3000 false [.code I105.body] ⟨(zBm 0 (xDh a0 a1 a2 a3)), [true], [], []⟩ = some (.done (xCL (Int.tmod (IntKind.i64.wrap (16807 * (IntKind.i64.wrap ((Int.tmod (IntKind.i64.wrap ((IntKind.i64.wrap ((IntKind.i64.wrap ((IntKind.i64.wrap (48271 * a0)) + (IntKind.i64.wrap (7919 * a1)))) + (IntKind.i64.wrap (104729 * a2)))) + (IntKind.i64.wrap (1299709 * a3)))) 2147483647) + 2147483647)))) 2147483647)) [2147483647 ≠ (0 : Int), (decide (((Int.tmod (IntKind.i64.wrap ((IntKind.i64.wrap ((IntKind.i64.wrap ((IntKind.i64.wrap (48271 * a0)) + (IntKind.i64.wrap (7919 * a1)))) + (IntKind.i64.wrap (104729 * a2)))) + (IntKind.i64.wrap (1299709 * a3)))) 2147483647) : Int) < 0)) = true, 2147483647 ≠ (0 : Int)]) := by kernel_rfl
theorem p105_e_1 (a0 a1 a2 a3 : Int) : run tt (AbsCalls Try.prog) I105 3000 false [.code I105.body] ⟨(zBm 0 (xDh a0 a1 a2 a3)), [false], [], []⟩ = some (.done (xCL (Int.tmod (IntKind.i64.wrap (16807 * (Int.tmod (IntKind.i64.wrap ((IntKind.i64.wrap ((IntKind.i64.wrap ((IntKind.i64.wrap (48271 * a0)) + (IntKind.i64.wrap (7919 * a1)))) + (IntKind.i64.wrap (104729 * a2)))) + (IntKind.i64.wrap (1299709 * a3)))) 2147483647))) 2147483647)) [2147483647 ≠ (0 : Int), (decide (((Int.tmod (IntKind.i64.wrap ((IntKind.i64.wrap ((IntKind.i64.wrap ((IntKind.i64.wrap (48271 * a0)) + (IntKind.i64.wrap (7919 * a1)))) + (IntKind.i64.wrap (104729 * a2)))) + (IntKind.i64.wrap (1299709 * a3)))) 2147483647) : Int) < 0)) = false, 2147483647 ≠ (0 : Int)]) := by kernel_rfl
theorem c105_e {N : Nat} : ∀ a0 a1 a2 a3 r, xEb N a0 a1 a2 a3 = some r → Reach Try.prog Try.f105 I105 [.code I105.body] (zBm 0 (xDh a0 a1 a2 a3)) (xCL r) := by
 intro a0 a1 a2 a3 r h
 unfold xEb at h
 rcases cond_inv h with ⟨h1, h⟩ | ⟨h1, h⟩
 ·obtain rfl := Option.some.inj h
  exact Reach.done ttok mix fk105 (p105_e_0 a0 a1 a2 a3) (obs_cons (by decide) (obs_cons h1 (obs_cons (by decide) obs_nil)))
 ·obtain rfl := Option.some.inj h
  exact Reach.done ttok mix fk105 (p105_e_1 a0 a1 a2 a3) (obs_cons (by decide) (obs_cons h1 (obs_cons (by decide) obs_nil)))
theorem impl_Mix_ok {N : Nat} {a0 : Int} {a1 : Int} {a2 : Int} {a3 : Int} {r : Int} (h : xEb N  a0 a1 a2 a3 = some r) : AbC 105 (xDh a0 a1 a2 a3) (xCL r) :=
 AbsCalls.of_reach fk105 rfl rfl (Nat.le_of_ble_eq_true rfl) (c105_e a0 a1 a2 a3 r h)
noncomputable def I37 : Info := { body := (Try.f37.body).getD .skip, nt := 55, results := [.cell 8 31], keep := [0, 2, 4, 6, 8, 14, 16, 18, 20, 22, 26, 30, 38, 48, 72, 92, 102, 9, 15, 17], live := [], modes := [(11, [(4, .take, false)]), (12, [(0, .take, false)]), (14, [(0, .take, false)])], ext := [], lnt := [], casts := [], fcast := [] }
theorem fk37 : FnOk Try.prog 37 Try.f37 I37 := ⟨Try.func37, by kernel_rfl, by kernel_rfl, by kernel_rfl, by kernel_rfl⟩
theorem p37_e_0 (a0 : Wld) (a1 a2 : Int) (a3 : Rea) (r1 : Bool) (r2 : Val) : run tt (AbsCalls Try.prog) I37 3000 false [.code I37.body] ⟨(zBm 0 (xAg a0 a1 a2 a3)), [true, true], [xAx r1, xAp r2], []⟩ = some (.done (xAd r2) [(((Rea.kind a3) : Int) == 1) = true, AbC 90 (xBm (Wld.clock a0)) (xAx r1), (!r1) = true, AbC 67 (xA6 4) (xAp r2)]) := by kernel_rfl
theorem p37_e_1 (a0 : Wld) (a1 a2 : Int) (a3 : Rea) (r1 : Bool) (r2 : Val) : run tt (AbsCalls Try.prog) I37 3000 false [.code I37.body] ⟨(zBm 0 (xAg a0 a1 a2 a3)), [true, false], [xAx r1, xAT r2], []⟩ = some (.done (xAd r2) [(((Rea.kind a3) : Int) == 1) = true, AbC 90 (xBm (Wld.clock a0)) (xAx r1), (!r1) = false, AbC 106 (xBz (Wld.clock a0)) (xAT r2)]) := by kernel_rfl
theorem p37_e_2 (a0 : Wld) (a1 a2 : Int) (a3 : Rea) (r1 : Bool) (r2 : Val) : run tt (AbsCalls Try.prog) I37 3000 false [.code I37.body] ⟨(zBm 0 (xAg a0 a1 a2 a3)), [false, true, true], [xBb r1, xAp r2], []⟩ = some (.done (xAd r2) [(((Rea.kind a3) : Int) == 1) = false, (((Rea.kind a3) : Int) == 2) = true, AbC 101 (xBU (Rea.n a3) 1 1000000000) (xBb r1), (!r1) = true, AbC 67 (xA6 5) (xAp r2)]) := by kernel_rfl
theorem p37_e_3 (a0 : Wld) (a1 a2 : Int) (a3 : Rea) (r1 : Bool) (r2 : Int) (r3 : Bool) (r4 : Val) : run tt (AbsCalls Try.prog) I37 3000 false [.code I37.body] ⟨(zBm 0 (xAg a0 a1 a2 a3)), [false, true, false, true], [xBb r1, xCL r2, xAx r3, xAp r4], []⟩ = some (.done (xAd r4) [(((Rea.kind a3) : Int) == 1) = false, (((Rea.kind a3) : Int) == 2) = true, AbC 101 (xBU (Rea.n a3) 1 1000000000) (xBb r1), (!r1) = false, AbC 105 (xDh (Wld.seed a0) a1 a2 (Rea.time a3)) (xCL r2), (Rea.n a3) ≠ (0 : Int), AbC 90 (xBm (Int.tmod r2 (Rea.n a3))) (xAx r3), (!r3) = true, AbC 67 (xA6 4) (xAp r4)]) := by kernel_rfl
theorem p37_e_4 (a0 : Wld) (a1 a2 : Int) (a3 : Rea) (r1 : Bool) (r2 : Int) (r3 : Bool) (r4 : Val) : run tt (AbsCalls Try.prog) I37 3000 false [.code I37.body] ⟨(zBm 0 (xAg a0 a1 a2 a3)), [false, true, false, false], [xBb r1, xCL r2, xAx r3, xAT r4], []⟩ = some (.done (xAd r4) [(((Rea.kind a3) : Int) == 1) = false, (((Rea.kind a3) : Int) == 2) = true, AbC 101 (xBU (Rea.n a3) 1 1000000000) (xBb r1), (!r1) = false, AbC 105 (xDh (Wld.seed a0) a1 a2 (Rea.time a3)) (xCL r2), (Rea.n a3) ≠ (0 : Int), AbC 90 (xBm (Int.tmod r2 (Rea.n a3))) (xAx r3), (!r3) = false, AbC 106 (xBz (Int.tmod r2 (Rea.n a3))) (xAT r4)]) := by kernel_rfl
theorem p37_e_5 (a0 : Wld) (a1 a2 : Int) (a3 : Rea) (r1 : Int × Bool) (r2 : Val) : run tt (AbsCalls Try.prog) I37 3000 false [.code I37.body] ⟨(zBm 0 (xAg a0 a1 a2 a3)), [false, false, true, true], [xAy r1, xAp r2], []⟩ = some (.done (xAd r2) [(((Rea.kind a3) : Int) == 1) = false, (((Rea.kind a3) : Int) == 2) = false, (((Rea.kind a3) : Int) == 3) = true, AbC 34 (xBy a0 (Rea.text a3)) (xAy r1), (!r1.2) = true, AbC 67 (xA6 1) (xAp r2)]) := by kernel_rfl
theorem p37_e_6 (a0 : Wld) (a1 a2 : Int) (a3 : Rea) (r1 : Int × Bool) (r2 : Bool) (r3 : Val) : run tt (AbsCalls Try.prog) I37 3000 false [.code I37.body] ⟨(zBm 0 (xAg a0 a1 a2 a3)), [false, false, true, false, true], [xAy r1, xAx r2, xAp r3], []⟩ = some (.done (xAd r3) [(((Rea.kind a3) : Int) == 1) = false, (((Rea.kind a3) : Int) == 2) = false, (((Rea.kind a3) : Int) == 3) = true, AbC 34 (xBy a0 (Rea.text a3)) (xAy r1), (!r1.2) = false, AbC 90 (xBm r1.1) (xAx r2), (!r2) = true, AbC 67 (xA6 4) (xAp r3)]) := by kernel_rfl
theorem p37_e_7 (a0 : Wld) (a1 a2 : Int) (a3 : Rea) (r1 : Int × Bool) (r2 : Bool) (r3 : Val) : run tt (AbsCalls Try.prog) I37 3000 false [.code I37.body] ⟨(zBm 0 (xAg a0 a1 a2 a3)), [false, false, true, false, false], [xAy r1, xAx r2, xAT r3], []⟩ = some (.done (xAd r3) [(((Rea.kind a3) : Int) == 1) = false, (((Rea.kind a3) : Int) == 2) = false, (((Rea.kind a3) : Int) == 3) = true, AbC 34 (xBy a0 (Rea.text a3)) (xAy r1), (!r1.2) = false, AbC 90 (xBm r1.1) (xAx r2), (!r2) = false, AbC 106 (xBz r1.1) (xAT r3)]) := by kernel_rfl
theorem p37_e_8 (a0 : Wld) (a1 a2 : Int) (a3 : Rea) (r1 : Val) : run tt (AbsCalls Try.prog) I37 3000 false [.code I37.body] ⟨(zBm 0 (xAg a0 a1 a2 a3)), [false, false, false], [xAp r1], []⟩ = some (.done (xAd r1) [(((Rea.kind a3) : Int) == 1) = false, (((Rea.kind a3) : Int) == 2) = false, (((Rea.kind a3) : Int) == 3) = false, AbC 67 (xA6 4) (xAp r1)]) := by kernel_rfl
theorem c37_e {N : Nat} : ∀ a0 a1 a2 a3 r, xA2 N a0 a1 a2 a3 = some r → Reach Try.prog Try.f37 I37 [.code I37.body] (zBm 0 (xAg a0 a1 a2 a3)) (xAd r) := by
 intro a0 a1 a2 a3 r h
 unfold xA2 at h
 rcases cond_inv h with ⟨h0, h⟩ | ⟨h0, h⟩
 ·obtain ⟨r1, h1, h⟩ := bind_inv h
  rcases cond_inv h with ⟨h2, h⟩ | ⟨h2, h⟩
  ·obtain ⟨r2, h3, h⟩ := bind_inv h
   obtain rfl := Option.some.inj h
   exact Reach.done ttok mix fk37 (p37_e_0 a0 a1 a2 a3 r1 r2) (obs_cons h0 (obs_cons (xB5 h1) (obs_cons h2 (obs_cons (xBO h3) obs_nil))))
  ·obtain ⟨r2, h3, h⟩ := bind_inv h
   obtain rfl := Option.some.inj h
   exact Reach.done ttok mix fk37 (p37_e_1 a0 a1 a2 a3 r1 r2) (obs_cons h0 (obs_cons (xB5 h1) (obs_cons h2 (obs_cons (xC5 h3) obs_nil))))
 ·rcases cond_inv h with ⟨h1, h⟩ | ⟨h1, h⟩
  ·obtain ⟨r1, h2, h⟩ := bind_inv h
   rcases cond_inv h with ⟨h3, h⟩ | ⟨h3, h⟩
   ·obtain ⟨r2, h4, h⟩ := bind_inv h
    obtain rfl := Option.some.inj h
    exact Reach.done ttok mix fk37 (p37_e_2 a0 a1 a2 a3 r1 r2) (obs_cons h0 (obs_cons h1 (obs_cons (xDo h2) (obs_cons h3 (obs_cons (xBO h4) obs_nil)))))
   ·obtain ⟨r2, h4, h⟩ := bind_inv h
    obtain ⟨h5, h⟩ := ite_inv h
    obtain ⟨r3, h6, h⟩ := bind_inv h
    rcases cond_inv h with ⟨h7, h⟩ | ⟨h7, h⟩
    ·obtain ⟨r4, h8, h⟩ := bind_inv h
     obtain rfl := Option.some.inj h
     exact Reach.done ttok mix fk37 (p37_e_3 a0 a1 a2 a3 r1 r2 r3 r4) (obs_cons h0 (obs_cons h1 (obs_cons (xDo h2) (obs_cons h3 (obs_cons (impl_Mix_ok h4) (obs_cons h5 (obs_cons (xB5 h6) (obs_cons h7 (obs_cons (xBO h8) obs_nil)))))))))
    ·obtain ⟨r4, h8, h⟩ := bind_inv h
     obtain rfl := Option.some.inj h
     exact Reach.done ttok mix fk37 (p37_e_4 a0 a1 a2 a3 r1 r2 r3 r4) (obs_cons h0 (obs_cons h1 (obs_cons (xDo h2) (obs_cons h3 (obs_cons (impl_Mix_ok h4) (obs_cons h5 (obs_cons (xB5 h6) (obs_cons h7 (obs_cons (xC5 h8) obs_nil)))))))))
  ·rcases cond_inv h with ⟨h2, h⟩ | ⟨h2, h⟩
   ·obtain ⟨r1, h3, h⟩ := bind_inv h
    rcases cond_inv h with ⟨h4, h⟩ | ⟨h4, h⟩
    ·obtain ⟨r2, h5, h⟩ := bind_inv h
     obtain rfl := Option.some.inj h
     exact Reach.done ttok mix fk37 (p37_e_5 a0 a1 a2 a3 r1 r2) (obs_cons h0 (obs_cons h1 (obs_cons h2 (obs_cons (xC4 h3) (obs_cons h4 (obs_cons (xBO h5) obs_nil))))))
    ·obtain ⟨r2, h5, h⟩ := bind_inv h
     rcases cond_inv h with ⟨h6, h⟩ | ⟨h6, h⟩
     ·obtain ⟨r3, h7, h⟩ := bind_inv h
      obtain rfl := Option.some.inj h
      exact Reach.done ttok mix fk37 (p37_e_6 a0 a1 a2 a3 r1 r2 r3) (obs_cons h0 (obs_cons h1 (obs_cons h2 (obs_cons (xC4 h3) (obs_cons h4 (obs_cons (xB5 h5) (obs_cons h6 (obs_cons (xBO h7) obs_nil))))))))
     ·obtain ⟨r3, h7, h⟩ := bind_inv h
      obtain rfl := Option.some.inj h
      exact Reach.done ttok mix fk37 (p37_e_7 a0 a1 a2 a3 r1 r2 r3) (obs_cons h0 (obs_cons h1 (obs_cons h2 (obs_cons (xC4 h3) (obs_cons h4 (obs_cons (xB5 h5) (obs_cons h6 (obs_cons (xC5 h7) obs_nil))))))))
   ·obtain ⟨r1, h3, h⟩ := bind_inv h
    obtain rfl := Option.some.inj h
    exact Reach.done ttok mix fk37 (p37_e_8 a0 a1 a2 a3 r1) (obs_cons h0 (obs_cons h1 (obs_cons h2 (obs_cons (xBO h3) obs_nil))))
theorem xAC {N : Nat} {a0 : Wld} {a1 : Int} {a2 : Int} {a3 : Rea} {r : Val} (h : xA2 N  a0 a1 a2 a3 = some r) : AbC 37 (xAg a0 a1 a2 a3) (xAd r) :=
 AbsCalls.of_reach fk37 rfl rfl (Nat.le_of_ble_eq_true rfl) (c37_e a0 a1 a2 a3 r h)
noncomputable def I151 : Info := { body := (Try.f151.body).getD .skip, nt := 10, results := [.tmp 2], keep := [0, 4, 12], live := [], modes := [], ext := [], lnt := [], casts := [], fcast := [] }
theorem fk151 : FnOk Try.prog 151 Try.f151 I151 := ⟨Try.func151, by kernel_rfl, by kernel_rfl, by kernel_rfl, by kernel_rfl⟩
theorem p151_e_0 (a0 : Int) : run tt (AbsCalls Try.prog) I151 3000 false [.code I151.body] ⟨(zBm 0 (xCo a0)), [true], [], []⟩ = some (.done (xBM (IntKind.i64.wrap ((Int.tmod a0 2147483647) + 2147483647))) [2147483647 ≠ (0 : Int), (decide (((Int.tmod a0 2147483647) : Int) < 0)) = true]) := by kernel_rfl
theorem p151_e_1 (a0 : Int) : run tt (AbsCalls Try.prog) I151 3000 false [.code I151.body] ⟨(zBm 0 (xCo a0)), [false], [], []⟩ = some (.done (xBM (Int.tmod a0 2147483647)) [2147483647 ≠ (0 : Int), (decide (((Int.tmod a0 2147483647) : Int) < 0)) = false]) := by kernel_rfl
theorem c151_e {N : Nat} : ∀ a0 r, xCN N a0 = some r → Reach Try.prog Try.f151 I151 [.code I151.body] (zBm 0 (xCo a0)) (xBM r) := by
 intro a0 r h
 unfold xCN at h
 rcases cond_inv h with ⟨h1, h⟩ | ⟨h1, h⟩
 ·obtain rfl := Option.some.inj h
  exact Reach.done ttok mix fk151 (p151_e_0 a0) (obs_cons (by decide) (obs_cons h1 obs_nil))
 ·obtain rfl := Option.some.inj h
  exact Reach.done ttok mix fk151 (p151_e_1 a0) (obs_cons (by decide) (obs_cons h1 obs_nil))
theorem xD9 {N : Nat} {a0 : Int} {r : Int} (h : xCN N  a0 = some r) : AbC 151 (xCo a0) (xBM r) :=
 AbsCalls.of_reach fk151 rfl rfl (Nat.le_of_ble_eq_true rfl) (c151_e a0 r h)
noncomputable def I109 : Info := { body := (Try.f109.body).getD .skip, nt := 23, results := [.tmp 8], keep := [0, 2, 4, 6, 16], live := [], modes := [], ext := [], lnt := [], casts := [], fcast := [] }
theorem fk109 : FnOk Try.prog 109 Try.f109 I109 := ⟨Try.func109, by kernel_rfl, by kernel_rfl, by kernel_rfl, by kernel_rfl⟩
theorem p109_e_0 (a0 a1 a2 a3 r1 r2 : Int) : run tt (AbsCalls Try.prog) I109 3000 false [.code I109.body] ⟨(zBm 0 (xDV a0 a1 a2 a3)), [], [xBM r1, xBM r2], []⟩ = some (.done (xDC r2) [AbC 151 (xCo (IntKind.i64.wrap ((IntKind.i64.wrap ((IntKind.i64.wrap ((IntKind.i64.wrap (48271 * a0)) + (IntKind.i64.wrap (7919 * a1)))) + (IntKind.i64.wrap (104729 * a2)))) + (IntKind.i64.wrap (1299709 * a3))))) (xBM r1), AbC 151 (xCo (IntKind.i64.wrap (16807 * r1))) (xBM r2)]) := by kernel_rfl
theorem c109_e {N : Nat} : ∀ a0 a1 a2 a3 r, xEe N a0 a1 a2 a3 = some r → Reach Try.prog Try.f109 I109 [.code I109.body] (zBm 0 (xDV a0 a1 a2 a3)) (xDC r) := by
 intro a0 a1 a2 a3 r h
 unfold xEe at h
 obtain ⟨r1, h0, h⟩ := bind_inv h
 obtain ⟨r2, h1, h⟩ := bind_inv h
 obtain rfl := Option.some.inj h
 exact Reach.done ttok mix fk109 (p109_e_0 a0 a1 a2 a3 r1 r2) (obs_cons (xD9 h0) (obs_cons (xD9 h1) obs_nil))
theorem spec_Mix_ok {N : Nat} {a0 : Int} {a1 : Int} {a2 : Int} {a3 : Int} {r : Int} (h : xEe N  a0 a1 a2 a3 = some r) : AbC 109 (xDV a0 a1 a2 a3) (xDC r) :=
 AbsCalls.of_reach fk109 rfl rfl (Nat.le_of_ble_eq_true rfl) (c109_e a0 a1 a2 a3 r h)
noncomputable def I110 : Info := { body := (Try.f110.body).getD .skip, nt := 28, results := [.tmp 4, .tmp 5], keep := [0, 2, 4, 8, 10, 12, 22, 42, 5], live := [(2, [2, 4, 12, 5])], modes := [], ext := [], lnt := [], casts := [], fcast := [] }
theorem fk110 : FnOk Try.prog 110 Try.f110 I110 := ⟨Try.func110, by kernel_rfl, by kernel_rfl, by kernel_rfl, by kernel_rfl⟩
def S110_2 (x1 : Str) (x6 : Int) (b2 : Wld) : St := [(2, .v false [.str x1]), (4, .v false [.ptr 2 0]), (12, .v false [.int .i64 x6]), (5, .v true [.int .i64 (Wld.clock b2), .int .i64 (Wld.seed b2), .sl .ro .fil (Wld.files b2)])]
theorem p110_2_0 (x1 : Str) (x6 : Int) (b2 : Wld) : run tt (AbsCalls Try.prog) I110 3000 true (stkAt 2 I110.body) ⟨(S110_2 x1 x6 b2), [true, true], [], []⟩ = some (.done (xAA ((Fil.n (List.getD (Wld.files b2) (Int.toNat x6) Ty.fil.dflt)), true)) [(decide ((x6 : Int) < (List.length (Wld.files b2) : Int))) = true, (0 : Int) ≤ x6 ∧ x6 < (List.length (Wld.files b2)), (((Fil.name (List.getD (Wld.files b2) (Int.toNat x6) Ty.fil.dflt)) : Str) == x1) = true, (0 : Int) ≤ x6 ∧ x6 < (List.length (Wld.files b2))]) := by kernel_rfl
theorem p110_2_1 (x1 : Str) (x6 : Int) (b2 : Wld) : run tt (AbsCalls Try.prog) I110 3000 true (stkAt 2 I110.body) ⟨(S110_2 x1 x6 b2), [true, false], [], []⟩ = some (.stop (stkAt 2 I110.body) (S110_2 x1 (IntKind.i64.wrap (x6 + 1)) b2) [(decide ((x6 : Int) < (List.length (Wld.files b2) : Int))) = true, (0 : Int) ≤ x6 ∧ x6 < (List.length (Wld.files b2)), (((Fil.name (List.getD (Wld.files b2) (Int.toNat x6) Ty.fil.dflt)) : Str) == x1) = false]) := by kernel_rfl
theorem p110_2_2 (x1 : Str) (x6 : Int) (b2 : Wld) : run tt (AbsCalls Try.prog) I110 3000 true (stkAt 2 I110.body) ⟨(S110_2 x1 x6 b2), [false], [], []⟩ = some (.done (xAA (0, false)) [(decide ((x6 : Int) < (List.length (Wld.files b2) : Int))) = false]) := by kernel_rfl
theorem p110_e_3 (a0 : Wld) (a1 : Str) : run tt (AbsCalls Try.prog) I110 3000 false [.code I110.body] ⟨(zBm 0 (xBB a0 a1)), [], [], []⟩ = some (.stop (stkAt 2 I110.body) (S110_2 a1 0 a0) []) := by kernel_rfl
theorem c110_2 {N : Nat} : ∀ n x1 x6 b2 r, xA9 N n x1 x6 b2 = some r → Reach Try.prog Try.f110 I110 (stkAt 2 I110.body) (S110_2 x1 x6 b2) (xAA r) := by
 intro n
 induction n with
 | zero => intro x1 x6 b2 r h; have h' : (none : Option (Int × Bool)) = some r := h; cases h'
 | succ n ih =>
  intro x1 x6 b2 r h
  rw [xA9] at h
  rcases cond_inv h with ⟨h0, h⟩ | ⟨h0, h⟩
  ·obtain ⟨h1, h⟩ := ite_inv h
   rcases cond_inv h with ⟨h2, h⟩ | ⟨h2, h⟩
   ·obtain rfl := Option.some.inj h
    exact Reach.done ttok mix fk110 (p110_2_0 x1 x6 b2) (obs_cons h0 (obs_cons h1 (obs_cons h2 (obs_cons h1 obs_nil))))
   ·exact Reach.stop ttok mix fk110 (p110_2_1 x1 x6 b2) (obs_cons h0 (obs_cons h1 (obs_cons h2 obs_nil))) (ih _ _ _ _ h)
  ·obtain rfl := Option.some.inj h
   exact Reach.done ttok mix fk110 (p110_2_2 x1 x6 b2) (obs_cons h0 obs_nil)
theorem c110_e {N : Nat} : ∀ a0 a1 r, xCA N a0 a1 = some r → Reach Try.prog Try.f110 I110 [.code I110.body] (zBm 0 (xBB a0 a1)) (xAA r) := by
 intro a0 a1 r h
 unfold xCA at h
 exact Reach.stop ttok mix fk110 (p110_e_3 a0 a1) obs_nil (c110_2   _ _ _ _ _ h)
theorem xC6 {N : Nat} {a0 : Wld} {a1 : Str} {r : Int × Bool} (h : xCA N  a0 a1 = some r) : AbC 110 (xBB a0 a1) (xAA r) :=
 AbsCalls.of_reach fk110 rfl rfl (Nat.le_of_ble_eq_true rfl) (c110_e a0 a1 r h)
noncomputable def I39 : Info := { body := (Try.f39.body).getD .skip, nt := 56, results := [.cell 8 31], keep := [0, 2, 4, 6, 8, 14, 16, 18, 20, 24, 26, 34, 42, 52, 78, 98, 104, 9, 15, 17], live := [], modes := [(10, [(4, .take, false)]), (11, [(0, .take, false)])], ext := [], lnt := [], casts := [], fcast := [] }
theorem fk39 : FnOk Try.prog 39 Try.f39 I39 := ⟨Try.func39, by kernel_rfl, by kernel_rfl, by kernel_rfl, by kernel_rfl⟩
theorem p39_e_0 (a0 : Wld) (a1 a2 : Int) (a3 : Rea) (r1 : Bool) (r2 : Val) : run tt (AbsCalls Try.prog) I39 3000 false [.code I39.body] ⟨(zBm 0 (xAj a0 a1 a2 a3)), [true, true], [xAl r1, xAX r2], []⟩ = some (.done (xAe r2) [(((Rea.kind a3) : Int) == 1) = true, AbC 85 (xAH (Wld.clock a0)) (xAl r1), r1 = true, AbC 51 (xBC (Wld.clock a0)) (xAX r2)]) := by kernel_rfl
theorem p39_e_1 (a0 : Wld) (a1 a2 : Int) (a3 : Rea) (r1 : Bool) (r2 : Val) : run tt (AbsCalls Try.prog) I39 3000 false [.code I39.body] ⟨(zBm 0 (xAj a0 a1 a2 a3)), [true, false], [xAl r1, xAw r2], []⟩ = some (.done (xAe r2) [(((Rea.kind a3) : Int) == 1) = true, AbC 85 (xAH (Wld.clock a0)) (xAl r1), r1 = false, AbC 44 (xBf 4) (xAw r2)]) := by kernel_rfl
theorem p39_e_2 (a0 : Wld) (a1 a2 : Int) (a3 : Rea) (r1 : Bool) (r2 : Val) : run tt (AbsCalls Try.prog) I39 3000 false [.code I39.body] ⟨(zBm 0 (xAj a0 a1 a2 a3)), [false, true, true], [xA5 r1, xAw r2], []⟩ = some (.done (xAe r2) [(((Rea.kind a3) : Int) == 1) = false, (((Rea.kind a3) : Int) == 2) = true, AbC 108 (xBV (Rea.n a3) 1 1000000000) (xA5 r1), (!r1) = true, AbC 44 (xBf 5) (xAw r2)]) := by kernel_rfl
theorem p39_e_3 (a0 : Wld) (a1 a2 : Int) (a3 : Rea) (r1 : Bool) (r2 : Int) (r3 : Val) : run tt (AbsCalls Try.prog) I39 3000 false [.code I39.body] ⟨(zBm 0 (xAj a0 a1 a2 a3)), [false, true, false], [xA5 r1, xDC r2, xAX r3], []⟩ = some (.done (xAe r3) [(((Rea.kind a3) : Int) == 1) = false, (((Rea.kind a3) : Int) == 2) = true, AbC 108 (xBV (Rea.n a3) 1 1000000000) (xA5 r1), (!r1) = false, AbC 109 (xDV (Wld.seed a0) a1 a2 (Rea.time a3)) (xDC r2), (Rea.n a3) ≠ (0 : Int), AbC 51 (xBC (Int.tmod r2 (Rea.n a3))) (xAX r3)]) := by kernel_rfl
theorem p39_e_4 (a0 : Wld) (a1 a2 : Int) (a3 : Rea) (r1 : Int × Bool) (r2 : Val) : run tt (AbsCalls Try.prog) I39 3000 false [.code I39.body] ⟨(zBm 0 (xAj a0 a1 a2 a3)), [false, false, true, true], [xAA r1, xAw r2], []⟩ = some (.done (xAe r2) [(((Rea.kind a3) : Int) == 1) = false, (((Rea.kind a3) : Int) == 2) = false, (((Rea.kind a3) : Int) == 3) = true, AbC 110 (xBB a0 (Rea.text a3)) (xAA r1), (!r1.2) = true, AbC 44 (xBf 1) (xAw r2)]) := by kernel_rfl
theorem p39_e_5 (a0 : Wld) (a1 a2 : Int) (a3 : Rea) (r1 : Int × Bool) (r2 : Bool) (r3 : Val) : run tt (AbsCalls Try.prog) I39 3000 false [.code I39.body] ⟨(zBm 0 (xAj a0 a1 a2 a3)), [false, false, true, false, true], [xAA r1, xAl r2, xAX r3], []⟩ = some (.done (xAe r3) [(((Rea.kind a3) : Int) == 1) = false, (((Rea.kind a3) : Int) == 2) = false, (((Rea.kind a3) : Int) == 3) = true, AbC 110 (xBB a0 (Rea.text a3)) (xAA r1), (!r1.2) = false, AbC 85 (xAH r1.1) (xAl r2), r2 = true, AbC 51 (xBC r1.1) (xAX r3)]) := by kernel_rfl
theorem p39_e_6 (a0 : Wld) (a1 a2 : Int) (a3 : Rea) (r1 : Int × Bool) (r2 : Bool) (r3 : Val) : run tt (AbsCalls Try.prog) I39 3000 false [.code I39.body] ⟨(zBm 0 (xAj a0 a1 a2 a3)), [false, false, true, false, false], [xAA r1, xAl r2, xAw r3], []⟩ = some (.done (xAe r3) [(((Rea.kind a3) : Int) == 1) = false, (((Rea.kind a3) : Int) == 2) = false, (((Rea.kind a3) : Int) == 3) = true, AbC 110 (xBB a0 (Rea.text a3)) (xAA r1), (!r1.2) = false, AbC 85 (xAH r1.1) (xAl r2), r2 = false, AbC 44 (xBf 4) (xAw r3)]) := by kernel_rfl
theorem p39_e_7 (a0 : Wld) (a1 a2 : Int) (a3 : Rea) (r1 : Val) : run tt (AbsCalls Try.prog) I39 3000 false [.code I39.body] ⟨(zBm 0 (xAj a0 a1 a2 a3)), [false, false, false], [xAw r1], []⟩ = some (.done (xAe r1) [(((Rea.kind a3) : Int) == 1) = false, (((Rea.kind a3) : Int) == 2) = false, (((Rea.kind a3) : Int) == 3) = false, AbC 44 (xBf 4) (xAw r1)]) := by kernel_rfl
theorem c39_e {N : Nat} : ∀ a0 a1 a2 a3 r, xBe N a0 a1 a2 a3 = some r → Reach Try.prog Try.f39 I39 [.code I39.body] (zBm 0 (xAj a0 a1 a2 a3)) (xAe r) := by
 intro a0 a1 a2 a3 r h
 unfold xBe at h
 rcases cond_inv h with ⟨h0, h⟩ | ⟨h0, h⟩
 ·obtain ⟨r1, h1, h⟩ := bind_inv h
  rcases cond_inv h with ⟨h2, h⟩ | ⟨h2, h⟩
  ·obtain ⟨r2, h3, h⟩ := bind_inv h
   obtain rfl := Option.some.inj h
   exact Reach.done ttok mix fk39 (p39_e_0 a0 a1 a2 a3 r1 r2) (obs_cons h0 (obs_cons (xBc h1) (obs_cons h2 (obs_cons (xC7 h3) obs_nil))))
  ·obtain ⟨r2, h3, h⟩ := bind_inv h
   obtain rfl := Option.some.inj h
   exact Reach.done ttok mix fk39 (p39_e_1 a0 a1 a2 a3 r1 r2) (obs_cons h0 (obs_cons (xBc h1) (obs_cons h2 (obs_cons (xCa h3) obs_nil))))
 ·rcases cond_inv h with ⟨h1, h⟩ | ⟨h1, h⟩
  ·obtain ⟨r1, h2, h⟩ := bind_inv h
   rcases cond_inv h with ⟨h3, h⟩ | ⟨h3, h⟩
   ·obtain ⟨r2, h4, h⟩ := bind_inv h
    obtain rfl := Option.some.inj h
    exact Reach.done ttok mix fk39 (p39_e_2 a0 a1 a2 a3 r1 r2) (obs_cons h0 (obs_cons h1 (obs_cons (xC8 h2) (obs_cons h3 (obs_cons (xCa h4) obs_nil)))))
   ·obtain ⟨r2, h4, h⟩ := bind_inv h
    obtain ⟨h5, h⟩ := ite_inv h
    obtain ⟨r3, h6, h⟩ := bind_inv h
    obtain rfl := Option.some.inj h
    exact Reach.done ttok mix fk39 (p39_e_3 a0 a1 a2 a3 r1 r2 r3) (obs_cons h0 (obs_cons h1 (obs_cons (xC8 h2) (obs_cons h3 (obs_cons (spec_Mix_ok h4) (obs_cons h5 (obs_cons (xC7 h6) obs_nil)))))))
  ·rcases cond_inv h with ⟨h2, h⟩ | ⟨h2, h⟩
   ·obtain ⟨r1, h3, h⟩ := bind_inv h
    rcases cond_inv h with ⟨h4, h⟩ | ⟨h4, h⟩
    ·obtain ⟨r2, h5, h⟩ := bind_inv h
     obtain rfl := Option.some.inj h
     exact Reach.done ttok mix fk39 (p39_e_4 a0 a1 a2 a3 r1 r2) (obs_cons h0 (obs_cons h1 (obs_cons h2 (obs_cons (xC6 h3) (obs_cons h4 (obs_cons (xCa h5) obs_nil))))))
    ·obtain ⟨r2, h5, h⟩ := bind_inv h
     rcases cond_inv h with ⟨h6, h⟩ | ⟨h6, h⟩
     ·obtain ⟨r3, h7, h⟩ := bind_inv h
      obtain rfl := Option.some.inj h
      exact Reach.done ttok mix fk39 (p39_e_5 a0 a1 a2 a3 r1 r2 r3) (obs_cons h0 (obs_cons h1 (obs_cons h2 (obs_cons (xC6 h3) (obs_cons h4 (obs_cons (xBc h5) (obs_cons h6 (obs_cons (xC7 h7) obs_nil))))))))
     ·obtain ⟨r3, h7, h⟩ := bind_inv h
      obtain rfl := Option.some.inj h
      exact Reach.done ttok mix fk39 (p39_e_6 a0 a1 a2 a3 r1 r2 r3) (obs_cons h0 (obs_cons h1 (obs_cons h2 (obs_cons (xC6 h3) (obs_cons h4 (obs_cons (xBc h5) (obs_cons h6 (obs_cons (xCa h7) obs_nil))))))))
   ·obtain ⟨r1, h3, h⟩ := bind_inv h
    obtain rfl := Option.some.inj h
    exact Reach.done ttok mix fk39 (p39_e_7 a0 a1 a2 a3 r1) (obs_cons h0 (obs_cons h1 (obs_cons h2 (obs_cons (xCa h3) obs_nil))))
theorem xAK {N : Nat} {a0 : Wld} {a1 : Int} {a2 : Int} {a3 : Rea} {r : Val} (h : xBe N  a0 a1 a2 a3 = some r) : AbC 39 (xAj a0 a1 a2 a3) (xAe r) :=
 AbsCalls.of_reach fk39 rfl rfl (Nat.le_of_ble_eq_true rfl) (c39_e a0 a1 a2 a3 r h)
noncomputable def I38 : Info := { body := (Try.f38.body).getD .skip, nt := 8, results := [.tmp 4], keep := [0, 2, 4, 6, 8, 5, 7], live := [], modes := [], ext := [], lnt := [], casts := [], fcast := [] }
theorem fk38 : FnOk Try.prog 38 Try.f38 I38 := ⟨Try.func38, by kernel_rfl, by kernel_rfl, by kernel_rfl, by kernel_rfl⟩
theorem p38_e_0 (a0 a1 : Val) (r1 : Bool) : run tt (AbsCalls Try.prog) I38 3000 false [.code I38.body] ⟨(zBm 0 (xAv a0 a1)), [], [xAm r1], []⟩ = some (.done (xAh r1) [AbC 107 (xAr a0 a1 true) (xAm r1)]) := by kernel_rfl
theorem c38_e {N : Nat} : ∀ a0 a1 r, xB0 N a0 a1 = some r → Reach Try.prog Try.f38 I38 [.code I38.body] (zBm 0 (xAv a0 a1)) (xAh r) := by
 intro a0 a1 r h
 unfold xB0 at h
 obtain ⟨r1, h0, h⟩ := bind_inv h
 obtain rfl := Option.some.inj h
 exact Reach.done ttok mix fk38 (p38_e_0 a0 a1 r1) (obs_cons (spec_l3Same_ok h0) obs_nil)
theorem xAP {N : Nat} {a0 : Val} {a1 : Val} {r : Bool} (h : xB0 N  a0 a1 = some r) : AbC 38 (xAv a0 a1) (xAh r) :=
 AbsCalls.of_reach fk38 rfl rfl (Nat.le_of_ble_eq_true rfl) (c38_e a0 a1 r h)
noncomputable def I7 : Info := { body := (Try.f7.body).getD .skip, nt := 76, results := [.tmp 2], keep := [0, 4, 6, 8, 10, 12, 14, 16, 20, 70, 96, 7, 13, 15, 17], live := [], modes := [(3, [(2, .take, false)]), (5, [(8, .take, false)]), (7, [(3, .take, false), (8, .take, false)]), (11, [(3, .take, false), (8, .take, false), (15, .take, false)])], ext := [], lnt := [], casts := [], fcast := [] }
theorem fk7 : FnOk Try.prog 7 Try.f7 I7 := ⟨Try.func7, by kernel_rfl, by kernel_rfl, by kernel_rfl, by kernel_rfl⟩
theorem p7_e_0 (a0 : List Int) (r1 : Bool) : run tt (AbsCalls Try.prog) I7 3000 false [.code I7.body] ⟨(zBm 0 (xAE a0)), [true], [xAz r1], []⟩ = some (.done (xAF true) [AbC 29 (xBA a0) (xAz r1), r1 = true]) := by kernel_rfl
theorem p7_e_1 (a0 : List Int) (r1 : Bool) (r2 : Wld × Int × Int × Rea) (r3 r4 : Val) (r5 : Bool) : run tt (AbsCalls Try.prog) I7 3000 false [.code I7.body] ⟨(zBm 0 (xAE a0)), [false, true, true], [xAz r1, xAf r2, xAd r3, xAe r4, xAh r5], []⟩ = some (.done (xAF false) [AbC 29 (xBA a0) (xAz r1), r1 = false, AbC 36 (xAn a0) (xAf r2), AbC 37 (xAg r2.1 r2.2.1 r2.2.2.1 r2.2.2.2) (xAd r3), AbC 39 (xAj r2.1 r2.2.1 r2.2.2.1 r2.2.2.2) (xAe r4), AbC 38 (xAv r3 r4) (xAh r5), (!r5) = true, true = true]) := by kernel_rfl
theorem p7_e_2 (a0 : List Int) (r1 : Bool) (r2 : Wld × Int × Int × Rea) (r3 r4 : Val) (r5 r6 : Bool) : run tt (AbsCalls Try.prog) I7 3000 false [.code I7.body] ⟨(zBm 0 (xAE a0)), [false, false, true], [xAz r1, xAf r2, xAd r3, xAe r4, xAh r5, xAa r6], []⟩ = some (.done (xAF false) [AbC 29 (xBA a0) (xAz r1), r1 = false, AbC 36 (xAn a0) (xAf r2), AbC 37 (xAg r2.1 r2.2.1 r2.2.2.1 r2.2.2.2) (xAd r3), AbC 39 (xAj r2.1 r2.2.1 r2.2.2.1 r2.2.2.2) (xAe r4), AbC 38 (xAv r3 r4) (xAh r5), (!r5) = false, AbC 40 (xAb r3) (xAa r6), (!r6) = true]) := by kernel_rfl
theorem p7_e_3 (a0 : List Int) (r1 : Bool) (r2 : Wld × Int × Int × Rea) (r3 r4 : Val) (r5 r6 : Bool) (r7 : Val) (r8 : Bool) : run tt (AbsCalls Try.prog) I7 3000 false [.code I7.body] ⟨(zBm 0 (xAE a0)), [false, false, false, true, true, true, true, true, true], [xAz r1, xAf r2, xAd r3, xAe r4, xAh r5, xAa r6, xAd r7, xAh r8], []⟩ = some (.done (xAF r8) [AbC 29 (xBA a0) (xAz r1), r1 = false, AbC 36 (xAn a0) (xAf r2), AbC 37 (xAg r2.1 r2.2.1 r2.2.2.1 r2.2.2.2) (xAd r3), AbC 39 (xAj r2.1 r2.2.1 r2.2.2.1 r2.2.2.2) (xAe r4), AbC 38 (xAv r3 r4) (xAh r5), (!r5) = false, AbC 40 (xAb r3) (xAa r6), (!r6) = false, (((Rea.kind r2.2.2.2) : Int) == 2) = true, (decide (((Rea.n r2.2.2.2) : Int) ≥ 1)) = true, (decide (((Rea.n r2.2.2.2) : Int) ≤ 1000000000)) = true, (((Val.kind r3) : Int) == 1) = true, (decide (((Val.n r3) : Int) ≥ 0)) = true, (decide (((Val.n r3) : Int) < (Rea.n r2.2.2.2))) = true, AbC 37 (xAg (Wld.mk 0 (Wld.seed r2.1) []) r2.2.1 r2.2.2.1 r2.2.2.2) (xAd r7), AbC 38 (xAv r7 r3) (xAh r8)]) := by kernel_rfl
theorem p7_e_4 (a0 : List Int) (r1 : Bool) (r2 : Wld × Int × Int × Rea) (r3 r4 : Val) (r5 r6 : Bool) : run tt (AbsCalls Try.prog) I7 3000 false [.code I7.body] ⟨(zBm 0 (xAE a0)), [false, false, false, true, true, true, true, true, false], [xAz r1, xAf r2, xAd r3, xAe r4, xAh r5, xAa r6], []⟩ = some (.done (xAF false) [AbC 29 (xBA a0) (xAz r1), r1 = false, AbC 36 (xAn a0) (xAf r2), AbC 37 (xAg r2.1 r2.2.1 r2.2.2.1 r2.2.2.2) (xAd r3), AbC 39 (xAj r2.1 r2.2.1 r2.2.2.1 r2.2.2.2) (xAe r4), AbC 38 (xAv r3 r4) (xAh r5), (!r5) = false, AbC 40 (xAb r3) (xAa r6), (!r6) = false, (((Rea.kind r2.2.2.2) : Int) == 2) = true, (decide (((Rea.n r2.2.2.2) : Int) ≥ 1)) = true, (decide (((Rea.n r2.2.2.2) : Int) ≤ 1000000000)) = true, (((Val.kind r3) : Int) == 1) = true, (decide (((Val.n r3) : Int) ≥ 0)) = true, (decide (((Val.n r3) : Int) < (Rea.n r2.2.2.2))) = false]) := by kernel_rfl
theorem p7_e_5 (a0 : List Int) (r1 : Bool) (r2 : Wld × Int × Int × Rea) (r3 r4 : Val) (r5 r6 : Bool) : run tt (AbsCalls Try.prog) I7 3000 false [.code I7.body] ⟨(zBm 0 (xAE a0)), [false, false, false, true, true, true, true, false, false], [xAz r1, xAf r2, xAd r3, xAe r4, xAh r5, xAa r6], []⟩ = some (.done (xAF false) [AbC 29 (xBA a0) (xAz r1), r1 = false, AbC 36 (xAn a0) (xAf r2), AbC 37 (xAg r2.1 r2.2.1 r2.2.2.1 r2.2.2.2) (xAd r3), AbC 39 (xAj r2.1 r2.2.1 r2.2.2.1 r2.2.2.2) (xAe r4), AbC 38 (xAv r3 r4) (xAh r5), (!r5) = false, AbC 40 (xAb r3) (xAa r6), (!r6) = false, (((Rea.kind r2.2.2.2) : Int) == 2) = true, (decide (((Rea.n r2.2.2.2) : Int) ≥ 1)) = true, (decide (((Rea.n r2.2.2.2) : Int) ≤ 1000000000)) = true, (((Val.kind r3) : Int) == 1) = true, (decide (((Val.n r3) : Int) ≥ 0)) = false, false = false]) := by kernel_rfl
theorem p7_e_6 (a0 : List Int) (r1 : Bool) (r2 : Wld × Int × Int × Rea) (r3 r4 : Val) (r5 r6 : Bool) : run tt (AbsCalls Try.prog) I7 3000 false [.code I7.body] ⟨(zBm 0 (xAE a0)), [false, false, false, true, true, true, false, false, false], [xAz r1, xAf r2, xAd r3, xAe r4, xAh r5, xAa r6], []⟩ = some (.done (xAF false) [AbC 29 (xBA a0) (xAz r1), r1 = false, AbC 36 (xAn a0) (xAf r2), AbC 37 (xAg r2.1 r2.2.1 r2.2.2.1 r2.2.2.2) (xAd r3), AbC 39 (xAj r2.1 r2.2.1 r2.2.2.1 r2.2.2.2) (xAe r4), AbC 38 (xAv r3 r4) (xAh r5), (!r5) = false, AbC 40 (xAb r3) (xAa r6), (!r6) = false, (((Rea.kind r2.2.2.2) : Int) == 2) = true, (decide (((Rea.n r2.2.2.2) : Int) ≥ 1)) = true, (decide (((Rea.n r2.2.2.2) : Int) ≤ 1000000000)) = true, (((Val.kind r3) : Int) == 1) = false, false = false, false = false]) := by kernel_rfl
theorem p7_e_7 (a0 : List Int) (r1 : Bool) (r2 : Wld × Int × Int × Rea) (r3 r4 : Val) (r5 r6 : Bool) : run tt (AbsCalls Try.prog) I7 3000 false [.code I7.body] ⟨(zBm 0 (xAE a0)), [false, false, false, true, true, false], [xAz r1, xAf r2, xAd r3, xAe r4, xAh r5, xAa r6], []⟩ = some (.done (xAF true) [AbC 29 (xBA a0) (xAz r1), r1 = false, AbC 36 (xAn a0) (xAf r2), AbC 37 (xAg r2.1 r2.2.1 r2.2.2.1 r2.2.2.2) (xAd r3), AbC 39 (xAj r2.1 r2.2.1 r2.2.2.1 r2.2.2.2) (xAe r4), AbC 38 (xAv r3 r4) (xAh r5), (!r5) = false, AbC 40 (xAb r3) (xAa r6), (!r6) = false, (((Rea.kind r2.2.2.2) : Int) == 2) = true, (decide (((Rea.n r2.2.2.2) : Int) ≥ 1)) = true, (decide (((Rea.n r2.2.2.2) : Int) ≤ 1000000000)) = false]) := by kernel_rfl
theorem p7_e_8 (a0 : List Int) (r1 : Bool) (r2 : Wld × Int × Int × Rea) (r3 r4 : Val) (r5 r6 : Bool) : run tt (AbsCalls Try.prog) I7 3000 false [.code I7.body] ⟨(zBm 0 (xAE a0)), [false, false, false, true, false, false], [xAz r1, xAf r2, xAd r3, xAe r4, xAh r5, xAa r6], []⟩ = some (.done (xAF true) [AbC 29 (xBA a0) (xAz r1), r1 = false, AbC 36 (xAn a0) (xAf r2), AbC 37 (xAg r2.1 r2.2.1 r2.2.2.1 r2.2.2.2) (xAd r3), AbC 39 (xAj r2.1 r2.2.1 r2.2.2.1 r2.2.2.2) (xAe r4), AbC 38 (xAv r3 r4) (xAh r5), (!r5) = false, AbC 40 (xAb r3) (xAa r6), (!r6) = false, (((Rea.kind r2.2.2.2) : Int) == 2) = true, (decide (((Rea.n r2.2.2.2) : Int) ≥ 1)) = false, false = false]) := by kernel_rfl
theorem p7_e_9 (a0 : List Int) (r1 : Bool) (r2 : Wld × Int × Int × Rea) (r3 r4 : Val) (r5 r6 : Bool) : run tt (AbsCalls Try.prog) I7 3000 false [.code I7.body] ⟨(zBm 0 (xAE a0)), [false, false, false, false, false, false], [xAz r1, xAf r2, xAd r3, xAe r4, xAh r5, xAa r6], []⟩ = some (.done (xAF true) [AbC 29 (xBA a0) (xAz r1), r1 = false, AbC 36 (xAn a0) (xAf r2), AbC 37 (xAg r2.1 r2.2.1 r2.2.2.1 r2.2.2.2) (xAd r3), AbC 39 (xAj r2.1 r2.2.1 r2.2.2.1 r2.2.2.2) (xAe r4), AbC 38 (xAv r3 r4) (xAh r5), (!r5) = false, AbC 40 (xAb r3) (xAa r6), (!r6) = false, (((Rea.kind r2.2.2.2) : Int) == 2) = false, false = false, false = false]) := by kernel_rfl
theorem c7_e {N : Nat} : ∀ a0 r, xCD N a0 = some r → Reach Try.prog Try.f7 I7 [.code I7.body] (zBm 0 (xAE a0)) (xAF r) := by
 intro a0 r h
 unfold xCD at h
 obtain ⟨r1, h0, h⟩ := bind_inv h
 rcases cond_inv h with ⟨h1, h⟩ | ⟨h1, h⟩
 ·obtain rfl := Option.some.inj h
  exact Reach.done ttok mix fk7 (p7_e_0 a0 r1) (obs_cons (xCf h0) (obs_cons h1 obs_nil))
 ·obtain ⟨r2, h2, h⟩ := bind_inv h
  obtain ⟨r3, h3, h⟩ := bind_inv h
  obtain ⟨r4, h4, h⟩ := bind_inv h
  obtain ⟨r5, h5, h⟩ := bind_inv h
  rcases cond_inv h with ⟨h6, h⟩ | ⟨h6, h⟩
  ·obtain rfl := Option.some.inj h
   exact Reach.done ttok mix fk7 (p7_e_1 a0 r1 r2 r3 r4 r5) (obs_cons (xCf h0) (obs_cons h1 (obs_cons (xAu h2) (obs_cons (xAC h3) (obs_cons (xAK h4) (obs_cons (xAP h5) (obs_cons h6 (obs_cons rfl obs_nil))))))))
  ·obtain ⟨r6, h7, h⟩ := bind_inv h
   rcases cond_inv h with ⟨h8, h⟩ | ⟨h8, h⟩
   ·obtain rfl := Option.some.inj h
    exact Reach.done ttok mix fk7 (p7_e_2 a0 r1 r2 r3 r4 r5 r6) (obs_cons (xCf h0) (obs_cons h1 (obs_cons (xAu h2) (obs_cons (xAC h3) (obs_cons (xAK h4) (obs_cons (xAP h5) (obs_cons h6 (obs_cons (xA4 h7) (obs_cons h8 obs_nil)))))))))
   ·rcases cond_inv h with ⟨h9, h⟩ | ⟨h9, h⟩
    ·rcases cond_inv h with ⟨h10, h⟩ | ⟨h10, h⟩
     ·rcases cond_inv h with ⟨h11, h⟩ | ⟨h11, h⟩
      ·rcases cond_inv h with ⟨h12, h⟩ | ⟨h12, h⟩
       ·rcases cond_inv h with ⟨h13, h⟩ | ⟨h13, h⟩
        ·rcases cond_inv h with ⟨h14, h⟩ | ⟨h14, h⟩
         ·obtain ⟨r7, h15, h⟩ := bind_inv h
          obtain ⟨r8, h16, h⟩ := bind_inv h
          obtain rfl := Option.some.inj h
          exact Reach.done ttok mix fk7 (p7_e_3 a0 r1 r2 r3 r4 r5 r6 r7 r8) (obs_cons (xCf h0) (obs_cons h1 (obs_cons (xAu h2) (obs_cons (xAC h3) (obs_cons (xAK h4) (obs_cons (xAP h5) (obs_cons h6 (obs_cons (xA4 h7) (obs_cons h8 (obs_cons h9 (obs_cons h10 (obs_cons h11 (obs_cons h12 (obs_cons h13 (obs_cons h14 (obs_cons (xAC h15) (obs_cons (xAP h16) obs_nil)))))))))))))))))
         ·obtain rfl := Option.some.inj h
          exact Reach.done ttok mix fk7 (p7_e_4 a0 r1 r2 r3 r4 r5 r6) (obs_cons (xCf h0) (obs_cons h1 (obs_cons (xAu h2) (obs_cons (xAC h3) (obs_cons (xAK h4) (obs_cons (xAP h5) (obs_cons h6 (obs_cons (xA4 h7) (obs_cons h8 (obs_cons h9 (obs_cons h10 (obs_cons h11 (obs_cons h12 (obs_cons h13 (obs_cons h14 obs_nil)))))))))))))))
        ·obtain rfl := Option.some.inj h
         exact Reach.done ttok mix fk7 (p7_e_5 a0 r1 r2 r3 r4 r5 r6) (obs_cons (xCf h0) (obs_cons h1 (obs_cons (xAu h2) (obs_cons (xAC h3) (obs_cons (xAK h4) (obs_cons (xAP h5) (obs_cons h6 (obs_cons (xA4 h7) (obs_cons h8 (obs_cons h9 (obs_cons h10 (obs_cons h11 (obs_cons h12 (obs_cons h13 (obs_cons rfl obs_nil)))))))))))))))
       ·obtain rfl := Option.some.inj h
        exact Reach.done ttok mix fk7 (p7_e_6 a0 r1 r2 r3 r4 r5 r6) (obs_cons (xCf h0) (obs_cons h1 (obs_cons (xAu h2) (obs_cons (xAC h3) (obs_cons (xAK h4) (obs_cons (xAP h5) (obs_cons h6 (obs_cons (xA4 h7) (obs_cons h8 (obs_cons h9 (obs_cons h10 (obs_cons h11 (obs_cons h12 (obs_cons rfl (obs_cons rfl obs_nil)))))))))))))))
      ·obtain rfl := Option.some.inj h
       exact Reach.done ttok mix fk7 (p7_e_7 a0 r1 r2 r3 r4 r5 r6) (obs_cons (xCf h0) (obs_cons h1 (obs_cons (xAu h2) (obs_cons (xAC h3) (obs_cons (xAK h4) (obs_cons (xAP h5) (obs_cons h6 (obs_cons (xA4 h7) (obs_cons h8 (obs_cons h9 (obs_cons h10 (obs_cons h11 obs_nil))))))))))))
     ·obtain rfl := Option.some.inj h
      exact Reach.done ttok mix fk7 (p7_e_8 a0 r1 r2 r3 r4 r5 r6) (obs_cons (xCf h0) (obs_cons h1 (obs_cons (xAu h2) (obs_cons (xAC h3) (obs_cons (xAK h4) (obs_cons (xAP h5) (obs_cons h6 (obs_cons (xA4 h7) (obs_cons h8 (obs_cons h9 (obs_cons h10 (obs_cons rfl obs_nil))))))))))))
    ·obtain rfl := Option.some.inj h
     exact Reach.done ttok mix fk7 (p7_e_9 a0 r1 r2 r3 r4 r5 r6) (obs_cons (xCf h0) (obs_cons h1 (obs_cons (xAu h2) (obs_cons (xAC h3) (obs_cons (xAK h4) (obs_cons (xAP h5) (obs_cons h6 (obs_cons (xA4 h7) (obs_cons h8 (obs_cons h9 (obs_cons rfl (obs_cons rfl obs_nil))))))))))))
theorem laws_FnEffects_ok {N : Nat} {a0 : List Int} {r : Bool} (h : xCD N  a0 = some r) : AbC 7 (xAE a0) (xAF r) :=
 AbsCalls.of_reach fk7 rfl rfl (Nat.le_of_ble_eq_true rfl) (c7_e a0 r h)
end Go.Ab.T
end
section
namespace Go.Ab
set_option linter.unusedVariables false
def I64 (x : Int) : Prop := -9223372036854775808 ≤ x ∧ x ≤ 9223372036854775807
theorem wrap_i64_def (x : Int) : IntKind.i64.wrap x = if x % 18446744073709551616 ≥ 9223372036854775808 then x % 18446744073709551616 - 18446744073709551616 else x % 18446744073709551616 := by
  show (if (true && decide (x % 18446744073709551616 ≥ 9223372036854775808)) = true then x % 18446744073709551616 - 18446744073709551616 else x % 18446744073709551616) = _
  simp only [Bool.true_and, decide_eq_true_eq]
theorem xBS {x : Int} (h1 : -9223372036854775808 ≤ x) (h2 : x ≤ 9223372036854775807) : IntKind.i64.wrap x = x := by
  rw [wrap_i64_def]
  split <;> omega
theorem i64_wrap (x : Int) : I64 (IntKind.i64.wrap x) := by
  rw [wrap_i64_def]
  unfold I64
  split <;> omega
theorem drop_cons {α : Type} {xs : List α} {i : Nat} {x : α} {l : List α} (h : xs.drop i = x :: l) : i < xs.length ∧ xs[i]? = some x ∧ xs.drop (i + 1) = l := by
  have h1 : i < xs.length := by
    rcases Nat.lt_or_ge i xs.length with h1 | h1
    · exact h1
    · rw [List.drop_eq_nil_of_le h1] at h; cases h
  rw [List.drop_eq_getElem_cons h1] at h
  cases h
  exact ⟨h1, by simp [h1], rfl⟩
theorem drop_nil {α : Type} {xs : List α} {i : Nat} (h : xs.drop i = []) : xs.length ≤ i := by simpa using h
end Go.Ab
end
section
namespace Go.Ab
set_option linter.unusedVariables false
inductive DK (K : Nat) : D → Prop where
  | int {k n} (h : (Lit.int k n).wf = true) : DK K (.int k n)
  | bool (b) : DK K (.bool b)
  | str {s : Str} (h : s.length ≤ K) : DK K (.str s)
  | sl {sz rows} (h : rows.length ≤ K) (hr : ∀ r ∈ rows, ∀ x ∈ r, DK K x) : DK K (.sl sz rows)
theorem wf_i64 {n : Int} : (Lit.int .i64 n).wf = true ↔ I64 n := by
  show (decide (_ ≤ n) && decide (n ≤ _)) = true ↔ _
  rw [Bool.and_eq_true, decide_eq_true_eq, decide_eq_true_eq]
  exact Iff.rfl
theorem DK.i64 {K : Nat} {n : Int} : DK K (.int .i64 n) ↔ I64 n := ⟨fun h => by cases h with | int h => exact wf_i64.1 h, fun h => .int (wf_i64.2 h)⟩
theorem DK.str_iff {K : Nat} {s : Str} : DK K (.str s) ↔ s.length ≤ K := ⟨fun h => by cases h; assumption, .str⟩
theorem DK.sl_iff {K sz : Nat} {α : Type} {f : α → List D} {xs : List α} : DK K (.sl sz (xs.map f)) ↔ xs.length ≤ K ∧ ∀ x ∈ xs, ∀ d ∈ f x, DK K d := by
  constructor
  · intro h
    cases h with
    | sl h hr => exact ⟨by simpa using h, fun x hx => hr _ (List.mem_map_of_mem hx)⟩
  · rintro ⟨h, hr⟩
    refine .sl (by simpa using h) fun r hr' => ?_
    obtain ⟨x, hx, rfl⟩ := List.mem_map.1 hr'
    exact hr x hx
def LFit {α : Type} (K : Nat) (p : α → Prop) (l : List α) : Prop := l.length ≤ K ∧ ∀ x ∈ l, p x
def Ty.Fit (K : Nat) (T : Ty) (x : T.den) : Prop := ∀ d ∈ T.toD x, DK K d
def Org.Fit (o : Org) : Prop := I64 o.cell ∧ I64 o.row
def Rowd.Fit (K : Nat) (r : Rowd) : Prop := LFit K I64 r.cells ∧ LFit K Org.Fit r.frm
def Str.Fit (K : Nat) (s : Str) : Prop := s.length ≤ K
def Val.Fit (K : Nat) (v : Val) : Prop := ∀ d ∈ Val.toD v, DK K d
def Fil.Fit (K : Nat) (v : Fil) : Prop := Str.Fit K v.name ∧ I64 v.n
theorem rowd_fit {K : Nat} {r : Rowd} : (∀ d ∈ Rowd.toD r, DK K d) ↔ r.Fit K := by
  simp only [Rowd.toD, List.mem_cons, List.not_mem_nil, or_false, forall_eq_or_imp, forall_eq, DK.sl_iff, DK.i64, Rowd.Fit, LFit, Org.Fit]
theorem fil_fit {K : Nat} {r : Fil} : Ty.Fit K .fil r ↔ r.Fit K := by
  simp only [Ty.Fit, Ty.toD, List.mem_cons, List.not_mem_nil, or_false, forall_eq_or_imp, forall_eq, DK.str_iff, DK.i64, Fil.Fit, Str.Fit]
theorem Val.fit_iff {K : Nat} {v : Val} : v.Fit K ↔ I64 v.kind ∧ I64 v.n ∧ I64 v.step ∧ Str.Fit K v.text ∧ LFit K (Val.Fit K) v.list ∧ LFit K (Str.Fit K) v.columns ∧ LFit K (Rowd.Fit K) v.rows := by
  cases v
  simp only [Val.Fit, Val.toD, Val.toDs_eq, List.mem_cons, List.not_mem_nil, or_false, forall_eq_or_imp, forall_eq, DK.sl_iff, DK.i64, DK.str_iff, Str.Fit, LFit, Val.kind, Val.n, Val.step, Val.text, Val.list, Val.columns, Val.rows, rowd_fit]
end Go.Ab
end
section
namespace Go.Ab
set_option linter.unusedVariables false
theorem xDU {α σ ρ : Type} {L : Nat → Int → σ → Option ρ} (x0 : List α) (g : List α → σ → ρ) (Inv : Nat → σ → Prop)
    (hnil : ∀ n s, Inv x0.length s → L (n + 1) (x0.length : Nat) s = some (g [] s))
    (hcons : ∀ i x l s, x0.drop i = x :: l → i < x0.length → x0[i]? = some x → Inv i s →
      (∃ s', Inv (i + 1) s' ∧ g (x :: l) s = g l s' ∧ ∀ n, L (n + 1) (i : Nat) s = L n ((i + 1 : Nat) : Int) s') ∨ (∀ n, L (n + 1) (i : Nat) s = some (g (x :: l) s))) :
    ∀ n i s, Inv i s → i ≤ x0.length → x0.length < n + i → L n (i : Nat) s = some (g (x0.drop i) s) := by
  intro n
  induction n with
  | zero => intro i s _ h1 h2; omega
  | succ n ih =>
    intro i s hs hi hn
    cases hd : x0.drop i with
    | nil =>
      have := drop_nil hd
      obtain rfl : i = x0.length := by omega
      exact hnil n s hs
    | cons x l =>
      obtain ⟨h1, h2, h3⟩ := drop_cons hd
      rcases hcons i x l s hd h1 h2 hs with ⟨s', h4, h5, h6⟩ | h
      · rw [h6, ih (i + 1) s' h4 (by omega) (by omega), h3, h5]
      · exact h n
theorem xBd {α : Type} {xs : List α} {i : Nat} {x : α} (h : xs[i]? = some x) (d : α) : xs.getD i d = x := by simp [List.getD, h]
theorem xAD {i : Nat} {len : Nat} (h : i < len) (hl : len ≤ 9223372036854775807) : IntKind.i64.wrap ((i : Int) + 1) = ((i + 1 : Nat) : Int) := by
  rw [xBS (by omega) (by omega)]; omega
section
variable {α : Type} {d : α}
theorem eqLoop {L : Nat → Int → Option Bool} {x0 : List α} (hend : ∀ n, L (n + 1) (x0.length : Nat) = some true)
    (hcons : ∀ (i : Nat) x n, i < x0.length → x0[i]? = some x → x ∈ x0 → L (n + 1) (i : Nat) = L n ((i + 1 : Nat) : Int)) {n : Nat} (hn : x0.length < n) : L n 0 = some true := by
  have key := xDU (σ := Unit) (L := fun n i _ => L n i) x0 (fun _ _ => true) (fun _ _ => True) (fun n _ _ => hend n)
    (fun i x r s hd hi hx _ => .inl ⟨(), trivial, rfl, fun n => hcons i x n hi hx (List.mem_of_getElem? hx)⟩) n 0 () trivial (by omega) (by omega)
  exact key
end
end Go.Ab
end
section
namespace Go.Ab
set_option linter.unusedVariables false
theorem vk (a b c : Int) (t : Str) (l : List Val) (k : List Str) (r : List Rowd) : (Val.mk a b c t l k r).kind = a := rfl
theorem vn (a b c : Int) (t : Str) (l : List Val) (k : List Str) (r : List Rowd) : (Val.mk a b c t l k r).n = b := rfl
theorem vs (a b c : Int) (t : Str) (l : List Val) (k : List Str) (r : List Rowd) : (Val.mk a b c t l k r).step = c := rfl
theorem vt (a b c : Int) (t : Str) (l : List Val) (k : List Str) (r : List Rowd) : (Val.mk a b c t l k r).text = t := rfl
theorem vl (a b c : Int) (t : Str) (l : List Val) (k : List Str) (r : List Rowd) : (Val.mk a b c t l k r).list = l := rfl
theorem vc (a b c : Int) (t : Str) (l : List Val) (k : List Str) (r : List Rowd) : (Val.mk a b c t l k r).columns = k := rfl
theorem vr (a b c : Int) (t : Str) (l : List Val) (k : List Str) (r : List Rowd) : (Val.mk a b c t l k r).rows = r := rfl
theorem ek (a b : Int) (t : Str) (l : List Exp) : (Exp.mk a b t l).kind = a := rfl
theorem ea (a b : Int) (t : Str) (l : List Exp) : (Exp.mk a b t l).args = l := rfl
end Go.Ab
end
