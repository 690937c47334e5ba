/- The statement FnExactBind holds: plain functions, certificates, laws. Conditions: none. -/
import Derived.Test.YtkbojckenecnbaaChecked
import Derived.Test.YtkbojckenecnbaaProg
import Derived.Test.YtkbojckenecnbaaRows
import Derived.Test.YtkbojckenecnbaaL2
set_option linter.all false
section
namespace Go.Ab
set_option linter.unusedVariables false
def laws_szStringS_as (a0 : List Str) (a1 : Int) : List Arg := [.val (.v false [.sl .ro .str a0]), .val (.v false [.int .i64 a1])]
def laws_szStringS_ro (r : Int) : CallO := ⟨.v false [.int .i64 r], [], []⟩
def laws_szStringS_b5 (N : Nat) : Nat → (List Str) → Int → Int → Option (Int)
  | 0, _, _, _ => none
  | n + 1, x0, x1, x5 =>
    bif (decide ((x5 : Int) < (List.length x0 : Int))) then (
      if (0 : Int) ≤ x5 ∧ x5 < (List.length x0) then
      bif (decide (((IntKind.i64.wrap (x1 - (List.length (List.getD x0 (Int.toNat x5) Ty.str.dflt) : Int))) : Int) < 0)) then (
        some (-1)
      ) else (
        (laws_szStringS_b5 N n x0 (IntKind.i64.wrap (x1 - (List.length (List.getD x0 (Int.toNat x5) Ty.str.dflt) : Int))) (IntKind.i64.wrap (x5 + 1)))
      )
      else none
    ) else (
      some x1
    )
def laws_szStringS (N : Nat) (a0 : List Str) (a1 : Int) : Option (Int) :=
  bif (decide (((IntKind.i64.wrap (a1 - (List.length a0 : Int))) : Int) < 0)) then (
    some (-1)
  ) else (
    (laws_szStringS_b5 N N a0 (IntKind.i64.wrap (a1 - (List.length a0 : Int))) 0)
  )
def laws_szIntS_as (a0 : List Int) (a1 : Int) : List Arg := [.val (.v false [.sl .ro .int a0]), .val (.v false [.int .i64 a1])]
def laws_szIntS_ro (r : Int) : CallO := ⟨.v false [.int .i64 r], [], []⟩
def laws_szIntS (N : Nat) (a0 : List Int) (a1 : Int) : Option (Int) :=
  bif (decide (((IntKind.i64.wrap (a1 - (List.length a0 : Int))) : Int) < 0)) then (
    some (-1)
  ) else (
    some (IntKind.i64.wrap (a1 - (List.length a0 : Int)))
  )
def laws_szOriginS_as (a0 : List Org) (a1 : Int) : List Arg := [.val (.v false [.sl .ro .org a0]), .val (.v false [.int .i64 a1])]
def laws_szOriginS_ro (r : Int) : CallO := ⟨.v false [.int .i64 r], [], []⟩
def laws_szOriginS (N : Nat) (a0 : List Org) (a1 : Int) : Option (Int) :=
  bif (decide (((IntKind.i64.wrap (a1 - (List.length a0 : Int))) : Int) < 0)) then (
    some (-1)
  ) else (
    some (IntKind.i64.wrap (a1 - (List.length a0 : Int)))
  )
def laws_szRow_as (a0 : Rowd) (a1 : Int) : List Arg := [.val (.v true [.sl .ro .int (Rowd.cells a0), .sl .ro .org (Rowd.frm a0)]), .val (.v false [.int .i64 a1])]
def laws_szRow_ro (r : Int) : CallO := ⟨.v false [.int .i64 r], [], []⟩
def laws_szRow (N : Nat) (a0 : Rowd) (a1 : Int) : Option (Int) :=
  Option.bind (laws_szIntS N (Rowd.cells a0) a1) fun r1 =>
  bif (decide ((r1 : Int) < 0)) then (
    some (-1)
  ) else (
    Option.bind (laws_szOriginS N (Rowd.frm a0) r1) fun r2 =>
    bif (decide ((r2 : Int) < 0)) then (
      some (-1)
    ) else (
      some r2
    )
  )
def laws_szRowS_as (a0 : List Rowd) (a1 : Int) : List Arg := [.val (.v false [.sl .ro .row a0]), .val (.v false [.int .i64 a1])]
def laws_szRowS_ro (r : Int) : CallO := ⟨.v false [.int .i64 r], [], []⟩
def laws_szRowS_b5 (N : Nat) : Nat → (List Rowd) → Int → Int → Option (Int)
  | 0, _, _, _ => none
  | n + 1, x0, x1, x5 =>
    bif (decide ((x5 : Int) < (List.length x0 : Int))) then (
      if (0 : Int) ≤ x5 ∧ x5 < (List.length x0) then
      Option.bind (laws_szRow N (List.getD x0 (Int.toNat x5) Ty.row.dflt) x1) fun r1 =>
      bif (decide ((r1 : Int) < 0)) then (
        some (-1)
      ) else (
        (laws_szRowS_b5 N n x0 r1 (IntKind.i64.wrap (x5 + 1)))
      )
      else none
    ) else (
      some x1
    )
def laws_szRowS (N : Nat) (a0 : List Rowd) (a1 : Int) : Option (Int) :=
  bif (decide (((IntKind.i64.wrap (a1 - (List.length a0 : Int))) : Int) < 0)) then (
    some (-1)
  ) else (
    (laws_szRowS_b5 N N a0 (IntKind.i64.wrap (a1 - (List.length a0 : Int))) 0)
  )
def laws_szValue_as (a0 : Val) (a1 : Int) : List Arg := [.val (.v true [.int .i64 (Val.kind a0), .int .i64 (Val.n a0), .int .i64 (Val.step a0), .str (Val.text a0), .sl .ro .val (Val.list a0), .sl .ro .str (Val.columns a0), .sl .ro .row (Val.rows a0)]), .val (.v false [.int .i64 a1])]
def laws_szValue_ro (r : Int) : CallO := ⟨.v false [.int .i64 r], [], []⟩
def laws_szValue_body (N : Nat) (rc_laws_szValue : Val → Int → Option (Int)) (rc_laws_szValueS : (List Val) → Int → Option (Int)) (a0 : Val) (a1 : Int) : Option (Int) :=
  bif (decide (((IntKind.i64.wrap (a1 - (List.length (Val.text a0) : Int))) : Int) < 0)) then (
    some (-1)
  ) else (
    Option.bind (rc_laws_szValueS (Val.list a0) (IntKind.i64.wrap (a1 - (List.length (Val.text a0) : Int)))) fun r1 =>
    bif (decide ((r1 : Int) < 0)) then (
      some (-1)
    ) else (
      Option.bind (laws_szStringS N (Val.columns a0) r1) fun r2 =>
      bif (decide ((r2 : Int) < 0)) then (
        some (-1)
      ) else (
        Option.bind (laws_szRowS N (Val.rows a0) r2) fun r3 =>
        bif (decide ((r3 : Int) < 0)) then (
          some (-1)
        ) else (
          some r3
        )
      )
    )
  )
def laws_szValueS_as (a0 : List Val) (a1 : Int) : List Arg := [.val (.v false [.sl .ro .val a0]), .val (.v false [.int .i64 a1])]
def laws_szValueS_ro (r : Int) : CallO := ⟨.v false [.int .i64 r], [], []⟩
def laws_szValueS_b5 (N : Nat) (rc_laws_szValue : Val → Int → Option (Int)) (rc_laws_szValueS : (List Val) → Int → Option (Int)) : Nat → (List Val) → Int → Int → Option (Int)
  | 0, _, _, _ => none
  | n + 1, x0, x1, x5 =>
    bif (decide ((x5 : Int) < (List.length x0 : Int))) then (
      if (0 : Int) ≤ x5 ∧ x5 < (List.length x0) then
      Option.bind (rc_laws_szValue (List.getD x0 (Int.toNat x5) Ty.val.dflt) x1) fun r1 =>
      bif (decide ((r1 : Int) < 0)) then (
        some (-1)
      ) else (
        (laws_szValueS_b5 N rc_laws_szValue rc_laws_szValueS n x0 r1 (IntKind.i64.wrap (x5 + 1)))
      )
      else none
    ) else (
      some x1
    )
def laws_szValueS_body (N : Nat) (rc_laws_szValue : Val → Int → Option (Int)) (rc_laws_szValueS : (List Val) → Int → Option (Int)) (a0 : List Val) (a1 : Int) : Option (Int) :=
  bif (decide (((IntKind.i64.wrap (a1 - (List.length a0 : Int))) : Int) < 0)) then (
    some (-1)
  ) else (
    (laws_szValueS_b5 N rc_laws_szValue rc_laws_szValueS N a0 (IntKind.i64.wrap (a1 - (List.length a0 : Int))) 0)
  )
structure laws_szValue_rec where
  c_laws_szValue : Val → Int → Option (Int)
  c_laws_szValueS : (List Val) → Int → Option (Int)
def laws_szValue_fix (N : Nat) : Nat → laws_szValue_rec
  | 0 => ⟨fun _ _ => none, fun _ _ => none⟩
  | d + 1 => ⟨laws_szValue_body N (laws_szValue_fix N d).c_laws_szValue (laws_szValue_fix N d).c_laws_szValueS, laws_szValueS_body N (laws_szValue_fix N d).c_laws_szValue (laws_szValue_fix N d).c_laws_szValueS⟩
def laws_szValue (N : Nat) (a0 : Val) (a1 : Int) : Option (Int) := (laws_szValue_fix N N).c_laws_szValue a0 a1
def laws_szBinding_as (a0 : Bnd) (a1 : Int) : List Arg := [.val (.v true [.str (Bnd.name a0), .int .i64 (Val.kind (Bnd.value a0)), .int .i64 (Val.n (Bnd.value a0)), .int .i64 (Val.step (Bnd.value a0)), .str (Val.text (Bnd.value a0)), .sl .ro .val (Val.list (Bnd.value a0)), .sl .ro .str (Val.columns (Bnd.value a0)), .sl .ro .row (Val.rows (Bnd.value a0))]), .val (.v false [.int .i64 a1])]
def laws_szBinding_ro (r : Int) : CallO := ⟨.v false [.int .i64 r], [], []⟩
def laws_szBinding (N : Nat) (a0 : Bnd) (a1 : Int) : Option (Int) :=
  bif (decide (((IntKind.i64.wrap (a1 - (List.length (Bnd.name a0) : Int))) : Int) < 0)) then (
    some (-1)
  ) else (
    Option.bind (laws_szValue N (Bnd.value a0) (IntKind.i64.wrap (a1 - (List.length (Bnd.name a0) : Int)))) fun r1 =>
    bif (decide ((r1 : Int) < 0)) then (
      some (-1)
    ) else (
      some r1
    )
  )
def laws_szBindingS_as (a0 : List Bnd) (a1 : Int) : List Arg := [.val (.v false [.sl .ro .bnd a0]), .val (.v false [.int .i64 a1])]
def laws_szBindingS_ro (r : Int) : CallO := ⟨.v false [.int .i64 r], [], []⟩
def laws_szBindingS_b5 (N : Nat) : Nat → (List Bnd) → Int → Int → Option (Int)
  | 0, _, _, _ => none
  | n + 1, x0, x1, x5 =>
    bif (decide ((x5 : Int) < (List.length x0 : Int))) then (
      if (0 : Int) ≤ x5 ∧ x5 < (List.length x0) then
      Option.bind (laws_szBinding N (List.getD x0 (Int.toNat x5) Ty.bnd.dflt) x1) fun r1 =>
      bif (decide ((r1 : Int) < 0)) then (
        some (-1)
      ) else (
        (laws_szBindingS_b5 N n x0 r1 (IntKind.i64.wrap (x5 + 1)))
      )
      else none
    ) else (
      some x1
    )
def laws_szBindingS (N : Nat) (a0 : List Bnd) (a1 : Int) : Option (Int) :=
  bif (decide (((IntKind.i64.wrap (a1 - (List.length a0 : Int))) : Int) < 0)) then (
    some (-1)
  ) else (
    (laws_szBindingS_b5 N N a0 (IntKind.i64.wrap (a1 - (List.length a0 : Int))) 0)
  )
def laws_toStringS_as (a0 : List Str) : List Arg := [.val (.v false [.sl .ro .str a0])]
def laws_toStringS_ro (r : (List Str)) : CallO := ⟨.v false [.sl .own .str r], [], []⟩
def laws_toStringS_b3 (N : Nat) : Nat → (List Str) → (List Str) → Int → Option ((List Str))
  | 0, _, _, _ => none
  | n + 1, x0, x3, x4 =>
    bif (decide ((x4 : Int) < (List.length x0 : Int))) then (
      if (0 : Int) ≤ x4 ∧ x4 < (List.length x0) then
      if (0 : Int) ≤ x4 ∧ x4 < (List.length x3) then
      (laws_toStringS_b3 N n x0 (List.set x3 (Int.toNat x4) (List.getD x0 (Int.toNat x4) Ty.str.dflt)) (IntKind.i64.wrap (x4 + 1)))
      else none
      else none
    ) else (
      some x3
    )
def laws_toStringS (N : Nat) (a0 : List Str) : Option ((List Str)) :=
  if (0 : Int) ≤ (List.length a0 : Int) ∧ (List.length a0 : Int) = (List.length a0 : Int) ∧ (List.length a0 : Int) ≤ Lim then
  (laws_toStringS_b3 N N a0 (List.replicate (Int.toNat (List.length a0 : Int)) Ty.str.dflt) 0)
  else none
def laws_toIntS_as (a0 : List Int) : List Arg := [.val (.v false [.sl .ro .int a0])]
def laws_toIntS_ro (r : (List Int)) : CallO := ⟨.v false [.sl .own .int r], [], []⟩
def laws_toIntS_b3 (N : Nat) : Nat → (List Int) → (List Int) → Int → Option ((List Int))
  | 0, _, _, _ => none
  | n + 1, x0, x3, x4 =>
    bif (decide ((x4 : Int) < (List.length x0 : Int))) then (
      if (0 : Int) ≤ x4 ∧ x4 < (List.length x0) then
      if (0 : Int) ≤ x4 ∧ x4 < (List.length x3) then
      (laws_toIntS_b3 N n x0 (List.set x3 (Int.toNat x4) (List.getD x0 (Int.toNat x4) Ty.int.dflt)) (IntKind.i64.wrap (x4 + 1)))
      else none
      else none
    ) else (
      some x3
    )
def laws_toIntS (N : Nat) (a0 : List Int) : Option ((List Int)) :=
  if (0 : Int) ≤ (List.length a0 : Int) ∧ (List.length a0 : Int) = (List.length a0 : Int) ∧ (List.length a0 : Int) ≤ Lim then
  (laws_toIntS_b3 N N a0 (List.replicate (Int.toNat (List.length a0 : Int)) Ty.int.dflt) 0)
  else none
def laws_toOrigin_as (a0 : Org) : List Arg := [.val (.v true [.int .i64 (Org.cell a0), .int .i64 (Org.row a0)])]
def laws_toOrigin_ro (r : Org) : CallO := ⟨.v true [.int .i64 (Org.cell r), .int .i64 (Org.row r)], [], []⟩
def laws_toOrigin (N : Nat) (a0 : Org) : Option (Org) :=
  some a0
def laws_toOriginS_as (a0 : List Org) : List Arg := [.val (.v false [.sl .ro .org a0])]
def laws_toOriginS_ro (r : (List Org)) : CallO := ⟨.v false [.sl .own .org r], [], []⟩
def laws_toOriginS_b3 (N : Nat) : Nat → (List Org) → (List Org) → Int → Option ((List Org))
  | 0, _, _, _ => none
  | n + 1, x0, x3, x4 =>
    bif (decide ((x4 : Int) < (List.length x0 : Int))) then (
      if (0 : Int) ≤ x4 ∧ x4 < (List.length x0) then
      Option.bind (laws_toOrigin N (List.getD x0 (Int.toNat x4) Ty.org.dflt)) fun r1 =>
      if (0 : Int) ≤ x4 ∧ x4 < (List.length x3) then
      (laws_toOriginS_b3 N n x0 (List.set x3 (Int.toNat x4) r1) (IntKind.i64.wrap (x4 + 1)))
      else none
      else none
    ) else (
      some x3
    )
def laws_toOriginS (N : Nat) (a0 : List Org) : Option ((List Org)) :=
  if (0 : Int) ≤ (List.length a0 : Int) ∧ (List.length a0 : Int) = (List.length a0 : Int) ∧ (List.length a0 : Int) ≤ Lim then
  (laws_toOriginS_b3 N N a0 (List.replicate (Int.toNat (List.length a0 : Int)) Ty.org.dflt) 0)
  else none
def laws_toRow_as (a0 : Rowd) : List Arg := [.val (.v true [.sl .ro .int (Rowd.cells a0), .sl .ro .org (Rowd.frm a0)])]
def laws_toRow_ro (r : Rowd) : CallO := ⟨.v true [.sl .own .int (Rowd.cells r), .sl .own .org (Rowd.frm r)], [], []⟩
def laws_toRow (N : Nat) (a0 : Rowd) : Option (Rowd) :=
  Option.bind (laws_toIntS N (Rowd.cells a0)) fun r1 =>
  Option.bind (laws_toOriginS N (Rowd.frm a0)) fun r2 =>
  some (Rowd.mk r1 r2)
def laws_toRowS_as (a0 : List Rowd) : List Arg := [.val (.v false [.sl .ro .row a0])]
def laws_toRowS_ro (r : (List Rowd)) : CallO := ⟨.v false [.sl .own .row r], [], []⟩
def laws_toRowS_b3 (N : Nat) : Nat → (List Rowd) → (List Rowd) → Int → Option ((List Rowd))
  | 0, _, _, _ => none
  | n + 1, x0, x3, x4 =>
    bif (decide ((x4 : Int) < (List.length x0 : Int))) then (
      if (0 : Int) ≤ x4 ∧ x4 < (List.length x0) then
      Option.bind (laws_toRow N (List.getD x0 (Int.toNat x4) Ty.row.dflt)) fun r1 =>
      if (0 : Int) ≤ x4 ∧ x4 < (List.length x3) then
      (laws_toRowS_b3 N n x0 (List.set x3 (Int.toNat x4) r1) (IntKind.i64.wrap (x4 + 1)))
      else none
      else none
    ) else (
      some x3
    )
def laws_toRowS (N : Nat) (a0 : List Rowd) : Option ((List Rowd)) :=
  if (0 : Int) ≤ (List.length a0 : Int) ∧ (List.length a0 : Int) = (List.length a0 : Int) ∧ (List.length a0 : Int) ≤ Lim then
  (laws_toRowS_b3 N N a0 (List.replicate (Int.toNat (List.length a0 : Int)) Ty.row.dflt) 0)
  else none
def laws_toValue_as (a0 : Val) : List Arg := [.val (.v true [.int .i64 (Val.kind a0), .int .i64 (Val.n a0), .int .i64 (Val.step a0), .str (Val.text a0), .sl .ro .val (Val.list a0), .sl .ro .str (Val.columns a0), .sl .ro .row (Val.rows a0)])]
def laws_toValue_ro (r : Val) : CallO := ⟨.v true [.int .i64 (Val.kind r), .int .i64 (Val.n r), .int .i64 (Val.step r), .str (Val.text r), .sl .own .val (Val.list r), .sl .own .str (Val.columns r), .sl .own .row (Val.rows r)], [], []⟩
def laws_toValue_body (N : Nat) (rc_laws_toValue : Val → Option (Val)) (rc_laws_toValueS : (List Val) → Option ((List Val))) (a0 : Val) : Option (Val) :=
  Option.bind (rc_laws_toValueS (Val.list a0)) fun r1 =>
  Option.bind (laws_toStringS N (Val.columns a0)) fun r2 =>
  Option.bind (laws_toRowS N (Val.rows a0)) fun r3 =>
  some (Val.mk (Val.kind a0) (Val.n a0) (Val.step a0) (Val.text a0) r1 r2 r3)
def laws_toValueS_as (a0 : List Val) : List Arg := [.val (.v false [.sl .ro .val a0])]
def laws_toValueS_ro (r : (List Val)) : CallO := ⟨.v false [.sl .own .val r], [], []⟩
def laws_toValueS_b3 (N : Nat) (rc_laws_toValue : Val → Option (Val)) (rc_laws_toValueS : (List Val) → Option ((List Val))) : Nat → (List Val) → (List Val) → Int → Option ((List Val))
  | 0, _, _, _ => none
  | n + 1, x0, x3, x4 =>
    bif (decide ((x4 : Int) < (List.length x0 : Int))) then (
      if (0 : Int) ≤ x4 ∧ x4 < (List.length x0) then
      Option.bind (rc_laws_toValue (List.getD x0 (Int.toNat x4) Ty.val.dflt)) fun r1 =>
      if (0 : Int) ≤ x4 ∧ x4 < (List.length x3) then
      (laws_toValueS_b3 N rc_laws_toValue rc_laws_toValueS n x0 (List.set x3 (Int.toNat x4) (Val.re r1)) (IntKind.i64.wrap (x4 + 1)))
      else none
      else none
    ) else (
      some x3
    )
def laws_toValueS_body (N : Nat) (rc_laws_toValue : Val → Option (Val)) (rc_laws_toValueS : (List Val) → Option ((List Val))) (a0 : List Val) : Option ((List Val)) :=
  if (0 : Int) ≤ (List.length a0 : Int) ∧ (List.length a0 : Int) = (List.length a0 : Int) ∧ (List.length a0 : Int) ≤ Lim then
  (laws_toValueS_b3 N rc_laws_toValue rc_laws_toValueS N a0 (List.replicate (Int.toNat (List.length a0 : Int)) Ty.val.dflt) 0)
  else none
structure laws_toValue_rec where
  c_laws_toValue : Val → Option (Val)
  c_laws_toValueS : (List Val) → Option ((List Val))
def laws_toValue_fix (N : Nat) : Nat → laws_toValue_rec
  | 0 => ⟨fun _ => none, fun _ => none⟩
  | d + 1 => ⟨laws_toValue_body N (laws_toValue_fix N d).c_laws_toValue (laws_toValue_fix N d).c_laws_toValueS, laws_toValueS_body N (laws_toValue_fix N d).c_laws_toValue (laws_toValue_fix N d).c_laws_toValueS⟩
def laws_toValue (N : Nat) (a0 : Val) : Option (Val) := (laws_toValue_fix N N).c_laws_toValue a0
def laws_toBinding_as (a0 : Bnd) : List Arg := [.val (.v true [.str (Bnd.name a0), .int .i64 (Val.kind (Bnd.value a0)), .int .i64 (Val.n (Bnd.value a0)), .int .i64 (Val.step (Bnd.value a0)), .str (Val.text (Bnd.value a0)), .sl .ro .val (Val.list (Bnd.value a0)), .sl .ro .str (Val.columns (Bnd.value a0)), .sl .ro .row (Val.rows (Bnd.value a0))])]
def laws_toBinding_ro (r : Bnd) : CallO := ⟨.v true [.str (Bnd.name r), .int .i64 (Val.kind (Bnd.value r)), .int .i64 (Val.n (Bnd.value r)), .int .i64 (Val.step (Bnd.value r)), .str (Val.text (Bnd.value r)), .sl .own .val (Val.list (Bnd.value r)), .sl .own .str (Val.columns (Bnd.value r)), .sl .own .row (Val.rows (Bnd.value r))], [], []⟩
def laws_toBinding (N : Nat) (a0 : Bnd) : Option (Bnd) :=
  Option.bind (laws_toValue N (Bnd.value a0)) fun r1 =>
  some (Bnd.mk (Bnd.name a0) r1)
def laws_toBindingS_as (a0 : List Bnd) : List Arg := [.val (.v false [.sl .ro .bnd a0])]
def laws_toBindingS_ro (r : (List Bnd)) : CallO := ⟨.v false [.sl .own .bnd r], [], []⟩
def laws_toBindingS_b3 (N : Nat) : Nat → (List Bnd) → (List Bnd) → Int → Option ((List Bnd))
  | 0, _, _, _ => none
  | n + 1, x0, x3, x4 =>
    bif (decide ((x4 : Int) < (List.length x0 : Int))) then (
      if (0 : Int) ≤ x4 ∧ x4 < (List.length x0) then
      Option.bind (laws_toBinding N (List.getD x0 (Int.toNat x4) Ty.bnd.dflt)) fun r1 =>
      if (0 : Int) ≤ x4 ∧ x4 < (List.length x3) then
      (laws_toBindingS_b3 N n x0 (List.set x3 (Int.toNat x4) (Bnd.mk (Bnd.name r1) (Val.re (Bnd.value r1)))) (IntKind.i64.wrap (x4 + 1)))
      else none
      else none
    ) else (
      some x3
    )
def laws_toBindingS (N : Nat) (a0 : List Bnd) : Option ((List Bnd)) :=
  if (0 : Int) ≤ (List.length a0 : Int) ∧ (List.length a0 : Int) = (List.length a0 : Int) ∧ (List.length a0 : Int) ≤ Lim then
  (laws_toBindingS_b3 N N a0 (List.replicate (Int.toNat (List.length a0 : Int)) Ty.bnd.dflt) 0)
  else none
def spec_l3Row_as (a0 : Rowd) : List Arg := [.val (.v true [.sl .ro .int (Rowd.cells a0), .sl .ro .org (Rowd.frm a0)])]
def spec_l3Row_ro (r : Rowd) : CallO := ⟨.v true [.sl .own .int (Rowd.cells r), .sl .own .org (Rowd.frm r)], [], []⟩
def spec_l3Row (N : Nat) (a0 : Rowd) : Option (Rowd) :=
  if 0 + List.length (Rowd.cells a0) ≤ Lim then
  if 0 + List.length (Rowd.frm a0) ≤ Lim then
  some (Rowd.mk ([] ++ (Rowd.cells a0)) ([] ++ (Rowd.frm a0)))
  else none
  else none
def spec_l3Copy_as (a0 : Val) : List Arg := [.val (.v true [.int .i64 (Val.kind a0), .int .i64 (Val.n a0), .int .i64 (Val.step a0), .str (Val.text a0), .sl .ro .val (Val.list a0), .sl .ro .str (Val.columns a0), .sl .ro .row (Val.rows a0)])]
def spec_l3Copy_ro (r : Val) : CallO := ⟨.v true [.int .i64 (Val.kind r), .int .i64 (Val.n r), .int .i64 (Val.step r), .str (Val.text r), .sl .own .val (Val.list r), .sl .own .str (Val.columns r), .sl .own .row (Val.rows r)], [], []⟩
def spec_l3Copy_b7 (N : Nat) (rc_spec_l3Copy : Val → Option (Val)) : Nat → Int → Val → Val → Val → Option (Val)
  | 0, _, _, _, _ => none
  | n + 1, x5, b1, b2, b3 =>
    bif (decide ((x5 : Int) < (List.length (Val.rows b1) : Int))) then (
      if (0 : Int) ≤ x5 ∧ x5 < (List.length (Val.rows b1)) then
      Option.bind (spec_l3Row N (List.getD (Val.rows b1) (Int.toNat x5) Ty.row.dflt)) fun r1 =>
      if List.length (Val.rows b3) + List.length [r1] ≤ Lim then
      (spec_l3Copy_b7 N rc_spec_l3Copy n (IntKind.i64.wrap (x5 + 1)) b1 b2 (Val.mk (Val.kind b3) (Val.n b3) (Val.step b3) (Val.text b3) (Val.list b3) (Val.columns b3) ((Val.rows b3) ++ [r1])))
      else none
      else none
    ) else (
      some b3
    )
def spec_l3Copy_b3 (N : Nat) (rc_spec_l3Copy : Val → Option (Val)) : Nat → Int → Val → Val → Val → Option (Val)
  | 0, _, _, _, _ => none
  | n + 1, x4, b1, b2, b3 =>
    bif (decide ((x4 : Int) < (List.length (Val.list b1) : Int))) then (
      if (0 : Int) ≤ x4 ∧ x4 < (List.length (Val.list b1)) then
      Option.bind (rc_spec_l3Copy (List.getD (Val.list b1) (Int.toNat x4) Ty.val.dflt)) fun r1 =>
      if List.length (Val.list b3) + List.length [(Val.re r1)] ≤ Lim then
      (spec_l3Copy_b3 N rc_spec_l3Copy n (IntKind.i64.wrap (x4 + 1)) b1 b2 (Val.mk (Val.kind b3) (Val.n b3) (Val.step b3) (Val.text b3) ((Val.list b3) ++ [(Val.re r1)]) (Val.columns b3) (Val.rows b3)))
      else none
      else none
    ) else (
      (spec_l3Copy_b7 N rc_spec_l3Copy N 0 b1 b2 b3)
    )
def spec_l3Copy_body (N : Nat) (rc_spec_l3Copy : Val → Option (Val)) (a0 : Val) : Option (Val) :=
  if 0 + List.length (Val.columns a0) ≤ Lim then
  (spec_l3Copy_b3 N rc_spec_l3Copy N 0 a0 (Val.mk 0 0 0 [] [] [] []) (Val.mk (Val.kind a0) (Val.n a0) (Val.step a0) (Val.text a0) [] ([] ++ (Val.columns a0)) []))
  else none
def spec_l3Copy_fix (N : Nat) : Nat → Val → Option (Val)
  | 0, _ => none
  | d + 1, a0 => spec_l3Copy_body N (spec_l3Copy_fix N d) a0
def spec_l3Copy (N : Nat) (a0 : Val) : Option (Val) := spec_l3Copy_fix N N a0
def impl_copyRow_as (a0 : Rowd) : List Arg := [.val (.v true [.sl .ro .int (Rowd.cells a0), .sl .ro .org (Rowd.frm a0)])]
def impl_copyRow_ro (r : Rowd) : CallO := ⟨.v true [.sl .own .int (Rowd.cells r), .sl .own .org (Rowd.frm r)], [], []⟩
def impl_copyRow (N : Nat) (a0 : Rowd) : Option (Rowd) :=
  if 0 + List.length (Rowd.cells a0) ≤ Lim then
  if 0 + List.length (Rowd.frm a0) ≤ Lim then
  some (Rowd.mk ([] ++ (Rowd.cells a0)) ([] ++ (Rowd.frm a0)))
  else none
  else none
def impl_copyValue_as (a0 : Val) : List Arg := [.val (.v true [.int .i64 (Val.kind a0), .int .i64 (Val.n a0), .int .i64 (Val.step a0), .str (Val.text a0), .sl .ro .val (Val.list a0), .sl .ro .str (Val.columns a0), .sl .ro .row (Val.rows a0)])]
def impl_copyValue_ro (r : Val) : CallO := ⟨.v true [.int .i64 (Val.kind r), .int .i64 (Val.n r), .int .i64 (Val.step r), .str (Val.text r), .sl .own .val (Val.list r), .sl .own .str (Val.columns r), .sl .own .row (Val.rows r)], [], []⟩
def impl_copyValue_b6 (N : Nat) (rc_impl_copyValue : Val → Option (Val)) (rc_impl_copyValues : (List Val) → Option ((List Val))) : Nat → (List Rowd) → Int → Int → Val → Val → Option (Val)
  | 0, _, _, _, _, _ => none
  | n + 1, x18, x19, x20, b2, b3 =>
    bif (decide ((x20 : Int) < x19)) then (
      if (0 : Int) ≤ x20 ∧ x20 < (List.length x18) then
      Option.bind (impl_copyRow N (List.getD x18 (Int.toNat x20) Ty.row.dflt)) fun r1 =>
      if List.length (Val.rows b3) + List.length [r1] ≤ Lim then
      (impl_copyValue_b6 N rc_impl_copyValue rc_impl_copyValues n x18 x19 (IntKind.i64.wrap (x20 + 1)) b2 (Val.mk (Val.kind b3) (Val.n b3) (Val.step b3) (Val.text b3) (Val.list b3) (Val.columns b3) ((Val.rows b3) ++ [r1])))
      else none
      else none
    ) else (
      some b3
    )
def impl_copyValue_body (N : Nat) (rc_impl_copyValue : Val → Option (Val)) (rc_impl_copyValues : (List Val) → Option ((List Val))) (a0 : Val) : Option (Val) :=
  Option.bind (rc_impl_copyValues (Val.list a0)) fun r1 =>
  if 0 + List.length (Val.columns a0) ≤ Lim then
  (impl_copyValue_b6 N rc_impl_copyValue rc_impl_copyValues N (Val.rows a0) (List.length (Val.rows a0) : Int) 0 (Val.mk 0 0 0 [] [] [] []) (Val.mk (Val.kind a0) (Val.n a0) (Val.step a0) (Val.text a0) r1 ([] ++ (Val.columns a0)) []))
  else none
def impl_copyValues_as (a0 : List Val) : List Arg := [.val (.v false [.sl .ro .val a0])]
def impl_copyValues_ro (r : (List Val)) : CallO := ⟨.v false [.sl .own .val r], [], []⟩
def impl_copyValues_b3 (N : Nat) (rc_impl_copyValue : Val → Option (Val)) (rc_impl_copyValues : (List Val) → Option ((List Val))) : Nat → (List Val) → (List Val) → Int → Int → Option ((List Val))
  | 0, _, _, _, _ => none
  | n + 1, x3, x7, x8, x9 =>
    bif (decide ((x9 : Int) < x8)) then (
      if (0 : Int) ≤ x9 ∧ x9 < (List.length x7) then
      Option.bind (rc_impl_copyValue (List.getD x7 (Int.toNat x9) Ty.val.dflt)) fun r1 =>
      if List.length x3 + List.length [(Val.re r1)] ≤ Lim then
      (impl_copyValues_b3 N rc_impl_copyValue rc_impl_copyValues n (x3 ++ [(Val.re r1)]) x7 x8 (IntKind.i64.wrap (x9 + 1)))
      else none
      else none
    ) else (
      some x3
    )
def impl_copyValues_body (N : Nat) (rc_impl_copyValue : Val → Option (Val)) (rc_impl_copyValues : (List Val) → Option ((List Val))) (a0 : List Val) : Option ((List Val)) :=
  (impl_copyValues_b3 N rc_impl_copyValue rc_impl_copyValues N [] a0 (List.length a0 : Int) 0)
structure impl_copyValue_rec where
  c_impl_copyValue : Val → Option (Val)
  c_impl_copyValues : (List Val) → Option ((List Val))
def impl_copyValue_fix (N : Nat) : Nat → impl_copyValue_rec
  | 0 => ⟨fun _ => none, fun _ => none⟩
  | d + 1 => ⟨impl_copyValue_body N (impl_copyValue_fix N d).c_impl_copyValue (impl_copyValue_fix N d).c_impl_copyValues, impl_copyValues_body N (impl_copyValue_fix N d).c_impl_copyValue (impl_copyValue_fix N d).c_impl_copyValues⟩
def impl_copyValue (N : Nat) (a0 : Val) : Option (Val) := (impl_copyValue_fix N N).c_impl_copyValue a0
def laws_eqStringS_as (a0 : List Str) (a1 : List Str) : List Arg := [.val (.v false [.sl .ro .str a0]), .val (.v false [.sl .ro .str a1])]
def laws_eqStringS_ro (r : Bool) : CallO := ⟨.v false [.bool r], [], []⟩
def laws_eqStringS_b4 (N : Nat) : Nat → (List Str) → (List Str) → Int → Option (Bool)
  | 0, _, _, _ => none
  | n + 1, x0, x1, x5 =>
    bif (decide ((x5 : Int) < (List.length x0 : Int))) then (
      if (0 : Int) ≤ x5 ∧ x5 < (List.length x0) then
      if (0 : Int) ≤ x5 ∧ x5 < (List.length x1) then
      bif (!(((List.getD x0 (Int.toNat x5) Ty.str.dflt) : Str) == (List.getD x1 (Int.toNat x5) Ty.str.dflt))) then (
        some false
      ) else (
        (laws_eqStringS_b4 N n x0 x1 (IntKind.i64.wrap (x5 + 1)))
      )
      else none
      else none
    ) else (
      some true
    )
def laws_eqStringS (N : Nat) (a0 : List Str) (a1 : List Str) : Option (Bool) :=
  bif (((List.length a0 : Int) : Int) != (List.length a1 : Int)) then (
    some false
  ) else (
    (laws_eqStringS_b4 N N a0 a1 0)
  )
def laws_eqIntS_as (a0 : List Int) (a1 : List Int) : List Arg := [.val (.v false [.sl .ro .int a0]), .val (.v false [.sl .ro .int a1])]
def laws_eqIntS_ro (r : Bool) : CallO := ⟨.v false [.bool r], [], []⟩
def laws_eqIntS_b4 (N : Nat) : Nat → (List Int) → (List Int) → Int → Option (Bool)
  | 0, _, _, _ => none
  | n + 1, x0, x1, x5 =>
    bif (decide ((x5 : Int) < (List.length x0 : Int))) then (
      if (0 : Int) ≤ x5 ∧ x5 < (List.length x0) then
      if (0 : Int) ≤ x5 ∧ x5 < (List.length x1) then
      bif (((List.getD x0 (Int.toNat x5) Ty.int.dflt) : Int) != (List.getD x1 (Int.toNat x5) Ty.int.dflt)) then (
        some false
      ) else (
        (laws_eqIntS_b4 N n x0 x1 (IntKind.i64.wrap (x5 + 1)))
      )
      else none
      else none
    ) else (
      some true
    )
def laws_eqIntS (N : Nat) (a0 : List Int) (a1 : List Int) : Option (Bool) :=
  bif (((List.length a0 : Int) : Int) != (List.length a1 : Int)) then (
    some false
  ) else (
    (laws_eqIntS_b4 N N a0 a1 0)
  )
def laws_eqOrigin_as (a0 : Org) (a1 : Org) : List Arg := [.val (.v true [.int .i64 (Org.cell a0), .int .i64 (Org.row a0)]), .val (.v true [.int .i64 (Org.cell a1), .int .i64 (Org.row a1)])]
def laws_eqOrigin_ro (r : Bool) : CallO := ⟨.v false [.bool r], [], []⟩
def laws_eqOrigin (N : Nat) (a0 : Org) (a1 : Org) : Option (Bool) :=
  bif (((Org.cell a0) : Int) != (Org.cell a1)) then (
    some false
  ) else (
    bif (((Org.row a0) : Int) != (Org.row a1)) then (
      some false
    ) else (
      some true
    )
  )
def laws_eqOriginS_as (a0 : List Org) (a1 : List Org) : List Arg := [.val (.v false [.sl .ro .org a0]), .val (.v false [.sl .ro .org a1])]
def laws_eqOriginS_ro (r : Bool) : CallO := ⟨.v false [.bool r], [], []⟩
def laws_eqOriginS_b4 (N : Nat) : Nat → (List Org) → (List Org) → Int → Option (Bool)
  | 0, _, _, _ => none
  | n + 1, x0, x1, x5 =>
    bif (decide ((x5 : Int) < (List.length x0 : Int))) then (
      if (0 : Int) ≤ x5 ∧ x5 < (List.length x0) then
      if (0 : Int) ≤ x5 ∧ x5 < (List.length x1) then
      Option.bind (laws_eqOrigin N (List.getD x0 (Int.toNat x5) Ty.org.dflt) (List.getD x1 (Int.toNat x5) Ty.org.dflt)) fun r1 =>
      bif (!r1) then (
        some false
      ) else (
        (laws_eqOriginS_b4 N n x0 x1 (IntKind.i64.wrap (x5 + 1)))
      )
      else none
      else none
    ) else (
      some true
    )
def laws_eqOriginS (N : Nat) (a0 : List Org) (a1 : List Org) : Option (Bool) :=
  bif (((List.length a0 : Int) : Int) != (List.length a1 : Int)) then (
    some false
  ) else (
    (laws_eqOriginS_b4 N N a0 a1 0)
  )
def laws_eqRow_as (a0 : Rowd) (a1 : Rowd) : List Arg := [.val (.v true [.sl .ro .int (Rowd.cells a0), .sl .ro .org (Rowd.frm a0)]), .val (.v true [.sl .ro .int (Rowd.cells a1), .sl .ro .org (Rowd.frm a1)])]
def laws_eqRow_ro (r : Bool) : CallO := ⟨.v false [.bool r], [], []⟩
def laws_eqRow (N : Nat) (a0 : Rowd) (a1 : Rowd) : Option (Bool) :=
  Option.bind (laws_eqIntS N (Rowd.cells a0) (Rowd.cells a1)) fun r1 =>
  bif (!r1) then (
    some false
  ) else (
    Option.bind (laws_eqOriginS N (Rowd.frm a0) (Rowd.frm a1)) fun r2 =>
    bif (!r2) then (
      some false
    ) else (
      some true
    )
  )
def laws_eqRowS_as (a0 : List Rowd) (a1 : List Rowd) : List Arg := [.val (.v false [.sl .ro .row a0]), .val (.v false [.sl .ro .row a1])]
def laws_eqRowS_ro (r : Bool) : CallO := ⟨.v false [.bool r], [], []⟩
def laws_eqRowS_b4 (N : Nat) : Nat → (List Rowd) → (List Rowd) → Int → Option (Bool)
  | 0, _, _, _ => none
  | n + 1, x0, x1, x5 =>
    bif (decide ((x5 : Int) < (List.length x0 : Int))) then (
      if (0 : Int) ≤ x5 ∧ x5 < (List.length x0) then
      if (0 : Int) ≤ x5 ∧ x5 < (List.length x1) then
      Option.bind (laws_eqRow N (List.getD x0 (Int.toNat x5) Ty.row.dflt) (List.getD x1 (Int.toNat x5) Ty.row.dflt)) fun r1 =>
      bif (!r1) then (
        some false
      ) else (
        (laws_eqRowS_b4 N n x0 x1 (IntKind.i64.wrap (x5 + 1)))
      )
      else none
      else none
    ) else (
      some true
    )
def laws_eqRowS (N : Nat) (a0 : List Rowd) (a1 : List Rowd) : Option (Bool) :=
  bif (((List.length a0 : Int) : Int) != (List.length a1 : Int)) then (
    some false
  ) else (
    (laws_eqRowS_b4 N N a0 a1 0)
  )
def laws_eqValue_as (a0 : Val) (a1 : Val) : List Arg := [.val (.v true [.int .i64 (Val.kind a0), .int .i64 (Val.n a0), .int .i64 (Val.step a0), .str (Val.text a0), .sl .ro .val (Val.list a0), .sl .ro .str (Val.columns a0), .sl .ro .row (Val.rows a0)]), .val (.v true [.int .i64 (Val.kind a1), .int .i64 (Val.n a1), .int .i64 (Val.step a1), .str (Val.text a1), .sl .ro .val (Val.list a1), .sl .ro .str (Val.columns a1), .sl .ro .row (Val.rows a1)])]
def laws_eqValue_ro (r : Bool) : CallO := ⟨.v false [.bool r], [], []⟩
def laws_eqValue_body (N : Nat) (rc_laws_eqValue : Val → Val → Option (Bool)) (rc_laws_eqValueS : (List Val) → (List Val) → Option (Bool)) (a0 : Val) (a1 : Val) : Option (Bool) :=
  bif (((Val.kind a0) : Int) != (Val.kind a1)) then (
    some false
  ) else (
    bif (((Val.n a0) : Int) != (Val.n a1)) then (
      some false
    ) else (
      bif (((Val.step a0) : Int) != (Val.step a1)) then (
        some false
      ) else (
        bif (!(((Val.text a0) : Str) == (Val.text a1))) then (
          some false
        ) else (
          Option.bind (rc_laws_eqValueS (Val.list a0) (Val.list a1)) fun r1 =>
          bif (!r1) then (
            some false
          ) else (
            Option.bind (laws_eqStringS N (Val.columns a0) (Val.columns a1)) fun r2 =>
            bif (!r2) then (
              some false
            ) else (
              Option.bind (laws_eqRowS N (Val.rows a0) (Val.rows a1)) fun r3 =>
              bif (!r3) then (
                some false
              ) else (
                some true
              )
            )
          )
        )
      )
    )
  )
def laws_eqValueS_as (a0 : List Val) (a1 : List Val) : List Arg := [.val (.v false [.sl .ro .val a0]), .val (.v false [.sl .ro .val a1])]
def laws_eqValueS_ro (r : Bool) : CallO := ⟨.v false [.bool r], [], []⟩
def laws_eqValueS_b4 (N : Nat) (rc_laws_eqValue : Val → Val → Option (Bool)) (rc_laws_eqValueS : (List Val) → (List Val) → Option (Bool)) : Nat → (List Val) → (List Val) → Int → Option (Bool)
  | 0, _, _, _ => none
  | n + 1, x0, x1, x5 =>
    bif (decide ((x5 : Int) < (List.length x0 : Int))) then (
      if (0 : Int) ≤ x5 ∧ x5 < (List.length x0) then
      if (0 : Int) ≤ x5 ∧ x5 < (List.length x1) then
      Option.bind (rc_laws_eqValue (List.getD x0 (Int.toNat x5) Ty.val.dflt) (List.getD x1 (Int.toNat x5) Ty.val.dflt)) fun r1 =>
      bif (!r1) then (
        some false
      ) else (
        (laws_eqValueS_b4 N rc_laws_eqValue rc_laws_eqValueS n x0 x1 (IntKind.i64.wrap (x5 + 1)))
      )
      else none
      else none
    ) else (
      some true
    )
def laws_eqValueS_body (N : Nat) (rc_laws_eqValue : Val → Val → Option (Bool)) (rc_laws_eqValueS : (List Val) → (List Val) → Option (Bool)) (a0 : List Val) (a1 : List Val) : Option (Bool) :=
  bif (((List.length a0 : Int) : Int) != (List.length a1 : Int)) then (
    some false
  ) else (
    (laws_eqValueS_b4 N rc_laws_eqValue rc_laws_eqValueS N a0 a1 0)
  )
structure laws_eqValue_rec where
  c_laws_eqValue : Val → Val → Option (Bool)
  c_laws_eqValueS : (List Val) → (List Val) → Option (Bool)
def laws_eqValue_fix (N : Nat) : Nat → laws_eqValue_rec
  | 0 => ⟨fun _ _ => none, fun _ _ => none⟩
  | d + 1 => ⟨laws_eqValue_body N (laws_eqValue_fix N d).c_laws_eqValue (laws_eqValue_fix N d).c_laws_eqValueS, laws_eqValueS_body N (laws_eqValue_fix N d).c_laws_eqValue (laws_eqValue_fix N d).c_laws_eqValueS⟩
def laws_eqValue (N : Nat) (a0 : Val) (a1 : Val) : Option (Bool) := (laws_eqValue_fix N N).c_laws_eqValue a0 a1
def laws_eqBinding_as (a0 : Bnd) (a1 : Bnd) : List Arg := [.val (.v true [.str (Bnd.name a0), .int .i64 (Val.kind (Bnd.value a0)), .int .i64 (Val.n (Bnd.value a0)), .int .i64 (Val.step (Bnd.value a0)), .str (Val.text (Bnd.value a0)), .sl .ro .val (Val.list (Bnd.value a0)), .sl .ro .str (Val.columns (Bnd.value a0)), .sl .ro .row (Val.rows (Bnd.value a0))]), .val (.v true [.str (Bnd.name a1), .int .i64 (Val.kind (Bnd.value a1)), .int .i64 (Val.n (Bnd.value a1)), .int .i64 (Val.step (Bnd.value a1)), .str (Val.text (Bnd.value a1)), .sl .ro .val (Val.list (Bnd.value a1)), .sl .ro .str (Val.columns (Bnd.value a1)), .sl .ro .row (Val.rows (Bnd.value a1))])]
def laws_eqBinding_ro (r : Bool) : CallO := ⟨.v false [.bool r], [], []⟩
def laws_eqBinding (N : Nat) (a0 : Bnd) (a1 : Bnd) : Option (Bool) :=
  bif (!(((Bnd.name a0) : Str) == (Bnd.name a1))) then (
    some false
  ) else (
    Option.bind (laws_eqValue N (Bnd.value a0) (Bnd.value a1)) fun r1 =>
    bif (!r1) then (
      some false
    ) else (
      some true
    )
  )
def laws_eqBindingS_as (a0 : List Bnd) (a1 : List Bnd) : List Arg := [.val (.v false [.sl .ro .bnd a0]), .val (.v false [.sl .ro .bnd a1])]
def laws_eqBindingS_ro (r : Bool) : CallO := ⟨.v false [.bool r], [], []⟩
def laws_eqBindingS_b4 (N : Nat) : Nat → (List Bnd) → (List Bnd) → Int → Option (Bool)
  | 0, _, _, _ => none
  | n + 1, x0, x1, x5 =>
    bif (decide ((x5 : Int) < (List.length x0 : Int))) then (
      if (0 : Int) ≤ x5 ∧ x5 < (List.length x0) then
      if (0 : Int) ≤ x5 ∧ x5 < (List.length x1) then
      Option.bind (laws_eqBinding N (List.getD x0 (Int.toNat x5) Ty.bnd.dflt) (List.getD x1 (Int.toNat x5) Ty.bnd.dflt)) fun r1 =>
      bif (!r1) then (
        some false
      ) else (
        (laws_eqBindingS_b4 N n x0 x1 (IntKind.i64.wrap (x5 + 1)))
      )
      else none
      else none
    ) else (
      some true
    )
def laws_eqBindingS (N : Nat) (a0 : List Bnd) (a1 : List Bnd) : Option (Bool) :=
  bif (((List.length a0 : Int) : Int) != (List.length a1 : Int)) then (
    some false
  ) else (
    (laws_eqBindingS_b4 N N a0 a1 0)
  )
def laws_markText_as (a0 : Int) : List Arg := [.val (.v false [.int .i64 a0])]
def laws_markText_ro (r : Str) : CallO := ⟨.v false [.str r], [], []⟩
def laws_markText_b4 (N : Nat) : Nat → Int → Str → Option (Str)
  | 0, _, _ => none
  | n + 1, x0, x3 =>
    bif (decide ((x0 : Int) > 0)) then (
      if List.length (List.map (fun n => UInt8.ofNat (Int.toNat n)) [(IntKind.u8.wrap ((IntKind.i64.wrap (48 + (Int.tmod x0 10)))))]) + List.length x3 ≤ Lim then
      (laws_markText_b4 N n (IntKind.i64.wrap (Int.tdiv x0 10)) ((List.map (fun n => UInt8.ofNat (Int.toNat n)) [(IntKind.u8.wrap ((IntKind.i64.wrap (48 + (Int.tmod x0 10)))))]) ++ x3))
      else none
    ) else (
      if List.length [109] + List.length x3 ≤ Lim then
      some ([109] ++ x3)
      else none
    )
def laws_markText (N : Nat) (a0 : Int) : Option (Str) :=
  bif (decide ((a0 : Int) ≤ 0)) then (
    some [109, 48]
  ) else (
    (laws_markText_b4 N N a0 [])
  )
def laws_markStringS_as (a0 : List Str) (a1 : Int) : List Arg := [.val (.v false [.sl (.lnt 0) .str a0]), .val (.v false [.int .i64 a1])]
def laws_markStringS_ro (r : Int × (List Str)) : CallO := ⟨.v false [.int .i64 r.1], [], [.sl (.lnt 0) .str r.2]⟩
def laws_markStringS_b2 (N : Nat) : Nat → (List Str) → Int → Int → Option (Int × (List Str))
  | 0, _, _, _ => none
  | n + 1, x0, x1, x5 =>
    bif (decide ((x5 : Int) < (List.length x0 : Int))) then (
      Option.bind (laws_markText N x1) fun r1 =>
      if (0 : Int) ≤ x5 ∧ x5 < (List.length x0) then
      (laws_markStringS_b2 N n (List.set x0 (Int.toNat x5) r1) (IntKind.i64.wrap (x1 + 1)) (IntKind.i64.wrap (x5 + 1)))
      else none
    ) else (
      some (x1, x0)
    )
def laws_markStringS (N : Nat) (a0 : List Str) (a1 : Int) : Option (Int × (List Str)) :=
  (laws_markStringS_b2 N N a0 a1 0)
def laws_markIntS_as (a0 : List Int) (a1 : Int) : List Arg := [.val (.v false [.sl (.lnt 0) .int a0]), .val (.v false [.int .i64 a1])]
def laws_markIntS_ro (r : Int × (List Int)) : CallO := ⟨.v false [.int .i64 r.1], [], [.sl (.lnt 0) .int r.2]⟩
def laws_markIntS_b2 (N : Nat) : Nat → (List Int) → Int → Int → Option (Int × (List Int))
  | 0, _, _, _ => none
  | n + 1, x0, x1, x5 =>
    bif (decide ((x5 : Int) < (List.length x0 : Int))) then (
      if (0 : Int) ≤ x5 ∧ x5 < (List.length x0) then
      (laws_markIntS_b2 N n (List.set x0 (Int.toNat x5) x1) (IntKind.i64.wrap (x1 + 1)) (IntKind.i64.wrap (x5 + 1)))
      else none
    ) else (
      some (x1, x0)
    )
def laws_markIntS (N : Nat) (a0 : List Int) (a1 : Int) : Option (Int × (List Int)) :=
  (laws_markIntS_b2 N N a0 a1 0)
def laws_markOriginS_as (a0 : List Org) (a1 : Int) : List Arg := [.val (.v false [.sl (.lnt 0) .org a0]), .val (.v false [.int .i64 a1])]
def laws_markOriginS_ro (r : Int × (List Org)) : CallO := ⟨.v false [.int .i64 r.1], [], [.sl (.lnt 0) .org r.2]⟩
def laws_markOriginS_b2 (N : Nat) : Nat → (List Org) → Int → Int → Option (Int × (List Org))
  | 0, _, _, _ => none
  | n + 1, x0, x1, x5 =>
    bif (decide ((x5 : Int) < (List.length x0 : Int))) then (
      if (0 : Int) ≤ x5 ∧ x5 < (List.length x0) then
      if (0 : Int) ≤ x5 ∧ x5 < (List.length (List.set x0 (Int.toNat x5) (Org.mk x1 (Org.row (List.getD x0 (Int.toNat x5) Ty.org.dflt))))) then
      (laws_markOriginS_b2 N n ((fun (z1 : List Org) => List.set z1 (Int.toNat x5) (Org.mk (Org.cell (List.getD z1 (Int.toNat x5) Ty.org.dflt)) (IntKind.i64.wrap (x1 + 1)))) (List.set x0 (Int.toNat x5) (Org.mk x1 (Org.row (List.getD x0 (Int.toNat x5) Ty.org.dflt))))) (IntKind.i64.wrap ((IntKind.i64.wrap (x1 + 1)) + 1)) (IntKind.i64.wrap (x5 + 1)))
      else none
      else none
    ) else (
      some (x1, x0)
    )
def laws_markOriginS (N : Nat) (a0 : List Org) (a1 : Int) : Option (Int × (List Org)) :=
  (laws_markOriginS_b2 N N a0 a1 0)
def laws_markRowS_as (a0 : List Rowd) (a1 : Int) : List Arg := [.val (.v false [.sl (.lnt 0) .row a0]), .val (.v false [.int .i64 a1])]
def laws_markRowS_ro (r : Int × (List Rowd)) : CallO := ⟨.v false [.int .i64 r.1], [], [.sl (.lnt 0) .row r.2]⟩
def laws_markRowS_b2 (N : Nat) : Nat → (List Rowd) → Int → Int → Option (Int × (List Rowd))
  | 0, _, _, _ => none
  | n + 1, x0, x1, x5 =>
    bif (decide ((x5 : Int) < (List.length x0 : Int))) then (
      if (0 : Int) ≤ x5 ∧ x5 < (List.length x0) then
      Option.bind (laws_markIntS N (Rowd.cells (List.getD x0 (Int.toNat x5) Ty.row.dflt)) x1) fun r1 =>
      if List.length r1.2 = List.length (Rowd.cells (List.getD x0 (Int.toNat x5) Ty.row.dflt)) then
      if (0 : Int) ≤ x5 ∧ x5 < (List.length (List.set x0 (Int.toNat x5) (Rowd.mk r1.2 (Rowd.frm (List.getD x0 (Int.toNat x5) Ty.row.dflt))))) then
      Option.bind (laws_markOriginS N (Rowd.frm (List.getD (List.set x0 (Int.toNat x5) (Rowd.mk r1.2 (Rowd.frm (List.getD x0 (Int.toNat x5) Ty.row.dflt)))) (Int.toNat x5) Ty.row.dflt)) r1.1) fun r2 =>
      if List.length r2.2 = List.length (Rowd.frm (List.getD (List.set x0 (Int.toNat x5) (Rowd.mk r1.2 (Rowd.frm (List.getD x0 (Int.toNat x5) Ty.row.dflt)))) (Int.toNat x5) Ty.row.dflt)) then
      (laws_markRowS_b2 N n ((fun (z1 : List Rowd) => List.set z1 (Int.toNat x5) (Rowd.mk (Rowd.cells (List.getD z1 (Int.toNat x5) Ty.row.dflt)) r2.2)) (List.set x0 (Int.toNat x5) (Rowd.mk r1.2 (Rowd.frm (List.getD x0 (Int.toNat x5) Ty.row.dflt))))) r2.1 (IntKind.i64.wrap (x5 + 1)))
      else none
      else none
      else none
      else none
    ) else (
      some (x1, x0)
    )
def laws_markRowS (N : Nat) (a0 : List Rowd) (a1 : Int) : Option (Int × (List Rowd)) :=
  (laws_markRowS_b2 N N a0 a1 0)
def laws_markValueS_as (a0 : List Val) (a1 : Int) : List Arg := [.val (.v false [.sl (.lnt 0) .val a0]), .val (.v false [.int .i64 a1])]
def laws_markValueS_ro (r : Int × (List Val)) : CallO := ⟨.v false [.int .i64 r.1], [], [.sl (.lnt 0) .val r.2]⟩
def laws_markValueS_b2 (N : Nat) (rc_laws_markValueS : (List Val) → Int → Option (Int × (List Val))) : Nat → (List Val) → Int → Int → Option (Int × (List Val))
  | 0, _, _, _ => none
  | n + 1, x0, x1, x5 =>
    bif (decide ((x5 : Int) < (List.length x0 : Int))) then (
      if (0 : Int) ≤ x5 ∧ x5 < (List.length x0) then
      if (0 : Int) ≤ x5 ∧ x5 < (List.length (List.set x0 (Int.toNat x5) (Val.mk x1 (Val.n (List.getD x0 (Int.toNat x5) Ty.val.dflt)) (Val.step (List.getD x0 (Int.toNat x5) Ty.val.dflt)) (Val.text (List.getD x0 (Int.toNat x5) Ty.val.dflt)) (Val.list (List.getD x0 (Int.toNat x5) Ty.val.dflt)) (Val.columns (List.getD x0 (Int.toNat x5) Ty.val.dflt)) (Val.rows (List.getD x0 (Int.toNat x5) Ty.val.dflt))))) then
      if (0 : Int) ≤ x5 ∧ x5 < (List.length ((fun (z40 : List Val) => List.set z40 (Int.toNat x5) (Val.mk (Val.kind (List.getD z40 (Int.toNat x5) Ty.val.dflt)) (IntKind.i64.wrap (x1 + 1)) (Val.step (List.getD z40 (Int.toNat x5) Ty.val.dflt)) (Val.text (List.getD z40 (Int.toNat x5) Ty.val.dflt)) (Val.list (List.getD z40 (Int.toNat x5) Ty.val.dflt)) (Val.columns (List.getD z40 (Int.toNat x5) Ty.val.dflt)) (Val.rows (List.getD z40 (Int.toNat x5) Ty.val.dflt)))) (List.set x0 (Int.toNat x5) (Val.mk x1 (Val.n (List.getD x0 (Int.toNat x5) Ty.val.dflt)) (Val.step (List.getD x0 (Int.toNat x5) Ty.val.dflt)) (Val.text (List.getD x0 (Int.toNat x5) Ty.val.dflt)) (Val.list (List.getD x0 (Int.toNat x5) Ty.val.dflt)) (Val.columns (List.getD x0 (Int.toNat x5) Ty.val.dflt)) (Val.rows (List.getD x0 (Int.toNat x5) Ty.val.dflt)))))) then
      Option.bind (laws_markText N (IntKind.i64.wrap ((IntKind.i64.wrap ((IntKind.i64.wrap (x1 + 1)) + 1)) + 1))) fun r1 =>
      if (0 : Int) ≤ x5 ∧ x5 < (List.length ((fun (z41 : List Val) => List.set z41 (Int.toNat x5) (Val.mk (Val.kind (List.getD z41 (Int.toNat x5) Ty.val.dflt)) (Val.n (List.getD z41 (Int.toNat x5) Ty.val.dflt)) (IntKind.i64.wrap ((IntKind.i64.wrap (x1 + 1)) + 1)) (Val.text (List.getD z41 (Int.toNat x5) Ty.val.dflt)) (Val.list (List.getD z41 (Int.toNat x5) Ty.val.dflt)) (Val.columns (List.getD z41 (Int.toNat x5) Ty.val.dflt)) (Val.rows (List.getD z41 (Int.toNat x5) Ty.val.dflt)))) ((fun (z40 : List Val) => List.set z40 (Int.toNat x5) (Val.mk (Val.kind (List.getD z40 (Int.toNat x5) Ty.val.dflt)) (IntKind.i64.wrap (x1 + 1)) (Val.step (List.getD z40 (Int.toNat x5) Ty.val.dflt)) (Val.text (List.getD z40 (Int.toNat x5) Ty.val.dflt)) (Val.list (List.getD z40 (Int.toNat x5) Ty.val.dflt)) (Val.columns (List.getD z40 (Int.toNat x5) Ty.val.dflt)) (Val.rows (List.getD z40 (Int.toNat x5) Ty.val.dflt)))) (List.set x0 (Int.toNat x5) (Val.mk x1 (Val.n (List.getD x0 (Int.toNat x5) Ty.val.dflt)) (Val.step (List.getD x0 (Int.toNat x5) Ty.val.dflt)) (Val.text (List.getD x0 (Int.toNat x5) Ty.val.dflt)) (Val.list (List.getD x0 (Int.toNat x5) Ty.val.dflt)) (Val.columns (List.getD x0 (Int.toNat x5) Ty.val.dflt)) (Val.rows (List.getD x0 (Int.toNat x5) Ty.val.dflt))))))) then
      if (0 : Int) ≤ x5 ∧ x5 < (List.length ((fun (z42 : List Val) => List.set z42 (Int.toNat x5) (Val.mk (Val.kind (List.getD z42 (Int.toNat x5) Ty.val.dflt)) (Val.n (List.getD z42 (Int.toNat x5) Ty.val.dflt)) (Val.step (List.getD z42 (Int.toNat x5) Ty.val.dflt)) r1 (Val.list (List.getD z42 (Int.toNat x5) Ty.val.dflt)) (Val.columns (List.getD z42 (Int.toNat x5) Ty.val.dflt)) (Val.rows (List.getD z42 (Int.toNat x5) Ty.val.dflt)))) ((fun (z41 : List Val) => List.set z41 (Int.toNat x5) (Val.mk (Val.kind (List.getD z41 (Int.toNat x5) Ty.val.dflt)) (Val.n (List.getD z41 (Int.toNat x5) Ty.val.dflt)) (IntKind.i64.wrap ((IntKind.i64.wrap (x1 + 1)) + 1)) (Val.text (List.getD z41 (Int.toNat x5) Ty.val.dflt)) (Val.list (List.getD z41 (Int.toNat x5) Ty.val.dflt)) (Val.columns (List.getD z41 (Int.toNat x5) Ty.val.dflt)) (Val.rows (List.getD z41 (Int.toNat x5) Ty.val.dflt)))) ((fun (z40 : List Val) => List.set z40 (Int.toNat x5) (Val.mk (Val.kind (List.getD z40 (Int.toNat x5) Ty.val.dflt)) (IntKind.i64.wrap (x1 + 1)) (Val.step (List.getD z40 (Int.toNat x5) Ty.val.dflt)) (Val.text (List.getD z40 (Int.toNat x5) Ty.val.dflt)) (Val.list (List.getD z40 (Int.toNat x5) Ty.val.dflt)) (Val.columns (List.getD z40 (Int.toNat x5) Ty.val.dflt)) (Val.rows (List.getD z40 (Int.toNat x5) Ty.val.dflt)))) (List.set x0 (Int.toNat x5) (Val.mk x1 (Val.n (List.getD x0 (Int.toNat x5) Ty.val.dflt)) (Val.step (List.getD x0 (Int.toNat x5) Ty.val.dflt)) (Val.text (List.getD x0 (Int.toNat x5) Ty.val.dflt)) (Val.list (List.getD x0 (Int.toNat x5) Ty.val.dflt)) (Val.columns (List.getD x0 (Int.toNat x5) Ty.val.dflt)) (Val.rows (List.getD x0 (Int.toNat x5) Ty.val.dflt)))))))) then
      Option.bind (rc_laws_markValueS (Val.list (List.getD ((fun (z42 : List Val) => List.set z42 (Int.toNat x5) (Val.mk (Val.kind (List.getD z42 (Int.toNat x5) Ty.val.dflt)) (Val.n (List.getD z42 (Int.toNat x5) Ty.val.dflt)) (Val.step (List.getD z42 (Int.toNat x5) Ty.val.dflt)) r1 (Val.list (List.getD z42 (Int.toNat x5) Ty.val.dflt)) (Val.columns (List.getD z42 (Int.toNat x5) Ty.val.dflt)) (Val.rows (List.getD z42 (Int.toNat x5) Ty.val.dflt)))) ((fun (z41 : List Val) => List.set z41 (Int.toNat x5) (Val.mk (Val.kind (List.getD z41 (Int.toNat x5) Ty.val.dflt)) (Val.n (List.getD z41 (Int.toNat x5) Ty.val.dflt)) (IntKind.i64.wrap ((IntKind.i64.wrap (x1 + 1)) + 1)) (Val.text (List.getD z41 (Int.toNat x5) Ty.val.dflt)) (Val.list (List.getD z41 (Int.toNat x5) Ty.val.dflt)) (Val.columns (List.getD z41 (Int.toNat x5) Ty.val.dflt)) (Val.rows (List.getD z41 (Int.toNat x5) Ty.val.dflt)))) ((fun (z40 : List Val) => List.set z40 (Int.toNat x5) (Val.mk (Val.kind (List.getD z40 (Int.toNat x5) Ty.val.dflt)) (IntKind.i64.wrap (x1 + 1)) (Val.step (List.getD z40 (Int.toNat x5) Ty.val.dflt)) (Val.text (List.getD z40 (Int.toNat x5) Ty.val.dflt)) (Val.list (List.getD z40 (Int.toNat x5) Ty.val.dflt)) (Val.columns (List.getD z40 (Int.toNat x5) Ty.val.dflt)) (Val.rows (List.getD z40 (Int.toNat x5) Ty.val.dflt)))) (List.set x0 (Int.toNat x5) (Val.mk x1 (Val.n (List.getD x0 (Int.toNat x5) Ty.val.dflt)) (Val.step (List.getD x0 (Int.toNat x5) Ty.val.dflt)) (Val.text (List.getD x0 (Int.toNat x5) Ty.val.dflt)) (Val.list (List.getD x0 (Int.toNat x5) Ty.val.dflt)) (Val.columns (List.getD x0 (Int.toNat x5) Ty.val.dflt)) (Val.rows (List.getD x0 (Int.toNat x5) Ty.val.dflt))))))) (Int.toNat x5) Ty.val.dflt)) (IntKind.i64.wrap ((IntKind.i64.wrap ((IntKind.i64.wrap ((IntKind.i64.wrap (x1 + 1)) + 1)) + 1)) + 1))) fun r2 =>
      if List.length r2.2 = List.length (Val.list (List.getD ((fun (z42 : List Val) => List.set z42 (Int.toNat x5) (Val.mk (Val.kind (List.getD z42 (Int.toNat x5) Ty.val.dflt)) (Val.n (List.getD z42 (Int.toNat x5) Ty.val.dflt)) (Val.step (List.getD z42 (Int.toNat x5) Ty.val.dflt)) r1 (Val.list (List.getD z42 (Int.toNat x5) Ty.val.dflt)) (Val.columns (List.getD z42 (Int.toNat x5) Ty.val.dflt)) (Val.rows (List.getD z42 (Int.toNat x5) Ty.val.dflt)))) ((fun (z41 : List Val) => List.set z41 (Int.toNat x5) (Val.mk (Val.kind (List.getD z41 (Int.toNat x5) Ty.val.dflt)) (Val.n (List.getD z41 (Int.toNat x5) Ty.val.dflt)) (IntKind.i64.wrap ((IntKind.i64.wrap (x1 + 1)) + 1)) (Val.text (List.getD z41 (Int.toNat x5) Ty.val.dflt)) (Val.list (List.getD z41 (Int.toNat x5) Ty.val.dflt)) (Val.columns (List.getD z41 (Int.toNat x5) Ty.val.dflt)) (Val.rows (List.getD z41 (Int.toNat x5) Ty.val.dflt)))) ((fun (z40 : List Val) => List.set z40 (Int.toNat x5) (Val.mk (Val.kind (List.getD z40 (Int.toNat x5) Ty.val.dflt)) (IntKind.i64.wrap (x1 + 1)) (Val.step (List.getD z40 (Int.toNat x5) Ty.val.dflt)) (Val.text (List.getD z40 (Int.toNat x5) Ty.val.dflt)) (Val.list (List.getD z40 (Int.toNat x5) Ty.val.dflt)) (Val.columns (List.getD z40 (Int.toNat x5) Ty.val.dflt)) (Val.rows (List.getD z40 (Int.toNat x5) Ty.val.dflt)))) (List.set x0 (Int.toNat x5) (Val.mk x1 (Val.n (List.getD x0 (Int.toNat x5) Ty.val.dflt)) (Val.step (List.getD x0 (Int.toNat x5) Ty.val.dflt)) (Val.text (List.getD x0 (Int.toNat x5) Ty.val.dflt)) (Val.list (List.getD x0 (Int.toNat x5) Ty.val.dflt)) (Val.columns (List.getD x0 (Int.toNat x5) Ty.val.dflt)) (Val.rows (List.getD x0 (Int.toNat x5) Ty.val.dflt))))))) (Int.toNat x5) Ty.val.dflt)) then
      if (0 : Int) ≤ x5 ∧ x5 < (List.length ((fun (z43 : List Val) => List.set z43 (Int.toNat x5) (Val.mk (Val.kind (List.getD z43 (Int.toNat x5) Ty.val.dflt)) (Val.n (List.getD z43 (Int.toNat x5) Ty.val.dflt)) (Val.step (List.getD z43 (Int.toNat x5) Ty.val.dflt)) (Val.text (List.getD z43 (Int.toNat x5) Ty.val.dflt)) r2.2 (Val.columns (List.getD z43 (Int.toNat x5) Ty.val.dflt)) (Val.rows (List.getD z43 (Int.toNat x5) Ty.val.dflt)))) ((fun (z42 : List Val) => List.set z42 (Int.toNat x5) (Val.mk (Val.kind (List.getD z42 (Int.toNat x5) Ty.val.dflt)) (Val.n (List.getD z42 (Int.toNat x5) Ty.val.dflt)) (Val.step (List.getD z42 (Int.toNat x5) Ty.val.dflt)) r1 (Val.list (List.getD z42 (Int.toNat x5) Ty.val.dflt)) (Val.columns (List.getD z42 (Int.toNat x5) Ty.val.dflt)) (Val.rows (List.getD z42 (Int.toNat x5) Ty.val.dflt)))) ((fun (z41 : List Val) => List.set z41 (Int.toNat x5) (Val.mk (Val.kind (List.getD z41 (Int.toNat x5) Ty.val.dflt)) (Val.n (List.getD z41 (Int.toNat x5) Ty.val.dflt)) (IntKind.i64.wrap ((IntKind.i64.wrap (x1 + 1)) + 1)) (Val.text (List.getD z41 (Int.toNat x5) Ty.val.dflt)) (Val.list (List.getD z41 (Int.toNat x5) Ty.val.dflt)) (Val.columns (List.getD z41 (Int.toNat x5) Ty.val.dflt)) (Val.rows (List.getD z41 (Int.toNat x5) Ty.val.dflt)))) ((fun (z40 : List Val) => List.set z40 (Int.toNat x5) (Val.mk (Val.kind (List.getD z40 (Int.toNat x5) Ty.val.dflt)) (IntKind.i64.wrap (x1 + 1)) (Val.step (List.getD z40 (Int.toNat x5) Ty.val.dflt)) (Val.text (List.getD z40 (Int.toNat x5) Ty.val.dflt)) (Val.list (List.getD z40 (Int.toNat x5) Ty.val.dflt)) (Val.columns (List.getD z40 (Int.toNat x5) Ty.val.dflt)) (Val.rows (List.getD z40 (Int.toNat x5) Ty.val.dflt)))) (List.set x0 (Int.toNat x5) (Val.mk x1 (Val.n (List.getD x0 (Int.toNat x5) Ty.val.dflt)) (Val.step (List.getD x0 (Int.toNat x5) Ty.val.dflt)) (Val.text (List.getD x0 (Int.toNat x5) Ty.val.dflt)) (Val.list (List.getD x0 (Int.toNat x5) Ty.val.dflt)) (Val.columns (List.getD x0 (Int.toNat x5) Ty.val.dflt)) (Val.rows (List.getD x0 (Int.toNat x5) Ty.val.dflt))))))))) then
      Option.bind (laws_markStringS N (Val.columns (List.getD ((fun (z43 : List Val) => List.set z43 (Int.toNat x5) (Val.mk (Val.kind (List.getD z43 (Int.toNat x5) Ty.val.dflt)) (Val.n (List.getD z43 (Int.toNat x5) Ty.val.dflt)) (Val.step (List.getD z43 (Int.toNat x5) Ty.val.dflt)) (Val.text (List.getD z43 (Int.toNat x5) Ty.val.dflt)) r2.2 (Val.columns (List.getD z43 (Int.toNat x5) Ty.val.dflt)) (Val.rows (List.getD z43 (Int.toNat x5) Ty.val.dflt)))) ((fun (z42 : List Val) => List.set z42 (Int.toNat x5) (Val.mk (Val.kind (List.getD z42 (Int.toNat x5) Ty.val.dflt)) (Val.n (List.getD z42 (Int.toNat x5) Ty.val.dflt)) (Val.step (List.getD z42 (Int.toNat x5) Ty.val.dflt)) r1 (Val.list (List.getD z42 (Int.toNat x5) Ty.val.dflt)) (Val.columns (List.getD z42 (Int.toNat x5) Ty.val.dflt)) (Val.rows (List.getD z42 (Int.toNat x5) Ty.val.dflt)))) ((fun (z41 : List Val) => List.set z41 (Int.toNat x5) (Val.mk (Val.kind (List.getD z41 (Int.toNat x5) Ty.val.dflt)) (Val.n (List.getD z41 (Int.toNat x5) Ty.val.dflt)) (IntKind.i64.wrap ((IntKind.i64.wrap (x1 + 1)) + 1)) (Val.text (List.getD z41 (Int.toNat x5) Ty.val.dflt)) (Val.list (List.getD z41 (Int.toNat x5) Ty.val.dflt)) (Val.columns (List.getD z41 (Int.toNat x5) Ty.val.dflt)) (Val.rows (List.getD z41 (Int.toNat x5) Ty.val.dflt)))) ((fun (z40 : List Val) => List.set z40 (Int.toNat x5) (Val.mk (Val.kind (List.getD z40 (Int.toNat x5) Ty.val.dflt)) (IntKind.i64.wrap (x1 + 1)) (Val.step (List.getD z40 (Int.toNat x5) Ty.val.dflt)) (Val.text (List.getD z40 (Int.toNat x5) Ty.val.dflt)) (Val.list (List.getD z40 (Int.toNat x5) Ty.val.dflt)) (Val.columns (List.getD z40 (Int.toNat x5) Ty.val.dflt)) (Val.rows (List.getD z40 (Int.toNat x5) Ty.val.dflt)))) (List.set x0 (Int.toNat x5) (Val.mk x1 (Val.n (List.getD x0 (Int.toNat x5) Ty.val.dflt)) (Val.step (List.getD x0 (Int.toNat x5) Ty.val.dflt)) (Val.text (List.getD x0 (Int.toNat x5) Ty.val.dflt)) (Val.list (List.getD x0 (Int.toNat x5) Ty.val.dflt)) (Val.columns (List.getD x0 (Int.toNat x5) Ty.val.dflt)) (Val.rows (List.getD x0 (Int.toNat x5) Ty.val.dflt)))))))) (Int.toNat x5) Ty.val.dflt)) r2.1) fun r3 =>
      if List.length r3.2 = List.length (Val.columns (List.getD ((fun (z43 : List Val) => List.set z43 (Int.toNat x5) (Val.mk (Val.kind (List.getD z43 (Int.toNat x5) Ty.val.dflt)) (Val.n (List.getD z43 (Int.toNat x5) Ty.val.dflt)) (Val.step (List.getD z43 (Int.toNat x5) Ty.val.dflt)) (Val.text (List.getD z43 (Int.toNat x5) Ty.val.dflt)) r2.2 (Val.columns (List.getD z43 (Int.toNat x5) Ty.val.dflt)) (Val.rows (List.getD z43 (Int.toNat x5) Ty.val.dflt)))) ((fun (z42 : List Val) => List.set z42 (Int.toNat x5) (Val.mk (Val.kind (List.getD z42 (Int.toNat x5) Ty.val.dflt)) (Val.n (List.getD z42 (Int.toNat x5) Ty.val.dflt)) (Val.step (List.getD z42 (Int.toNat x5) Ty.val.dflt)) r1 (Val.list (List.getD z42 (Int.toNat x5) Ty.val.dflt)) (Val.columns (List.getD z42 (Int.toNat x5) Ty.val.dflt)) (Val.rows (List.getD z42 (Int.toNat x5) Ty.val.dflt)))) ((fun (z41 : List Val) => List.set z41 (Int.toNat x5) (Val.mk (Val.kind (List.getD z41 (Int.toNat x5) Ty.val.dflt)) (Val.n (List.getD z41 (Int.toNat x5) Ty.val.dflt)) (IntKind.i64.wrap ((IntKind.i64.wrap (x1 + 1)) + 1)) (Val.text (List.getD z41 (Int.toNat x5) Ty.val.dflt)) (Val.list (List.getD z41 (Int.toNat x5) Ty.val.dflt)) (Val.columns (List.getD z41 (Int.toNat x5) Ty.val.dflt)) (Val.rows (List.getD z41 (Int.toNat x5) Ty.val.dflt)))) ((fun (z40 : List Val) => List.set z40 (Int.toNat x5) (Val.mk (Val.kind (List.getD z40 (Int.toNat x5) Ty.val.dflt)) (IntKind.i64.wrap (x1 + 1)) (Val.step (List.getD z40 (Int.toNat x5) Ty.val.dflt)) (Val.text (List.getD z40 (Int.toNat x5) Ty.val.dflt)) (Val.list (List.getD z40 (Int.toNat x5) Ty.val.dflt)) (Val.columns (List.getD z40 (Int.toNat x5) Ty.val.dflt)) (Val.rows (List.getD z40 (Int.toNat x5) Ty.val.dflt)))) (List.set x0 (Int.toNat x5) (Val.mk x1 (Val.n (List.getD x0 (Int.toNat x5) Ty.val.dflt)) (Val.step (List.getD x0 (Int.toNat x5) Ty.val.dflt)) (Val.text (List.getD x0 (Int.toNat x5) Ty.val.dflt)) (Val.list (List.getD x0 (Int.toNat x5) Ty.val.dflt)) (Val.columns (List.getD x0 (Int.toNat x5) Ty.val.dflt)) (Val.rows (List.getD x0 (Int.toNat x5) Ty.val.dflt)))))))) (Int.toNat x5) Ty.val.dflt)) then
      if (0 : Int) ≤ x5 ∧ x5 < (List.length ((fun (z44 : List Val) => List.set z44 (Int.toNat x5) (Val.mk (Val.kind (List.getD z44 (Int.toNat x5) Ty.val.dflt)) (Val.n (List.getD z44 (Int.toNat x5) Ty.val.dflt)) (Val.step (List.getD z44 (Int.toNat x5) Ty.val.dflt)) (Val.text (List.getD z44 (Int.toNat x5) Ty.val.dflt)) (Val.list (List.getD z44 (Int.toNat x5) Ty.val.dflt)) r3.2 (Val.rows (List.getD z44 (Int.toNat x5) Ty.val.dflt)))) ((fun (z43 : List Val) => List.set z43 (Int.toNat x5) (Val.mk (Val.kind (List.getD z43 (Int.toNat x5) Ty.val.dflt)) (Val.n (List.getD z43 (Int.toNat x5) Ty.val.dflt)) (Val.step (List.getD z43 (Int.toNat x5) Ty.val.dflt)) (Val.text (List.getD z43 (Int.toNat x5) Ty.val.dflt)) r2.2 (Val.columns (List.getD z43 (Int.toNat x5) Ty.val.dflt)) (Val.rows (List.getD z43 (Int.toNat x5) Ty.val.dflt)))) ((fun (z42 : List Val) => List.set z42 (Int.toNat x5) (Val.mk (Val.kind (List.getD z42 (Int.toNat x5) Ty.val.dflt)) (Val.n (List.getD z42 (Int.toNat x5) Ty.val.dflt)) (Val.step (List.getD z42 (Int.toNat x5) Ty.val.dflt)) r1 (Val.list (List.getD z42 (Int.toNat x5) Ty.val.dflt)) (Val.columns (List.getD z42 (Int.toNat x5) Ty.val.dflt)) (Val.rows (List.getD z42 (Int.toNat x5) Ty.val.dflt)))) ((fun (z41 : List Val) => List.set z41 (Int.toNat x5) (Val.mk (Val.kind (List.getD z41 (Int.toNat x5) Ty.val.dflt)) (Val.n (List.getD z41 (Int.toNat x5) Ty.val.dflt)) (IntKind.i64.wrap ((IntKind.i64.wrap (x1 + 1)) + 1)) (Val.text (List.getD z41 (Int.toNat x5) Ty.val.dflt)) (Val.list (List.getD z41 (Int.toNat x5) Ty.val.dflt)) (Val.columns (List.getD z41 (Int.toNat x5) Ty.val.dflt)) (Val.rows (List.getD z41 (Int.toNat x5) Ty.val.dflt)))) ((fun (z40 : List Val) => List.set z40 (Int.toNat x5) (Val.mk (Val.kind (List.getD z40 (Int.toNat x5) Ty.val.dflt)) (IntKind.i64.wrap (x1 + 1)) (Val.step (List.getD z40 (Int.toNat x5) Ty.val.dflt)) (Val.text (List.getD z40 (Int.toNat x5) Ty.val.dflt)) (Val.list (List.getD z40 (Int.toNat x5) Ty.val.dflt)) (Val.columns (List.getD z40 (Int.toNat x5) Ty.val.dflt)) (Val.rows (List.getD z40 (Int.toNat x5) Ty.val.dflt)))) (List.set x0 (Int.toNat x5) (Val.mk x1 (Val.n (List.getD x0 (Int.toNat x5) Ty.val.dflt)) (Val.step (List.getD x0 (Int.toNat x5) Ty.val.dflt)) (Val.text (List.getD x0 (Int.toNat x5) Ty.val.dflt)) (Val.list (List.getD x0 (Int.toNat x5) Ty.val.dflt)) (Val.columns (List.getD x0 (Int.toNat x5) Ty.val.dflt)) (Val.rows (List.getD x0 (Int.toNat x5) Ty.val.dflt)))))))))) then
      Option.bind (laws_markRowS N (Val.rows (List.getD ((fun (z44 : List Val) => List.set z44 (Int.toNat x5) (Val.mk (Val.kind (List.getD z44 (Int.toNat x5) Ty.val.dflt)) (Val.n (List.getD z44 (Int.toNat x5) Ty.val.dflt)) (Val.step (List.getD z44 (Int.toNat x5) Ty.val.dflt)) (Val.text (List.getD z44 (Int.toNat x5) Ty.val.dflt)) (Val.list (List.getD z44 (Int.toNat x5) Ty.val.dflt)) r3.2 (Val.rows (List.getD z44 (Int.toNat x5) Ty.val.dflt)))) ((fun (z43 : List Val) => List.set z43 (Int.toNat x5) (Val.mk (Val.kind (List.getD z43 (Int.toNat x5) Ty.val.dflt)) (Val.n (List.getD z43 (Int.toNat x5) Ty.val.dflt)) (Val.step (List.getD z43 (Int.toNat x5) Ty.val.dflt)) (Val.text (List.getD z43 (Int.toNat x5) Ty.val.dflt)) r2.2 (Val.columns (List.getD z43 (Int.toNat x5) Ty.val.dflt)) (Val.rows (List.getD z43 (Int.toNat x5) Ty.val.dflt)))) ((fun (z42 : List Val) => List.set z42 (Int.toNat x5) (Val.mk (Val.kind (List.getD z42 (Int.toNat x5) Ty.val.dflt)) (Val.n (List.getD z42 (Int.toNat x5) Ty.val.dflt)) (Val.step (List.getD z42 (Int.toNat x5) Ty.val.dflt)) r1 (Val.list (List.getD z42 (Int.toNat x5) Ty.val.dflt)) (Val.columns (List.getD z42 (Int.toNat x5) Ty.val.dflt)) (Val.rows (List.getD z42 (Int.toNat x5) Ty.val.dflt)))) ((fun (z41 : List Val) => List.set z41 (Int.toNat x5) (Val.mk (Val.kind (List.getD z41 (Int.toNat x5) Ty.val.dflt)) (Val.n (List.getD z41 (Int.toNat x5) Ty.val.dflt)) (IntKind.i64.wrap ((IntKind.i64.wrap (x1 + 1)) + 1)) (Val.text (List.getD z41 (Int.toNat x5) Ty.val.dflt)) (Val.list (List.getD z41 (Int.toNat x5) Ty.val.dflt)) (Val.columns (List.getD z41 (Int.toNat x5) Ty.val.dflt)) (Val.rows (List.getD z41 (Int.toNat x5) Ty.val.dflt)))) ((fun (z40 : List Val) => List.set z40 (Int.toNat x5) (Val.mk (Val.kind (List.getD z40 (Int.toNat x5) Ty.val.dflt)) (IntKind.i64.wrap (x1 + 1)) (Val.step (List.getD z40 (Int.toNat x5) Ty.val.dflt)) (Val.text (List.getD z40 (Int.toNat x5) Ty.val.dflt)) (Val.list (List.getD z40 (Int.toNat x5) Ty.val.dflt)) (Val.columns (List.getD z40 (Int.toNat x5) Ty.val.dflt)) (Val.rows (List.getD z40 (Int.toNat x5) Ty.val.dflt)))) (List.set x0 (Int.toNat x5) (Val.mk x1 (Val.n (List.getD x0 (Int.toNat x5) Ty.val.dflt)) (Val.step (List.getD x0 (Int.toNat x5) Ty.val.dflt)) (Val.text (List.getD x0 (Int.toNat x5) Ty.val.dflt)) (Val.list (List.getD x0 (Int.toNat x5) Ty.val.dflt)) (Val.columns (List.getD x0 (Int.toNat x5) Ty.val.dflt)) (Val.rows (List.getD x0 (Int.toNat x5) Ty.val.dflt))))))))) (Int.toNat x5) Ty.val.dflt)) r3.1) fun r4 =>
      if List.length r4.2 = List.length (Val.rows (List.getD ((fun (z44 : List Val) => List.set z44 (Int.toNat x5) (Val.mk (Val.kind (List.getD z44 (Int.toNat x5) Ty.val.dflt)) (Val.n (List.getD z44 (Int.toNat x5) Ty.val.dflt)) (Val.step (List.getD z44 (Int.toNat x5) Ty.val.dflt)) (Val.text (List.getD z44 (Int.toNat x5) Ty.val.dflt)) (Val.list (List.getD z44 (Int.toNat x5) Ty.val.dflt)) r3.2 (Val.rows (List.getD z44 (Int.toNat x5) Ty.val.dflt)))) ((fun (z43 : List Val) => List.set z43 (Int.toNat x5) (Val.mk (Val.kind (List.getD z43 (Int.toNat x5) Ty.val.dflt)) (Val.n (List.getD z43 (Int.toNat x5) Ty.val.dflt)) (Val.step (List.getD z43 (Int.toNat x5) Ty.val.dflt)) (Val.text (List.getD z43 (Int.toNat x5) Ty.val.dflt)) r2.2 (Val.columns (List.getD z43 (Int.toNat x5) Ty.val.dflt)) (Val.rows (List.getD z43 (Int.toNat x5) Ty.val.dflt)))) ((fun (z42 : List Val) => List.set z42 (Int.toNat x5) (Val.mk (Val.kind (List.getD z42 (Int.toNat x5) Ty.val.dflt)) (Val.n (List.getD z42 (Int.toNat x5) Ty.val.dflt)) (Val.step (List.getD z42 (Int.toNat x5) Ty.val.dflt)) r1 (Val.list (List.getD z42 (Int.toNat x5) Ty.val.dflt)) (Val.columns (List.getD z42 (Int.toNat x5) Ty.val.dflt)) (Val.rows (List.getD z42 (Int.toNat x5) Ty.val.dflt)))) ((fun (z41 : List Val) => List.set z41 (Int.toNat x5) (Val.mk (Val.kind (List.getD z41 (Int.toNat x5) Ty.val.dflt)) (Val.n (List.getD z41 (Int.toNat x5) Ty.val.dflt)) (IntKind.i64.wrap ((IntKind.i64.wrap (x1 + 1)) + 1)) (Val.text (List.getD z41 (Int.toNat x5) Ty.val.dflt)) (Val.list (List.getD z41 (Int.toNat x5) Ty.val.dflt)) (Val.columns (List.getD z41 (Int.toNat x5) Ty.val.dflt)) (Val.rows (List.getD z41 (Int.toNat x5) Ty.val.dflt)))) ((fun (z40 : List Val) => List.set z40 (Int.toNat x5) (Val.mk (Val.kind (List.getD z40 (Int.toNat x5) Ty.val.dflt)) (IntKind.i64.wrap (x1 + 1)) (Val.step (List.getD z40 (Int.toNat x5) Ty.val.dflt)) (Val.text (List.getD z40 (Int.toNat x5) Ty.val.dflt)) (Val.list (List.getD z40 (Int.toNat x5) Ty.val.dflt)) (Val.columns (List.getD z40 (Int.toNat x5) Ty.val.dflt)) (Val.rows (List.getD z40 (Int.toNat x5) Ty.val.dflt)))) (List.set x0 (Int.toNat x5) (Val.mk x1 (Val.n (List.getD x0 (Int.toNat x5) Ty.val.dflt)) (Val.step (List.getD x0 (Int.toNat x5) Ty.val.dflt)) (Val.text (List.getD x0 (Int.toNat x5) Ty.val.dflt)) (Val.list (List.getD x0 (Int.toNat x5) Ty.val.dflt)) (Val.columns (List.getD x0 (Int.toNat x5) Ty.val.dflt)) (Val.rows (List.getD x0 (Int.toNat x5) Ty.val.dflt))))))))) (Int.toNat x5) Ty.val.dflt)) then
      (laws_markValueS_b2 N rc_laws_markValueS n ((fun (z45 : List Val) => List.set z45 (Int.toNat x5) (Val.mk (Val.kind (List.getD z45 (Int.toNat x5) Ty.val.dflt)) (Val.n (List.getD z45 (Int.toNat x5) Ty.val.dflt)) (Val.step (List.getD z45 (Int.toNat x5) Ty.val.dflt)) (Val.text (List.getD z45 (Int.toNat x5) Ty.val.dflt)) (Val.list (List.getD z45 (Int.toNat x5) Ty.val.dflt)) (Val.columns (List.getD z45 (Int.toNat x5) Ty.val.dflt)) r4.2)) ((fun (z44 : List Val) => List.set z44 (Int.toNat x5) (Val.mk (Val.kind (List.getD z44 (Int.toNat x5) Ty.val.dflt)) (Val.n (List.getD z44 (Int.toNat x5) Ty.val.dflt)) (Val.step (List.getD z44 (Int.toNat x5) Ty.val.dflt)) (Val.text (List.getD z44 (Int.toNat x5) Ty.val.dflt)) (Val.list (List.getD z44 (Int.toNat x5) Ty.val.dflt)) r3.2 (Val.rows (List.getD z44 (Int.toNat x5) Ty.val.dflt)))) ((fun (z43 : List Val) => List.set z43 (Int.toNat x5) (Val.mk (Val.kind (List.getD z43 (Int.toNat x5) Ty.val.dflt)) (Val.n (List.getD z43 (Int.toNat x5) Ty.val.dflt)) (Val.step (List.getD z43 (Int.toNat x5) Ty.val.dflt)) (Val.text (List.getD z43 (Int.toNat x5) Ty.val.dflt)) r2.2 (Val.columns (List.getD z43 (Int.toNat x5) Ty.val.dflt)) (Val.rows (List.getD z43 (Int.toNat x5) Ty.val.dflt)))) ((fun (z42 : List Val) => List.set z42 (Int.toNat x5) (Val.mk (Val.kind (List.getD z42 (Int.toNat x5) Ty.val.dflt)) (Val.n (List.getD z42 (Int.toNat x5) Ty.val.dflt)) (Val.step (List.getD z42 (Int.toNat x5) Ty.val.dflt)) r1 (Val.list (List.getD z42 (Int.toNat x5) Ty.val.dflt)) (Val.columns (List.getD z42 (Int.toNat x5) Ty.val.dflt)) (Val.rows (List.getD z42 (Int.toNat x5) Ty.val.dflt)))) ((fun (z41 : List Val) => List.set z41 (Int.toNat x5) (Val.mk (Val.kind (List.getD z41 (Int.toNat x5) Ty.val.dflt)) (Val.n (List.getD z41 (Int.toNat x5) Ty.val.dflt)) (IntKind.i64.wrap ((IntKind.i64.wrap (x1 + 1)) + 1)) (Val.text (List.getD z41 (Int.toNat x5) Ty.val.dflt)) (Val.list (List.getD z41 (Int.toNat x5) Ty.val.dflt)) (Val.columns (List.getD z41 (Int.toNat x5) Ty.val.dflt)) (Val.rows (List.getD z41 (Int.toNat x5) Ty.val.dflt)))) ((fun (z40 : List Val) => List.set z40 (Int.toNat x5) (Val.mk (Val.kind (List.getD z40 (Int.toNat x5) Ty.val.dflt)) (IntKind.i64.wrap (x1 + 1)) (Val.step (List.getD z40 (Int.toNat x5) Ty.val.dflt)) (Val.text (List.getD z40 (Int.toNat x5) Ty.val.dflt)) (Val.list (List.getD z40 (Int.toNat x5) Ty.val.dflt)) (Val.columns (List.getD z40 (Int.toNat x5) Ty.val.dflt)) (Val.rows (List.getD z40 (Int.toNat x5) Ty.val.dflt)))) (List.set x0 (Int.toNat x5) (Val.mk x1 (Val.n (List.getD x0 (Int.toNat x5) Ty.val.dflt)) (Val.step (List.getD x0 (Int.toNat x5) Ty.val.dflt)) (Val.text (List.getD x0 (Int.toNat x5) Ty.val.dflt)) (Val.list (List.getD x0 (Int.toNat x5) Ty.val.dflt)) (Val.columns (List.getD x0 (Int.toNat x5) Ty.val.dflt)) (Val.rows (List.getD x0 (Int.toNat x5) Ty.val.dflt)))))))))) r4.1 (IntKind.i64.wrap (x5 + 1)))
      else none
      else none
      else none
      else none
      else none
      else none
      else none
      else none
      else none
      else none
    ) else (
      some (x1, x0)
    )
def laws_markValueS_body (N : Nat) (rc_laws_markValueS : (List Val) → Int → Option (Int × (List Val))) (a0 : List Val) (a1 : Int) : Option (Int × (List Val)) :=
  (laws_markValueS_b2 N rc_laws_markValueS N a0 a1 0)
def laws_markValueS_fix (N : Nat) : Nat → (List Val) → Int → Option (Int × (List Val))
  | 0, _, _ => none
  | d + 1, a0, a1 => laws_markValueS_body N (laws_markValueS_fix N d) a0 a1
def laws_markValueS (N : Nat) (a0 : List Val) (a1 : Int) : Option (Int × (List Val)) := laws_markValueS_fix N N a0 a1
def laws_markBindingS_as (a0 : List Bnd) (a1 : Int) : List Arg := [.val (.v false [.sl (.lnt 0) .bnd a0]), .val (.v false [.int .i64 a1])]
def laws_markBindingS_ro (r : Int × (List Bnd)) : CallO := ⟨.v false [.int .i64 r.1], [], [.sl (.lnt 0) .bnd r.2]⟩
def laws_markBindingS_b2 (N : Nat) : Nat → (List Bnd) → Int → Int → Option (Int × (List Bnd))
  | 0, _, _, _ => none
  | n + 1, x0, x1, x5 =>
    bif (decide ((x5 : Int) < (List.length x0 : Int))) then (
      Option.bind (laws_markText N x1) fun r1 =>
      if (0 : Int) ≤ x5 ∧ x5 < (List.length x0) then
      if (0 : Int) ≤ x5 ∧ x5 < (List.length (List.set x0 (Int.toNat x5) (Bnd.mk r1 (Val.re (Bnd.value (List.getD x0 (Int.toNat x5) Ty.bnd.dflt)))))) then
      if (0 : Int) ≤ x5 ∧ x5 < (List.length ((fun (z52 : List Bnd) => List.set z52 (Int.toNat x5) (Bnd.mk (Bnd.name (List.getD z52 (Int.toNat x5) Ty.bnd.dflt)) (Val.mk (IntKind.i64.wrap (x1 + 1)) (Val.n (Bnd.value (List.getD z52 (Int.toNat x5) Ty.bnd.dflt))) (Val.step (Bnd.value (List.getD z52 (Int.toNat x5) Ty.bnd.dflt))) (Val.text (Bnd.value (List.getD z52 (Int.toNat x5) Ty.bnd.dflt))) (Val.list (Bnd.value (List.getD z52 (Int.toNat x5) Ty.bnd.dflt))) (Val.columns (Bnd.value (List.getD z52 (Int.toNat x5) Ty.bnd.dflt))) (Val.rows (Bnd.value (List.getD z52 (Int.toNat x5) Ty.bnd.dflt)))))) (List.set x0 (Int.toNat x5) (Bnd.mk r1 (Val.re (Bnd.value (List.getD x0 (Int.toNat x5) Ty.bnd.dflt))))))) then
      if (0 : Int) ≤ x5 ∧ x5 < (List.length ((fun (z53 : List Bnd) => List.set z53 (Int.toNat x5) (Bnd.mk (Bnd.name (List.getD z53 (Int.toNat x5) Ty.bnd.dflt)) (Val.mk (Val.kind (Bnd.value (List.getD z53 (Int.toNat x5) Ty.bnd.dflt))) (IntKind.i64.wrap ((IntKind.i64.wrap (x1 + 1)) + 1)) (Val.step (Bnd.value (List.getD z53 (Int.toNat x5) Ty.bnd.dflt))) (Val.text (Bnd.value (List.getD z53 (Int.toNat x5) Ty.bnd.dflt))) (Val.list (Bnd.value (List.getD z53 (Int.toNat x5) Ty.bnd.dflt))) (Val.columns (Bnd.value (List.getD z53 (Int.toNat x5) Ty.bnd.dflt))) (Val.rows (Bnd.value (List.getD z53 (Int.toNat x5) Ty.bnd.dflt)))))) ((fun (z52 : List Bnd) => List.set z52 (Int.toNat x5) (Bnd.mk (Bnd.name (List.getD z52 (Int.toNat x5) Ty.bnd.dflt)) (Val.mk (IntKind.i64.wrap (x1 + 1)) (Val.n (Bnd.value (List.getD z52 (Int.toNat x5) Ty.bnd.dflt))) (Val.step (Bnd.value (List.getD z52 (Int.toNat x5) Ty.bnd.dflt))) (Val.text (Bnd.value (List.getD z52 (Int.toNat x5) Ty.bnd.dflt))) (Val.list (Bnd.value (List.getD z52 (Int.toNat x5) Ty.bnd.dflt))) (Val.columns (Bnd.value (List.getD z52 (Int.toNat x5) Ty.bnd.dflt))) (Val.rows (Bnd.value (List.getD z52 (Int.toNat x5) Ty.bnd.dflt)))))) (List.set x0 (Int.toNat x5) (Bnd.mk r1 (Val.re (Bnd.value (List.getD x0 (Int.toNat x5) Ty.bnd.dflt)))))))) then
      Option.bind (laws_markText N (IntKind.i64.wrap ((IntKind.i64.wrap ((IntKind.i64.wrap ((IntKind.i64.wrap (x1 + 1)) + 1)) + 1)) + 1))) fun r2 =>
      if (0 : Int) ≤ x5 ∧ x5 < (List.length ((fun (z54 : List Bnd) => List.set z54 (Int.toNat x5) (Bnd.mk (Bnd.name (List.getD z54 (Int.toNat x5) Ty.bnd.dflt)) (Val.mk (Val.kind (Bnd.value (List.getD z54 (Int.toNat x5) Ty.bnd.dflt))) (Val.n (Bnd.value (List.getD z54 (Int.toNat x5) Ty.bnd.dflt))) (IntKind.i64.wrap ((IntKind.i64.wrap ((IntKind.i64.wrap (x1 + 1)) + 1)) + 1)) (Val.text (Bnd.value (List.getD z54 (Int.toNat x5) Ty.bnd.dflt))) (Val.list (Bnd.value (List.getD z54 (Int.toNat x5) Ty.bnd.dflt))) (Val.columns (Bnd.value (List.getD z54 (Int.toNat x5) Ty.bnd.dflt))) (Val.rows (Bnd.value (List.getD z54 (Int.toNat x5) Ty.bnd.dflt)))))) ((fun (z53 : List Bnd) => List.set z53 (Int.toNat x5) (Bnd.mk (Bnd.name (List.getD z53 (Int.toNat x5) Ty.bnd.dflt)) (Val.mk (Val.kind (Bnd.value (List.getD z53 (Int.toNat x5) Ty.bnd.dflt))) (IntKind.i64.wrap ((IntKind.i64.wrap (x1 + 1)) + 1)) (Val.step (Bnd.value (List.getD z53 (Int.toNat x5) Ty.bnd.dflt))) (Val.text (Bnd.value (List.getD z53 (Int.toNat x5) Ty.bnd.dflt))) (Val.list (Bnd.value (List.getD z53 (Int.toNat x5) Ty.bnd.dflt))) (Val.columns (Bnd.value (List.getD z53 (Int.toNat x5) Ty.bnd.dflt))) (Val.rows (Bnd.value (List.getD z53 (Int.toNat x5) Ty.bnd.dflt)))))) ((fun (z52 : List Bnd) => List.set z52 (Int.toNat x5) (Bnd.mk (Bnd.name (List.getD z52 (Int.toNat x5) Ty.bnd.dflt)) (Val.mk (IntKind.i64.wrap (x1 + 1)) (Val.n (Bnd.value (List.getD z52 (Int.toNat x5) Ty.bnd.dflt))) (Val.step (Bnd.value (List.getD z52 (Int.toNat x5) Ty.bnd.dflt))) (Val.text (Bnd.value (List.getD z52 (Int.toNat x5) Ty.bnd.dflt))) (Val.list (Bnd.value (List.getD z52 (Int.toNat x5) Ty.bnd.dflt))) (Val.columns (Bnd.value (List.getD z52 (Int.toNat x5) Ty.bnd.dflt))) (Val.rows (Bnd.value (List.getD z52 (Int.toNat x5) Ty.bnd.dflt)))))) (List.set x0 (Int.toNat x5) (Bnd.mk r1 (Val.re (Bnd.value (List.getD x0 (Int.toNat x5) Ty.bnd.dflt))))))))) then
      if (0 : Int) ≤ x5 ∧ x5 < (List.length ((fun (z55 : List Bnd) => List.set z55 (Int.toNat x5) (Bnd.mk (Bnd.name (List.getD z55 (Int.toNat x5) Ty.bnd.dflt)) (Val.mk (Val.kind (Bnd.value (List.getD z55 (Int.toNat x5) Ty.bnd.dflt))) (Val.n (Bnd.value (List.getD z55 (Int.toNat x5) Ty.bnd.dflt))) (Val.step (Bnd.value (List.getD z55 (Int.toNat x5) Ty.bnd.dflt))) r2 (Val.list (Bnd.value (List.getD z55 (Int.toNat x5) Ty.bnd.dflt))) (Val.columns (Bnd.value (List.getD z55 (Int.toNat x5) Ty.bnd.dflt))) (Val.rows (Bnd.value (List.getD z55 (Int.toNat x5) Ty.bnd.dflt)))))) ((fun (z54 : List Bnd) => List.set z54 (Int.toNat x5) (Bnd.mk (Bnd.name (List.getD z54 (Int.toNat x5) Ty.bnd.dflt)) (Val.mk (Val.kind (Bnd.value (List.getD z54 (Int.toNat x5) Ty.bnd.dflt))) (Val.n (Bnd.value (List.getD z54 (Int.toNat x5) Ty.bnd.dflt))) (IntKind.i64.wrap ((IntKind.i64.wrap ((IntKind.i64.wrap (x1 + 1)) + 1)) + 1)) (Val.text (Bnd.value (List.getD z54 (Int.toNat x5) Ty.bnd.dflt))) (Val.list (Bnd.value (List.getD z54 (Int.toNat x5) Ty.bnd.dflt))) (Val.columns (Bnd.value (List.getD z54 (Int.toNat x5) Ty.bnd.dflt))) (Val.rows (Bnd.value (List.getD z54 (Int.toNat x5) Ty.bnd.dflt)))))) ((fun (z53 : List Bnd) => List.set z53 (Int.toNat x5) (Bnd.mk (Bnd.name (List.getD z53 (Int.toNat x5) Ty.bnd.dflt)) (Val.mk (Val.kind (Bnd.value (List.getD z53 (Int.toNat x5) Ty.bnd.dflt))) (IntKind.i64.wrap ((IntKind.i64.wrap (x1 + 1)) + 1)) (Val.step (Bnd.value (List.getD z53 (Int.toNat x5) Ty.bnd.dflt))) (Val.text (Bnd.value (List.getD z53 (Int.toNat x5) Ty.bnd.dflt))) (Val.list (Bnd.value (List.getD z53 (Int.toNat x5) Ty.bnd.dflt))) (Val.columns (Bnd.value (List.getD z53 (Int.toNat x5) Ty.bnd.dflt))) (Val.rows (Bnd.value (List.getD z53 (Int.toNat x5) Ty.bnd.dflt)))))) ((fun (z52 : List Bnd) => List.set z52 (Int.toNat x5) (Bnd.mk (Bnd.name (List.getD z52 (Int.toNat x5) Ty.bnd.dflt)) (Val.mk (IntKind.i64.wrap (x1 + 1)) (Val.n (Bnd.value (List.getD z52 (Int.toNat x5) Ty.bnd.dflt))) (Val.step (Bnd.value (List.getD z52 (Int.toNat x5) Ty.bnd.dflt))) (Val.text (Bnd.value (List.getD z52 (Int.toNat x5) Ty.bnd.dflt))) (Val.list (Bnd.value (List.getD z52 (Int.toNat x5) Ty.bnd.dflt))) (Val.columns (Bnd.value (List.getD z52 (Int.toNat x5) Ty.bnd.dflt))) (Val.rows (Bnd.value (List.getD z52 (Int.toNat x5) Ty.bnd.dflt)))))) (List.set x0 (Int.toNat x5) (Bnd.mk r1 (Val.re (Bnd.value (List.getD x0 (Int.toNat x5) Ty.bnd.dflt)))))))))) then
      Option.bind (laws_markValueS N (Val.list (Bnd.value (List.getD ((fun (z55 : List Bnd) => List.set z55 (Int.toNat x5) (Bnd.mk (Bnd.name (List.getD z55 (Int.toNat x5) Ty.bnd.dflt)) (Val.mk (Val.kind (Bnd.value (List.getD z55 (Int.toNat x5) Ty.bnd.dflt))) (Val.n (Bnd.value (List.getD z55 (Int.toNat x5) Ty.bnd.dflt))) (Val.step (Bnd.value (List.getD z55 (Int.toNat x5) Ty.bnd.dflt))) r2 (Val.list (Bnd.value (List.getD z55 (Int.toNat x5) Ty.bnd.dflt))) (Val.columns (Bnd.value (List.getD z55 (Int.toNat x5) Ty.bnd.dflt))) (Val.rows (Bnd.value (List.getD z55 (Int.toNat x5) Ty.bnd.dflt)))))) ((fun (z54 : List Bnd) => List.set z54 (Int.toNat x5) (Bnd.mk (Bnd.name (List.getD z54 (Int.toNat x5) Ty.bnd.dflt)) (Val.mk (Val.kind (Bnd.value (List.getD z54 (Int.toNat x5) Ty.bnd.dflt))) (Val.n (Bnd.value (List.getD z54 (Int.toNat x5) Ty.bnd.dflt))) (IntKind.i64.wrap ((IntKind.i64.wrap ((IntKind.i64.wrap (x1 + 1)) + 1)) + 1)) (Val.text (Bnd.value (List.getD z54 (Int.toNat x5) Ty.bnd.dflt))) (Val.list (Bnd.value (List.getD z54 (Int.toNat x5) Ty.bnd.dflt))) (Val.columns (Bnd.value (List.getD z54 (Int.toNat x5) Ty.bnd.dflt))) (Val.rows (Bnd.value (List.getD z54 (Int.toNat x5) Ty.bnd.dflt)))))) ((fun (z53 : List Bnd) => List.set z53 (Int.toNat x5) (Bnd.mk (Bnd.name (List.getD z53 (Int.toNat x5) Ty.bnd.dflt)) (Val.mk (Val.kind (Bnd.value (List.getD z53 (Int.toNat x5) Ty.bnd.dflt))) (IntKind.i64.wrap ((IntKind.i64.wrap (x1 + 1)) + 1)) (Val.step (Bnd.value (List.getD z53 (Int.toNat x5) Ty.bnd.dflt))) (Val.text (Bnd.value (List.getD z53 (Int.toNat x5) Ty.bnd.dflt))) (Val.list (Bnd.value (List.getD z53 (Int.toNat x5) Ty.bnd.dflt))) (Val.columns (Bnd.value (List.getD z53 (Int.toNat x5) Ty.bnd.dflt))) (Val.rows (Bnd.value (List.getD z53 (Int.toNat x5) Ty.bnd.dflt)))))) ((fun (z52 : List Bnd) => List.set z52 (Int.toNat x5) (Bnd.mk (Bnd.name (List.getD z52 (Int.toNat x5) Ty.bnd.dflt)) (Val.mk (IntKind.i64.wrap (x1 + 1)) (Val.n (Bnd.value (List.getD z52 (Int.toNat x5) Ty.bnd.dflt))) (Val.step (Bnd.value (List.getD z52 (Int.toNat x5) Ty.bnd.dflt))) (Val.text (Bnd.value (List.getD z52 (Int.toNat x5) Ty.bnd.dflt))) (Val.list (Bnd.value (List.getD z52 (Int.toNat x5) Ty.bnd.dflt))) (Val.columns (Bnd.value (List.getD z52 (Int.toNat x5) Ty.bnd.dflt))) (Val.rows (Bnd.value (List.getD z52 (Int.toNat x5) Ty.bnd.dflt)))))) (List.set x0 (Int.toNat x5) (Bnd.mk r1 (Val.re (Bnd.value (List.getD x0 (Int.toNat x5) Ty.bnd.dflt))))))))) (Int.toNat x5) Ty.bnd.dflt))) (IntKind.i64.wrap ((IntKind.i64.wrap ((IntKind.i64.wrap ((IntKind.i64.wrap ((IntKind.i64.wrap (x1 + 1)) + 1)) + 1)) + 1)) + 1))) fun r3 =>
      if List.length r3.2 = List.length (Val.list (Bnd.value (List.getD ((fun (z55 : List Bnd) => List.set z55 (Int.toNat x5) (Bnd.mk (Bnd.name (List.getD z55 (Int.toNat x5) Ty.bnd.dflt)) (Val.mk (Val.kind (Bnd.value (List.getD z55 (Int.toNat x5) Ty.bnd.dflt))) (Val.n (Bnd.value (List.getD z55 (Int.toNat x5) Ty.bnd.dflt))) (Val.step (Bnd.value (List.getD z55 (Int.toNat x5) Ty.bnd.dflt))) r2 (Val.list (Bnd.value (List.getD z55 (Int.toNat x5) Ty.bnd.dflt))) (Val.columns (Bnd.value (List.getD z55 (Int.toNat x5) Ty.bnd.dflt))) (Val.rows (Bnd.value (List.getD z55 (Int.toNat x5) Ty.bnd.dflt)))))) ((fun (z54 : List Bnd) => List.set z54 (Int.toNat x5) (Bnd.mk (Bnd.name (List.getD z54 (Int.toNat x5) Ty.bnd.dflt)) (Val.mk (Val.kind (Bnd.value (List.getD z54 (Int.toNat x5) Ty.bnd.dflt))) (Val.n (Bnd.value (List.getD z54 (Int.toNat x5) Ty.bnd.dflt))) (IntKind.i64.wrap ((IntKind.i64.wrap ((IntKind.i64.wrap (x1 + 1)) + 1)) + 1)) (Val.text (Bnd.value (List.getD z54 (Int.toNat x5) Ty.bnd.dflt))) (Val.list (Bnd.value (List.getD z54 (Int.toNat x5) Ty.bnd.dflt))) (Val.columns (Bnd.value (List.getD z54 (Int.toNat x5) Ty.bnd.dflt))) (Val.rows (Bnd.value (List.getD z54 (Int.toNat x5) Ty.bnd.dflt)))))) ((fun (z53 : List Bnd) => List.set z53 (Int.toNat x5) (Bnd.mk (Bnd.name (List.getD z53 (Int.toNat x5) Ty.bnd.dflt)) (Val.mk (Val.kind (Bnd.value (List.getD z53 (Int.toNat x5) Ty.bnd.dflt))) (IntKind.i64.wrap ((IntKind.i64.wrap (x1 + 1)) + 1)) (Val.step (Bnd.value (List.getD z53 (Int.toNat x5) Ty.bnd.dflt))) (Val.text (Bnd.value (List.getD z53 (Int.toNat x5) Ty.bnd.dflt))) (Val.list (Bnd.value (List.getD z53 (Int.toNat x5) Ty.bnd.dflt))) (Val.columns (Bnd.value (List.getD z53 (Int.toNat x5) Ty.bnd.dflt))) (Val.rows (Bnd.value (List.getD z53 (Int.toNat x5) Ty.bnd.dflt)))))) ((fun (z52 : List Bnd) => List.set z52 (Int.toNat x5) (Bnd.mk (Bnd.name (List.getD z52 (Int.toNat x5) Ty.bnd.dflt)) (Val.mk (IntKind.i64.wrap (x1 + 1)) (Val.n (Bnd.value (List.getD z52 (Int.toNat x5) Ty.bnd.dflt))) (Val.step (Bnd.value (List.getD z52 (Int.toNat x5) Ty.bnd.dflt))) (Val.text (Bnd.value (List.getD z52 (Int.toNat x5) Ty.bnd.dflt))) (Val.list (Bnd.value (List.getD z52 (Int.toNat x5) Ty.bnd.dflt))) (Val.columns (Bnd.value (List.getD z52 (Int.toNat x5) Ty.bnd.dflt))) (Val.rows (Bnd.value (List.getD z52 (Int.toNat x5) Ty.bnd.dflt)))))) (List.set x0 (Int.toNat x5) (Bnd.mk r1 (Val.re (Bnd.value (List.getD x0 (Int.toNat x5) Ty.bnd.dflt))))))))) (Int.toNat x5) Ty.bnd.dflt))) then
      if (0 : Int) ≤ x5 ∧ x5 < (List.length ((fun (z56 : List Bnd) => List.set z56 (Int.toNat x5) (Bnd.mk (Bnd.name (List.getD z56 (Int.toNat x5) Ty.bnd.dflt)) (Val.mk (Val.kind (Bnd.value (List.getD z56 (Int.toNat x5) Ty.bnd.dflt))) (Val.n (Bnd.value (List.getD z56 (Int.toNat x5) Ty.bnd.dflt))) (Val.step (Bnd.value (List.getD z56 (Int.toNat x5) Ty.bnd.dflt))) (Val.text (Bnd.value (List.getD z56 (Int.toNat x5) Ty.bnd.dflt))) r3.2 (Val.columns (Bnd.value (List.getD z56 (Int.toNat x5) Ty.bnd.dflt))) (Val.rows (Bnd.value (List.getD z56 (Int.toNat x5) Ty.bnd.dflt)))))) ((fun (z55 : List Bnd) => List.set z55 (Int.toNat x5) (Bnd.mk (Bnd.name (List.getD z55 (Int.toNat x5) Ty.bnd.dflt)) (Val.mk (Val.kind (Bnd.value (List.getD z55 (Int.toNat x5) Ty.bnd.dflt))) (Val.n (Bnd.value (List.getD z55 (Int.toNat x5) Ty.bnd.dflt))) (Val.step (Bnd.value (List.getD z55 (Int.toNat x5) Ty.bnd.dflt))) r2 (Val.list (Bnd.value (List.getD z55 (Int.toNat x5) Ty.bnd.dflt))) (Val.columns (Bnd.value (List.getD z55 (Int.toNat x5) Ty.bnd.dflt))) (Val.rows (Bnd.value (List.getD z55 (Int.toNat x5) Ty.bnd.dflt)))))) ((fun (z54 : List Bnd) => List.set z54 (Int.toNat x5) (Bnd.mk (Bnd.name (List.getD z54 (Int.toNat x5) Ty.bnd.dflt)) (Val.mk (Val.kind (Bnd.value (List.getD z54 (Int.toNat x5) Ty.bnd.dflt))) (Val.n (Bnd.value (List.getD z54 (Int.toNat x5) Ty.bnd.dflt))) (IntKind.i64.wrap ((IntKind.i64.wrap ((IntKind.i64.wrap (x1 + 1)) + 1)) + 1)) (Val.text (Bnd.value (List.getD z54 (Int.toNat x5) Ty.bnd.dflt))) (Val.list (Bnd.value (List.getD z54 (Int.toNat x5) Ty.bnd.dflt))) (Val.columns (Bnd.value (List.getD z54 (Int.toNat x5) Ty.bnd.dflt))) (Val.rows (Bnd.value (List.getD z54 (Int.toNat x5) Ty.bnd.dflt)))))) ((fun (z53 : List Bnd) => List.set z53 (Int.toNat x5) (Bnd.mk (Bnd.name (List.getD z53 (Int.toNat x5) Ty.bnd.dflt)) (Val.mk (Val.kind (Bnd.value (List.getD z53 (Int.toNat x5) Ty.bnd.dflt))) (IntKind.i64.wrap ((IntKind.i64.wrap (x1 + 1)) + 1)) (Val.step (Bnd.value (List.getD z53 (Int.toNat x5) Ty.bnd.dflt))) (Val.text (Bnd.value (List.getD z53 (Int.toNat x5) Ty.bnd.dflt))) (Val.list (Bnd.value (List.getD z53 (Int.toNat x5) Ty.bnd.dflt))) (Val.columns (Bnd.value (List.getD z53 (Int.toNat x5) Ty.bnd.dflt))) (Val.rows (Bnd.value (List.getD z53 (Int.toNat x5) Ty.bnd.dflt)))))) ((fun (z52 : List Bnd) => List.set z52 (Int.toNat x5) (Bnd.mk (Bnd.name (List.getD z52 (Int.toNat x5) Ty.bnd.dflt)) (Val.mk (IntKind.i64.wrap (x1 + 1)) (Val.n (Bnd.value (List.getD z52 (Int.toNat x5) Ty.bnd.dflt))) (Val.step (Bnd.value (List.getD z52 (Int.toNat x5) Ty.bnd.dflt))) (Val.text (Bnd.value (List.getD z52 (Int.toNat x5) Ty.bnd.dflt))) (Val.list (Bnd.value (List.getD z52 (Int.toNat x5) Ty.bnd.dflt))) (Val.columns (Bnd.value (List.getD z52 (Int.toNat x5) Ty.bnd.dflt))) (Val.rows (Bnd.value (List.getD z52 (Int.toNat x5) Ty.bnd.dflt)))))) (List.set x0 (Int.toNat x5) (Bnd.mk r1 (Val.re (Bnd.value (List.getD x0 (Int.toNat x5) Ty.bnd.dflt))))))))))) then
      Option.bind (laws_markStringS N (Val.columns (Bnd.value (List.getD ((fun (z56 : List Bnd) => List.set z56 (Int.toNat x5) (Bnd.mk (Bnd.name (List.getD z56 (Int.toNat x5) Ty.bnd.dflt)) (Val.mk (Val.kind (Bnd.value (List.getD z56 (Int.toNat x5) Ty.bnd.dflt))) (Val.n (Bnd.value (List.getD z56 (Int.toNat x5) Ty.bnd.dflt))) (Val.step (Bnd.value (List.getD z56 (Int.toNat x5) Ty.bnd.dflt))) (Val.text (Bnd.value (List.getD z56 (Int.toNat x5) Ty.bnd.dflt))) r3.2 (Val.columns (Bnd.value (List.getD z56 (Int.toNat x5) Ty.bnd.dflt))) (Val.rows (Bnd.value (List.getD z56 (Int.toNat x5) Ty.bnd.dflt)))))) ((fun (z55 : List Bnd) => List.set z55 (Int.toNat x5) (Bnd.mk (Bnd.name (List.getD z55 (Int.toNat x5) Ty.bnd.dflt)) (Val.mk (Val.kind (Bnd.value (List.getD z55 (Int.toNat x5) Ty.bnd.dflt))) (Val.n (Bnd.value (List.getD z55 (Int.toNat x5) Ty.bnd.dflt))) (Val.step (Bnd.value (List.getD z55 (Int.toNat x5) Ty.bnd.dflt))) r2 (Val.list (Bnd.value (List.getD z55 (Int.toNat x5) Ty.bnd.dflt))) (Val.columns (Bnd.value (List.getD z55 (Int.toNat x5) Ty.bnd.dflt))) (Val.rows (Bnd.value (List.getD z55 (Int.toNat x5) Ty.bnd.dflt)))))) ((fun (z54 : List Bnd) => List.set z54 (Int.toNat x5) (Bnd.mk (Bnd.name (List.getD z54 (Int.toNat x5) Ty.bnd.dflt)) (Val.mk (Val.kind (Bnd.value (List.getD z54 (Int.toNat x5) Ty.bnd.dflt))) (Val.n (Bnd.value (List.getD z54 (Int.toNat x5) Ty.bnd.dflt))) (IntKind.i64.wrap ((IntKind.i64.wrap ((IntKind.i64.wrap (x1 + 1)) + 1)) + 1)) (Val.text (Bnd.value (List.getD z54 (Int.toNat x5) Ty.bnd.dflt))) (Val.list (Bnd.value (List.getD z54 (Int.toNat x5) Ty.bnd.dflt))) (Val.columns (Bnd.value (List.getD z54 (Int.toNat x5) Ty.bnd.dflt))) (Val.rows (Bnd.value (List.getD z54 (Int.toNat x5) Ty.bnd.dflt)))))) ((fun (z53 : List Bnd) => List.set z53 (Int.toNat x5) (Bnd.mk (Bnd.name (List.getD z53 (Int.toNat x5) Ty.bnd.dflt)) (Val.mk (Val.kind (Bnd.value (List.getD z53 (Int.toNat x5) Ty.bnd.dflt))) (IntKind.i64.wrap ((IntKind.i64.wrap (x1 + 1)) + 1)) (Val.step (Bnd.value (List.getD z53 (Int.toNat x5) Ty.bnd.dflt))) (Val.text (Bnd.value (List.getD z53 (Int.toNat x5) Ty.bnd.dflt))) (Val.list (Bnd.value (List.getD z53 (Int.toNat x5) Ty.bnd.dflt))) (Val.columns (Bnd.value (List.getD z53 (Int.toNat x5) Ty.bnd.dflt))) (Val.rows (Bnd.value (List.getD z53 (Int.toNat x5) Ty.bnd.dflt)))))) ((fun (z52 : List Bnd) => List.set z52 (Int.toNat x5) (Bnd.mk (Bnd.name (List.getD z52 (Int.toNat x5) Ty.bnd.dflt)) (Val.mk (IntKind.i64.wrap (x1 + 1)) (Val.n (Bnd.value (List.getD z52 (Int.toNat x5) Ty.bnd.dflt))) (Val.step (Bnd.value (List.getD z52 (Int.toNat x5) Ty.bnd.dflt))) (Val.text (Bnd.value (List.getD z52 (Int.toNat x5) Ty.bnd.dflt))) (Val.list (Bnd.value (List.getD z52 (Int.toNat x5) Ty.bnd.dflt))) (Val.columns (Bnd.value (List.getD z52 (Int.toNat x5) Ty.bnd.dflt))) (Val.rows (Bnd.value (List.getD z52 (Int.toNat x5) Ty.bnd.dflt)))))) (List.set x0 (Int.toNat x5) (Bnd.mk r1 (Val.re (Bnd.value (List.getD x0 (Int.toNat x5) Ty.bnd.dflt)))))))))) (Int.toNat x5) Ty.bnd.dflt))) r3.1) fun r4 =>
      if List.length r4.2 = List.length (Val.columns (Bnd.value (List.getD ((fun (z56 : List Bnd) => List.set z56 (Int.toNat x5) (Bnd.mk (Bnd.name (List.getD z56 (Int.toNat x5) Ty.bnd.dflt)) (Val.mk (Val.kind (Bnd.value (List.getD z56 (Int.toNat x5) Ty.bnd.dflt))) (Val.n (Bnd.value (List.getD z56 (Int.toNat x5) Ty.bnd.dflt))) (Val.step (Bnd.value (List.getD z56 (Int.toNat x5) Ty.bnd.dflt))) (Val.text (Bnd.value (List.getD z56 (Int.toNat x5) Ty.bnd.dflt))) r3.2 (Val.columns (Bnd.value (List.getD z56 (Int.toNat x5) Ty.bnd.dflt))) (Val.rows (Bnd.value (List.getD z56 (Int.toNat x5) Ty.bnd.dflt)))))) ((fun (z55 : List Bnd) => List.set z55 (Int.toNat x5) (Bnd.mk (Bnd.name (List.getD z55 (Int.toNat x5) Ty.bnd.dflt)) (Val.mk (Val.kind (Bnd.value (List.getD z55 (Int.toNat x5) Ty.bnd.dflt))) (Val.n (Bnd.value (List.getD z55 (Int.toNat x5) Ty.bnd.dflt))) (Val.step (Bnd.value (List.getD z55 (Int.toNat x5) Ty.bnd.dflt))) r2 (Val.list (Bnd.value (List.getD z55 (Int.toNat x5) Ty.bnd.dflt))) (Val.columns (Bnd.value (List.getD z55 (Int.toNat x5) Ty.bnd.dflt))) (Val.rows (Bnd.value (List.getD z55 (Int.toNat x5) Ty.bnd.dflt)))))) ((fun (z54 : List Bnd) => List.set z54 (Int.toNat x5) (Bnd.mk (Bnd.name (List.getD z54 (Int.toNat x5) Ty.bnd.dflt)) (Val.mk (Val.kind (Bnd.value (List.getD z54 (Int.toNat x5) Ty.bnd.dflt))) (Val.n (Bnd.value (List.getD z54 (Int.toNat x5) Ty.bnd.dflt))) (IntKind.i64.wrap ((IntKind.i64.wrap ((IntKind.i64.wrap (x1 + 1)) + 1)) + 1)) (Val.text (Bnd.value (List.getD z54 (Int.toNat x5) Ty.bnd.dflt))) (Val.list (Bnd.value (List.getD z54 (Int.toNat x5) Ty.bnd.dflt))) (Val.columns (Bnd.value (List.getD z54 (Int.toNat x5) Ty.bnd.dflt))) (Val.rows (Bnd.value (List.getD z54 (Int.toNat x5) Ty.bnd.dflt)))))) ((fun (z53 : List Bnd) => List.set z53 (Int.toNat x5) (Bnd.mk (Bnd.name (List.getD z53 (Int.toNat x5) Ty.bnd.dflt)) (Val.mk (Val.kind (Bnd.value (List.getD z53 (Int.toNat x5) Ty.bnd.dflt))) (IntKind.i64.wrap ((IntKind.i64.wrap (x1 + 1)) + 1)) (Val.step (Bnd.value (List.getD z53 (Int.toNat x5) Ty.bnd.dflt))) (Val.text (Bnd.value (List.getD z53 (Int.toNat x5) Ty.bnd.dflt))) (Val.list (Bnd.value (List.getD z53 (Int.toNat x5) Ty.bnd.dflt))) (Val.columns (Bnd.value (List.getD z53 (Int.toNat x5) Ty.bnd.dflt))) (Val.rows (Bnd.value (List.getD z53 (Int.toNat x5) Ty.bnd.dflt)))))) ((fun (z52 : List Bnd) => List.set z52 (Int.toNat x5) (Bnd.mk (Bnd.name (List.getD z52 (Int.toNat x5) Ty.bnd.dflt)) (Val.mk (IntKind.i64.wrap (x1 + 1)) (Val.n (Bnd.value (List.getD z52 (Int.toNat x5) Ty.bnd.dflt))) (Val.step (Bnd.value (List.getD z52 (Int.toNat x5) Ty.bnd.dflt))) (Val.text (Bnd.value (List.getD z52 (Int.toNat x5) Ty.bnd.dflt))) (Val.list (Bnd.value (List.getD z52 (Int.toNat x5) Ty.bnd.dflt))) (Val.columns (Bnd.value (List.getD z52 (Int.toNat x5) Ty.bnd.dflt))) (Val.rows (Bnd.value (List.getD z52 (Int.toNat x5) Ty.bnd.dflt)))))) (List.set x0 (Int.toNat x5) (Bnd.mk r1 (Val.re (Bnd.value (List.getD x0 (Int.toNat x5) Ty.bnd.dflt)))))))))) (Int.toNat x5) Ty.bnd.dflt))) then
      if (0 : Int) ≤ x5 ∧ x5 < (List.length ((fun (z57 : List Bnd) => List.set z57 (Int.toNat x5) (Bnd.mk (Bnd.name (List.getD z57 (Int.toNat x5) Ty.bnd.dflt)) (Val.mk (Val.kind (Bnd.value (List.getD z57 (Int.toNat x5) Ty.bnd.dflt))) (Val.n (Bnd.value (List.getD z57 (Int.toNat x5) Ty.bnd.dflt))) (Val.step (Bnd.value (List.getD z57 (Int.toNat x5) Ty.bnd.dflt))) (Val.text (Bnd.value (List.getD z57 (Int.toNat x5) Ty.bnd.dflt))) (Val.list (Bnd.value (List.getD z57 (Int.toNat x5) Ty.bnd.dflt))) r4.2 (Val.rows (Bnd.value (List.getD z57 (Int.toNat x5) Ty.bnd.dflt)))))) ((fun (z56 : List Bnd) => List.set z56 (Int.toNat x5) (Bnd.mk (Bnd.name (List.getD z56 (Int.toNat x5) Ty.bnd.dflt)) (Val.mk (Val.kind (Bnd.value (List.getD z56 (Int.toNat x5) Ty.bnd.dflt))) (Val.n (Bnd.value (List.getD z56 (Int.toNat x5) Ty.bnd.dflt))) (Val.step (Bnd.value (List.getD z56 (Int.toNat x5) Ty.bnd.dflt))) (Val.text (Bnd.value (List.getD z56 (Int.toNat x5) Ty.bnd.dflt))) r3.2 (Val.columns (Bnd.value (List.getD z56 (Int.toNat x5) Ty.bnd.dflt))) (Val.rows (Bnd.value (List.getD z56 (Int.toNat x5) Ty.bnd.dflt)))))) ((fun (z55 : List Bnd) => List.set z55 (Int.toNat x5) (Bnd.mk (Bnd.name (List.getD z55 (Int.toNat x5) Ty.bnd.dflt)) (Val.mk (Val.kind (Bnd.value (List.getD z55 (Int.toNat x5) Ty.bnd.dflt))) (Val.n (Bnd.value (List.getD z55 (Int.toNat x5) Ty.bnd.dflt))) (Val.step (Bnd.value (List.getD z55 (Int.toNat x5) Ty.bnd.dflt))) r2 (Val.list (Bnd.value (List.getD z55 (Int.toNat x5) Ty.bnd.dflt))) (Val.columns (Bnd.value (List.getD z55 (Int.toNat x5) Ty.bnd.dflt))) (Val.rows (Bnd.value (List.getD z55 (Int.toNat x5) Ty.bnd.dflt)))))) ((fun (z54 : List Bnd) => List.set z54 (Int.toNat x5) (Bnd.mk (Bnd.name (List.getD z54 (Int.toNat x5) Ty.bnd.dflt)) (Val.mk (Val.kind (Bnd.value (List.getD z54 (Int.toNat x5) Ty.bnd.dflt))) (Val.n (Bnd.value (List.getD z54 (Int.toNat x5) Ty.bnd.dflt))) (IntKind.i64.wrap ((IntKind.i64.wrap ((IntKind.i64.wrap (x1 + 1)) + 1)) + 1)) (Val.text (Bnd.value (List.getD z54 (Int.toNat x5) Ty.bnd.dflt))) (Val.list (Bnd.value (List.getD z54 (Int.toNat x5) Ty.bnd.dflt))) (Val.columns (Bnd.value (List.getD z54 (Int.toNat x5) Ty.bnd.dflt))) (Val.rows (Bnd.value (List.getD z54 (Int.toNat x5) Ty.bnd.dflt)))))) ((fun (z53 : List Bnd) => List.set z53 (Int.toNat x5) (Bnd.mk (Bnd.name (List.getD z53 (Int.toNat x5) Ty.bnd.dflt)) (Val.mk (Val.kind (Bnd.value (List.getD z53 (Int.toNat x5) Ty.bnd.dflt))) (IntKind.i64.wrap ((IntKind.i64.wrap (x1 + 1)) + 1)) (Val.step (Bnd.value (List.getD z53 (Int.toNat x5) Ty.bnd.dflt))) (Val.text (Bnd.value (List.getD z53 (Int.toNat x5) Ty.bnd.dflt))) (Val.list (Bnd.value (List.getD z53 (Int.toNat x5) Ty.bnd.dflt))) (Val.columns (Bnd.value (List.getD z53 (Int.toNat x5) Ty.bnd.dflt))) (Val.rows (Bnd.value (List.getD z53 (Int.toNat x5) Ty.bnd.dflt)))))) ((fun (z52 : List Bnd) => List.set z52 (Int.toNat x5) (Bnd.mk (Bnd.name (List.getD z52 (Int.toNat x5) Ty.bnd.dflt)) (Val.mk (IntKind.i64.wrap (x1 + 1)) (Val.n (Bnd.value (List.getD z52 (Int.toNat x5) Ty.bnd.dflt))) (Val.step (Bnd.value (List.getD z52 (Int.toNat x5) Ty.bnd.dflt))) (Val.text (Bnd.value (List.getD z52 (Int.toNat x5) Ty.bnd.dflt))) (Val.list (Bnd.value (List.getD z52 (Int.toNat x5) Ty.bnd.dflt))) (Val.columns (Bnd.value (List.getD z52 (Int.toNat x5) Ty.bnd.dflt))) (Val.rows (Bnd.value (List.getD z52 (Int.toNat x5) Ty.bnd.dflt)))))) (List.set x0 (Int.toNat x5) (Bnd.mk r1 (Val.re (Bnd.value (List.getD x0 (Int.toNat x5) Ty.bnd.dflt)))))))))))) then
      Option.bind (laws_markRowS N (Val.rows (Bnd.value (List.getD ((fun (z57 : List Bnd) => List.set z57 (Int.toNat x5) (Bnd.mk (Bnd.name (List.getD z57 (Int.toNat x5) Ty.bnd.dflt)) (Val.mk (Val.kind (Bnd.value (List.getD z57 (Int.toNat x5) Ty.bnd.dflt))) (Val.n (Bnd.value (List.getD z57 (Int.toNat x5) Ty.bnd.dflt))) (Val.step (Bnd.value (List.getD z57 (Int.toNat x5) Ty.bnd.dflt))) (Val.text (Bnd.value (List.getD z57 (Int.toNat x5) Ty.bnd.dflt))) (Val.list (Bnd.value (List.getD z57 (Int.toNat x5) Ty.bnd.dflt))) r4.2 (Val.rows (Bnd.value (List.getD z57 (Int.toNat x5) Ty.bnd.dflt)))))) ((fun (z56 : List Bnd) => List.set z56 (Int.toNat x5) (Bnd.mk (Bnd.name (List.getD z56 (Int.toNat x5) Ty.bnd.dflt)) (Val.mk (Val.kind (Bnd.value (List.getD z56 (Int.toNat x5) Ty.bnd.dflt))) (Val.n (Bnd.value (List.getD z56 (Int.toNat x5) Ty.bnd.dflt))) (Val.step (Bnd.value (List.getD z56 (Int.toNat x5) Ty.bnd.dflt))) (Val.text (Bnd.value (List.getD z56 (Int.toNat x5) Ty.bnd.dflt))) r3.2 (Val.columns (Bnd.value (List.getD z56 (Int.toNat x5) Ty.bnd.dflt))) (Val.rows (Bnd.value (List.getD z56 (Int.toNat x5) Ty.bnd.dflt)))))) ((fun (z55 : List Bnd) => List.set z55 (Int.toNat x5) (Bnd.mk (Bnd.name (List.getD z55 (Int.toNat x5) Ty.bnd.dflt)) (Val.mk (Val.kind (Bnd.value (List.getD z55 (Int.toNat x5) Ty.bnd.dflt))) (Val.n (Bnd.value (List.getD z55 (Int.toNat x5) Ty.bnd.dflt))) (Val.step (Bnd.value (List.getD z55 (Int.toNat x5) Ty.bnd.dflt))) r2 (Val.list (Bnd.value (List.getD z55 (Int.toNat x5) Ty.bnd.dflt))) (Val.columns (Bnd.value (List.getD z55 (Int.toNat x5) Ty.bnd.dflt))) (Val.rows (Bnd.value (List.getD z55 (Int.toNat x5) Ty.bnd.dflt)))))) ((fun (z54 : List Bnd) => List.set z54 (Int.toNat x5) (Bnd.mk (Bnd.name (List.getD z54 (Int.toNat x5) Ty.bnd.dflt)) (Val.mk (Val.kind (Bnd.value (List.getD z54 (Int.toNat x5) Ty.bnd.dflt))) (Val.n (Bnd.value (List.getD z54 (Int.toNat x5) Ty.bnd.dflt))) (IntKind.i64.wrap ((IntKind.i64.wrap ((IntKind.i64.wrap (x1 + 1)) + 1)) + 1)) (Val.text (Bnd.value (List.getD z54 (Int.toNat x5) Ty.bnd.dflt))) (Val.list (Bnd.value (List.getD z54 (Int.toNat x5) Ty.bnd.dflt))) (Val.columns (Bnd.value (List.getD z54 (Int.toNat x5) Ty.bnd.dflt))) (Val.rows (Bnd.value (List.getD z54 (Int.toNat x5) Ty.bnd.dflt)))))) ((fun (z53 : List Bnd) => List.set z53 (Int.toNat x5) (Bnd.mk (Bnd.name (List.getD z53 (Int.toNat x5) Ty.bnd.dflt)) (Val.mk (Val.kind (Bnd.value (List.getD z53 (Int.toNat x5) Ty.bnd.dflt))) (IntKind.i64.wrap ((IntKind.i64.wrap (x1 + 1)) + 1)) (Val.step (Bnd.value (List.getD z53 (Int.toNat x5) Ty.bnd.dflt))) (Val.text (Bnd.value (List.getD z53 (Int.toNat x5) Ty.bnd.dflt))) (Val.list (Bnd.value (List.getD z53 (Int.toNat x5) Ty.bnd.dflt))) (Val.columns (Bnd.value (List.getD z53 (Int.toNat x5) Ty.bnd.dflt))) (Val.rows (Bnd.value (List.getD z53 (Int.toNat x5) Ty.bnd.dflt)))))) ((fun (z52 : List Bnd) => List.set z52 (Int.toNat x5) (Bnd.mk (Bnd.name (List.getD z52 (Int.toNat x5) Ty.bnd.dflt)) (Val.mk (IntKind.i64.wrap (x1 + 1)) (Val.n (Bnd.value (List.getD z52 (Int.toNat x5) Ty.bnd.dflt))) (Val.step (Bnd.value (List.getD z52 (Int.toNat x5) Ty.bnd.dflt))) (Val.text (Bnd.value (List.getD z52 (Int.toNat x5) Ty.bnd.dflt))) (Val.list (Bnd.value (List.getD z52 (Int.toNat x5) Ty.bnd.dflt))) (Val.columns (Bnd.value (List.getD z52 (Int.toNat x5) Ty.bnd.dflt))) (Val.rows (Bnd.value (List.getD z52 (Int.toNat x5) Ty.bnd.dflt)))))) (List.set x0 (Int.toNat x5) (Bnd.mk r1 (Val.re (Bnd.value (List.getD x0 (Int.toNat x5) Ty.bnd.dflt))))))))))) (Int.toNat x5) Ty.bnd.dflt))) r4.1) fun r5 =>
      if List.length r5.2 = List.length (Val.rows (Bnd.value (List.getD ((fun (z57 : List Bnd) => List.set z57 (Int.toNat x5) (Bnd.mk (Bnd.name (List.getD z57 (Int.toNat x5) Ty.bnd.dflt)) (Val.mk (Val.kind (Bnd.value (List.getD z57 (Int.toNat x5) Ty.bnd.dflt))) (Val.n (Bnd.value (List.getD z57 (Int.toNat x5) Ty.bnd.dflt))) (Val.step (Bnd.value (List.getD z57 (Int.toNat x5) Ty.bnd.dflt))) (Val.text (Bnd.value (List.getD z57 (Int.toNat x5) Ty.bnd.dflt))) (Val.list (Bnd.value (List.getD z57 (Int.toNat x5) Ty.bnd.dflt))) r4.2 (Val.rows (Bnd.value (List.getD z57 (Int.toNat x5) Ty.bnd.dflt)))))) ((fun (z56 : List Bnd) => List.set z56 (Int.toNat x5) (Bnd.mk (Bnd.name (List.getD z56 (Int.toNat x5) Ty.bnd.dflt)) (Val.mk (Val.kind (Bnd.value (List.getD z56 (Int.toNat x5) Ty.bnd.dflt))) (Val.n (Bnd.value (List.getD z56 (Int.toNat x5) Ty.bnd.dflt))) (Val.step (Bnd.value (List.getD z56 (Int.toNat x5) Ty.bnd.dflt))) (Val.text (Bnd.value (List.getD z56 (Int.toNat x5) Ty.bnd.dflt))) r3.2 (Val.columns (Bnd.value (List.getD z56 (Int.toNat x5) Ty.bnd.dflt))) (Val.rows (Bnd.value (List.getD z56 (Int.toNat x5) Ty.bnd.dflt)))))) ((fun (z55 : List Bnd) => List.set z55 (Int.toNat x5) (Bnd.mk (Bnd.name (List.getD z55 (Int.toNat x5) Ty.bnd.dflt)) (Val.mk (Val.kind (Bnd.value (List.getD z55 (Int.toNat x5) Ty.bnd.dflt))) (Val.n (Bnd.value (List.getD z55 (Int.toNat x5) Ty.bnd.dflt))) (Val.step (Bnd.value (List.getD z55 (Int.toNat x5) Ty.bnd.dflt))) r2 (Val.list (Bnd.value (List.getD z55 (Int.toNat x5) Ty.bnd.dflt))) (Val.columns (Bnd.value (List.getD z55 (Int.toNat x5) Ty.bnd.dflt))) (Val.rows (Bnd.value (List.getD z55 (Int.toNat x5) Ty.bnd.dflt)))))) ((fun (z54 : List Bnd) => List.set z54 (Int.toNat x5) (Bnd.mk (Bnd.name (List.getD z54 (Int.toNat x5) Ty.bnd.dflt)) (Val.mk (Val.kind (Bnd.value (List.getD z54 (Int.toNat x5) Ty.bnd.dflt))) (Val.n (Bnd.value (List.getD z54 (Int.toNat x5) Ty.bnd.dflt))) (IntKind.i64.wrap ((IntKind.i64.wrap ((IntKind.i64.wrap (x1 + 1)) + 1)) + 1)) (Val.text (Bnd.value (List.getD z54 (Int.toNat x5) Ty.bnd.dflt))) (Val.list (Bnd.value (List.getD z54 (Int.toNat x5) Ty.bnd.dflt))) (Val.columns (Bnd.value (List.getD z54 (Int.toNat x5) Ty.bnd.dflt))) (Val.rows (Bnd.value (List.getD z54 (Int.toNat x5) Ty.bnd.dflt)))))) ((fun (z53 : List Bnd) => List.set z53 (Int.toNat x5) (Bnd.mk (Bnd.name (List.getD z53 (Int.toNat x5) Ty.bnd.dflt)) (Val.mk (Val.kind (Bnd.value (List.getD z53 (Int.toNat x5) Ty.bnd.dflt))) (IntKind.i64.wrap ((IntKind.i64.wrap (x1 + 1)) + 1)) (Val.step (Bnd.value (List.getD z53 (Int.toNat x5) Ty.bnd.dflt))) (Val.text (Bnd.value (List.getD z53 (Int.toNat x5) Ty.bnd.dflt))) (Val.list (Bnd.value (List.getD z53 (Int.toNat x5) Ty.bnd.dflt))) (Val.columns (Bnd.value (List.getD z53 (Int.toNat x5) Ty.bnd.dflt))) (Val.rows (Bnd.value (List.getD z53 (Int.toNat x5) Ty.bnd.dflt)))))) ((fun (z52 : List Bnd) => List.set z52 (Int.toNat x5) (Bnd.mk (Bnd.name (List.getD z52 (Int.toNat x5) Ty.bnd.dflt)) (Val.mk (IntKind.i64.wrap (x1 + 1)) (Val.n (Bnd.value (List.getD z52 (Int.toNat x5) Ty.bnd.dflt))) (Val.step (Bnd.value (List.getD z52 (Int.toNat x5) Ty.bnd.dflt))) (Val.text (Bnd.value (List.getD z52 (Int.toNat x5) Ty.bnd.dflt))) (Val.list (Bnd.value (List.getD z52 (Int.toNat x5) Ty.bnd.dflt))) (Val.columns (Bnd.value (List.getD z52 (Int.toNat x5) Ty.bnd.dflt))) (Val.rows (Bnd.value (List.getD z52 (Int.toNat x5) Ty.bnd.dflt)))))) (List.set x0 (Int.toNat x5) (Bnd.mk r1 (Val.re (Bnd.value (List.getD x0 (Int.toNat x5) Ty.bnd.dflt))))))))))) (Int.toNat x5) Ty.bnd.dflt))) then
      (laws_markBindingS_b2 N n ((fun (z58 : List Bnd) => List.set z58 (Int.toNat x5) (Bnd.mk (Bnd.name (List.getD z58 (Int.toNat x5) Ty.bnd.dflt)) (Val.mk (Val.kind (Bnd.value (List.getD z58 (Int.toNat x5) Ty.bnd.dflt))) (Val.n (Bnd.value (List.getD z58 (Int.toNat x5) Ty.bnd.dflt))) (Val.step (Bnd.value (List.getD z58 (Int.toNat x5) Ty.bnd.dflt))) (Val.text (Bnd.value (List.getD z58 (Int.toNat x5) Ty.bnd.dflt))) (Val.list (Bnd.value (List.getD z58 (Int.toNat x5) Ty.bnd.dflt))) (Val.columns (Bnd.value (List.getD z58 (Int.toNat x5) Ty.bnd.dflt))) r5.2))) ((fun (z57 : List Bnd) => List.set z57 (Int.toNat x5) (Bnd.mk (Bnd.name (List.getD z57 (Int.toNat x5) Ty.bnd.dflt)) (Val.mk (Val.kind (Bnd.value (List.getD z57 (Int.toNat x5) Ty.bnd.dflt))) (Val.n (Bnd.value (List.getD z57 (Int.toNat x5) Ty.bnd.dflt))) (Val.step (Bnd.value (List.getD z57 (Int.toNat x5) Ty.bnd.dflt))) (Val.text (Bnd.value (List.getD z57 (Int.toNat x5) Ty.bnd.dflt))) (Val.list (Bnd.value (List.getD z57 (Int.toNat x5) Ty.bnd.dflt))) r4.2 (Val.rows (Bnd.value (List.getD z57 (Int.toNat x5) Ty.bnd.dflt)))))) ((fun (z56 : List Bnd) => List.set z56 (Int.toNat x5) (Bnd.mk (Bnd.name (List.getD z56 (Int.toNat x5) Ty.bnd.dflt)) (Val.mk (Val.kind (Bnd.value (List.getD z56 (Int.toNat x5) Ty.bnd.dflt))) (Val.n (Bnd.value (List.getD z56 (Int.toNat x5) Ty.bnd.dflt))) (Val.step (Bnd.value (List.getD z56 (Int.toNat x5) Ty.bnd.dflt))) (Val.text (Bnd.value (List.getD z56 (Int.toNat x5) Ty.bnd.dflt))) r3.2 (Val.columns (Bnd.value (List.getD z56 (Int.toNat x5) Ty.bnd.dflt))) (Val.rows (Bnd.value (List.getD z56 (Int.toNat x5) Ty.bnd.dflt)))))) ((fun (z55 : List Bnd) => List.set z55 (Int.toNat x5) (Bnd.mk (Bnd.name (List.getD z55 (Int.toNat x5) Ty.bnd.dflt)) (Val.mk (Val.kind (Bnd.value (List.getD z55 (Int.toNat x5) Ty.bnd.dflt))) (Val.n (Bnd.value (List.getD z55 (Int.toNat x5) Ty.bnd.dflt))) (Val.step (Bnd.value (List.getD z55 (Int.toNat x5) Ty.bnd.dflt))) r2 (Val.list (Bnd.value (List.getD z55 (Int.toNat x5) Ty.bnd.dflt))) (Val.columns (Bnd.value (List.getD z55 (Int.toNat x5) Ty.bnd.dflt))) (Val.rows (Bnd.value (List.getD z55 (Int.toNat x5) Ty.bnd.dflt)))))) ((fun (z54 : List Bnd) => List.set z54 (Int.toNat x5) (Bnd.mk (Bnd.name (List.getD z54 (Int.toNat x5) Ty.bnd.dflt)) (Val.mk (Val.kind (Bnd.value (List.getD z54 (Int.toNat x5) Ty.bnd.dflt))) (Val.n (Bnd.value (List.getD z54 (Int.toNat x5) Ty.bnd.dflt))) (IntKind.i64.wrap ((IntKind.i64.wrap ((IntKind.i64.wrap (x1 + 1)) + 1)) + 1)) (Val.text (Bnd.value (List.getD z54 (Int.toNat x5) Ty.bnd.dflt))) (Val.list (Bnd.value (List.getD z54 (Int.toNat x5) Ty.bnd.dflt))) (Val.columns (Bnd.value (List.getD z54 (Int.toNat x5) Ty.bnd.dflt))) (Val.rows (Bnd.value (List.getD z54 (Int.toNat x5) Ty.bnd.dflt)))))) ((fun (z53 : List Bnd) => List.set z53 (Int.toNat x5) (Bnd.mk (Bnd.name (List.getD z53 (Int.toNat x5) Ty.bnd.dflt)) (Val.mk (Val.kind (Bnd.value (List.getD z53 (Int.toNat x5) Ty.bnd.dflt))) (IntKind.i64.wrap ((IntKind.i64.wrap (x1 + 1)) + 1)) (Val.step (Bnd.value (List.getD z53 (Int.toNat x5) Ty.bnd.dflt))) (Val.text (Bnd.value (List.getD z53 (Int.toNat x5) Ty.bnd.dflt))) (Val.list (Bnd.value (List.getD z53 (Int.toNat x5) Ty.bnd.dflt))) (Val.columns (Bnd.value (List.getD z53 (Int.toNat x5) Ty.bnd.dflt))) (Val.rows (Bnd.value (List.getD z53 (Int.toNat x5) Ty.bnd.dflt)))))) ((fun (z52 : List Bnd) => List.set z52 (Int.toNat x5) (Bnd.mk (Bnd.name (List.getD z52 (Int.toNat x5) Ty.bnd.dflt)) (Val.mk (IntKind.i64.wrap (x1 + 1)) (Val.n (Bnd.value (List.getD z52 (Int.toNat x5) Ty.bnd.dflt))) (Val.step (Bnd.value (List.getD z52 (Int.toNat x5) Ty.bnd.dflt))) (Val.text (Bnd.value (List.getD z52 (Int.toNat x5) Ty.bnd.dflt))) (Val.list (Bnd.value (List.getD z52 (Int.toNat x5) Ty.bnd.dflt))) (Val.columns (Bnd.value (List.getD z52 (Int.toNat x5) Ty.bnd.dflt))) (Val.rows (Bnd.value (List.getD z52 (Int.toNat x5) Ty.bnd.dflt)))))) (List.set x0 (Int.toNat x5) (Bnd.mk r1 (Val.re (Bnd.value (List.getD x0 (Int.toNat x5) Ty.bnd.dflt)))))))))))) r5.1 (IntKind.i64.wrap (x5 + 1)))
      else none
      else none
      else none
      else none
      else none
      else none
      else none
      else none
      else none
      else none
      else none
    ) else (
      some (x1, x0)
    )
def laws_markBindingS (N : Nat) (a0 : List Bnd) (a1 : Int) : Option (Int × (List Bnd)) :=
  (laws_markBindingS_b2 N N a0 a1 0)
def laws_markValue_as (a0 : Val) (a1 : Int) : List Arg := [.val (.v true [.int .i64 (Val.kind a0), .int .i64 (Val.n a0), .int .i64 (Val.step a0), .str (Val.text a0), .sl (.lnt 0) .val (Val.list a0), .sl (.lnt 1) .str (Val.columns a0), .sl (.lnt 2) .row (Val.rows a0)]), .val (.v false [.int .i64 a1])]
def laws_markValue_ro (r : Int × (List Val) × (List Str) × (List Rowd)) : CallO := ⟨.v false [.int .i64 r.1], [], [.sl (.lnt 0) .val r.2.1, .sl (.lnt 1) .str r.2.2.1, .sl (.lnt 2) .row r.2.2.2]⟩
def laws_markValue (N : Nat) (a0 : Val) (a1 : Int) : Option (Int × (List Val) × (List Str) × (List Rowd)) :=
  Option.bind (laws_markValueS N (Val.list a0) a1) fun r1 =>
  if List.length r1.2 = List.length (Val.list a0) then
  Option.bind (laws_markStringS N (Val.columns a0) r1.1) fun r2 =>
  if List.length r2.2 = List.length (Val.columns a0) then
  Option.bind (laws_markRowS N (Val.rows a0) r2.1) fun r3 =>
  if List.length r3.2 = List.length (Val.rows a0) then
  some (r3.1, r1.2, r2.2, r3.2)
  else none
  else none
  else none
def laws_heldStringS_as (a0 : List Str) (a1 : Int) : List Arg := [.val (.v false [.sl .ro .str a0]), .val (.v false [.int .i64 a1])]
def laws_heldStringS_ro (r : Int) : CallO := ⟨.v false [.int .i64 r], [], []⟩
def laws_heldStringS_b2 (N : Nat) : Nat → (List Str) → Int → Int → Option (Int)
  | 0, _, _, _ => none
  | n + 1, x0, x1, x5 =>
    bif (decide ((x5 : Int) < (List.length x0 : Int))) then (
      if (0 : Int) ≤ x5 ∧ x5 < (List.length x0) then
      Option.bind (laws_markText N x1) fun r1 =>
      bif (!(((List.getD x0 (Int.toNat x5) Ty.str.dflt) : Str) == r1)) then (
        some (-1)
      ) else (
        (laws_heldStringS_b2 N n x0 (IntKind.i64.wrap (x1 + 1)) (IntKind.i64.wrap (x5 + 1)))
      )
      else none
    ) else (
      some x1
    )
def laws_heldStringS (N : Nat) (a0 : List Str) (a1 : Int) : Option (Int) :=
  (laws_heldStringS_b2 N N a0 a1 0)
def laws_heldIntS_as (a0 : List Int) (a1 : Int) : List Arg := [.val (.v false [.sl .ro .int a0]), .val (.v false [.int .i64 a1])]
def laws_heldIntS_ro (r : Int) : CallO := ⟨.v false [.int .i64 r], [], []⟩
def laws_heldIntS_b2 (N : Nat) : Nat → (List Int) → Int → Int → Option (Int)
  | 0, _, _, _ => none
  | n + 1, x0, x1, x5 =>
    bif (decide ((x5 : Int) < (List.length x0 : Int))) then (
      if (0 : Int) ≤ x5 ∧ x5 < (List.length x0) then
      bif (((List.getD x0 (Int.toNat x5) Ty.int.dflt) : Int) != x1) then (
        some (-1)
      ) else (
        (laws_heldIntS_b2 N n x0 (IntKind.i64.wrap (x1 + 1)) (IntKind.i64.wrap (x5 + 1)))
      )
      else none
    ) else (
      some x1
    )
def laws_heldIntS (N : Nat) (a0 : List Int) (a1 : Int) : Option (Int) :=
  (laws_heldIntS_b2 N N a0 a1 0)
def laws_heldOriginS_as (a0 : List Org) (a1 : Int) : List Arg := [.val (.v false [.sl .ro .org a0]), .val (.v false [.int .i64 a1])]
def laws_heldOriginS_ro (r : Int) : CallO := ⟨.v false [.int .i64 r], [], []⟩
def laws_heldOriginS_b2 (N : Nat) : Nat → (List Org) → Int → Int → Option (Int)
  | 0, _, _, _ => none
  | n + 1, x0, x1, x5 =>
    bif (decide ((x5 : Int) < (List.length x0 : Int))) then (
      if (0 : Int) ≤ x5 ∧ x5 < (List.length x0) then
      bif (((Org.cell (List.getD x0 (Int.toNat x5) Ty.org.dflt)) : Int) != x1) then (
        some (-1)
      ) else (
        bif (((Org.row (List.getD x0 (Int.toNat x5) Ty.org.dflt)) : Int) != (IntKind.i64.wrap (x1 + 1))) then (
          some (-1)
        ) else (
          (laws_heldOriginS_b2 N n x0 (IntKind.i64.wrap ((IntKind.i64.wrap (x1 + 1)) + 1)) (IntKind.i64.wrap (x5 + 1)))
        )
      )
      else none
    ) else (
      some x1
    )
def laws_heldOriginS (N : Nat) (a0 : List Org) (a1 : Int) : Option (Int) :=
  (laws_heldOriginS_b2 N N a0 a1 0)
def laws_heldRowS_as (a0 : List Rowd) (a1 : Int) : List Arg := [.val (.v false [.sl .ro .row a0]), .val (.v false [.int .i64 a1])]
def laws_heldRowS_ro (r : Int) : CallO := ⟨.v false [.int .i64 r], [], []⟩
def laws_heldRowS_b2 (N : Nat) : Nat → (List Rowd) → Int → Int → Option (Int)
  | 0, _, _, _ => none
  | n + 1, x0, x1, x5 =>
    bif (decide ((x5 : Int) < (List.length x0 : Int))) then (
      if (0 : Int) ≤ x5 ∧ x5 < (List.length x0) then
      Option.bind (laws_heldIntS N (Rowd.cells (List.getD x0 (Int.toNat x5) Ty.row.dflt)) x1) fun r1 =>
      bif (decide ((r1 : Int) < 0)) then (
        some (-1)
      ) else (
        Option.bind (laws_heldOriginS N (Rowd.frm (List.getD x0 (Int.toNat x5) Ty.row.dflt)) r1) fun r2 =>
        bif (decide ((r2 : Int) < 0)) then (
          some (-1)
        ) else (
          (laws_heldRowS_b2 N n x0 r2 (IntKind.i64.wrap (x5 + 1)))
        )
      )
      else none
    ) else (
      some x1
    )
def laws_heldRowS (N : Nat) (a0 : List Rowd) (a1 : Int) : Option (Int) :=
  (laws_heldRowS_b2 N N a0 a1 0)
def laws_heldValueS_as (a0 : List Val) (a1 : Int) : List Arg := [.val (.v false [.sl .ro .val a0]), .val (.v false [.int .i64 a1])]
def laws_heldValueS_ro (r : Int) : CallO := ⟨.v false [.int .i64 r], [], []⟩
def laws_heldValueS_b2 (N : Nat) (rc_laws_heldValueS : (List Val) → Int → Option (Int)) : Nat → (List Val) → Int → Int → Option (Int)
  | 0, _, _, _ => none
  | n + 1, x0, x1, x5 =>
    bif (decide ((x5 : Int) < (List.length x0 : Int))) then (
      if (0 : Int) ≤ x5 ∧ x5 < (List.length x0) then
      bif (((Val.kind (List.getD x0 (Int.toNat x5) Ty.val.dflt)) : Int) != x1) then (
        some (-1)
      ) else (
        bif (((Val.n (List.getD x0 (Int.toNat x5) Ty.val.dflt)) : Int) != (IntKind.i64.wrap (x1 + 1))) then (
          some (-1)
        ) else (
          bif (((Val.step (List.getD x0 (Int.toNat x5) Ty.val.dflt)) : Int) != (IntKind.i64.wrap ((IntKind.i64.wrap (x1 + 1)) + 1))) then (
            some (-1)
          ) else (
            Option.bind (laws_markText N (IntKind.i64.wrap ((IntKind.i64.wrap ((IntKind.i64.wrap (x1 + 1)) + 1)) + 1))) fun r1 =>
            bif (!(((Val.text (List.getD x0 (Int.toNat x5) Ty.val.dflt)) : Str) == r1)) then (
              some (-1)
            ) else (
              Option.bind (rc_laws_heldValueS (Val.list (List.getD x0 (Int.toNat x5) Ty.val.dflt)) (IntKind.i64.wrap ((IntKind.i64.wrap ((IntKind.i64.wrap ((IntKind.i64.wrap (x1 + 1)) + 1)) + 1)) + 1))) fun r2 =>
              bif (decide ((r2 : Int) < 0)) then (
                some (-1)
              ) else (
                Option.bind (laws_heldStringS N (Val.columns (List.getD x0 (Int.toNat x5) Ty.val.dflt)) r2) fun r3 =>
                bif (decide ((r3 : Int) < 0)) then (
                  some (-1)
                ) else (
                  Option.bind (laws_heldRowS N (Val.rows (List.getD x0 (Int.toNat x5) Ty.val.dflt)) r3) fun r4 =>
                  bif (decide ((r4 : Int) < 0)) then (
                    some (-1)
                  ) else (
                    (laws_heldValueS_b2 N rc_laws_heldValueS n x0 r4 (IntKind.i64.wrap (x5 + 1)))
                  )
                )
              )
            )
          )
        )
      )
      else none
    ) else (
      some x1
    )
def laws_heldValueS_body (N : Nat) (rc_laws_heldValueS : (List Val) → Int → Option (Int)) (a0 : List Val) (a1 : Int) : Option (Int) :=
  (laws_heldValueS_b2 N rc_laws_heldValueS N a0 a1 0)
def laws_heldValueS_fix (N : Nat) : Nat → (List Val) → Int → Option (Int)
  | 0, _, _ => none
  | d + 1, a0, a1 => laws_heldValueS_body N (laws_heldValueS_fix N d) a0 a1
def laws_heldValueS (N : Nat) (a0 : List Val) (a1 : Int) : Option (Int) := laws_heldValueS_fix N N a0 a1
def laws_heldValue (N : Nat) (a0 : Val) (a1 : Int) : Option (Int) :=
  Option.bind (laws_heldValueS N (Val.list a0) a1) fun r1 =>
  bif (decide ((r1 : Int) < 0)) then (
    some (-1)
  ) else (
    Option.bind (laws_heldStringS N (Val.columns a0) r1) fun r2 =>
    bif (decide ((r2 : Int) < 0)) then (
      some (-1)
    ) else (
      Option.bind (laws_heldRowS N (Val.rows a0) r2) fun r3 =>
      bif (decide ((r3 : Int) < 0)) then (
        some (-1)
      ) else (
        some r3
      )
    )
  )
def spec_Bind_as (a0 : List Bnd) (a1 : Str) (a2 : Val) : List Arg := [.val (.v false [.sl .ro .bnd a0]), .val (.v false [.str a1]), .val (.v true [.int .i64 (Val.kind a2), .int .i64 (Val.n a2), .int .i64 (Val.step a2), .str (Val.text a2), .sl .ro .val (Val.list a2), .sl .ro .str (Val.columns a2), .sl .ro .row (Val.rows a2)])]
def spec_Bind_ro (r : (List Bnd)) : CallO := ⟨.v false [.sl .own .bnd r], [], []⟩
def spec_Bind_b3 (N : Nat) : Nat → (List Bnd) → Str → (List Bnd) → Int → Val → Option ((List Bnd))
  | 0, _, _, _, _, _ => none
  | n + 1, x0, x1, x7, x8, b5 =>
    bif (decide ((x8 : Int) < (List.length x0 : Int))) then (
      if (0 : Int) ≤ x8 ∧ x8 < (List.length x0) then
      Option.bind (spec_l3Copy N (Bnd.value (List.getD x0 (Int.toNat x8) Ty.bnd.dflt))) fun r1 =>
      if List.length x7 + List.length [(Bnd.mk (Bnd.name (List.getD x0 (Int.toNat x8) Ty.bnd.dflt)) (Val.re r1))] ≤ Lim then
      (spec_Bind_b3 N n x0 x1 (x7 ++ [(Bnd.mk (Bnd.name (List.getD x0 (Int.toNat x8) Ty.bnd.dflt)) (Val.re r1))]) (IntKind.i64.wrap (x8 + 1)) b5)
      else none
      else none
    ) else (
      Option.bind (spec_l3Copy N b5) fun r1 =>
      if List.length x7 + List.length [(Bnd.mk x1 (Val.re r1))] ≤ Lim then
      some (x7 ++ [(Bnd.mk x1 (Val.re r1))])
      else none
    )
def spec_Bind (N : Nat) (a0 : List Bnd) (a1 : Str) (a2 : Val) : Option ((List Bnd)) :=
  (spec_Bind_b3 N N a0 a1 [] 0 a2)
def impl_Bind_as (a0 : List Bnd) (a1 : Str) (a2 : Val) : List Arg := [.val (.v false [.sl .ro .bnd a0]), .val (.v false [.str a1]), .val (.v true [.int .i64 (Val.kind a2), .int .i64 (Val.n a2), .int .i64 (Val.step a2), .str (Val.text a2), .sl .ro .val (Val.list a2), .sl .ro .str (Val.columns a2), .sl .ro .row (Val.rows a2)])]
def impl_Bind_ro (r : (List Bnd)) : CallO := ⟨.v false [.sl .own .bnd r], [], []⟩
def impl_Bind_b3 (N : Nat) : Nat → Str → (List Bnd) → (List Bnd) → Int → Int → Val → Option ((List Bnd))
  | 0, _, _, _, _, _, _ => none
  | n + 1, x1, x7, x11, x12, x13, b5 =>
    bif (decide ((x13 : Int) < x12)) then (
      if (0 : Int) ≤ x13 ∧ x13 < (List.length x11) then
      Option.bind (impl_copyValue N (Bnd.value (List.getD x11 (Int.toNat x13) Ty.bnd.dflt))) fun r1 =>
      if List.length x7 + List.length [(Bnd.mk (Bnd.name (List.getD x11 (Int.toNat x13) Ty.bnd.dflt)) (Val.re r1))] ≤ Lim then
      (impl_Bind_b3 N n x1 (x7 ++ [(Bnd.mk (Bnd.name (List.getD x11 (Int.toNat x13) Ty.bnd.dflt)) (Val.re r1))]) x11 x12 (IntKind.i64.wrap (x13 + 1)) b5)
      else none
      else none
    ) else (
      Option.bind (impl_copyValue N b5) fun r1 =>
      if List.length x7 + List.length [(Bnd.mk x1 (Val.re r1))] ≤ Lim then
      some (x7 ++ [(Bnd.mk x1 (Val.re r1))])
      else none
    )
def impl_Bind (N : Nat) (a0 : List Bnd) (a1 : Str) (a2 : Val) : Option ((List Bnd)) :=
  (impl_Bind_b3 N N a1 [] a0 (List.length a0 : Int) 0 a2)
def laws_heldBindingS_as (a0 : List Bnd) (a1 : Int) : List Arg := [.val (.v false [.sl .ro .bnd a0]), .val (.v false [.int .i64 a1])]
def laws_heldBindingS_ro (r : Int) : CallO := ⟨.v false [.int .i64 r], [], []⟩
def laws_heldBindingS_b2 (N : Nat) : Nat → (List Bnd) → Int → Int → Option (Int)
  | 0, _, _, _ => none
  | n + 1, x0, x1, x5 =>
    bif (decide ((x5 : Int) < (List.length x0 : Int))) then (
      if (0 : Int) ≤ x5 ∧ x5 < (List.length x0) then
      Option.bind (laws_markText N x1) fun r1 =>
      bif (!(((Bnd.name (List.getD x0 (Int.toNat x5) Ty.bnd.dflt)) : Str) == r1)) then (
        some (-1)
      ) else (
        bif (((Val.kind (Bnd.value (List.getD x0 (Int.toNat x5) Ty.bnd.dflt))) : Int) != (IntKind.i64.wrap (x1 + 1))) then (
          some (-1)
        ) else (
          bif (((Val.n (Bnd.value (List.getD x0 (Int.toNat x5) Ty.bnd.dflt))) : Int) != (IntKind.i64.wrap ((IntKind.i64.wrap (x1 + 1)) + 1))) then (
            some (-1)
          ) else (
            bif (((Val.step (Bnd.value (List.getD x0 (Int.toNat x5) Ty.bnd.dflt))) : Int) != (IntKind.i64.wrap ((IntKind.i64.wrap ((IntKind.i64.wrap (x1 + 1)) + 1)) + 1))) then (
              some (-1)
            ) else (
              Option.bind (laws_markText N (IntKind.i64.wrap ((IntKind.i64.wrap ((IntKind.i64.wrap ((IntKind.i64.wrap (x1 + 1)) + 1)) + 1)) + 1))) fun r2 =>
              bif (!(((Val.text (Bnd.value (List.getD x0 (Int.toNat x5) Ty.bnd.dflt))) : Str) == r2)) then (
                some (-1)
              ) else (
                Option.bind (laws_heldValueS N (Val.list (Bnd.value (List.getD x0 (Int.toNat x5) Ty.bnd.dflt))) (IntKind.i64.wrap ((IntKind.i64.wrap ((IntKind.i64.wrap ((IntKind.i64.wrap ((IntKind.i64.wrap (x1 + 1)) + 1)) + 1)) + 1)) + 1))) fun r3 =>
                bif (decide ((r3 : Int) < 0)) then (
                  some (-1)
                ) else (
                  Option.bind (laws_heldStringS N (Val.columns (Bnd.value (List.getD x0 (Int.toNat x5) Ty.bnd.dflt))) r3) fun r4 =>
                  bif (decide ((r4 : Int) < 0)) then (
                    some (-1)
                  ) else (
                    Option.bind (laws_heldRowS N (Val.rows (Bnd.value (List.getD x0 (Int.toNat x5) Ty.bnd.dflt))) r4) fun r5 =>
                    bif (decide ((r5 : Int) < 0)) then (
                      some (-1)
                    ) else (
                      (laws_heldBindingS_b2 N n x0 r5 (IntKind.i64.wrap (x5 + 1)))
                    )
                  )
                )
              )
            )
          )
        )
      )
      else none
    ) else (
      some x1
    )
def laws_heldBindingS (N : Nat) (a0 : List Bnd) (a1 : Int) : Option (Int) :=
  (laws_heldBindingS_b2 N N a0 a1 0)
def laws_FnExactBind_as (a0 : List Bnd) (a1 : Str) (a2 : Val) : List Arg := [.val (.v false [.sl .ro .bnd a0]), .val (.v false [.str a1]), .val (.v true [.int .i64 (Val.kind a2), .int .i64 (Val.n a2), .int .i64 (Val.step a2), .str (Val.text a2), .sl .ro .val (Val.list a2), .sl .ro .str (Val.columns a2), .sl .ro .row (Val.rows a2)])]
def laws_FnExactBind_ro (r : Bool) : CallO := ⟨.v false [.bool r], [], []⟩
def laws_FnExactBind (N : Nat) (a0 : List Bnd) (a1 : Str) (a2 : Val) : Option (Bool) :=
  bif (decide (((List.length a1 : Int) : Int) > 1048576)) then (
    some true
  ) else (
    Option.bind (laws_szBindingS N a0 1048576) fun r1 =>
    bif (decide ((r1 : Int) < 0)) then (
      some true
    ) else (
      Option.bind (laws_szValue N a2 r1) fun r2 =>
      bif (decide ((r2 : Int) < 0)) then (
        some true
      ) else (
        Option.bind (laws_toBindingS N a0) fun r3 =>
        Option.bind (laws_toValue N a2) fun r4 =>
        Option.bind (spec_Bind N r3 a1 r4) fun r5 =>
        Option.bind (laws_toBindingS N a0) fun r6 =>
        Option.bind (laws_toValue N a2) fun r7 =>
        Option.bind (impl_Bind N r6 a1 r7) fun r8 =>
        Option.bind (laws_eqBindingS N r8 r5) fun r9 =>
        bif (!r9) then (
          some false
        ) else (
          Option.bind (laws_toBindingS N a0) fun r10 =>
          Option.bind (laws_eqBindingS N r6 r10) fun r11 =>
          bif (!r11) then (
            some false
          ) else (
            Option.bind (laws_toValue N a2) fun r12 =>
            Option.bind (laws_eqValue N r7 r12) fun r13 =>
            bif (!r13) then (
              some false
            ) else (
              Option.bind (laws_markBindingS N r6 1) fun r14 =>
              if List.length r14.2 = List.length r6 then
              Option.bind (laws_markValue N r7 r14.1) fun r15 =>
              if List.length r15.2.1 = List.length (Val.list r7) then
              if List.length r15.2.2.1 = List.length (Val.columns r7) then
              if List.length r15.2.2.2 = List.length (Val.rows r7) then
              bif (decide ((r15.1 : Int) < 0)) then (
                some false
              ) else (
                Option.bind (laws_eqBindingS N r8 r5) fun r16 =>
                bif (!r16) then (
                  some false
                ) else (
                  Option.bind (laws_markBindingS N r8 1) fun r17 =>
                  if List.length r17.2 = List.length r8 then
                  Option.bind (laws_heldBindingS N r17.2 1) fun r18 =>
                  bif (decide ((r18 : Int) < 0)) then (
                    some false
                  ) else (
                    bif ((r18 : Int) != r17.1) then (
                      some false
                    ) else (
                      Option.bind (laws_toBindingS N a0) fun r19 =>
                      Option.bind (laws_toValue N a2) fun r20 =>
                      Option.bind (impl_Bind N r19 a1 r20) fun r21 =>
                      Option.bind (laws_eqBindingS N r21 r5) fun r22 =>
                      bif (!r22) then (
                        some false
                      ) else (
                        Option.bind (laws_heldBindingS N r17.2 1) fun r23 =>
                        bif (decide ((r23 : Int) < 0)) then (
                          some false
                        ) else (
                          bif ((r23 : Int) != r17.1) then (
                            some false
                          ) else (
                            some true
                          )
                        )
                      )
                    )
                  )
                  else none
                )
              )
              else none
              else none
              else none
              else none
            )
          )
        )
      )
    )
  )
end Go.Ab
end
section
open Go.Proofs
namespace Go.Ab.T
set_option linter.unusedVariables false
set_option maxRecDepth 100000
def tt : TT := [(3, { zero := some [.int .i64 0], ik := some .i64 }),
  (4, { zero := some [.bool false], isBool := true }),
  (5, { zero := some [.int .u8 0], ik := some .u8 }),
  (9, { zero := some [.str []], isStr := true }),
  (22, { zero := some [.sl .own .bnd []], elem := some (100, .bnd) }),
  (24, { zero := some [.sl .own .val []], elem := some (28, .val) }),
  (25, { zero := some [.sl .own .str []], elem := some (9, .str) }),
  (26, { zero := some [.sl .own .row []], elem := some (130, .row) }),
  (28, { sz := 7, agg := true, zero := some [.int .i64 0, .int .i64 0, .int .i64 0, .str [], .sl .own .val [], .sl .own .str [], .sl .own .row []], offs := [0, 1, 2, 3, 4, 5, 6], fsz := [1, 1, 1, 1, 1, 1, 1] }),
  (30, { zero := some [.sl .own .bnd []], elem := some (102, .bnd) }),
  (37, { zero := some [.sl .own .val []], elem := some (40, .val) }),
  (38, { zero := some [.sl .own .row []], elem := some (148, .row) }),
  (40, { sz := 7, agg := true, zero := some [.int .i64 0, .int .i64 0, .int .i64 0, .str [], .sl .own .val [], .sl .own .str [], .sl .own .row []], offs := [0, 1, 2, 3, 4, 5, 6], fsz := [1, 1, 1, 1, 1, 1, 1] }),
  (45, { zero := some [.sl .own .rea []], elem := some (47, .rea) }),
  (47, { sz := 11, agg := true, zero := some [.int .i64 0, .int .i64 0, .int .i64 0, .str [], .int .i64 0, .int .i64 0, .int .i64 0, .str [], .sl .own .val [], .sl .own .str [], .sl .own .row []], offs := [0, 1, 2, 3, 4], fsz := [1, 1, 1, 1, 7] }),
  (52, { zero := some [.sl .own .rea []], elem := some (55, .rea) }),
  (55, { sz := 11, agg := true, zero := some [.int .i64 0, .int .i64 0, .int .i64 0, .str [], .int .i64 0, .int .i64 0, .int .i64 0, .str [], .sl .own .val [], .sl .own .str [], .sl .own .row []], offs := [0, 1, 2, 3, 4], fsz := [1, 1, 1, 1, 7] }),
  (64, { zero := some [.sl .own .fil []], elem := some (152, .fil) }),
  (66, { sz := 3, agg := true, zero := some [.int .i64 0, .int .i64 0, .sl .own .fil []], offs := [0, 1, 2], fsz := [1, 1, 1] }),
  (69, { zero := some [.sl .own .fil []], elem := some (154, .fil) }),
  (71, { sz := 3, agg := true, zero := some [.int .i64 0, .int .i64 0, .sl .own .fil []], offs := [0, 1, 2], fsz := [1, 1, 1] }),
  (80, { zero := some [.sl .own .org []], elem := some (137, .org) }),
  (83, { zero := some [.sl .own .org []], elem := some (127, .org) }),
  (100, { sz := 8, agg := true, zero := some [.str [], .int .i64 0, .int .i64 0, .int .i64 0, .str [], .sl .own .val [], .sl .own .str [], .sl .own .row []], offs := [0, 1], fsz := [1, 7] }),
  (102, { sz := 8, agg := true, zero := some [.str [], .int .i64 0, .int .i64 0, .int .i64 0, .str [], .sl .own .val [], .sl .own .str [], .sl .own .row []], offs := [0, 1], fsz := [1, 7] }),
  (127, { sz := 2, agg := true, zero := some [.int .i64 0, .int .i64 0], offs := [0, 1], fsz := [1, 1], same := true }),
  (128, { zero := some [.sl .own .int []], elem := some (3, .int) }),
  (130, { sz := 2, agg := true, zero := some [.sl .own .int [], .sl .own .org []], offs := [0, 1], fsz := [1, 1] }),
  (137, { sz := 2, agg := true, zero := some [.int .i64 0, .int .i64 0], offs := [0, 1], fsz := [1, 1], same := true }),
  (144, { zero := some [.sl .own .byte []], elem := some (5, .byte) }),
  (148, { sz := 2, agg := true, zero := some [.sl .own .int [], .sl .own .org []], offs := [0, 1], fsz := [1, 1] }),
  (152, { sz := 2, agg := true, zero := some [.str [], .int .i64 0], offs := [0, 1], fsz := [1, 1] }),
  (154, { sz := 2, agg := true, zero := some [.str [], .int .i64 0], offs := [0, 1], fsz := [1, 1] })]
theorem ttok : TTok Try.prog tt := ttChk_ok (by kernel_rfl)
theorem mix : Try.prog.follows .mixedOrders = true := by kernel_rfl
noncomputable def I85 : Info := { body := (Try.f85.body).getD .skip, nt := 28, results := [.tmp 4], keep := [0, 2, 8, 10, 22, 30, 52], live := [(5, [0, 2, 10])], modes := [], ext := [], lnt := [], casts := [], fcast := [] }
theorem fk85 : FnOk Try.prog 85 Try.f85 I85 := ⟨Try.func85, by kernel_rfl, by kernel_rfl, by kernel_rfl, by kernel_rfl⟩
def S85_5 (x0 : List Str) (x1 : Int) (x5 : Int) : St := [(0, .v false [.sl .ro .str x0]), (2, .v false [.int .i64 x1]), (10, .v false [.int .i64 x5])]
theorem p85_5_0 (x0 : List Str) (x1 : Int) (x5 : Int) : run tt (AbsCalls Try.prog) I85 3000 true (stkAt 5 I85.body) ⟨(S85_5 x0 x1 x5), [true, true], [], []⟩ = some (.done (laws_szStringS_ro (-1)) [(decide ((x5 : Int) < (List.length x0 : Int))) = true, (0 : Int) ≤ x5 ∧ x5 < (List.length x0), (decide (((IntKind.i64.wrap (x1 - (List.length (List.getD x0 (Int.toNat x5) Ty.str.dflt) : Int))) : Int) < 0)) = true]) := by kernel_rfl
theorem p85_5_1 (x0 : List Str) (x1 : Int) (x5 : Int) : run tt (AbsCalls Try.prog) I85 3000 true (stkAt 5 I85.body) ⟨(S85_5 x0 x1 x5), [true, false], [], []⟩ = some (.stop (stkAt 5 I85.body) (S85_5 x0 (IntKind.i64.wrap (x1 - (List.length (List.getD x0 (Int.toNat x5) Ty.str.dflt) : Int))) (IntKind.i64.wrap (x5 + 1))) [(decide ((x5 : Int) < (List.length x0 : Int))) = true, (0 : Int) ≤ x5 ∧ x5 < (List.length x0), (decide (((IntKind.i64.wrap (x1 - (List.length (List.getD x0 (Int.toNat x5) Ty.str.dflt) : Int))) : Int) < 0)) = false]) := by kernel_rfl
theorem p85_5_2 (x0 : List Str) (x1 : Int) (x5 : Int) : run tt (AbsCalls Try.prog) I85 3000 true (stkAt 5 I85.body) ⟨(S85_5 x0 x1 x5), [false], [], []⟩ = some (.done (laws_szStringS_ro x1) [(decide ((x5 : Int) < (List.length x0 : Int))) = false]) := by kernel_rfl
theorem p85_e_3 (a0 : List Str) (a1 : Int) : run tt (AbsCalls Try.prog) I85 3000 false [.code I85.body] ⟨(entry 0 (laws_szStringS_as a0 a1)), [true], [], []⟩ = some (.done (laws_szStringS_ro (-1)) [(decide (((IntKind.i64.wrap (a1 - (List.length a0 : Int))) : Int) < 0)) = true]) := by kernel_rfl
theorem p85_e_4 (a0 : List Str) (a1 : Int) : run tt (AbsCalls Try.prog) I85 3000 false [.code I85.body] ⟨(entry 0 (laws_szStringS_as a0 a1)), [false], [], []⟩ = some (.stop (stkAt 5 I85.body) (S85_5 a0 (IntKind.i64.wrap (a1 - (List.length a0 : Int))) 0) [(decide (((IntKind.i64.wrap (a1 - (List.length a0 : Int))) : Int) < 0)) = false]) := by kernel_rfl
theorem c85_5 {N : Nat} : ∀ n x0 x1 x5 r, laws_szStringS_b5 N n x0 x1 x5 = some r → Reach Try.prog Try.f85 I85 (stkAt 5 I85.body) (S85_5 x0 x1 x5) (laws_szStringS_ro r) := by
  intro n
  induction n with
  | zero => intro x0 x1 x5 r h; have h' : (none : Option (Int)) = some r := h; cases h'
  | succ n ih =>
    intro x0 x1 x5 r h
    rw [laws_szStringS_b5] at h
    rcases cond_inv h with ⟨h0, h⟩ | ⟨h0, h⟩
    · obtain ⟨h1, h⟩ := ite_inv h
      rcases cond_inv h with ⟨h2, h⟩ | ⟨h2, h⟩
      · obtain rfl := Option.some.inj h
        exact Reach.done ttok mix fk85 (p85_5_0 x0 x1 x5) (obs_cons h0 (obs_cons h1 (obs_cons h2 obs_nil)))
      · exact Reach.stop ttok mix fk85 (p85_5_1 x0 x1 x5) (obs_cons h0 (obs_cons h1 (obs_cons h2 obs_nil))) (ih _ _ _ _ h)
    · obtain rfl := Option.some.inj h
      exact Reach.done ttok mix fk85 (p85_5_2 x0 x1 x5) (obs_cons h0 obs_nil)
theorem c85_e {N : Nat} : ∀ a0 a1 r, laws_szStringS N a0 a1 = some r → Reach Try.prog Try.f85 I85 [.code I85.body] (entry 0 (laws_szStringS_as a0 a1)) (laws_szStringS_ro r) := by
  intro a0 a1 r h
  unfold laws_szStringS at h
  rcases cond_inv h with ⟨h0, h⟩ | ⟨h0, h⟩
  · obtain rfl := Option.some.inj h
    exact Reach.done ttok mix fk85 (p85_e_3 a0 a1) (obs_cons h0 obs_nil)
  · exact Reach.stop ttok mix fk85 (p85_e_4 a0 a1) (obs_cons h0 obs_nil) (c85_5   _ _ _ _ _ h)
theorem laws_szStringS_ok {N : Nat} {a0 : List Str} {a1 : Int} {r : Int} (h : laws_szStringS N  a0 a1 = some r) : AbsCalls Try.prog 85 (laws_szStringS_as a0 a1) (laws_szStringS_ro r) :=
 AbsCalls.of_reach fk85 rfl rfl (Nat.le_of_ble_eq_true rfl) (c85_e a0 a1 r h)
noncomputable def I149 : Info := { body := (Try.f149.body).getD .skip, nt := 12, results := [.tmp 4], keep := [0, 2, 8, 20], live := [], modes := [], ext := [], lnt := [], casts := [], fcast := [] }
theorem fk149 : FnOk Try.prog 149 Try.f149 I149 := ⟨Try.func149, by kernel_rfl, by kernel_rfl, by kernel_rfl, by kernel_rfl⟩
theorem p149_e_0 (a0 : List Int) (a1 : Int) : run tt (AbsCalls Try.prog) I149 3000 false [.code I149.body] ⟨(entry 0 (laws_szIntS_as a0 a1)), [true], [], []⟩ = some (.done (laws_szIntS_ro (-1)) [(decide (((IntKind.i64.wrap (a1 - (List.length a0 : Int))) : Int) < 0)) = true]) := by kernel_rfl
theorem p149_e_1 (a0 : List Int) (a1 : Int) : run tt (AbsCalls Try.prog) I149 3000 false [.code I149.body] ⟨(entry 0 (laws_szIntS_as a0 a1)), [false], [], []⟩ = some (.done (laws_szIntS_ro (IntKind.i64.wrap (a1 - (List.length a0 : Int)))) [(decide (((IntKind.i64.wrap (a1 - (List.length a0 : Int))) : Int) < 0)) = false]) := by kernel_rfl
theorem c149_e {N : Nat} : ∀ a0 a1 r, laws_szIntS N a0 a1 = some r → Reach Try.prog Try.f149 I149 [.code I149.body] (entry 0 (laws_szIntS_as a0 a1)) (laws_szIntS_ro r) := by
  intro a0 a1 r h
  unfold laws_szIntS at h
  rcases cond_inv h with ⟨h0, h⟩ | ⟨h0, h⟩
  · obtain rfl := Option.some.inj h
    exact Reach.done ttok mix fk149 (p149_e_0 a0 a1) (obs_cons h0 obs_nil)
  · obtain rfl := Option.some.inj h
    exact Reach.done ttok mix fk149 (p149_e_1 a0 a1) (obs_cons h0 obs_nil)
theorem laws_szIntS_ok {N : Nat} {a0 : List Int} {a1 : Int} {r : Int} (h : laws_szIntS N  a0 a1 = some r) : AbsCalls Try.prog 149 (laws_szIntS_as a0 a1) (laws_szIntS_ro r) :=
 AbsCalls.of_reach fk149 rfl rfl (Nat.le_of_ble_eq_true rfl) (c149_e a0 a1 r h)
noncomputable def I54 : Info := { body := (Try.f54.body).getD .skip, nt := 12, results := [.tmp 4], keep := [0, 2, 8, 20], live := [], modes := [], ext := [], lnt := [], casts := [], fcast := [] }
theorem fk54 : FnOk Try.prog 54 Try.f54 I54 := ⟨Try.func54, by kernel_rfl, by kernel_rfl, by kernel_rfl, by kernel_rfl⟩
theorem p54_e_0 (a0 : List Org) (a1 : Int) : run tt (AbsCalls Try.prog) I54 3000 false [.code I54.body] ⟨(entry 0 (laws_szOriginS_as a0 a1)), [true], [], []⟩ = some (.done (laws_szOriginS_ro (-1)) [(decide (((IntKind.i64.wrap (a1 - (List.length a0 : Int))) : Int) < 0)) = true]) := by kernel_rfl
theorem p54_e_1 (a0 : List Org) (a1 : Int) : run tt (AbsCalls Try.prog) I54 3000 false [.code I54.body] ⟨(entry 0 (laws_szOriginS_as a0 a1)), [false], [], []⟩ = some (.done (laws_szOriginS_ro (IntKind.i64.wrap (a1 - (List.length a0 : Int)))) [(decide (((IntKind.i64.wrap (a1 - (List.length a0 : Int))) : Int) < 0)) = false]) := by kernel_rfl
theorem c54_e {N : Nat} : ∀ a0 a1 r, laws_szOriginS N a0 a1 = some r → Reach Try.prog Try.f54 I54 [.code I54.body] (entry 0 (laws_szOriginS_as a0 a1)) (laws_szOriginS_ro r) := by
  intro a0 a1 r h
  unfold laws_szOriginS at h
  rcases cond_inv h with ⟨h0, h⟩ | ⟨h0, h⟩
  · obtain rfl := Option.some.inj h
    exact Reach.done ttok mix fk54 (p54_e_0 a0 a1) (obs_cons h0 obs_nil)
  · obtain rfl := Option.some.inj h
    exact Reach.done ttok mix fk54 (p54_e_1 a0 a1) (obs_cons h0 obs_nil)
theorem laws_szOriginS_ok {N : Nat} {a0 : List Org} {a1 : Int} {r : Int} (h : laws_szOriginS N  a0 a1 = some r) : AbsCalls Try.prog 54 (laws_szOriginS_as a0 a1) (laws_szOriginS_ro r) :=
 AbsCalls.of_reach fk54 rfl rfl (Nat.le_of_ble_eq_true rfl) (c54_e a0 a1 r h)
noncomputable def I133 : Info := { body := (Try.f133.body).getD .skip, nt := 18, results := [.tmp 4], keep := [0, 2, 4, 8, 20, 32, 5], live := [], modes := [], ext := [], lnt := [], casts := [], fcast := [] }
theorem fk133 : FnOk Try.prog 133 Try.f133 I133 := ⟨Try.func133, by kernel_rfl, by kernel_rfl, by kernel_rfl, by kernel_rfl⟩
theorem p133_e_0 (a0 : Rowd) (a1 : Int) (r1 : Int) : run tt (AbsCalls Try.prog) I133 3000 false [.code I133.body] ⟨(entry 0 (laws_szRow_as a0 a1)), [true], [laws_szIntS_ro r1], []⟩ = some (.done (laws_szRow_ro (-1)) [AbsCalls Try.prog 149 (laws_szIntS_as (Rowd.cells a0) a1) (laws_szIntS_ro r1), (decide ((r1 : Int) < 0)) = true]) := by kernel_rfl
theorem p133_e_1 (a0 : Rowd) (a1 : Int) (r1 : Int) (r2 : Int) : run tt (AbsCalls Try.prog) I133 3000 false [.code I133.body] ⟨(entry 0 (laws_szRow_as a0 a1)), [false, true], [laws_szIntS_ro r1, laws_szOriginS_ro r2], []⟩ = some (.done (laws_szRow_ro (-1)) [AbsCalls Try.prog 149 (laws_szIntS_as (Rowd.cells a0) a1) (laws_szIntS_ro r1), (decide ((r1 : Int) < 0)) = false, AbsCalls Try.prog 54 (laws_szOriginS_as (Rowd.frm a0) r1) (laws_szOriginS_ro r2), (decide ((r2 : Int) < 0)) = true]) := by kernel_rfl
theorem p133_e_2 (a0 : Rowd) (a1 : Int) (r1 : Int) (r2 : Int) : run tt (AbsCalls Try.prog) I133 3000 false [.code I133.body] ⟨(entry 0 (laws_szRow_as a0 a1)), [false, false], [laws_szIntS_ro r1, laws_szOriginS_ro r2], []⟩ = some (.done (laws_szRow_ro r2) [AbsCalls Try.prog 149 (laws_szIntS_as (Rowd.cells a0) a1) (laws_szIntS_ro r1), (decide ((r1 : Int) < 0)) = false, AbsCalls Try.prog 54 (laws_szOriginS_as (Rowd.frm a0) r1) (laws_szOriginS_ro r2), (decide ((r2 : Int) < 0)) = false]) := by kernel_rfl
theorem c133_e {N : Nat} : ∀ a0 a1 r, laws_szRow N a0 a1 = some r → Reach Try.prog Try.f133 I133 [.code I133.body] (entry 0 (laws_szRow_as a0 a1)) (laws_szRow_ro r) := by
  intro a0 a1 r h
  unfold laws_szRow at h
  obtain ⟨r1, h0, h⟩ := bind_inv h
  rcases cond_inv h with ⟨h1, h⟩ | ⟨h1, h⟩
  · obtain rfl := Option.some.inj h
    exact Reach.done ttok mix fk133 (p133_e_0 a0 a1 r1) (obs_cons (laws_szIntS_ok h0) (obs_cons h1 obs_nil))
  · obtain ⟨r2, h2, h⟩ := bind_inv h
    rcases cond_inv h with ⟨h3, h⟩ | ⟨h3, h⟩
    · obtain rfl := Option.some.inj h
      exact Reach.done ttok mix fk133 (p133_e_1 a0 a1 r1 r2) (obs_cons (laws_szIntS_ok h0) (obs_cons h1 (obs_cons (laws_szOriginS_ok h2) (obs_cons h3 obs_nil))))
    · obtain rfl := Option.some.inj h
      exact Reach.done ttok mix fk133 (p133_e_2 a0 a1 r1 r2) (obs_cons (laws_szIntS_ok h0) (obs_cons h1 (obs_cons (laws_szOriginS_ok h2) (obs_cons h3 obs_nil))))
theorem laws_szRow_ok {N : Nat} {a0 : Rowd} {a1 : Int} {r : Int} (h : laws_szRow N  a0 a1 = some r) : AbsCalls Try.prog 133 (laws_szRow_as a0 a1) (laws_szRow_ro r) :=
 AbsCalls.of_reach fk133 rfl rfl (Nat.le_of_ble_eq_true rfl) (c133_e a0 a1 r h)
noncomputable def I86 : Info := { body := (Try.f86.body).getD .skip, nt := 27, results := [.tmp 4], keep := [0, 2, 8, 10, 22, 30, 50], live := [(5, [0, 2, 10])], modes := [], ext := [], lnt := [], casts := [], fcast := [] }
theorem fk86 : FnOk Try.prog 86 Try.f86 I86 := ⟨Try.func86, by kernel_rfl, by kernel_rfl, by kernel_rfl, by kernel_rfl⟩
def S86_5 (x0 : List Rowd) (x1 : Int) (x5 : Int) : St := [(0, .v false [.sl .ro .row x0]), (2, .v false [.int .i64 x1]), (10, .v false [.int .i64 x5])]
theorem p86_5_0 (x0 : List Rowd) (x1 : Int) (x5 : Int) (r1 : Int) : run tt (AbsCalls Try.prog) I86 3000 true (stkAt 5 I86.body) ⟨(S86_5 x0 x1 x5), [true, true], [laws_szRow_ro r1], []⟩ = some (.done (laws_szRowS_ro (-1)) [(decide ((x5 : Int) < (List.length x0 : Int))) = true, (0 : Int) ≤ x5 ∧ x5 < (List.length x0), AbsCalls Try.prog 133 (laws_szRow_as (List.getD x0 (Int.toNat x5) Ty.row.dflt) x1) (laws_szRow_ro r1), (decide ((r1 : Int) < 0)) = true]) := by kernel_rfl
theorem p86_5_1 (x0 : List Rowd) (x1 : Int) (x5 : Int) (r1 : Int) : run tt (AbsCalls Try.prog) I86 3000 true (stkAt 5 I86.body) ⟨(S86_5 x0 x1 x5), [true, false], [laws_szRow_ro r1], []⟩ = some (.stop (stkAt 5 I86.body) (S86_5 x0 r1 (IntKind.i64.wrap (x5 + 1))) [(decide ((x5 : Int) < (List.length x0 : Int))) = true, (0 : Int) ≤ x5 ∧ x5 < (List.length x0), AbsCalls Try.prog 133 (laws_szRow_as (List.getD x0 (Int.toNat x5) Ty.row.dflt) x1) (laws_szRow_ro r1), (decide ((r1 : Int) < 0)) = false]) := by kernel_rfl
theorem p86_5_2 (x0 : List Rowd) (x1 : Int) (x5 : Int) : run tt (AbsCalls Try.prog) I86 3000 true (stkAt 5 I86.body) ⟨(S86_5 x0 x1 x5), [false], [], []⟩ = some (.done (laws_szRowS_ro x1) [(decide ((x5 : Int) < (List.length x0 : Int))) = false]) := by kernel_rfl
theorem p86_e_3 (a0 : List Rowd) (a1 : Int) : run tt (AbsCalls Try.prog) I86 3000 false [.code I86.body] ⟨(entry 0 (laws_szRowS_as a0 a1)), [true], [], []⟩ = some (.done (laws_szRowS_ro (-1)) [(decide (((IntKind.i64.wrap (a1 - (List.length a0 : Int))) : Int) < 0)) = true]) := by kernel_rfl
theorem p86_e_4 (a0 : List Rowd) (a1 : Int) : run tt (AbsCalls Try.prog) I86 3000 false [.code I86.body] ⟨(entry 0 (laws_szRowS_as a0 a1)), [false], [], []⟩ = some (.stop (stkAt 5 I86.body) (S86_5 a0 (IntKind.i64.wrap (a1 - (List.length a0 : Int))) 0) [(decide (((IntKind.i64.wrap (a1 - (List.length a0 : Int))) : Int) < 0)) = false]) := by kernel_rfl
theorem c86_5 {N : Nat} : ∀ n x0 x1 x5 r, laws_szRowS_b5 N n x0 x1 x5 = some r → Reach Try.prog Try.f86 I86 (stkAt 5 I86.body) (S86_5 x0 x1 x5) (laws_szRowS_ro r) := by
  intro n
  induction n with
  | zero => intro x0 x1 x5 r h; have h' : (none : Option (Int)) = some r := h; cases h'
  | succ n ih =>
    intro x0 x1 x5 r h
    rw [laws_szRowS_b5] at h
    rcases cond_inv h with ⟨h0, h⟩ | ⟨h0, h⟩
    · obtain ⟨h1, h⟩ := ite_inv h
      obtain ⟨r1, h2, h⟩ := bind_inv h
      rcases cond_inv h with ⟨h3, h⟩ | ⟨h3, h⟩
      · obtain rfl := Option.some.inj h
        exact Reach.done ttok mix fk86 (p86_5_0 x0 x1 x5 r1) (obs_cons h0 (obs_cons h1 (obs_cons (laws_szRow_ok h2) (obs_cons h3 obs_nil))))
      · exact Reach.stop ttok mix fk86 (p86_5_1 x0 x1 x5 r1) (obs_cons h0 (obs_cons h1 (obs_cons (laws_szRow_ok h2) (obs_cons h3 obs_nil)))) (ih _ _ _ _ h)
    · obtain rfl := Option.some.inj h
      exact Reach.done ttok mix fk86 (p86_5_2 x0 x1 x5) (obs_cons h0 obs_nil)
theorem c86_e {N : Nat} : ∀ a0 a1 r, laws_szRowS N a0 a1 = some r → Reach Try.prog Try.f86 I86 [.code I86.body] (entry 0 (laws_szRowS_as a0 a1)) (laws_szRowS_ro r) := by
  intro a0 a1 r h
  unfold laws_szRowS at h
  rcases cond_inv h with ⟨h0, h⟩ | ⟨h0, h⟩
  · obtain rfl := Option.some.inj h
    exact Reach.done ttok mix fk86 (p86_e_3 a0 a1) (obs_cons h0 obs_nil)
  · exact Reach.stop ttok mix fk86 (p86_e_4 a0 a1) (obs_cons h0 obs_nil) (c86_5   _ _ _ _ _ h)
theorem laws_szRowS_ok {N : Nat} {a0 : List Rowd} {a1 : Int} {r : Int} (h : laws_szRowS N  a0 a1 = some r) : AbsCalls Try.prog 86 (laws_szRowS_as a0 a1) (laws_szRowS_ro r) :=
 AbsCalls.of_reach fk86 rfl rfl (Nat.le_of_ble_eq_true rfl) (c86_e a0 a1 r h)
noncomputable def I24 : Info := { body := (Try.f24.body).getD .skip, nt := 31, results := [.tmp 4], keep := [0, 2, 4, 8, 22, 34, 46, 58, 5], live := [], modes := [], ext := [], lnt := [], casts := [], fcast := [] }
theorem fk24 : FnOk Try.prog 24 Try.f24 I24 := ⟨Try.func24, by kernel_rfl, by kernel_rfl, by kernel_rfl, by kernel_rfl⟩
theorem p24_e_0 (a0 : Val) (a1 : Int) : run tt (AbsCalls Try.prog) I24 3000 false [.code I24.body] ⟨(entry 0 (laws_szValue_as a0 a1)), [true], [], []⟩ = some (.done (laws_szValue_ro (-1)) [(decide (((IntKind.i64.wrap (a1 - (List.length (Val.text a0) : Int))) : Int) < 0)) = true]) := by kernel_rfl
theorem p24_e_1 (a0 : Val) (a1 : Int) (r1 : Int) : run tt (AbsCalls Try.prog) I24 3000 false [.code I24.body] ⟨(entry 0 (laws_szValue_as a0 a1)), [false, true], [laws_szValueS_ro r1], []⟩ = some (.done (laws_szValue_ro (-1)) [(decide (((IntKind.i64.wrap (a1 - (List.length (Val.text a0) : Int))) : Int) < 0)) = false, AbsCalls Try.prog 62 (laws_szValueS_as (Val.list a0) (IntKind.i64.wrap (a1 - (List.length (Val.text a0) : Int)))) (laws_szValueS_ro r1), (decide ((r1 : Int) < 0)) = true]) := by kernel_rfl
theorem p24_e_2 (a0 : Val) (a1 : Int) (r1 : Int) (r2 : Int) : run tt (AbsCalls Try.prog) I24 3000 false [.code I24.body] ⟨(entry 0 (laws_szValue_as a0 a1)), [false, false, true], [laws_szValueS_ro r1, laws_szStringS_ro r2], []⟩ = some (.done (laws_szValue_ro (-1)) [(decide (((IntKind.i64.wrap (a1 - (List.length (Val.text a0) : Int))) : Int) < 0)) = false, AbsCalls Try.prog 62 (laws_szValueS_as (Val.list a0) (IntKind.i64.wrap (a1 - (List.length (Val.text a0) : Int)))) (laws_szValueS_ro r1), (decide ((r1 : Int) < 0)) = false, AbsCalls Try.prog 85 (laws_szStringS_as (Val.columns a0) r1) (laws_szStringS_ro r2), (decide ((r2 : Int) < 0)) = true]) := by kernel_rfl
theorem p24_e_3 (a0 : Val) (a1 : Int) (r1 : Int) (r2 : Int) (r3 : Int) : run tt (AbsCalls Try.prog) I24 3000 false [.code I24.body] ⟨(entry 0 (laws_szValue_as a0 a1)), [false, false, false, true], [laws_szValueS_ro r1, laws_szStringS_ro r2, laws_szRowS_ro r3], []⟩ = some (.done (laws_szValue_ro (-1)) [(decide (((IntKind.i64.wrap (a1 - (List.length (Val.text a0) : Int))) : Int) < 0)) = false, AbsCalls Try.prog 62 (laws_szValueS_as (Val.list a0) (IntKind.i64.wrap (a1 - (List.length (Val.text a0) : Int)))) (laws_szValueS_ro r1), (decide ((r1 : Int) < 0)) = false, AbsCalls Try.prog 85 (laws_szStringS_as (Val.columns a0) r1) (laws_szStringS_ro r2), (decide ((r2 : Int) < 0)) = false, AbsCalls Try.prog 86 (laws_szRowS_as (Val.rows a0) r2) (laws_szRowS_ro r3), (decide ((r3 : Int) < 0)) = true]) := by kernel_rfl
theorem p24_e_4 (a0 : Val) (a1 : Int) (r1 : Int) (r2 : Int) (r3 : Int) : run tt (AbsCalls Try.prog) I24 3000 false [.code I24.body] ⟨(entry 0 (laws_szValue_as a0 a1)), [false, false, false, false], [laws_szValueS_ro r1, laws_szStringS_ro r2, laws_szRowS_ro r3], []⟩ = some (.done (laws_szValue_ro r3) [(decide (((IntKind.i64.wrap (a1 - (List.length (Val.text a0) : Int))) : Int) < 0)) = false, AbsCalls Try.prog 62 (laws_szValueS_as (Val.list a0) (IntKind.i64.wrap (a1 - (List.length (Val.text a0) : Int)))) (laws_szValueS_ro r1), (decide ((r1 : Int) < 0)) = false, AbsCalls Try.prog 85 (laws_szStringS_as (Val.columns a0) r1) (laws_szStringS_ro r2), (decide ((r2 : Int) < 0)) = false, AbsCalls Try.prog 86 (laws_szRowS_as (Val.rows a0) r2) (laws_szRowS_ro r3), (decide ((r3 : Int) < 0)) = false]) := by kernel_rfl
theorem c24_e {N : Nat} {rc_laws_szValue : Val → Int → Option (Int)} (hrc_laws_szValue : ∀ a0 a1 r, rc_laws_szValue a0 a1 = some r → AbsCalls Try.prog 24 (laws_szValue_as a0 a1) (laws_szValue_ro r)) {rc_laws_szValueS : (List Val) → Int → Option (Int)} (hrc_laws_szValueS : ∀ a0 a1 r, rc_laws_szValueS a0 a1 = some r → AbsCalls Try.prog 62 (laws_szValueS_as a0 a1) (laws_szValueS_ro r)) : ∀ a0 a1 r, laws_szValue_body N rc_laws_szValue rc_laws_szValueS a0 a1 = some r → Reach Try.prog Try.f24 I24 [.code I24.body] (entry 0 (laws_szValue_as a0 a1)) (laws_szValue_ro r) := by
  intro a0 a1 r h
  unfold laws_szValue_body at h
  rcases cond_inv h with ⟨h0, h⟩ | ⟨h0, h⟩
  · obtain rfl := Option.some.inj h
    exact Reach.done ttok mix fk24 (p24_e_0 a0 a1) (obs_cons h0 obs_nil)
  · obtain ⟨r1, h1, h⟩ := bind_inv h
    rcases cond_inv h with ⟨h2, h⟩ | ⟨h2, h⟩
    · obtain rfl := Option.some.inj h
      exact Reach.done ttok mix fk24 (p24_e_1 a0 a1 r1) (obs_cons h0 (obs_cons (hrc_laws_szValueS _ _ _ h1) (obs_cons h2 obs_nil)))
    · obtain ⟨r2, h3, h⟩ := bind_inv h
      rcases cond_inv h with ⟨h4, h⟩ | ⟨h4, h⟩
      · obtain rfl := Option.some.inj h
        exact Reach.done ttok mix fk24 (p24_e_2 a0 a1 r1 r2) (obs_cons h0 (obs_cons (hrc_laws_szValueS _ _ _ h1) (obs_cons h2 (obs_cons (laws_szStringS_ok h3) (obs_cons h4 obs_nil)))))
      · obtain ⟨r3, h5, h⟩ := bind_inv h
        rcases cond_inv h with ⟨h6, h⟩ | ⟨h6, h⟩
        · obtain rfl := Option.some.inj h
          exact Reach.done ttok mix fk24 (p24_e_3 a0 a1 r1 r2 r3) (obs_cons h0 (obs_cons (hrc_laws_szValueS _ _ _ h1) (obs_cons h2 (obs_cons (laws_szStringS_ok h3) (obs_cons h4 (obs_cons (laws_szRowS_ok h5) (obs_cons h6 obs_nil)))))))
        · obtain rfl := Option.some.inj h
          exact Reach.done ttok mix fk24 (p24_e_4 a0 a1 r1 r2 r3) (obs_cons h0 (obs_cons (hrc_laws_szValueS _ _ _ h1) (obs_cons h2 (obs_cons (laws_szStringS_ok h3) (obs_cons h4 (obs_cons (laws_szRowS_ok h5) (obs_cons h6 obs_nil)))))))
theorem laws_szValue_body_ok {N : Nat} {rc_laws_szValue : Val → Int → Option (Int)} (hrc_laws_szValue : ∀ a0 a1 r, rc_laws_szValue a0 a1 = some r → AbsCalls Try.prog 24 (laws_szValue_as a0 a1) (laws_szValue_ro r)) {rc_laws_szValueS : (List Val) → Int → Option (Int)} (hrc_laws_szValueS : ∀ a0 a1 r, rc_laws_szValueS a0 a1 = some r → AbsCalls Try.prog 62 (laws_szValueS_as a0 a1) (laws_szValueS_ro r)) {a0 : Val} {a1 : Int} {r : Int} (h : laws_szValue_body N rc_laws_szValue rc_laws_szValueS a0 a1 = some r) : AbsCalls Try.prog 24 (laws_szValue_as a0 a1) (laws_szValue_ro r) :=
 AbsCalls.of_reach fk24 rfl rfl (Nat.le_of_ble_eq_true rfl) (c24_e hrc_laws_szValue hrc_laws_szValueS a0 a1 r h)
noncomputable def I62 : Info := { body := (Try.f62.body).getD .skip, nt := 27, results := [.tmp 4], keep := [0, 2, 8, 10, 22, 30, 50], live := [(5, [0, 2, 10])], modes := [], ext := [], lnt := [], casts := [], fcast := [] }
theorem fk62 : FnOk Try.prog 62 Try.f62 I62 := ⟨Try.func62, by kernel_rfl, by kernel_rfl, by kernel_rfl, by kernel_rfl⟩
def S62_5 (x0 : List Val) (x1 : Int) (x5 : Int) : St := [(0, .v false [.sl .ro .val x0]), (2, .v false [.int .i64 x1]), (10, .v false [.int .i64 x5])]
theorem p62_5_0 (x0 : List Val) (x1 : Int) (x5 : Int) (r1 : Int) : run tt (AbsCalls Try.prog) I62 3000 true (stkAt 5 I62.body) ⟨(S62_5 x0 x1 x5), [true, true], [laws_szValue_ro r1], []⟩ = some (.done (laws_szValueS_ro (-1)) [(decide ((x5 : Int) < (List.length x0 : Int))) = true, (0 : Int) ≤ x5 ∧ x5 < (List.length x0), AbsCalls Try.prog 24 (laws_szValue_as (List.getD x0 (Int.toNat x5) Ty.val.dflt) x1) (laws_szValue_ro r1), (decide ((r1 : Int) < 0)) = true]) := by kernel_rfl
theorem p62_5_1 (x0 : List Val) (x1 : Int) (x5 : Int) (r1 : Int) : run tt (AbsCalls Try.prog) I62 3000 true (stkAt 5 I62.body) ⟨(S62_5 x0 x1 x5), [true, false], [laws_szValue_ro r1], []⟩ = some (.stop (stkAt 5 I62.body) (S62_5 x0 r1 (IntKind.i64.wrap (x5 + 1))) [(decide ((x5 : Int) < (List.length x0 : Int))) = true, (0 : Int) ≤ x5 ∧ x5 < (List.length x0), AbsCalls Try.prog 24 (laws_szValue_as (List.getD x0 (Int.toNat x5) Ty.val.dflt) x1) (laws_szValue_ro r1), (decide ((r1 : Int) < 0)) = false]) := by kernel_rfl
theorem p62_5_2 (x0 : List Val) (x1 : Int) (x5 : Int) : run tt (AbsCalls Try.prog) I62 3000 true (stkAt 5 I62.body) ⟨(S62_5 x0 x1 x5), [false], [], []⟩ = some (.done (laws_szValueS_ro x1) [(decide ((x5 : Int) < (List.length x0 : Int))) = false]) := by kernel_rfl
theorem p62_e_3 (a0 : List Val) (a1 : Int) : run tt (AbsCalls Try.prog) I62 3000 false [.code I62.body] ⟨(entry 0 (laws_szValueS_as a0 a1)), [true], [], []⟩ = some (.done (laws_szValueS_ro (-1)) [(decide (((IntKind.i64.wrap (a1 - (List.length a0 : Int))) : Int) < 0)) = true]) := by kernel_rfl
theorem p62_e_4 (a0 : List Val) (a1 : Int) : run tt (AbsCalls Try.prog) I62 3000 false [.code I62.body] ⟨(entry 0 (laws_szValueS_as a0 a1)), [false], [], []⟩ = some (.stop (stkAt 5 I62.body) (S62_5 a0 (IntKind.i64.wrap (a1 - (List.length a0 : Int))) 0) [(decide (((IntKind.i64.wrap (a1 - (List.length a0 : Int))) : Int) < 0)) = false]) := by kernel_rfl
theorem c62_5 {N : Nat} {rc_laws_szValue : Val → Int → Option (Int)} (hrc_laws_szValue : ∀ a0 a1 r, rc_laws_szValue a0 a1 = some r → AbsCalls Try.prog 24 (laws_szValue_as a0 a1) (laws_szValue_ro r)) {rc_laws_szValueS : (List Val) → Int → Option (Int)} (hrc_laws_szValueS : ∀ a0 a1 r, rc_laws_szValueS a0 a1 = some r → AbsCalls Try.prog 62 (laws_szValueS_as a0 a1) (laws_szValueS_ro r)) : ∀ n x0 x1 x5 r, laws_szValueS_b5 N rc_laws_szValue rc_laws_szValueS n x0 x1 x5 = some r → Reach Try.prog Try.f62 I62 (stkAt 5 I62.body) (S62_5 x0 x1 x5) (laws_szValueS_ro r) := by
  intro n
  induction n with
  | zero => intro x0 x1 x5 r h; have h' : (none : Option (Int)) = some r := h; cases h'
  | succ n ih =>
    intro x0 x1 x5 r h
    rw [laws_szValueS_b5] at h
    rcases cond_inv h with ⟨h0, h⟩ | ⟨h0, h⟩
    · obtain ⟨h1, h⟩ := ite_inv h
      obtain ⟨r1, h2, h⟩ := bind_inv h
      rcases cond_inv h with ⟨h3, h⟩ | ⟨h3, h⟩
      · obtain rfl := Option.some.inj h
        exact Reach.done ttok mix fk62 (p62_5_0 x0 x1 x5 r1) (obs_cons h0 (obs_cons h1 (obs_cons (hrc_laws_szValue _ _ _ h2) (obs_cons h3 obs_nil))))
      · exact Reach.stop ttok mix fk62 (p62_5_1 x0 x1 x5 r1) (obs_cons h0 (obs_cons h1 (obs_cons (hrc_laws_szValue _ _ _ h2) (obs_cons h3 obs_nil)))) (ih _ _ _ _ h)
    · obtain rfl := Option.some.inj h
      exact Reach.done ttok mix fk62 (p62_5_2 x0 x1 x5) (obs_cons h0 obs_nil)
theorem c62_e {N : Nat} {rc_laws_szValue : Val → Int → Option (Int)} (hrc_laws_szValue : ∀ a0 a1 r, rc_laws_szValue a0 a1 = some r → AbsCalls Try.prog 24 (laws_szValue_as a0 a1) (laws_szValue_ro r)) {rc_laws_szValueS : (List Val) → Int → Option (Int)} (hrc_laws_szValueS : ∀ a0 a1 r, rc_laws_szValueS a0 a1 = some r → AbsCalls Try.prog 62 (laws_szValueS_as a0 a1) (laws_szValueS_ro r)) : ∀ a0 a1 r, laws_szValueS_body N rc_laws_szValue rc_laws_szValueS a0 a1 = some r → Reach Try.prog Try.f62 I62 [.code I62.body] (entry 0 (laws_szValueS_as a0 a1)) (laws_szValueS_ro r) := by
  intro a0 a1 r h
  unfold laws_szValueS_body at h
  rcases cond_inv h with ⟨h0, h⟩ | ⟨h0, h⟩
  · obtain rfl := Option.some.inj h
    exact Reach.done ttok mix fk62 (p62_e_3 a0 a1) (obs_cons h0 obs_nil)
  · exact Reach.stop ttok mix fk62 (p62_e_4 a0 a1) (obs_cons h0 obs_nil) (c62_5 hrc_laws_szValue hrc_laws_szValueS  _ _ _ _ _ h)
theorem laws_szValueS_body_ok {N : Nat} {rc_laws_szValue : Val → Int → Option (Int)} (hrc_laws_szValue : ∀ a0 a1 r, rc_laws_szValue a0 a1 = some r → AbsCalls Try.prog 24 (laws_szValue_as a0 a1) (laws_szValue_ro r)) {rc_laws_szValueS : (List Val) → Int → Option (Int)} (hrc_laws_szValueS : ∀ a0 a1 r, rc_laws_szValueS a0 a1 = some r → AbsCalls Try.prog 62 (laws_szValueS_as a0 a1) (laws_szValueS_ro r)) {a0 : List Val} {a1 : Int} {r : Int} (h : laws_szValueS_body N rc_laws_szValue rc_laws_szValueS a0 a1 = some r) : AbsCalls Try.prog 62 (laws_szValueS_as a0 a1) (laws_szValueS_ro r) :=
 AbsCalls.of_reach fk62 rfl rfl (Nat.le_of_ble_eq_true rfl) (c62_e hrc_laws_szValue hrc_laws_szValueS a0 a1 r h)
theorem laws_szValue_fix_ok {N : Nat} : ∀ d, (∀ a0 a1 r, (laws_szValue_fix N d).c_laws_szValue a0 a1 = some r → AbsCalls Try.prog 24 (laws_szValue_as a0 a1) (laws_szValue_ro r)) ∧ (∀ a0 a1 r, (laws_szValue_fix N d).c_laws_szValueS a0 a1 = some r → AbsCalls Try.prog 62 (laws_szValueS_as a0 a1) (laws_szValueS_ro r)) := by
  intro d
  induction d with
  | zero =>
    refine ⟨?_, ?_⟩ <;> (intros; rename_i h; cases h)
  | succ d ih =>
    obtain ⟨ih0, ih1⟩ := ih
    refine ⟨?_, ?_⟩
    · intro _ _ r h; exact laws_szValue_body_ok (N := N) ih0 ih1 h
    · intro _ _ r h; exact laws_szValueS_body_ok (N := N) ih0 ih1 h
theorem laws_szValue_ok {N : Nat} {a0 : Val} {a1 : Int} {r : Int} (h : laws_szValue N a0 a1 = some r) : AbsCalls Try.prog 24 (laws_szValue_as a0 a1) (laws_szValue_ro r) := (laws_szValue_fix_ok N).1 _ _ r h
noncomputable def I70 : Info := { body := (Try.f70.body).getD .skip, nt := 19, results := [.tmp 4], keep := [0, 2, 4, 8, 22, 34, 5], live := [], modes := [], ext := [], lnt := [], casts := [], fcast := [] }
theorem fk70 : FnOk Try.prog 70 Try.f70 I70 := ⟨Try.func70, by kernel_rfl, by kernel_rfl, by kernel_rfl, by kernel_rfl⟩
theorem p70_e_0 (a0 : Bnd) (a1 : Int) : run tt (AbsCalls Try.prog) I70 3000 false [.code I70.body] ⟨(entry 0 (laws_szBinding_as a0 a1)), [true], [], []⟩ = some (.done (laws_szBinding_ro (-1)) [(decide (((IntKind.i64.wrap (a1 - (List.length (Bnd.name a0) : Int))) : Int) < 0)) = true]) := by kernel_rfl
theorem p70_e_1 (a0 : Bnd) (a1 : Int) (r1 : Int) : run tt (AbsCalls Try.prog) I70 3000 false [.code I70.body] ⟨(entry 0 (laws_szBinding_as a0 a1)), [false, true], [laws_szValue_ro r1], []⟩ = some (.done (laws_szBinding_ro (-1)) [(decide (((IntKind.i64.wrap (a1 - (List.length (Bnd.name a0) : Int))) : Int) < 0)) = false, AbsCalls Try.prog 24 (laws_szValue_as (Bnd.value a0) (IntKind.i64.wrap (a1 - (List.length (Bnd.name a0) : Int)))) (laws_szValue_ro r1), (decide ((r1 : Int) < 0)) = true]) := by kernel_rfl
theorem p70_e_2 (a0 : Bnd) (a1 : Int) (r1 : Int) : run tt (AbsCalls Try.prog) I70 3000 false [.code I70.body] ⟨(entry 0 (laws_szBinding_as a0 a1)), [false, false], [laws_szValue_ro r1], []⟩ = some (.done (laws_szBinding_ro r1) [(decide (((IntKind.i64.wrap (a1 - (List.length (Bnd.name a0) : Int))) : Int) < 0)) = false, AbsCalls Try.prog 24 (laws_szValue_as (Bnd.value a0) (IntKind.i64.wrap (a1 - (List.length (Bnd.name a0) : Int)))) (laws_szValue_ro r1), (decide ((r1 : Int) < 0)) = false]) := by kernel_rfl
theorem c70_e {N : Nat} : ∀ a0 a1 r, laws_szBinding N a0 a1 = some r → Reach Try.prog Try.f70 I70 [.code I70.body] (entry 0 (laws_szBinding_as a0 a1)) (laws_szBinding_ro r) := by
  intro a0 a1 r h
  unfold laws_szBinding at h
  rcases cond_inv h with ⟨h0, h⟩ | ⟨h0, h⟩
  · obtain rfl := Option.some.inj h
    exact Reach.done ttok mix fk70 (p70_e_0 a0 a1) (obs_cons h0 obs_nil)
  · obtain ⟨r1, h1, h⟩ := bind_inv h
    rcases cond_inv h with ⟨h2, h⟩ | ⟨h2, h⟩
    · obtain rfl := Option.some.inj h
      exact Reach.done ttok mix fk70 (p70_e_1 a0 a1 r1) (obs_cons h0 (obs_cons (laws_szValue_ok h1) (obs_cons h2 obs_nil)))
    · obtain rfl := Option.some.inj h
      exact Reach.done ttok mix fk70 (p70_e_2 a0 a1 r1) (obs_cons h0 (obs_cons (laws_szValue_ok h1) (obs_cons h2 obs_nil)))
theorem laws_szBinding_ok {N : Nat} {a0 : Bnd} {a1 : Int} {r : Int} (h : laws_szBinding N  a0 a1 = some r) : AbsCalls Try.prog 70 (laws_szBinding_as a0 a1) (laws_szBinding_ro r) :=
 AbsCalls.of_reach fk70 rfl rfl (Nat.le_of_ble_eq_true rfl) (c70_e a0 a1 r h)
noncomputable def I15 : Info := { body := (Try.f15.body).getD .skip, nt := 27, results := [.tmp 4], keep := [0, 2, 8, 10, 22, 30, 50], live := [(5, [0, 2, 10])], modes := [], ext := [], lnt := [], casts := [], fcast := [] }
theorem fk15 : FnOk Try.prog 15 Try.f15 I15 := ⟨Try.func15, by kernel_rfl, by kernel_rfl, by kernel_rfl, by kernel_rfl⟩
def S15_5 (x0 : List Bnd) (x1 : Int) (x5 : Int) : St := [(0, .v false [.sl .ro .bnd x0]), (2, .v false [.int .i64 x1]), (10, .v false [.int .i64 x5])]
theorem p15_5_0 (x0 : List Bnd) (x1 : Int) (x5 : Int) (r1 : Int) : run tt (AbsCalls Try.prog) I15 3000 true (stkAt 5 I15.body) ⟨(S15_5 x0 x1 x5), [true, true], [laws_szBinding_ro r1], []⟩ = some (.done (laws_szBindingS_ro (-1)) [(decide ((x5 : Int) < (List.length x0 : Int))) = true, (0 : Int) ≤ x5 ∧ x5 < (List.length x0), AbsCalls Try.prog 70 (laws_szBinding_as (List.getD x0 (Int.toNat x5) Ty.bnd.dflt) x1) (laws_szBinding_ro r1), (decide ((r1 : Int) < 0)) = true]) := by kernel_rfl
theorem p15_5_1 (x0 : List Bnd) (x1 : Int) (x5 : Int) (r1 : Int) : run tt (AbsCalls Try.prog) I15 3000 true (stkAt 5 I15.body) ⟨(S15_5 x0 x1 x5), [true, false], [laws_szBinding_ro r1], []⟩ = some (.stop (stkAt 5 I15.body) (S15_5 x0 r1 (IntKind.i64.wrap (x5 + 1))) [(decide ((x5 : Int) < (List.length x0 : Int))) = true, (0 : Int) ≤ x5 ∧ x5 < (List.length x0), AbsCalls Try.prog 70 (laws_szBinding_as (List.getD x0 (Int.toNat x5) Ty.bnd.dflt) x1) (laws_szBinding_ro r1), (decide ((r1 : Int) < 0)) = false]) := by kernel_rfl
theorem p15_5_2 (x0 : List Bnd) (x1 : Int) (x5 : Int) : run tt (AbsCalls Try.prog) I15 3000 true (stkAt 5 I15.body) ⟨(S15_5 x0 x1 x5), [false], [], []⟩ = some (.done (laws_szBindingS_ro x1) [(decide ((x5 : Int) < (List.length x0 : Int))) = false]) := by kernel_rfl
theorem p15_e_3 (a0 : List Bnd) (a1 : Int) : run tt (AbsCalls Try.prog) I15 3000 false [.code I15.body] ⟨(entry 0 (laws_szBindingS_as a0 a1)), [true], [], []⟩ = some (.done (laws_szBindingS_ro (-1)) [(decide (((IntKind.i64.wrap (a1 - (List.length a0 : Int))) : Int) < 0)) = true]) := by kernel_rfl
theorem p15_e_4 (a0 : List Bnd) (a1 : Int) : run tt (AbsCalls Try.prog) I15 3000 false [.code I15.body] ⟨(entry 0 (laws_szBindingS_as a0 a1)), [false], [], []⟩ = some (.stop (stkAt 5 I15.body) (S15_5 a0 (IntKind.i64.wrap (a1 - (List.length a0 : Int))) 0) [(decide (((IntKind.i64.wrap (a1 - (List.length a0 : Int))) : Int) < 0)) = false]) := by kernel_rfl
theorem c15_5 {N : Nat} : ∀ n x0 x1 x5 r, laws_szBindingS_b5 N n x0 x1 x5 = some r → Reach Try.prog Try.f15 I15 (stkAt 5 I15.body) (S15_5 x0 x1 x5) (laws_szBindingS_ro r) := by
  intro n
  induction n with
  | zero => intro x0 x1 x5 r h; have h' : (none : Option (Int)) = some r := h; cases h'
  | succ n ih =>
    intro x0 x1 x5 r h
    rw [laws_szBindingS_b5] at h
    rcases cond_inv h with ⟨h0, h⟩ | ⟨h0, h⟩
    · obtain ⟨h1, h⟩ := ite_inv h
      obtain ⟨r1, h2, h⟩ := bind_inv h
      rcases cond_inv h with ⟨h3, h⟩ | ⟨h3, h⟩
      · obtain rfl := Option.some.inj h
        exact Reach.done ttok mix fk15 (p15_5_0 x0 x1 x5 r1) (obs_cons h0 (obs_cons h1 (obs_cons (laws_szBinding_ok h2) (obs_cons h3 obs_nil))))
      · exact Reach.stop ttok mix fk15 (p15_5_1 x0 x1 x5 r1) (obs_cons h0 (obs_cons h1 (obs_cons (laws_szBinding_ok h2) (obs_cons h3 obs_nil)))) (ih _ _ _ _ h)
    · obtain rfl := Option.some.inj h
      exact Reach.done ttok mix fk15 (p15_5_2 x0 x1 x5) (obs_cons h0 obs_nil)
theorem c15_e {N : Nat} : ∀ a0 a1 r, laws_szBindingS N a0 a1 = some r → Reach Try.prog Try.f15 I15 [.code I15.body] (entry 0 (laws_szBindingS_as a0 a1)) (laws_szBindingS_ro r) := by
  intro a0 a1 r h
  unfold laws_szBindingS at h
  rcases cond_inv h with ⟨h0, h⟩ | ⟨h0, h⟩
  · obtain rfl := Option.some.inj h
    exact Reach.done ttok mix fk15 (p15_e_3 a0 a1) (obs_cons h0 obs_nil)
  · exact Reach.stop ttok mix fk15 (p15_e_4 a0 a1) (obs_cons h0 obs_nil) (c15_5   _ _ _ _ _ h)
theorem laws_szBindingS_ok {N : Nat} {a0 : List Bnd} {a1 : Int} {r : Int} (h : laws_szBindingS N  a0 a1 = some r) : AbsCalls Try.prog 15 (laws_szBindingS_as a0 a1) (laws_szBindingS_ro r) :=
 AbsCalls.of_reach fk15 rfl rfl (Nat.le_of_ble_eq_true rfl) (c15_e a0 a1 r h)
noncomputable def I87 : Info := { body := (Try.f87.body).getD .skip, nt := 22, results := [.tmp 2], keep := [0, 4, 6, 8, 22], live := [(3, [0, 6, 8])], modes := [(5, [(0, .ref, false)]), (6, [(0, .take, false)])], ext := [], lnt := [], casts := [], fcast := [] }
theorem fk87 : FnOk Try.prog 87 Try.f87 I87 := ⟨Try.func87, by kernel_rfl, by kernel_rfl, by kernel_rfl, by kernel_rfl⟩
def S87_3 (x0 : List Str) (x3 : List Str) (x4 : Int) : St := [(0, .v false [.sl .ro .str x0]), (6, .v false [.sl .own .str x3]), (8, .v false [.int .i64 x4])]
theorem p87_3_0 (x0 : List Str) (x3 : List Str) (x4 : Int) : run tt (AbsCalls Try.prog) I87 3000 true (stkAt 3 I87.body) ⟨(S87_3 x0 x3 x4), [true], [], []⟩ = some (.stop (stkAt 3 I87.body) (S87_3 x0 (List.set x3 (Int.toNat x4) (List.getD x0 (Int.toNat x4) Ty.str.dflt)) (IntKind.i64.wrap (x4 + 1))) [(decide ((x4 : Int) < (List.length x0 : Int))) = true, (0 : Int) ≤ x4 ∧ x4 < (List.length x0), (0 : Int) ≤ x4 ∧ x4 < (List.length x3)]) := by kernel_rfl
theorem p87_3_1 (x0 : List Str) (x3 : List Str) (x4 : Int) : run tt (AbsCalls Try.prog) I87 3000 true (stkAt 3 I87.body) ⟨(S87_3 x0 x3 x4), [false], [], []⟩ = some (.done (laws_toStringS_ro x3) [(decide ((x4 : Int) < (List.length x0 : Int))) = false]) := by kernel_rfl
theorem p87_e_2 (a0 : List Str) : run tt (AbsCalls Try.prog) I87 3000 false [.code I87.body] ⟨(entry 0 (laws_toStringS_as a0)), [], [], []⟩ = some (.stop (stkAt 3 I87.body) (S87_3 a0 (List.replicate (Int.toNat (List.length a0 : Int)) Ty.str.dflt) 0) [(0 : Int) ≤ (List.length a0 : Int) ∧ (List.length a0 : Int) = (List.length a0 : Int) ∧ (List.length a0 : Int) ≤ Lim]) := by kernel_rfl
theorem c87_3 {N : Nat} : ∀ n x0 x3 x4 r, laws_toStringS_b3 N n x0 x3 x4 = some r → Reach Try.prog Try.f87 I87 (stkAt 3 I87.body) (S87_3 x0 x3 x4) (laws_toStringS_ro r) := by
  intro n
  induction n with
  | zero => intro x0 x3 x4 r h; have h' : (none : Option ((List Str))) = some r := h; cases h'
  | succ n ih =>
    intro x0 x3 x4 r h
    rw [laws_toStringS_b3] at h
    rcases cond_inv h with ⟨h0, h⟩ | ⟨h0, h⟩
    · obtain ⟨h1, h⟩ := ite_inv h
      obtain ⟨h2, h⟩ := ite_inv h
      exact Reach.stop ttok mix fk87 (p87_3_0 x0 x3 x4) (obs_cons h0 (obs_cons h1 (obs_cons h2 obs_nil))) (ih _ _ _ _ h)
    · obtain rfl := Option.some.inj h
      exact Reach.done ttok mix fk87 (p87_3_1 x0 x3 x4) (obs_cons h0 obs_nil)
theorem c87_e {N : Nat} : ∀ a0 r, laws_toStringS N a0 = some r → Reach Try.prog Try.f87 I87 [.code I87.body] (entry 0 (laws_toStringS_as a0)) (laws_toStringS_ro r) := by
  intro a0 r h
  unfold laws_toStringS at h
  obtain ⟨h0, h⟩ := ite_inv h
  exact Reach.stop ttok mix fk87 (p87_e_2 a0) (obs_cons h0 obs_nil) (c87_3   _ _ _ _ _ h)
theorem laws_toStringS_ok {N : Nat} {a0 : List Str} {r : (List Str)} (h : laws_toStringS N  a0 = some r) : AbsCalls Try.prog 87 (laws_toStringS_as a0) (laws_toStringS_ro r) :=
 AbsCalls.of_reach fk87 rfl rfl (Nat.le_of_ble_eq_true rfl) (c87_e a0 r h)
noncomputable def I150 : Info := { body := (Try.f150.body).getD .skip, nt := 22, results := [.tmp 2], keep := [0, 4, 6, 8, 22], live := [(3, [0, 6, 8])], modes := [(5, [(0, .ref, false)]), (6, [(0, .take, false)])], ext := [], lnt := [], casts := [], fcast := [] }
theorem fk150 : FnOk Try.prog 150 Try.f150 I150 := ⟨Try.func150, by kernel_rfl, by kernel_rfl, by kernel_rfl, by kernel_rfl⟩
def S150_3 (x0 : List Int) (x3 : List Int) (x4 : Int) : St := [(0, .v false [.sl .ro .int x0]), (6, .v false [.sl .own .int x3]), (8, .v false [.int .i64 x4])]
theorem p150_3_0 (x0 : List Int) (x3 : List Int) (x4 : Int) : run tt (AbsCalls Try.prog) I150 3000 true (stkAt 3 I150.body) ⟨(S150_3 x0 x3 x4), [true], [], []⟩ = some (.stop (stkAt 3 I150.body) (S150_3 x0 (List.set x3 (Int.toNat x4) (List.getD x0 (Int.toNat x4) Ty.int.dflt)) (IntKind.i64.wrap (x4 + 1))) [(decide ((x4 : Int) < (List.length x0 : Int))) = true, (0 : Int) ≤ x4 ∧ x4 < (List.length x0), (0 : Int) ≤ x4 ∧ x4 < (List.length x3)]) := by kernel_rfl
theorem p150_3_1 (x0 : List Int) (x3 : List Int) (x4 : Int) : run tt (AbsCalls Try.prog) I150 3000 true (stkAt 3 I150.body) ⟨(S150_3 x0 x3 x4), [false], [], []⟩ = some (.done (laws_toIntS_ro x3) [(decide ((x4 : Int) < (List.length x0 : Int))) = false]) := by kernel_rfl
theorem p150_e_2 (a0 : List Int) : run tt (AbsCalls Try.prog) I150 3000 false [.code I150.body] ⟨(entry 0 (laws_toIntS_as a0)), [], [], []⟩ = some (.stop (stkAt 3 I150.body) (S150_3 a0 (List.replicate (Int.toNat (List.length a0 : Int)) Ty.int.dflt) 0) [(0 : Int) ≤ (List.length a0 : Int) ∧ (List.length a0 : Int) = (List.length a0 : Int) ∧ (List.length a0 : Int) ≤ Lim]) := by kernel_rfl
theorem c150_3 {N : Nat} : ∀ n x0 x3 x4 r, laws_toIntS_b3 N n x0 x3 x4 = some r → Reach Try.prog Try.f150 I150 (stkAt 3 I150.body) (S150_3 x0 x3 x4) (laws_toIntS_ro r) := by
  intro n
  induction n with
  | zero => intro x0 x3 x4 r h; have h' : (none : Option ((List Int))) = some r := h; cases h'
  | succ n ih =>
    intro x0 x3 x4 r h
    rw [laws_toIntS_b3] at h
    rcases cond_inv h with ⟨h0, h⟩ | ⟨h0, h⟩
    · obtain ⟨h1, h⟩ := ite_inv h
      obtain ⟨h2, h⟩ := ite_inv h
      exact Reach.stop ttok mix fk150 (p150_3_0 x0 x3 x4) (obs_cons h0 (obs_cons h1 (obs_cons h2 obs_nil))) (ih _ _ _ _ h)
    · obtain rfl := Option.some.inj h
      exact Reach.done ttok mix fk150 (p150_3_1 x0 x3 x4) (obs_cons h0 obs_nil)
theorem c150_e {N : Nat} : ∀ a0 r, laws_toIntS N a0 = some r → Reach Try.prog Try.f150 I150 [.code I150.body] (entry 0 (laws_toIntS_as a0)) (laws_toIntS_ro r) := by
  intro a0 r h
  unfold laws_toIntS at h
  obtain ⟨h0, h⟩ := ite_inv h
  exact Reach.stop ttok mix fk150 (p150_e_2 a0) (obs_cons h0 obs_nil) (c150_3   _ _ _ _ _ h)
theorem laws_toIntS_ok {N : Nat} {a0 : List Int} {r : (List Int)} (h : laws_toIntS N  a0 = some r) : AbsCalls Try.prog 150 (laws_toIntS_as a0) (laws_toIntS_ro r) :=
 AbsCalls.of_reach fk150 rfl rfl (Nat.le_of_ble_eq_true rfl) (c150_e a0 r h)
noncomputable def I117 : Info := { body := (Try.f117.body).getD .skip, nt := 11, results := [.cell 2 127], keep := [0, 2, 4, 6, 3, 5, 7], live := [], modes := [], ext := [], lnt := [], casts := [], fcast := [] }
theorem fk117 : FnOk Try.prog 117 Try.f117 I117 := ⟨Try.func117, by kernel_rfl, by kernel_rfl, by kernel_rfl, by kernel_rfl⟩
theorem p117_e_0 (a0 : Org) : run tt (AbsCalls Try.prog) I117 3000 false [.code I117.body] ⟨(entry 0 (laws_toOrigin_as a0)), [], [], []⟩ = some (.done (laws_toOrigin_ro a0) []) := by kernel_rfl
theorem c117_e {N : Nat} : ∀ a0 r, laws_toOrigin N a0 = some r → Reach Try.prog Try.f117 I117 [.code I117.body] (entry 0 (laws_toOrigin_as a0)) (laws_toOrigin_ro r) := by
  intro a0 r h
  unfold laws_toOrigin at h
  obtain rfl := Option.some.inj h
  exact Reach.done ttok mix fk117 (p117_e_0 a0) obs_nil
theorem laws_toOrigin_ok {N : Nat} {a0 : Org} {r : Org} (h : laws_toOrigin N  a0 = some r) : AbsCalls Try.prog 117 (laws_toOrigin_as a0) (laws_toOrigin_ro r) :=
 AbsCalls.of_reach fk117 rfl rfl (Nat.le_of_ble_eq_true rfl) (c117_e a0 r h)
noncomputable def I56 : Info := { body := (Try.f56.body).getD .skip, nt := 23, results := [.tmp 2], keep := [0, 4, 6, 8, 22], live := [(3, [0, 6, 8])], modes := [(5, [(0, .ref, false)]), (6, [(0, .take, false)])], ext := [], lnt := [], casts := [], fcast := [] }
theorem fk56 : FnOk Try.prog 56 Try.f56 I56 := ⟨Try.func56, by kernel_rfl, by kernel_rfl, by kernel_rfl, by kernel_rfl⟩
def S56_3 (x0 : List Org) (x3 : List Org) (x4 : Int) : St := [(0, .v false [.sl .ro .org x0]), (6, .v false [.sl .own .org x3]), (8, .v false [.int .i64 x4])]
theorem p56_3_0 (x0 : List Org) (x3 : List Org) (x4 : Int) (r1 : Org) : run tt (AbsCalls Try.prog) I56 3000 true (stkAt 3 I56.body) ⟨(S56_3 x0 x3 x4), [true], [laws_toOrigin_ro r1], []⟩ = some (.stop (stkAt 3 I56.body) (S56_3 x0 (List.set x3 (Int.toNat x4) r1) (IntKind.i64.wrap (x4 + 1))) [(decide ((x4 : Int) < (List.length x0 : Int))) = true, (0 : Int) ≤ x4 ∧ x4 < (List.length x0), AbsCalls Try.prog 117 (laws_toOrigin_as (List.getD x0 (Int.toNat x4) Ty.org.dflt)) (laws_toOrigin_ro r1), (0 : Int) ≤ x4 ∧ x4 < (List.length x3)]) := by kernel_rfl
theorem p56_3_1 (x0 : List Org) (x3 : List Org) (x4 : Int) : run tt (AbsCalls Try.prog) I56 3000 true (stkAt 3 I56.body) ⟨(S56_3 x0 x3 x4), [false], [], []⟩ = some (.done (laws_toOriginS_ro x3) [(decide ((x4 : Int) < (List.length x0 : Int))) = false]) := by kernel_rfl
theorem p56_e_2 (a0 : List Org) : run tt (AbsCalls Try.prog) I56 3000 false [.code I56.body] ⟨(entry 0 (laws_toOriginS_as a0)), [], [], []⟩ = some (.stop (stkAt 3 I56.body) (S56_3 a0 (List.replicate (Int.toNat (List.length a0 : Int)) Ty.org.dflt) 0) [(0 : Int) ≤ (List.length a0 : Int) ∧ (List.length a0 : Int) = (List.length a0 : Int) ∧ (List.length a0 : Int) ≤ Lim]) := by kernel_rfl
theorem c56_3 {N : Nat} : ∀ n x0 x3 x4 r, laws_toOriginS_b3 N n x0 x3 x4 = some r → Reach Try.prog Try.f56 I56 (stkAt 3 I56.body) (S56_3 x0 x3 x4) (laws_toOriginS_ro r) := by
  intro n
  induction n with
  | zero => intro x0 x3 x4 r h; have h' : (none : Option ((List Org))) = some r := h; cases h'
  | succ n ih =>
    intro x0 x3 x4 r h
    rw [laws_toOriginS_b3] at h
    rcases cond_inv h with ⟨h0, h⟩ | ⟨h0, h⟩
    · obtain ⟨h1, h⟩ := ite_inv h
      obtain ⟨r1, h2, h⟩ := bind_inv h
      obtain ⟨h3, h⟩ := ite_inv h
      exact Reach.stop ttok mix fk56 (p56_3_0 x0 x3 x4 r1) (obs_cons h0 (obs_cons h1 (obs_cons (laws_toOrigin_ok h2) (obs_cons h3 obs_nil)))) (ih _ _ _ _ h)
    · obtain rfl := Option.some.inj h
      exact Reach.done ttok mix fk56 (p56_3_1 x0 x3 x4) (obs_cons h0 obs_nil)
theorem c56_e {N : Nat} : ∀ a0 r, laws_toOriginS N a0 = some r → Reach Try.prog Try.f56 I56 [.code I56.body] (entry 0 (laws_toOriginS_as a0)) (laws_toOriginS_ro r) := by
  intro a0 r h
  unfold laws_toOriginS at h
  obtain ⟨h0, h⟩ := ite_inv h
  exact Reach.stop ttok mix fk56 (p56_e_2 a0) (obs_cons h0 obs_nil) (c56_3   _ _ _ _ _ h)
theorem laws_toOriginS_ok {N : Nat} {a0 : List Org} {r : (List Org)} (h : laws_toOriginS N  a0 = some r) : AbsCalls Try.prog 56 (laws_toOriginS_as a0) (laws_toOriginS_ro r) :=
 AbsCalls.of_reach fk56 rfl rfl (Nat.le_of_ble_eq_true rfl) (c56_e a0 r h)
noncomputable def I134 : Info := { body := (Try.f134.body).getD .skip, nt := 13, results := [.cell 2 130], keep := [0, 2, 4, 6, 3, 5, 7], live := [], modes := [(4, [(0, .take, false)])], ext := [], lnt := [], casts := [], fcast := [] }
theorem fk134 : FnOk Try.prog 134 Try.f134 I134 := ⟨Try.func134, by kernel_rfl, by kernel_rfl, by kernel_rfl, by kernel_rfl⟩
theorem p134_e_0 (a0 : Rowd) (r1 : (List Int)) (r2 : (List Org)) : run tt (AbsCalls Try.prog) I134 3000 false [.code I134.body] ⟨(entry 0 (laws_toRow_as a0)), [], [laws_toIntS_ro r1, laws_toOriginS_ro r2], []⟩ = some (.done (laws_toRow_ro (Rowd.mk r1 r2)) [AbsCalls Try.prog 150 (laws_toIntS_as (Rowd.cells a0)) (laws_toIntS_ro r1), AbsCalls Try.prog 56 (laws_toOriginS_as (Rowd.frm a0)) (laws_toOriginS_ro r2)]) := by kernel_rfl
theorem c134_e {N : Nat} : ∀ a0 r, laws_toRow N a0 = some r → Reach Try.prog Try.f134 I134 [.code I134.body] (entry 0 (laws_toRow_as a0)) (laws_toRow_ro r) := by
  intro a0 r h
  unfold laws_toRow at h
  obtain ⟨r1, h0, h⟩ := bind_inv h
  obtain ⟨r2, h1, h⟩ := bind_inv h
  obtain rfl := Option.some.inj h
  exact Reach.done ttok mix fk134 (p134_e_0 a0 r1 r2) (obs_cons (laws_toIntS_ok h0) (obs_cons (laws_toOriginS_ok h1) obs_nil))
theorem laws_toRow_ok {N : Nat} {a0 : Rowd} {r : Rowd} (h : laws_toRow N  a0 = some r) : AbsCalls Try.prog 134 (laws_toRow_as a0) (laws_toRow_ro r) :=
 AbsCalls.of_reach fk134 rfl rfl (Nat.le_of_ble_eq_true rfl) (c134_e a0 r h)
noncomputable def I88 : Info := { body := (Try.f88.body).getD .skip, nt := 23, results := [.tmp 2], keep := [0, 4, 6, 8, 22], live := [(3, [0, 6, 8])], modes := [(5, [(0, .ref, false)]), (6, [(0, .take, false)])], ext := [], lnt := [], casts := [], fcast := [] }
theorem fk88 : FnOk Try.prog 88 Try.f88 I88 := ⟨Try.func88, by kernel_rfl, by kernel_rfl, by kernel_rfl, by kernel_rfl⟩
def S88_3 (x0 : List Rowd) (x3 : List Rowd) (x4 : Int) : St := [(0, .v false [.sl .ro .row x0]), (6, .v false [.sl .own .row x3]), (8, .v false [.int .i64 x4])]
theorem p88_3_0 (x0 : List Rowd) (x3 : List Rowd) (x4 : Int) (r1 : Rowd) : run tt (AbsCalls Try.prog) I88 3000 true (stkAt 3 I88.body) ⟨(S88_3 x0 x3 x4), [true], [laws_toRow_ro r1], []⟩ = some (.stop (stkAt 3 I88.body) (S88_3 x0 (List.set x3 (Int.toNat x4) r1) (IntKind.i64.wrap (x4 + 1))) [(decide ((x4 : Int) < (List.length x0 : Int))) = true, (0 : Int) ≤ x4 ∧ x4 < (List.length x0), AbsCalls Try.prog 134 (laws_toRow_as (List.getD x0 (Int.toNat x4) Ty.row.dflt)) (laws_toRow_ro r1), (0 : Int) ≤ x4 ∧ x4 < (List.length x3)]) := by kernel_rfl
theorem p88_3_1 (x0 : List Rowd) (x3 : List Rowd) (x4 : Int) : run tt (AbsCalls Try.prog) I88 3000 true (stkAt 3 I88.body) ⟨(S88_3 x0 x3 x4), [false], [], []⟩ = some (.done (laws_toRowS_ro x3) [(decide ((x4 : Int) < (List.length x0 : Int))) = false]) := by kernel_rfl
theorem p88_e_2 (a0 : List Rowd) : run tt (AbsCalls Try.prog) I88 3000 false [.code I88.body] ⟨(entry 0 (laws_toRowS_as a0)), [], [], []⟩ = some (.stop (stkAt 3 I88.body) (S88_3 a0 (List.replicate (Int.toNat (List.length a0 : Int)) Ty.row.dflt) 0) [(0 : Int) ≤ (List.length a0 : Int) ∧ (List.length a0 : Int) = (List.length a0 : Int) ∧ (List.length a0 : Int) ≤ Lim]) := by kernel_rfl
theorem c88_3 {N : Nat} : ∀ n x0 x3 x4 r, laws_toRowS_b3 N n x0 x3 x4 = some r → Reach Try.prog Try.f88 I88 (stkAt 3 I88.body) (S88_3 x0 x3 x4) (laws_toRowS_ro r) := by
  intro n
  induction n with
  | zero => intro x0 x3 x4 r h; have h' : (none : Option ((List Rowd))) = some r := h; cases h'
  | succ n ih =>
    intro x0 x3 x4 r h
    rw [laws_toRowS_b3] at h
    rcases cond_inv h with ⟨h0, h⟩ | ⟨h0, h⟩
    · obtain ⟨h1, h⟩ := ite_inv h
      obtain ⟨r1, h2, h⟩ := bind_inv h
      obtain ⟨h3, h⟩ := ite_inv h
      exact Reach.stop ttok mix fk88 (p88_3_0 x0 x3 x4 r1) (obs_cons h0 (obs_cons h1 (obs_cons (laws_toRow_ok h2) (obs_cons h3 obs_nil)))) (ih _ _ _ _ h)
    · obtain rfl := Option.some.inj h
      exact Reach.done ttok mix fk88 (p88_3_1 x0 x3 x4) (obs_cons h0 obs_nil)
theorem c88_e {N : Nat} : ∀ a0 r, laws_toRowS N a0 = some r → Reach Try.prog Try.f88 I88 [.code I88.body] (entry 0 (laws_toRowS_as a0)) (laws_toRowS_ro r) := by
  intro a0 r h
  unfold laws_toRowS at h
  obtain ⟨h0, h⟩ := ite_inv h
  exact Reach.stop ttok mix fk88 (p88_e_2 a0) (obs_cons h0 obs_nil) (c88_3   _ _ _ _ _ h)
theorem laws_toRowS_ok {N : Nat} {a0 : List Rowd} {r : (List Rowd)} (h : laws_toRowS N  a0 = some r) : AbsCalls Try.prog 88 (laws_toRowS_as a0) (laws_toRowS_ro r) :=
 AbsCalls.of_reach fk88 rfl rfl (Nat.le_of_ble_eq_true rfl) (c88_e a0 r h)
noncomputable def I26 : Info := { body := (Try.f26.body).getD .skip, nt := 29, results := [.cell 2 28], keep := [0, 2, 4, 6, 3, 5, 7], live := [], modes := [(9, [(0, .take, false)])], ext := [], lnt := [], casts := [], fcast := [] }
theorem fk26 : FnOk Try.prog 26 Try.f26 I26 := ⟨Try.func26, by kernel_rfl, by kernel_rfl, by kernel_rfl, by kernel_rfl⟩
theorem p26_e_0 (a0 : Val) (r1 : (List Val)) (r2 : (List Str)) (r3 : (List Rowd)) : run tt (AbsCalls Try.prog) I26 3000 false [.code I26.body] ⟨(entry 0 (laws_toValue_as a0)), [], [laws_toValueS_ro r1, laws_toStringS_ro r2, laws_toRowS_ro r3], []⟩ = some (.done (laws_toValue_ro (Val.mk (Val.kind a0) (Val.n a0) (Val.step a0) (Val.text a0) r1 r2 r3)) [AbsCalls Try.prog 64 (laws_toValueS_as (Val.list a0)) (laws_toValueS_ro r1), AbsCalls Try.prog 87 (laws_toStringS_as (Val.columns a0)) (laws_toStringS_ro r2), AbsCalls Try.prog 88 (laws_toRowS_as (Val.rows a0)) (laws_toRowS_ro r3)]) := by kernel_rfl
theorem c26_e {N : Nat} {rc_laws_toValue : Val → Option (Val)} (hrc_laws_toValue : ∀ a0 r, rc_laws_toValue a0 = some r → AbsCalls Try.prog 26 (laws_toValue_as a0) (laws_toValue_ro r)) {rc_laws_toValueS : (List Val) → Option ((List Val))} (hrc_laws_toValueS : ∀ a0 r, rc_laws_toValueS a0 = some r → AbsCalls Try.prog 64 (laws_toValueS_as a0) (laws_toValueS_ro r)) : ∀ a0 r, laws_toValue_body N rc_laws_toValue rc_laws_toValueS a0 = some r → Reach Try.prog Try.f26 I26 [.code I26.body] (entry 0 (laws_toValue_as a0)) (laws_toValue_ro r) := by
  intro a0 r h
  unfold laws_toValue_body at h
  obtain ⟨r1, h0, h⟩ := bind_inv h
  obtain ⟨r2, h1, h⟩ := bind_inv h
  obtain ⟨r3, h2, h⟩ := bind_inv h
  obtain rfl := Option.some.inj h
  exact Reach.done ttok mix fk26 (p26_e_0 a0 r1 r2 r3) (obs_cons (hrc_laws_toValueS _ _ h0) (obs_cons (laws_toStringS_ok h1) (obs_cons (laws_toRowS_ok h2) obs_nil)))
theorem laws_toValue_body_ok {N : Nat} {rc_laws_toValue : Val → Option (Val)} (hrc_laws_toValue : ∀ a0 r, rc_laws_toValue a0 = some r → AbsCalls Try.prog 26 (laws_toValue_as a0) (laws_toValue_ro r)) {rc_laws_toValueS : (List Val) → Option ((List Val))} (hrc_laws_toValueS : ∀ a0 r, rc_laws_toValueS a0 = some r → AbsCalls Try.prog 64 (laws_toValueS_as a0) (laws_toValueS_ro r)) {a0 : Val} {r : Val} (h : laws_toValue_body N rc_laws_toValue rc_laws_toValueS a0 = some r) : AbsCalls Try.prog 26 (laws_toValue_as a0) (laws_toValue_ro r) :=
 AbsCalls.of_reach fk26 rfl rfl (Nat.le_of_ble_eq_true rfl) (c26_e hrc_laws_toValue hrc_laws_toValueS a0 r h)
noncomputable def I64 : Info := { body := (Try.f64.body).getD .skip, nt := 23, results := [.tmp 2], keep := [0, 4, 6, 8, 22], live := [(3, [0, 6, 8])], modes := [(5, [(0, .ref, false)]), (6, [(0, .take, false)])], ext := [], lnt := [], casts := [], fcast := [] }
theorem fk64 : FnOk Try.prog 64 Try.f64 I64 := ⟨Try.func64, by kernel_rfl, by kernel_rfl, by kernel_rfl, by kernel_rfl⟩
def S64_3 (x0 : List Val) (x3 : List Val) (x4 : Int) : St := [(0, .v false [.sl .ro .val x0]), (6, .v false [.sl .own .val x3]), (8, .v false [.int .i64 x4])]
theorem p64_3_0 (x0 : List Val) (x3 : List Val) (x4 : Int) (r1 : Val) : run tt (AbsCalls Try.prog) I64 3000 true (stkAt 3 I64.body) ⟨(S64_3 x0 x3 x4), [true], [laws_toValue_ro r1], []⟩ = some (.stop (stkAt 3 I64.body) (S64_3 x0 (List.set x3 (Int.toNat x4) (Val.re r1)) (IntKind.i64.wrap (x4 + 1))) [(decide ((x4 : Int) < (List.length x0 : Int))) = true, (0 : Int) ≤ x4 ∧ x4 < (List.length x0), AbsCalls Try.prog 26 (laws_toValue_as (List.getD x0 (Int.toNat x4) Ty.val.dflt)) (laws_toValue_ro r1), (0 : Int) ≤ x4 ∧ x4 < (List.length x3)]) := by kernel_rfl
theorem p64_3_1 (x0 : List Val) (x3 : List Val) (x4 : Int) : run tt (AbsCalls Try.prog) I64 3000 true (stkAt 3 I64.body) ⟨(S64_3 x0 x3 x4), [false], [], []⟩ = some (.done (laws_toValueS_ro x3) [(decide ((x4 : Int) < (List.length x0 : Int))) = false]) := by kernel_rfl
theorem p64_e_2 (a0 : List Val) : run tt (AbsCalls Try.prog) I64 3000 false [.code I64.body] ⟨(entry 0 (laws_toValueS_as a0)), [], [], []⟩ = some (.stop (stkAt 3 I64.body) (S64_3 a0 (List.replicate (Int.toNat (List.length a0 : Int)) Ty.val.dflt) 0) [(0 : Int) ≤ (List.length a0 : Int) ∧ (List.length a0 : Int) = (List.length a0 : Int) ∧ (List.length a0 : Int) ≤ Lim]) := by kernel_rfl
theorem c64_3 {N : Nat} {rc_laws_toValue : Val → Option (Val)} (hrc_laws_toValue : ∀ a0 r, rc_laws_toValue a0 = some r → AbsCalls Try.prog 26 (laws_toValue_as a0) (laws_toValue_ro r)) {rc_laws_toValueS : (List Val) → Option ((List Val))} (hrc_laws_toValueS : ∀ a0 r, rc_laws_toValueS a0 = some r → AbsCalls Try.prog 64 (laws_toValueS_as a0) (laws_toValueS_ro r)) : ∀ n x0 x3 x4 r, laws_toValueS_b3 N rc_laws_toValue rc_laws_toValueS n x0 x3 x4 = some r → Reach Try.prog Try.f64 I64 (stkAt 3 I64.body) (S64_3 x0 x3 x4) (laws_toValueS_ro r) := by
  intro n
  induction n with
  | zero => intro x0 x3 x4 r h; have h' : (none : Option ((List Val))) = some r := h; cases h'
  | succ n ih =>
    intro x0 x3 x4 r h
    rw [laws_toValueS_b3] at h
    rcases cond_inv h with ⟨h0, h⟩ | ⟨h0, h⟩
    · obtain ⟨h1, h⟩ := ite_inv h
      obtain ⟨r1, h2, h⟩ := bind_inv h
      obtain ⟨h3, h⟩ := ite_inv h
      exact Reach.stop ttok mix fk64 (p64_3_0 x0 x3 x4 r1) (obs_cons h0 (obs_cons h1 (obs_cons (hrc_laws_toValue _ _ h2) (obs_cons h3 obs_nil)))) (ih _ _ _ _ h)
    · obtain rfl := Option.some.inj h
      exact Reach.done ttok mix fk64 (p64_3_1 x0 x3 x4) (obs_cons h0 obs_nil)
theorem c64_e {N : Nat} {rc_laws_toValue : Val → Option (Val)} (hrc_laws_toValue : ∀ a0 r, rc_laws_toValue a0 = some r → AbsCalls Try.prog 26 (laws_toValue_as a0) (laws_toValue_ro r)) {rc_laws_toValueS : (List Val) → Option ((List Val))} (hrc_laws_toValueS : ∀ a0 r, rc_laws_toValueS a0 = some r → AbsCalls Try.prog 64 (laws_toValueS_as a0) (laws_toValueS_ro r)) : ∀ a0 r, laws_toValueS_body N rc_laws_toValue rc_laws_toValueS a0 = some r → Reach Try.prog Try.f64 I64 [.code I64.body] (entry 0 (laws_toValueS_as a0)) (laws_toValueS_ro r) := by
  intro a0 r h
  unfold laws_toValueS_body at h
  obtain ⟨h0, h⟩ := ite_inv h
  exact Reach.stop ttok mix fk64 (p64_e_2 a0) (obs_cons h0 obs_nil) (c64_3 hrc_laws_toValue hrc_laws_toValueS  _ _ _ _ _ h)
theorem laws_toValueS_body_ok {N : Nat} {rc_laws_toValue : Val → Option (Val)} (hrc_laws_toValue : ∀ a0 r, rc_laws_toValue a0 = some r → AbsCalls Try.prog 26 (laws_toValue_as a0) (laws_toValue_ro r)) {rc_laws_toValueS : (List Val) → Option ((List Val))} (hrc_laws_toValueS : ∀ a0 r, rc_laws_toValueS a0 = some r → AbsCalls Try.prog 64 (laws_toValueS_as a0) (laws_toValueS_ro r)) {a0 : List Val} {r : (List Val)} (h : laws_toValueS_body N rc_laws_toValue rc_laws_toValueS a0 = some r) : AbsCalls Try.prog 64 (laws_toValueS_as a0) (laws_toValueS_ro r) :=
 AbsCalls.of_reach fk64 rfl rfl (Nat.le_of_ble_eq_true rfl) (c64_e hrc_laws_toValue hrc_laws_toValueS a0 r h)
theorem laws_toValue_fix_ok {N : Nat} : ∀ d, (∀ a0 r, (laws_toValue_fix N d).c_laws_toValue a0 = some r → AbsCalls Try.prog 26 (laws_toValue_as a0) (laws_toValue_ro r)) ∧ (∀ a0 r, (laws_toValue_fix N d).c_laws_toValueS a0 = some r → AbsCalls Try.prog 64 (laws_toValueS_as a0) (laws_toValueS_ro r)) := by
  intro d
  induction d with
  | zero =>
    refine ⟨?_, ?_⟩ <;> (intros; rename_i h; cases h)
  | succ d ih =>
    obtain ⟨ih0, ih1⟩ := ih
    refine ⟨?_, ?_⟩
    · intro _ r h; exact laws_toValue_body_ok (N := N) ih0 ih1 h
    · intro _ r h; exact laws_toValueS_body_ok (N := N) ih0 ih1 h
theorem laws_toValue_ok {N : Nat} {a0 : Val} {r : Val} (h : laws_toValue N a0 = some r) : AbsCalls Try.prog 26 (laws_toValue_as a0) (laws_toValue_ro r) := (laws_toValue_fix_ok N).1 _ r h
noncomputable def I73 : Info := { body := (Try.f73.body).getD .skip, nt := 12, results := [.cell 2 102], keep := [0, 2, 4, 6, 3, 5, 7], live := [], modes := [(4, [(0, .take, false)])], ext := [], lnt := [], casts := [], fcast := [] }
theorem fk73 : FnOk Try.prog 73 Try.f73 I73 := ⟨Try.func73, by kernel_rfl, by kernel_rfl, by kernel_rfl, by kernel_rfl⟩
theorem p73_e_0 (a0 : Bnd) (r1 : Val) : run tt (AbsCalls Try.prog) I73 3000 false [.code I73.body] ⟨(entry 0 (laws_toBinding_as a0)), [], [laws_toValue_ro r1], []⟩ = some (.done (laws_toBinding_ro (Bnd.mk (Bnd.name a0) r1)) [AbsCalls Try.prog 26 (laws_toValue_as (Bnd.value a0)) (laws_toValue_ro r1)]) := by kernel_rfl
theorem c73_e {N : Nat} : ∀ a0 r, laws_toBinding N a0 = some r → Reach Try.prog Try.f73 I73 [.code I73.body] (entry 0 (laws_toBinding_as a0)) (laws_toBinding_ro r) := by
  intro a0 r h
  unfold laws_toBinding at h
  obtain ⟨r1, h0, h⟩ := bind_inv h
  obtain rfl := Option.some.inj h
  exact Reach.done ttok mix fk73 (p73_e_0 a0 r1) (obs_cons (laws_toValue_ok h0) obs_nil)
theorem laws_toBinding_ok {N : Nat} {a0 : Bnd} {r : Bnd} (h : laws_toBinding N  a0 = some r) : AbsCalls Try.prog 73 (laws_toBinding_as a0) (laws_toBinding_ro r) :=
 AbsCalls.of_reach fk73 rfl rfl (Nat.le_of_ble_eq_true rfl) (c73_e a0 r h)
noncomputable def I17 : Info := { body := (Try.f17.body).getD .skip, nt := 23, results := [.tmp 2], keep := [0, 4, 6, 8, 22], live := [(3, [0, 6, 8])], modes := [(5, [(0, .ref, false)]), (6, [(0, .take, false)])], ext := [], lnt := [], casts := [], fcast := [] }
theorem fk17 : FnOk Try.prog 17 Try.f17 I17 := ⟨Try.func17, by kernel_rfl, by kernel_rfl, by kernel_rfl, by kernel_rfl⟩
def S17_3 (x0 : List Bnd) (x3 : List Bnd) (x4 : Int) : St := [(0, .v false [.sl .ro .bnd x0]), (6, .v false [.sl .own .bnd x3]), (8, .v false [.int .i64 x4])]
theorem p17_3_0 (x0 : List Bnd) (x3 : List Bnd) (x4 : Int) (r1 : Bnd) : run tt (AbsCalls Try.prog) I17 3000 true (stkAt 3 I17.body) ⟨(S17_3 x0 x3 x4), [true], [laws_toBinding_ro r1], []⟩ = some (.stop (stkAt 3 I17.body) (S17_3 x0 (List.set x3 (Int.toNat x4) (Bnd.mk (Bnd.name r1) (Val.re (Bnd.value r1)))) (IntKind.i64.wrap (x4 + 1))) [(decide ((x4 : Int) < (List.length x0 : Int))) = true, (0 : Int) ≤ x4 ∧ x4 < (List.length x0), AbsCalls Try.prog 73 (laws_toBinding_as (List.getD x0 (Int.toNat x4) Ty.bnd.dflt)) (laws_toBinding_ro r1), (0 : Int) ≤ x4 ∧ x4 < (List.length x3)]) := by kernel_rfl
theorem p17_3_1 (x0 : List Bnd) (x3 : List Bnd) (x4 : Int) : run tt (AbsCalls Try.prog) I17 3000 true (stkAt 3 I17.body) ⟨(S17_3 x0 x3 x4), [false], [], []⟩ = some (.done (laws_toBindingS_ro x3) [(decide ((x4 : Int) < (List.length x0 : Int))) = false]) := by kernel_rfl
theorem p17_e_2 (a0 : List Bnd) : run tt (AbsCalls Try.prog) I17 3000 false [.code I17.body] ⟨(entry 0 (laws_toBindingS_as a0)), [], [], []⟩ = some (.stop (stkAt 3 I17.body) (S17_3 a0 (List.replicate (Int.toNat (List.length a0 : Int)) Ty.bnd.dflt) 0) [(0 : Int) ≤ (List.length a0 : Int) ∧ (List.length a0 : Int) = (List.length a0 : Int) ∧ (List.length a0 : Int) ≤ Lim]) := by kernel_rfl
theorem c17_3 {N : Nat} : ∀ n x0 x3 x4 r, laws_toBindingS_b3 N n x0 x3 x4 = some r → Reach Try.prog Try.f17 I17 (stkAt 3 I17.body) (S17_3 x0 x3 x4) (laws_toBindingS_ro r) := by
  intro n
  induction n with
  | zero => intro x0 x3 x4 r h; have h' : (none : Option ((List Bnd))) = some r := h; cases h'
  | succ n ih =>
    intro x0 x3 x4 r h
    rw [laws_toBindingS_b3] at h
    rcases cond_inv h with ⟨h0, h⟩ | ⟨h0, h⟩
    · obtain ⟨h1, h⟩ := ite_inv h
      obtain ⟨r1, h2, h⟩ := bind_inv h
      obtain ⟨h3, h⟩ := ite_inv h
      exact Reach.stop ttok mix fk17 (p17_3_0 x0 x3 x4 r1) (obs_cons h0 (obs_cons h1 (obs_cons (laws_toBinding_ok h2) (obs_cons h3 obs_nil)))) (ih _ _ _ _ h)
    · obtain rfl := Option.some.inj h
      exact Reach.done ttok mix fk17 (p17_3_1 x0 x3 x4) (obs_cons h0 obs_nil)
theorem c17_e {N : Nat} : ∀ a0 r, laws_toBindingS N a0 = some r → Reach Try.prog Try.f17 I17 [.code I17.body] (entry 0 (laws_toBindingS_as a0)) (laws_toBindingS_ro r) := by
  intro a0 r h
  unfold laws_toBindingS at h
  obtain ⟨h0, h⟩ := ite_inv h
  exact Reach.stop ttok mix fk17 (p17_e_2 a0) (obs_cons h0 obs_nil) (c17_3   _ _ _ _ _ h)
theorem laws_toBindingS_ok {N : Nat} {a0 : List Bnd} {r : (List Bnd)} (h : laws_toBindingS N  a0 = some r) : AbsCalls Try.prog 17 (laws_toBindingS_as a0) (laws_toBindingS_ro r) :=
 AbsCalls.of_reach fk17 rfl rfl (Nat.le_of_ble_eq_true rfl) (c17_e a0 r h)
noncomputable def I116 : Info := { body := (Try.f116.body).getD .skip, nt := 12, results := [.cell 2 130], keep := [0, 2, 4, 3, 5], live := [], modes := [], ext := [], lnt := [], casts := [], fcast := [] }
theorem fk116 : FnOk Try.prog 116 Try.f116 I116 := ⟨Try.func116, by kernel_rfl, by kernel_rfl, by kernel_rfl, by kernel_rfl⟩
theorem p116_e_0 (a0 : Rowd) : run tt (AbsCalls Try.prog) I116 3000 false [.code I116.body] ⟨(entry 0 (spec_l3Row_as a0)), [], [], []⟩ = some (.done (spec_l3Row_ro (Rowd.mk ([] ++ (Rowd.cells a0)) ([] ++ (Rowd.frm a0)))) [0 + List.length (Rowd.cells a0) ≤ Lim, 0 + List.length (Rowd.frm a0) ≤ Lim]) := by kernel_rfl
theorem c116_e {N : Nat} : ∀ a0 r, spec_l3Row N a0 = some r → Reach Try.prog Try.f116 I116 [.code I116.body] (entry 0 (spec_l3Row_as a0)) (spec_l3Row_ro r) := by
  intro a0 r h
  unfold spec_l3Row at h
  obtain ⟨h0, h⟩ := ite_inv h
  obtain ⟨h1, h⟩ := ite_inv h
  obtain rfl := Option.some.inj h
  exact Reach.done ttok mix fk116 (p116_e_0 a0) (obs_cons h0 (obs_cons h1 obs_nil))
theorem spec_l3Row_ok {N : Nat} {a0 : Rowd} {r : Rowd} (h : spec_l3Row N  a0 = some r) : AbsCalls Try.prog 116 (spec_l3Row_as a0) (spec_l3Row_ro r) :=
 AbsCalls.of_reach fk116 rfl rfl (Nat.le_of_ble_eq_true rfl) (c116_e a0 r h)
noncomputable def I71 : Info := { body := (Try.f71.body).getD .skip, nt := 56, results := [.cell 2 28], keep := [0, 2, 4, 6, 8, 10, 46, 82, 3, 5, 7], live := [(3, [2, 4, 6, 8, 3, 5, 7]), (7, [2, 4, 6, 10, 3, 5, 7])], modes := [(5, [(1, .take, false), (9, .take, false)]), (9, [(1, .take, false), (9, .take, false)]), (10, [(0, .take, false)])], ext := [], lnt := [], casts := [], fcast := [] }
theorem fk71 : FnOk Try.prog 71 Try.f71 I71 := ⟨Try.func71, by kernel_rfl, by kernel_rfl, by kernel_rfl, by kernel_rfl⟩
def S71_3 (x4 : Int) (b1 : Val) (b2 : Val) (b3 : Val) : St := [(2, .v false [.ptr 1 0]), (4, .v false [.ptr 2 0]), (6, .v false [.ptr 3 0]), (8, .v false [.int .i64 x4]), (3, .v true [.int .i64 (Val.kind b1), .int .i64 (Val.n b1), .int .i64 (Val.step b1), .str (Val.text b1), .sl .ro .val (Val.list b1), .sl .ro .str (Val.columns b1), .sl .ro .row (Val.rows b1)]), (5, .v true [.int .i64 (Val.kind b2), .int .i64 (Val.n b2), .int .i64 (Val.step b2), .str (Val.text b2), .sl .own .val (Val.list b2), .sl .own .str (Val.columns b2), .sl .own .row (Val.rows b2)]), (7, .v true [.int .i64 (Val.kind b3), .int .i64 (Val.n b3), .int .i64 (Val.step b3), .str (Val.text b3), .sl .own .val (Val.list b3), .sl .own .str (Val.columns b3), .sl .own .row (Val.rows b3)])]
def S71_7 (x5 : Int) (b1 : Val) (b2 : Val) (b3 : Val) : St := [(2, .v false [.ptr 1 0]), (4, .v false [.ptr 2 0]), (6, .v false [.ptr 3 0]), (10, .v false [.int .i64 x5]), (3, .v true [.int .i64 (Val.kind b1), .int .i64 (Val.n b1), .int .i64 (Val.step b1), .str (Val.text b1), .sl .ro .val (Val.list b1), .sl .ro .str (Val.columns b1), .sl .ro .row (Val.rows b1)]), (5, .v true [.int .i64 (Val.kind b2), .int .i64 (Val.n b2), .int .i64 (Val.step b2), .str (Val.text b2), .sl .own .val (Val.list b2), .sl .own .str (Val.columns b2), .sl .own .row (Val.rows b2)]), (7, .v true [.int .i64 (Val.kind b3), .int .i64 (Val.n b3), .int .i64 (Val.step b3), .str (Val.text b3), .sl .own .val (Val.list b3), .sl .own .str (Val.columns b3), .sl .own .row (Val.rows b3)])]
theorem p71_7_0 (x5 : Int) (b1 : Val) (b2 : Val) (b3 : Val) (r1 : Rowd) : run tt (AbsCalls Try.prog) I71 3000 true (stkAt 7 I71.body) ⟨(S71_7 x5 b1 b2 b3), [true], [spec_l3Row_ro r1], []⟩ = some (.stop (stkAt 7 I71.body) (S71_7 (IntKind.i64.wrap (x5 + 1)) b1 b2 (Val.mk (Val.kind b3) (Val.n b3) (Val.step b3) (Val.text b3) (Val.list b3) (Val.columns b3) ((Val.rows b3) ++ [r1]))) [(decide ((x5 : Int) < (List.length (Val.rows b1) : Int))) = true, (0 : Int) ≤ x5 ∧ x5 < (List.length (Val.rows b1)), AbsCalls Try.prog 116 (spec_l3Row_as (List.getD (Val.rows b1) (Int.toNat x5) Ty.row.dflt)) (spec_l3Row_ro r1), List.length (Val.rows b3) + List.length [r1] ≤ Lim]) := by kernel_rfl
theorem p71_7_1 (x5 : Int) (b1 : Val) (b2 : Val) (b3 : Val) : run tt (AbsCalls Try.prog) I71 3000 true (stkAt 7 I71.body) ⟨(S71_7 x5 b1 b2 b3), [false], [], []⟩ = some (.done (spec_l3Copy_ro b3) [(decide ((x5 : Int) < (List.length (Val.rows b1) : Int))) = false]) := by kernel_rfl
theorem p71_3_2 (x4 : Int) (b1 : Val) (b2 : Val) (b3 : Val) (r1 : Val) : run tt (AbsCalls Try.prog) I71 3000 true (stkAt 3 I71.body) ⟨(S71_3 x4 b1 b2 b3), [true], [spec_l3Copy_ro r1], []⟩ = some (.stop (stkAt 3 I71.body) (S71_3 (IntKind.i64.wrap (x4 + 1)) b1 b2 (Val.mk (Val.kind b3) (Val.n b3) (Val.step b3) (Val.text b3) ((Val.list b3) ++ [(Val.re r1)]) (Val.columns b3) (Val.rows b3))) [(decide ((x4 : Int) < (List.length (Val.list b1) : Int))) = true, (0 : Int) ≤ x4 ∧ x4 < (List.length (Val.list b1)), AbsCalls Try.prog 71 (spec_l3Copy_as (List.getD (Val.list b1) (Int.toNat x4) Ty.val.dflt)) (spec_l3Copy_ro r1), List.length (Val.list b3) + List.length [(Val.re r1)] ≤ Lim]) := by kernel_rfl
theorem p71_3_3 (x4 : Int) (b1 : Val) (b2 : Val) (b3 : Val) : run tt (AbsCalls Try.prog) I71 3000 true (stkAt 3 I71.body) ⟨(S71_3 x4 b1 b2 b3), [false], [], []⟩ = some (.stop (stkAt 7 I71.body) (S71_7 0 b1 b2 b3) [(decide ((x4 : Int) < (List.length (Val.list b1) : Int))) = false]) := by kernel_rfl
theorem p71_e_4 (a0 : Val) : run tt (AbsCalls Try.prog) I71 3000 false [.code I71.body] ⟨(entry 0 (spec_l3Copy_as a0)), [], [], []⟩ = some (.stop (stkAt 3 I71.body) (S71_3 0 a0 (Val.mk 0 0 0 [] [] [] []) (Val.mk (Val.kind a0) (Val.n a0) (Val.step a0) (Val.text a0) [] ([] ++ (Val.columns a0)) [])) [0 + List.length (Val.columns a0) ≤ Lim]) := by kernel_rfl
theorem c71_7 {N : Nat} {rc_spec_l3Copy : Val → Option (Val)} (hrc_spec_l3Copy : ∀ a0 r, rc_spec_l3Copy a0 = some r → AbsCalls Try.prog 71 (spec_l3Copy_as a0) (spec_l3Copy_ro r)) : ∀ n x5 b1 b2 b3 r, spec_l3Copy_b7 N rc_spec_l3Copy n x5 b1 b2 b3 = some r → Reach Try.prog Try.f71 I71 (stkAt 7 I71.body) (S71_7 x5 b1 b2 b3) (spec_l3Copy_ro r) := by
  intro n
  induction n with
  | zero => intro x5 b1 b2 b3 r h; have h' : (none : Option (Val)) = some r := h; cases h'
  | succ n ih =>
    intro x5 b1 b2 b3 r h
    rw [spec_l3Copy_b7] at h
    rcases cond_inv h with ⟨h0, h⟩ | ⟨h0, h⟩
    · obtain ⟨h1, h⟩ := ite_inv h
      obtain ⟨r1, h2, h⟩ := bind_inv h
      obtain ⟨h3, h⟩ := ite_inv h
      exact Reach.stop ttok mix fk71 (p71_7_0 x5 b1 b2 b3 r1) (obs_cons h0 (obs_cons h1 (obs_cons (spec_l3Row_ok h2) (obs_cons h3 obs_nil)))) (ih _ _ _ _ _ h)
    · obtain rfl := Option.some.inj h
      exact Reach.done ttok mix fk71 (p71_7_1 x5 b1 b2 b3) (obs_cons h0 obs_nil)
theorem c71_3 {N : Nat} {rc_spec_l3Copy : Val → Option (Val)} (hrc_spec_l3Copy : ∀ a0 r, rc_spec_l3Copy a0 = some r → AbsCalls Try.prog 71 (spec_l3Copy_as a0) (spec_l3Copy_ro r)) : ∀ n x4 b1 b2 b3 r, spec_l3Copy_b3 N rc_spec_l3Copy n x4 b1 b2 b3 = some r → Reach Try.prog Try.f71 I71 (stkAt 3 I71.body) (S71_3 x4 b1 b2 b3) (spec_l3Copy_ro r) := by
  intro n
  induction n with
  | zero => intro x4 b1 b2 b3 r h; have h' : (none : Option (Val)) = some r := h; cases h'
  | succ n ih =>
    intro x4 b1 b2 b3 r h
    rw [spec_l3Copy_b3] at h
    rcases cond_inv h with ⟨h0, h⟩ | ⟨h0, h⟩
    · obtain ⟨h1, h⟩ := ite_inv h
      obtain ⟨r1, h2, h⟩ := bind_inv h
      obtain ⟨h3, h⟩ := ite_inv h
      exact Reach.stop ttok mix fk71 (p71_3_2 x4 b1 b2 b3 r1) (obs_cons h0 (obs_cons h1 (obs_cons (hrc_spec_l3Copy _ _ h2) (obs_cons h3 obs_nil)))) (ih _ _ _ _ _ h)
    · exact Reach.stop ttok mix fk71 (p71_3_3 x4 b1 b2 b3) (obs_cons h0 obs_nil) (c71_7 hrc_spec_l3Copy  _ _ _ _ _ _ h)
theorem c71_e {N : Nat} {rc_spec_l3Copy : Val → Option (Val)} (hrc_spec_l3Copy : ∀ a0 r, rc_spec_l3Copy a0 = some r → AbsCalls Try.prog 71 (spec_l3Copy_as a0) (spec_l3Copy_ro r)) : ∀ a0 r, spec_l3Copy_body N rc_spec_l3Copy a0 = some r → Reach Try.prog Try.f71 I71 [.code I71.body] (entry 0 (spec_l3Copy_as a0)) (spec_l3Copy_ro r) := by
  intro a0 r h
  unfold spec_l3Copy_body at h
  obtain ⟨h0, h⟩ := ite_inv h
  exact Reach.stop ttok mix fk71 (p71_e_4 a0) (obs_cons h0 obs_nil) (c71_3 hrc_spec_l3Copy  _ _ _ _ _ _ h)
theorem spec_l3Copy_body_ok {N : Nat} {rc_spec_l3Copy : Val → Option (Val)} (hrc_spec_l3Copy : ∀ a0 r, rc_spec_l3Copy a0 = some r → AbsCalls Try.prog 71 (spec_l3Copy_as a0) (spec_l3Copy_ro r)) {a0 : Val} {r : Val} (h : spec_l3Copy_body N rc_spec_l3Copy a0 = some r) : AbsCalls Try.prog 71 (spec_l3Copy_as a0) (spec_l3Copy_ro r) :=
 AbsCalls.of_reach fk71 rfl rfl (Nat.le_of_ble_eq_true rfl) (c71_e hrc_spec_l3Copy a0 r h)
theorem spec_l3Copy_fix_ok {N : Nat} : ∀ d, (∀ a0 r, spec_l3Copy_fix N d a0 = some r → AbsCalls Try.prog 71 (spec_l3Copy_as a0) (spec_l3Copy_ro r)) := by
  intro d
  induction d with
  | zero => intro _ r h; have h' : (none : Option (Val)) = some r := h; cases h'
  | succ d ih => intro _ r h; exact spec_l3Copy_body_ok (N := N) ih h
theorem spec_l3Copy_ok {N : Nat} {a0 : Val} {r : Val} (h : spec_l3Copy N a0 = some r) : AbsCalls Try.prog 71 (spec_l3Copy_as a0) (spec_l3Copy_ro r) := spec_l3Copy_fix_ok N _ r h
noncomputable def I119 : Info := { body := (Try.f119.body).getD .skip, nt := 12, results := [.cell 2 130], keep := [0, 2, 4, 3, 5], live := [], modes := [], ext := [], lnt := [], casts := [], fcast := [] }
theorem fk119 : FnOk Try.prog 119 Try.f119 I119 := ⟨Try.func119, by kernel_rfl, by kernel_rfl, by kernel_rfl, by kernel_rfl⟩
theorem p119_e_0 (a0 : Rowd) : run tt (AbsCalls Try.prog) I119 3000 false [.code I119.body] ⟨(entry 0 (impl_copyRow_as a0)), [], [], []⟩ = some (.done (impl_copyRow_ro (Rowd.mk ([] ++ (Rowd.cells a0)) ([] ++ (Rowd.frm a0)))) [0 + List.length (Rowd.cells a0) ≤ Lim, 0 + List.length (Rowd.frm a0) ≤ Lim]) := by kernel_rfl
theorem c119_e {N : Nat} : ∀ a0 r, impl_copyRow N a0 = some r → Reach Try.prog Try.f119 I119 [.code I119.body] (entry 0 (impl_copyRow_as a0)) (impl_copyRow_ro r) := by
  intro a0 r h
  unfold impl_copyRow at h
  obtain ⟨h0, h⟩ := ite_inv h
  obtain ⟨h1, h⟩ := ite_inv h
  obtain rfl := Option.some.inj h
  exact Reach.done ttok mix fk119 (p119_e_0 a0) (obs_cons h0 (obs_cons h1 obs_nil))
theorem impl_copyRow_ok {N : Nat} {a0 : Rowd} {r : Rowd} (h : impl_copyRow N  a0 = some r) : AbsCalls Try.prog 119 (impl_copyRow_as a0) (impl_copyRow_ro r) :=
 AbsCalls.of_reach fk119 rfl rfl (Nat.le_of_ble_eq_true rfl) (c119_e a0 r h)
noncomputable def I74 : Info := { body := (Try.f74.body).getD .skip, nt := 33, results := [.cell 2 28], keep := [0, 2, 4, 6, 10, 36, 38, 40, 42, 3, 5, 7, 11], live := [(6, [4, 6, 36, 38, 40, 5, 7])], modes := [(8, [(1, .take, false), (5, .take, false)]), (9, [(1, .take, false)]), (10, [(0, .take, false)])], ext := [], lnt := [], casts := [], fcast := [] }
theorem fk74 : FnOk Try.prog 74 Try.f74 I74 := ⟨Try.func74, by kernel_rfl, by kernel_rfl, by kernel_rfl, by kernel_rfl⟩
def S74_6 (x18 : List Rowd) (x19 : Int) (x20 : Int) (b2 : Val) (b3 : Val) : St := [(4, .v false [.ptr 2 0]), (6, .v false [.ptr 3 0]), (36, .v false [.sl .ro .row x18]), (38, .v false [.int .i64 x19]), (40, .v false [.int .i64 x20]), (5, .v true [.int .i64 (Val.kind b2), .int .i64 (Val.n b2), .int .i64 (Val.step b2), .str (Val.text b2), .sl .own .val (Val.list b2), .sl .own .str (Val.columns b2), .sl .own .row (Val.rows b2)]), (7, .v true [.int .i64 (Val.kind b3), .int .i64 (Val.n b3), .int .i64 (Val.step b3), .str (Val.text b3), .sl .own .val (Val.list b3), .sl .own .str (Val.columns b3), .sl .own .row (Val.rows b3)])]
theorem p74_6_0 (x18 : List Rowd) (x19 : Int) (x20 : Int) (b2 : Val) (b3 : Val) (r1 : Rowd) : run tt (AbsCalls Try.prog) I74 3000 true (stkAt 6 I74.body) ⟨(S74_6 x18 x19 x20 b2 b3), [true], [impl_copyRow_ro r1], []⟩ = some (.stop (stkAt 6 I74.body) (S74_6 x18 x19 (IntKind.i64.wrap (x20 + 1)) b2 (Val.mk (Val.kind b3) (Val.n b3) (Val.step b3) (Val.text b3) (Val.list b3) (Val.columns b3) ((Val.rows b3) ++ [r1]))) [(decide ((x20 : Int) < x19)) = true, (0 : Int) ≤ x20 ∧ x20 < (List.length x18), AbsCalls Try.prog 119 (impl_copyRow_as (List.getD x18 (Int.toNat x20) Ty.row.dflt)) (impl_copyRow_ro r1), List.length (Val.rows b3) + List.length [r1] ≤ Lim]) := by kernel_rfl
theorem p74_6_1 (x18 : List Rowd) (x19 : Int) (x20 : Int) (b2 : Val) (b3 : Val) : run tt (AbsCalls Try.prog) I74 3000 true (stkAt 6 I74.body) ⟨(S74_6 x18 x19 x20 b2 b3), [false], [], []⟩ = some (.done (impl_copyValue_ro b3) [(decide ((x20 : Int) < x19)) = false]) := by kernel_rfl
theorem p74_e_2 (a0 : Val) (r1 : (List Val)) : run tt (AbsCalls Try.prog) I74 3000 false [.code I74.body] ⟨(entry 0 (impl_copyValue_as a0)), [], [impl_copyValues_ro r1], []⟩ = some (.stop (stkAt 6 I74.body) (S74_6 (Val.rows a0) (List.length (Val.rows a0) : Int) 0 (Val.mk 0 0 0 [] [] [] []) (Val.mk (Val.kind a0) (Val.n a0) (Val.step a0) (Val.text a0) r1 ([] ++ (Val.columns a0)) [])) [AbsCalls Try.prog 128 (impl_copyValues_as (Val.list a0)) (impl_copyValues_ro r1), 0 + List.length (Val.columns a0) ≤ Lim]) := by kernel_rfl
theorem c74_6 {N : Nat} {rc_impl_copyValue : Val → Option (Val)} (hrc_impl_copyValue : ∀ a0 r, rc_impl_copyValue a0 = some r → AbsCalls Try.prog 74 (impl_copyValue_as a0) (impl_copyValue_ro r)) {rc_impl_copyValues : (List Val) → Option ((List Val))} (hrc_impl_copyValues : ∀ a0 r, rc_impl_copyValues a0 = some r → AbsCalls Try.prog 128 (impl_copyValues_as a0) (impl_copyValues_ro r)) : ∀ n x18 x19 x20 b2 b3 r, impl_copyValue_b6 N rc_impl_copyValue rc_impl_copyValues n x18 x19 x20 b2 b3 = some r → Reach Try.prog Try.f74 I74 (stkAt 6 I74.body) (S74_6 x18 x19 x20 b2 b3) (impl_copyValue_ro r) := by
  intro n
  induction n with
  | zero => intro x18 x19 x20 b2 b3 r h; have h' : (none : Option (Val)) = some r := h; cases h'
  | succ n ih =>
    intro x18 x19 x20 b2 b3 r h
    rw [impl_copyValue_b6] at h
    rcases cond_inv h with ⟨h0, h⟩ | ⟨h0, h⟩
    · obtain ⟨h1, h⟩ := ite_inv h
      obtain ⟨r1, h2, h⟩ := bind_inv h
      obtain ⟨h3, h⟩ := ite_inv h
      exact Reach.stop ttok mix fk74 (p74_6_0 x18 x19 x20 b2 b3 r1) (obs_cons h0 (obs_cons h1 (obs_cons (impl_copyRow_ok h2) (obs_cons h3 obs_nil)))) (ih _ _ _ _ _ _ h)
    · obtain rfl := Option.some.inj h
      exact Reach.done ttok mix fk74 (p74_6_1 x18 x19 x20 b2 b3) (obs_cons h0 obs_nil)
theorem c74_e {N : Nat} {rc_impl_copyValue : Val → Option (Val)} (hrc_impl_copyValue : ∀ a0 r, rc_impl_copyValue a0 = some r → AbsCalls Try.prog 74 (impl_copyValue_as a0) (impl_copyValue_ro r)) {rc_impl_copyValues : (List Val) → Option ((List Val))} (hrc_impl_copyValues : ∀ a0 r, rc_impl_copyValues a0 = some r → AbsCalls Try.prog 128 (impl_copyValues_as a0) (impl_copyValues_ro r)) : ∀ a0 r, impl_copyValue_body N rc_impl_copyValue rc_impl_copyValues a0 = some r → Reach Try.prog Try.f74 I74 [.code I74.body] (entry 0 (impl_copyValue_as a0)) (impl_copyValue_ro r) := by
  intro a0 r h
  unfold impl_copyValue_body at h
  obtain ⟨r1, h0, h⟩ := bind_inv h
  obtain ⟨h1, h⟩ := ite_inv h
  exact Reach.stop ttok mix fk74 (p74_e_2 a0 r1) (obs_cons (hrc_impl_copyValues _ _ h0) (obs_cons h1 obs_nil)) (c74_6 hrc_impl_copyValue hrc_impl_copyValues  _ _ _ _ _ _ _ h)
theorem impl_copyValue_body_ok {N : Nat} {rc_impl_copyValue : Val → Option (Val)} (hrc_impl_copyValue : ∀ a0 r, rc_impl_copyValue a0 = some r → AbsCalls Try.prog 74 (impl_copyValue_as a0) (impl_copyValue_ro r)) {rc_impl_copyValues : (List Val) → Option ((List Val))} (hrc_impl_copyValues : ∀ a0 r, rc_impl_copyValues a0 = some r → AbsCalls Try.prog 128 (impl_copyValues_as a0) (impl_copyValues_ro r)) {a0 : Val} {r : Val} (h : impl_copyValue_body N rc_impl_copyValue rc_impl_copyValues a0 = some r) : AbsCalls Try.prog 74 (impl_copyValue_as a0) (impl_copyValue_ro r) :=
 AbsCalls.of_reach fk74 rfl rfl (Nat.le_of_ble_eq_true rfl) (c74_e hrc_impl_copyValue hrc_impl_copyValues a0 r h)
noncomputable def I128 : Info := { body := (Try.f128.body).getD .skip, nt := 20, results := [.tmp 2], keep := [0, 4, 6, 10, 14, 16, 18, 20, 11], live := [(3, [6, 14, 16, 18])], modes := [(5, [(0, .take, false), (4, .take, false)]), (6, [(1, .take, false)]), (7, [(0, .take, false)])], ext := [], lnt := [], casts := [], fcast := [] }
theorem fk128 : FnOk Try.prog 128 Try.f128 I128 := ⟨Try.func128, by kernel_rfl, by kernel_rfl, by kernel_rfl, by kernel_rfl⟩
def S128_3 (x3 : List Val) (x7 : List Val) (x8 : Int) (x9 : Int) : St := [(6, .v false [.sl .own .val x3]), (14, .v false [.sl .ro .val x7]), (16, .v false [.int .i64 x8]), (18, .v false [.int .i64 x9])]
theorem p128_3_0 (x3 : List Val) (x7 : List Val) (x8 : Int) (x9 : Int) (r1 : Val) : run tt (AbsCalls Try.prog) I128 3000 true (stkAt 3 I128.body) ⟨(S128_3 x3 x7 x8 x9), [true], [impl_copyValue_ro r1], []⟩ = some (.stop (stkAt 3 I128.body) (S128_3 (x3 ++ [(Val.re r1)]) x7 x8 (IntKind.i64.wrap (x9 + 1))) [(decide ((x9 : Int) < x8)) = true, (0 : Int) ≤ x9 ∧ x9 < (List.length x7), AbsCalls Try.prog 74 (impl_copyValue_as (List.getD x7 (Int.toNat x9) Ty.val.dflt)) (impl_copyValue_ro r1), List.length x3 + List.length [(Val.re r1)] ≤ Lim]) := by kernel_rfl
theorem p128_3_1 (x3 : List Val) (x7 : List Val) (x8 : Int) (x9 : Int) : run tt (AbsCalls Try.prog) I128 3000 true (stkAt 3 I128.body) ⟨(S128_3 x3 x7 x8 x9), [false], [], []⟩ = some (.done (impl_copyValues_ro x3) [(decide ((x9 : Int) < x8)) = false]) := by kernel_rfl
theorem p128_e_2 (a0 : List Val) : run tt (AbsCalls Try.prog) I128 3000 false [.code I128.body] ⟨(entry 0 (impl_copyValues_as a0)), [], [], []⟩ = some (.stop (stkAt 3 I128.body) (S128_3 [] a0 (List.length a0 : Int) 0) []) := by kernel_rfl
theorem c128_3 {N : Nat} {rc_impl_copyValue : Val → Option (Val)} (hrc_impl_copyValue : ∀ a0 r, rc_impl_copyValue a0 = some r → AbsCalls Try.prog 74 (impl_copyValue_as a0) (impl_copyValue_ro r)) {rc_impl_copyValues : (List Val) → Option ((List Val))} (hrc_impl_copyValues : ∀ a0 r, rc_impl_copyValues a0 = some r → AbsCalls Try.prog 128 (impl_copyValues_as a0) (impl_copyValues_ro r)) : ∀ n x3 x7 x8 x9 r, impl_copyValues_b3 N rc_impl_copyValue rc_impl_copyValues n x3 x7 x8 x9 = some r → Reach Try.prog Try.f128 I128 (stkAt 3 I128.body) (S128_3 x3 x7 x8 x9) (impl_copyValues_ro r) := by
  intro n
  induction n with
  | zero => intro x3 x7 x8 x9 r h; have h' : (none : Option ((List Val))) = some r := h; cases h'
  | succ n ih =>
    intro x3 x7 x8 x9 r h
    rw [impl_copyValues_b3] at h
    rcases cond_inv h with ⟨h0, h⟩ | ⟨h0, h⟩
    · obtain ⟨h1, h⟩ := ite_inv h
      obtain ⟨r1, h2, h⟩ := bind_inv h
      obtain ⟨h3, h⟩ := ite_inv h
      exact Reach.stop ttok mix fk128 (p128_3_0 x3 x7 x8 x9 r1) (obs_cons h0 (obs_cons h1 (obs_cons (hrc_impl_copyValue _ _ h2) (obs_cons h3 obs_nil)))) (ih _ _ _ _ _ h)
    · obtain rfl := Option.some.inj h
      exact Reach.done ttok mix fk128 (p128_3_1 x3 x7 x8 x9) (obs_cons h0 obs_nil)
theorem c128_e {N : Nat} {rc_impl_copyValue : Val → Option (Val)} (hrc_impl_copyValue : ∀ a0 r, rc_impl_copyValue a0 = some r → AbsCalls Try.prog 74 (impl_copyValue_as a0) (impl_copyValue_ro r)) {rc_impl_copyValues : (List Val) → Option ((List Val))} (hrc_impl_copyValues : ∀ a0 r, rc_impl_copyValues a0 = some r → AbsCalls Try.prog 128 (impl_copyValues_as a0) (impl_copyValues_ro r)) : ∀ a0 r, impl_copyValues_body N rc_impl_copyValue rc_impl_copyValues a0 = some r → Reach Try.prog Try.f128 I128 [.code I128.body] (entry 0 (impl_copyValues_as a0)) (impl_copyValues_ro r) := by
  intro a0 r h
  unfold impl_copyValues_body at h
  exact Reach.stop ttok mix fk128 (p128_e_2 a0) obs_nil (c128_3 hrc_impl_copyValue hrc_impl_copyValues  _ _ _ _ _ _ h)
theorem impl_copyValues_body_ok {N : Nat} {rc_impl_copyValue : Val → Option (Val)} (hrc_impl_copyValue : ∀ a0 r, rc_impl_copyValue a0 = some r → AbsCalls Try.prog 74 (impl_copyValue_as a0) (impl_copyValue_ro r)) {rc_impl_copyValues : (List Val) → Option ((List Val))} (hrc_impl_copyValues : ∀ a0 r, rc_impl_copyValues a0 = some r → AbsCalls Try.prog 128 (impl_copyValues_as a0) (impl_copyValues_ro r)) {a0 : List Val} {r : (List Val)} (h : impl_copyValues_body N rc_impl_copyValue rc_impl_copyValues a0 = some r) : AbsCalls Try.prog 128 (impl_copyValues_as a0) (impl_copyValues_ro r) :=
 AbsCalls.of_reach fk128 rfl rfl (Nat.le_of_ble_eq_true rfl) (c128_e hrc_impl_copyValue hrc_impl_copyValues a0 r h)
theorem impl_copyValue_fix_ok {N : Nat} : ∀ d, (∀ a0 r, (impl_copyValue_fix N d).c_impl_copyValue a0 = some r → AbsCalls Try.prog 74 (impl_copyValue_as a0) (impl_copyValue_ro r)) ∧ (∀ a0 r, (impl_copyValue_fix N d).c_impl_copyValues a0 = some r → AbsCalls Try.prog 128 (impl_copyValues_as a0) (impl_copyValues_ro r)) := by
  intro d
  induction d with
  | zero =>
    refine ⟨?_, ?_⟩ <;> (intros; rename_i h; cases h)
  | succ d ih =>
    obtain ⟨ih0, ih1⟩ := ih
    refine ⟨?_, ?_⟩
    · intro _ r h; exact impl_copyValue_body_ok (N := N) ih0 ih1 h
    · intro _ r h; exact impl_copyValues_body_ok (N := N) ih0 ih1 h
theorem impl_copyValue_ok {N : Nat} {a0 : Val} {r : Val} (h : impl_copyValue N a0 = some r) : AbsCalls Try.prog 74 (impl_copyValue_as a0) (impl_copyValue_ro r) := (impl_copyValue_fix_ok N).1 _ r h
noncomputable def I76 : Info := { body := (Try.f76.body).getD .skip, nt := 26, results := [.tmp 4], keep := [0, 2, 8, 10, 20, 28, 50], live := [(4, [0, 2, 10])], modes := [], ext := [], lnt := [], casts := [], fcast := [] }
theorem fk76 : FnOk Try.prog 76 Try.f76 I76 := ⟨Try.func76, by kernel_rfl, by kernel_rfl, by kernel_rfl, by kernel_rfl⟩
def S76_4 (x0 : List Str) (x1 : List Str) (x5 : Int) : St := [(0, .v false [.sl .ro .str x0]), (2, .v false [.sl .ro .str x1]), (10, .v false [.int .i64 x5])]
theorem p76_4_0 (x0 : List Str) (x1 : List Str) (x5 : Int) : run tt (AbsCalls Try.prog) I76 3000 true (stkAt 4 I76.body) ⟨(S76_4 x0 x1 x5), [true, true], [], []⟩ = some (.done (laws_eqStringS_ro false) [(decide ((x5 : Int) < (List.length x0 : Int))) = true, (0 : Int) ≤ x5 ∧ x5 < (List.length x0), (0 : Int) ≤ x5 ∧ x5 < (List.length x1), (!(((List.getD x0 (Int.toNat x5) Ty.str.dflt) : Str) == (List.getD x1 (Int.toNat x5) Ty.str.dflt))) = true]) := by kernel_rfl
theorem p76_4_1 (x0 : List Str) (x1 : List Str) (x5 : Int) : run tt (AbsCalls Try.prog) I76 3000 true (stkAt 4 I76.body) ⟨(S76_4 x0 x1 x5), [true, false], [], []⟩ = some (.stop (stkAt 4 I76.body) (S76_4 x0 x1 (IntKind.i64.wrap (x5 + 1))) [(decide ((x5 : Int) < (List.length x0 : Int))) = true, (0 : Int) ≤ x5 ∧ x5 < (List.length x0), (0 : Int) ≤ x5 ∧ x5 < (List.length x1), (!(((List.getD x0 (Int.toNat x5) Ty.str.dflt) : Str) == (List.getD x1 (Int.toNat x5) Ty.str.dflt))) = false]) := by kernel_rfl
theorem p76_4_2 (x0 : List Str) (x1 : List Str) (x5 : Int) : run tt (AbsCalls Try.prog) I76 3000 true (stkAt 4 I76.body) ⟨(S76_4 x0 x1 x5), [false], [], []⟩ = some (.done (laws_eqStringS_ro true) [(decide ((x5 : Int) < (List.length x0 : Int))) = false]) := by kernel_rfl
theorem p76_e_3 (a0 : List Str) (a1 : List Str) : run tt (AbsCalls Try.prog) I76 3000 false [.code I76.body] ⟨(entry 0 (laws_eqStringS_as a0 a1)), [true], [], []⟩ = some (.done (laws_eqStringS_ro false) [(((List.length a0 : Int) : Int) != (List.length a1 : Int)) = true]) := by kernel_rfl
theorem p76_e_4 (a0 : List Str) (a1 : List Str) : run tt (AbsCalls Try.prog) I76 3000 false [.code I76.body] ⟨(entry 0 (laws_eqStringS_as a0 a1)), [false], [], []⟩ = some (.stop (stkAt 4 I76.body) (S76_4 a0 a1 0) [(((List.length a0 : Int) : Int) != (List.length a1 : Int)) = false]) := by kernel_rfl
theorem c76_4 {N : Nat} : ∀ n x0 x1 x5 r, laws_eqStringS_b4 N n x0 x1 x5 = some r → Reach Try.prog Try.f76 I76 (stkAt 4 I76.body) (S76_4 x0 x1 x5) (laws_eqStringS_ro r) := by
  intro n
  induction n with
  | zero => intro x0 x1 x5 r h; have h' : (none : Option (Bool)) = some r := h; cases h'
  | succ n ih =>
    intro x0 x1 x5 r h
    rw [laws_eqStringS_b4] at h
    rcases cond_inv h with ⟨h0, h⟩ | ⟨h0, h⟩
    · obtain ⟨h1, h⟩ := ite_inv h
      obtain ⟨h2, h⟩ := ite_inv h
      rcases cond_inv h with ⟨h3, h⟩ | ⟨h3, h⟩
      · obtain rfl := Option.some.inj h
        exact Reach.done ttok mix fk76 (p76_4_0 x0 x1 x5) (obs_cons h0 (obs_cons h1 (obs_cons h2 (obs_cons h3 obs_nil))))
      · exact Reach.stop ttok mix fk76 (p76_4_1 x0 x1 x5) (obs_cons h0 (obs_cons h1 (obs_cons h2 (obs_cons h3 obs_nil)))) (ih _ _ _ _ h)
    · obtain rfl := Option.some.inj h
      exact Reach.done ttok mix fk76 (p76_4_2 x0 x1 x5) (obs_cons h0 obs_nil)
theorem c76_e {N : Nat} : ∀ a0 a1 r, laws_eqStringS N a0 a1 = some r → Reach Try.prog Try.f76 I76 [.code I76.body] (entry 0 (laws_eqStringS_as a0 a1)) (laws_eqStringS_ro r) := by
  intro a0 a1 r h
  unfold laws_eqStringS at h
  rcases cond_inv h with ⟨h0, h⟩ | ⟨h0, h⟩
  · obtain rfl := Option.some.inj h
    exact Reach.done ttok mix fk76 (p76_e_3 a0 a1) (obs_cons h0 obs_nil)
  · exact Reach.stop ttok mix fk76 (p76_e_4 a0 a1) (obs_cons h0 obs_nil) (c76_4   _ _ _ _ _ h)
theorem laws_eqStringS_ok {N : Nat} {a0 : List Str} {a1 : List Str} {r : Bool} (h : laws_eqStringS N  a0 a1 = some r) : AbsCalls Try.prog 76 (laws_eqStringS_as a0 a1) (laws_eqStringS_ro r) :=
 AbsCalls.of_reach fk76 rfl rfl (Nat.le_of_ble_eq_true rfl) (c76_e a0 a1 r h)
noncomputable def I148 : Info := { body := (Try.f148.body).getD .skip, nt := 26, results := [.tmp 4], keep := [0, 2, 8, 10, 20, 28, 50], live := [(4, [0, 2, 10])], modes := [], ext := [], lnt := [], casts := [], fcast := [] }
theorem fk148 : FnOk Try.prog 148 Try.f148 I148 := ⟨Try.func148, by kernel_rfl, by kernel_rfl, by kernel_rfl, by kernel_rfl⟩
def S148_4 (x0 : List Int) (x1 : List Int) (x5 : Int) : St := [(0, .v false [.sl .ro .int x0]), (2, .v false [.sl .ro .int x1]), (10, .v false [.int .i64 x5])]
theorem p148_4_0 (x0 : List Int) (x1 : List Int) (x5 : Int) : run tt (AbsCalls Try.prog) I148 3000 true (stkAt 4 I148.body) ⟨(S148_4 x0 x1 x5), [true, true], [], []⟩ = some (.done (laws_eqIntS_ro false) [(decide ((x5 : Int) < (List.length x0 : Int))) = true, (0 : Int) ≤ x5 ∧ x5 < (List.length x0), (0 : Int) ≤ x5 ∧ x5 < (List.length x1), (((List.getD x0 (Int.toNat x5) Ty.int.dflt) : Int) != (List.getD x1 (Int.toNat x5) Ty.int.dflt)) = true]) := by kernel_rfl
theorem p148_4_1 (x0 : List Int) (x1 : List Int) (x5 : Int) : run tt (AbsCalls Try.prog) I148 3000 true (stkAt 4 I148.body) ⟨(S148_4 x0 x1 x5), [true, false], [], []⟩ = some (.stop (stkAt 4 I148.body) (S148_4 x0 x1 (IntKind.i64.wrap (x5 + 1))) [(decide ((x5 : Int) < (List.length x0 : Int))) = true, (0 : Int) ≤ x5 ∧ x5 < (List.length x0), (0 : Int) ≤ x5 ∧ x5 < (List.length x1), (((List.getD x0 (Int.toNat x5) Ty.int.dflt) : Int) != (List.getD x1 (Int.toNat x5) Ty.int.dflt)) = false]) := by kernel_rfl
theorem p148_4_2 (x0 : List Int) (x1 : List Int) (x5 : Int) : run tt (AbsCalls Try.prog) I148 3000 true (stkAt 4 I148.body) ⟨(S148_4 x0 x1 x5), [false], [], []⟩ = some (.done (laws_eqIntS_ro true) [(decide ((x5 : Int) < (List.length x0 : Int))) = false]) := by kernel_rfl
theorem p148_e_3 (a0 : List Int) (a1 : List Int) : run tt (AbsCalls Try.prog) I148 3000 false [.code I148.body] ⟨(entry 0 (laws_eqIntS_as a0 a1)), [true], [], []⟩ = some (.done (laws_eqIntS_ro false) [(((List.length a0 : Int) : Int) != (List.length a1 : Int)) = true]) := by kernel_rfl
theorem p148_e_4 (a0 : List Int) (a1 : List Int) : run tt (AbsCalls Try.prog) I148 3000 false [.code I148.body] ⟨(entry 0 (laws_eqIntS_as a0 a1)), [false], [], []⟩ = some (.stop (stkAt 4 I148.body) (S148_4 a0 a1 0) [(((List.length a0 : Int) : Int) != (List.length a1 : Int)) = false]) := by kernel_rfl
theorem c148_4 {N : Nat} : ∀ n x0 x1 x5 r, laws_eqIntS_b4 N n x0 x1 x5 = some r → Reach Try.prog Try.f148 I148 (stkAt 4 I148.body) (S148_4 x0 x1 x5) (laws_eqIntS_ro r) := by
  intro n
  induction n with
  | zero => intro x0 x1 x5 r h; have h' : (none : Option (Bool)) = some r := h; cases h'
  | succ n ih =>
    intro x0 x1 x5 r h
    rw [laws_eqIntS_b4] at h
    rcases cond_inv h with ⟨h0, h⟩ | ⟨h0, h⟩
    · obtain ⟨h1, h⟩ := ite_inv h
      obtain ⟨h2, h⟩ := ite_inv h
      rcases cond_inv h with ⟨h3, h⟩ | ⟨h3, h⟩
      · obtain rfl := Option.some.inj h
        exact Reach.done ttok mix fk148 (p148_4_0 x0 x1 x5) (obs_cons h0 (obs_cons h1 (obs_cons h2 (obs_cons h3 obs_nil))))
      · exact Reach.stop ttok mix fk148 (p148_4_1 x0 x1 x5) (obs_cons h0 (obs_cons h1 (obs_cons h2 (obs_cons h3 obs_nil)))) (ih _ _ _ _ h)
    · obtain rfl := Option.some.inj h
      exact Reach.done ttok mix fk148 (p148_4_2 x0 x1 x5) (obs_cons h0 obs_nil)
theorem c148_e {N : Nat} : ∀ a0 a1 r, laws_eqIntS N a0 a1 = some r → Reach Try.prog Try.f148 I148 [.code I148.body] (entry 0 (laws_eqIntS_as a0 a1)) (laws_eqIntS_ro r) := by
  intro a0 a1 r h
  unfold laws_eqIntS at h
  rcases cond_inv h with ⟨h0, h⟩ | ⟨h0, h⟩
  · obtain rfl := Option.some.inj h
    exact Reach.done ttok mix fk148 (p148_e_3 a0 a1) (obs_cons h0 obs_nil)
  · exact Reach.stop ttok mix fk148 (p148_e_4 a0 a1) (obs_cons h0 obs_nil) (c148_4   _ _ _ _ _ h)
theorem laws_eqIntS_ok {N : Nat} {a0 : List Int} {a1 : List Int} {r : Bool} (h : laws_eqIntS N  a0 a1 = some r) : AbsCalls Try.prog 148 (laws_eqIntS_as a0 a1) (laws_eqIntS_ro r) :=
 AbsCalls.of_reach fk148 rfl rfl (Nat.le_of_ble_eq_true rfl) (c148_e a0 a1 r h)
noncomputable def I120 : Info := { body := (Try.f120.body).getD .skip, nt := 15, results := [.tmp 4], keep := [0, 2, 4, 6, 8, 18, 28, 5, 7], live := [], modes := [], ext := [], lnt := [], casts := [], fcast := [] }
theorem fk120 : FnOk Try.prog 120 Try.f120 I120 := ⟨Try.func120, by kernel_rfl, by kernel_rfl, by kernel_rfl, by kernel_rfl⟩
theorem p120_e_0 (a0 : Org) (a1 : Org) : run tt (AbsCalls Try.prog) I120 3000 false [.code I120.body] ⟨(entry 0 (laws_eqOrigin_as a0 a1)), [true], [], []⟩ = some (.done (laws_eqOrigin_ro false) [(((Org.cell a0) : Int) != (Org.cell a1)) = true]) := by kernel_rfl
theorem p120_e_1 (a0 : Org) (a1 : Org) : run tt (AbsCalls Try.prog) I120 3000 false [.code I120.body] ⟨(entry 0 (laws_eqOrigin_as a0 a1)), [false, true], [], []⟩ = some (.done (laws_eqOrigin_ro false) [(((Org.cell a0) : Int) != (Org.cell a1)) = false, (((Org.row a0) : Int) != (Org.row a1)) = true]) := by kernel_rfl
theorem p120_e_2 (a0 : Org) (a1 : Org) : run tt (AbsCalls Try.prog) I120 3000 false [.code I120.body] ⟨(entry 0 (laws_eqOrigin_as a0 a1)), [false, false], [], []⟩ = some (.done (laws_eqOrigin_ro true) [(((Org.cell a0) : Int) != (Org.cell a1)) = false, (((Org.row a0) : Int) != (Org.row a1)) = false]) := by kernel_rfl
theorem c120_e {N : Nat} : ∀ a0 a1 r, laws_eqOrigin N a0 a1 = some r → Reach Try.prog Try.f120 I120 [.code I120.body] (entry 0 (laws_eqOrigin_as a0 a1)) (laws_eqOrigin_ro r) := by
  intro a0 a1 r h
  unfold laws_eqOrigin at h
  rcases cond_inv h with ⟨h0, h⟩ | ⟨h0, h⟩
  · obtain rfl := Option.some.inj h
    exact Reach.done ttok mix fk120 (p120_e_0 a0 a1) (obs_cons h0 obs_nil)
  · rcases cond_inv h with ⟨h1, h⟩ | ⟨h1, h⟩
    · obtain rfl := Option.some.inj h
      exact Reach.done ttok mix fk120 (p120_e_1 a0 a1) (obs_cons h0 (obs_cons h1 obs_nil))
    · obtain rfl := Option.some.inj h
      exact Reach.done ttok mix fk120 (p120_e_2 a0 a1) (obs_cons h0 (obs_cons h1 obs_nil))
theorem laws_eqOrigin_ok {N : Nat} {a0 : Org} {a1 : Org} {r : Bool} (h : laws_eqOrigin N  a0 a1 = some r) : AbsCalls Try.prog 120 (laws_eqOrigin_as a0 a1) (laws_eqOrigin_ro r) :=
 AbsCalls.of_reach fk120 rfl rfl (Nat.le_of_ble_eq_true rfl) (c120_e a0 a1 r h)
noncomputable def I58 : Info := { body := (Try.f58.body).getD .skip, nt := 27, results := [.tmp 4], keep := [0, 2, 8, 10, 20, 28, 52], live := [(4, [0, 2, 10])], modes := [], ext := [], lnt := [], casts := [], fcast := [] }
theorem fk58 : FnOk Try.prog 58 Try.f58 I58 := ⟨Try.func58, by kernel_rfl, by kernel_rfl, by kernel_rfl, by kernel_rfl⟩
def S58_4 (x0 : List Org) (x1 : List Org) (x5 : Int) : St := [(0, .v false [.sl .ro .org x0]), (2, .v false [.sl .ro .org x1]), (10, .v false [.int .i64 x5])]
theorem p58_4_0 (x0 : List Org) (x1 : List Org) (x5 : Int) (r1 : Bool) : run tt (AbsCalls Try.prog) I58 3000 true (stkAt 4 I58.body) ⟨(S58_4 x0 x1 x5), [true, true], [laws_eqOrigin_ro r1], []⟩ = some (.done (laws_eqOriginS_ro false) [(decide ((x5 : Int) < (List.length x0 : Int))) = true, (0 : Int) ≤ x5 ∧ x5 < (List.length x0), (0 : Int) ≤ x5 ∧ x5 < (List.length x1), AbsCalls Try.prog 120 (laws_eqOrigin_as (List.getD x0 (Int.toNat x5) Ty.org.dflt) (List.getD x1 (Int.toNat x5) Ty.org.dflt)) (laws_eqOrigin_ro r1), (!r1) = true]) := by kernel_rfl
theorem p58_4_1 (x0 : List Org) (x1 : List Org) (x5 : Int) (r1 : Bool) : run tt (AbsCalls Try.prog) I58 3000 true (stkAt 4 I58.body) ⟨(S58_4 x0 x1 x5), [true, false], [laws_eqOrigin_ro r1], []⟩ = some (.stop (stkAt 4 I58.body) (S58_4 x0 x1 (IntKind.i64.wrap (x5 + 1))) [(decide ((x5 : Int) < (List.length x0 : Int))) = true, (0 : Int) ≤ x5 ∧ x5 < (List.length x0), (0 : Int) ≤ x5 ∧ x5 < (List.length x1), AbsCalls Try.prog 120 (laws_eqOrigin_as (List.getD x0 (Int.toNat x5) Ty.org.dflt) (List.getD x1 (Int.toNat x5) Ty.org.dflt)) (laws_eqOrigin_ro r1), (!r1) = false]) := by kernel_rfl
theorem p58_4_2 (x0 : List Org) (x1 : List Org) (x5 : Int) : run tt (AbsCalls Try.prog) I58 3000 true (stkAt 4 I58.body) ⟨(S58_4 x0 x1 x5), [false], [], []⟩ = some (.done (laws_eqOriginS_ro true) [(decide ((x5 : Int) < (List.length x0 : Int))) = false]) := by kernel_rfl
theorem p58_e_3 (a0 : List Org) (a1 : List Org) : run tt (AbsCalls Try.prog) I58 3000 false [.code I58.body] ⟨(entry 0 (laws_eqOriginS_as a0 a1)), [true], [], []⟩ = some (.done (laws_eqOriginS_ro false) [(((List.length a0 : Int) : Int) != (List.length a1 : Int)) = true]) := by kernel_rfl
theorem p58_e_4 (a0 : List Org) (a1 : List Org) : run tt (AbsCalls Try.prog) I58 3000 false [.code I58.body] ⟨(entry 0 (laws_eqOriginS_as a0 a1)), [false], [], []⟩ = some (.stop (stkAt 4 I58.body) (S58_4 a0 a1 0) [(((List.length a0 : Int) : Int) != (List.length a1 : Int)) = false]) := by kernel_rfl
theorem c58_4 {N : Nat} : ∀ n x0 x1 x5 r, laws_eqOriginS_b4 N n x0 x1 x5 = some r → Reach Try.prog Try.f58 I58 (stkAt 4 I58.body) (S58_4 x0 x1 x5) (laws_eqOriginS_ro r) := by
  intro n
  induction n with
  | zero => intro x0 x1 x5 r h; have h' : (none : Option (Bool)) = some r := h; cases h'
  | succ n ih =>
    intro x0 x1 x5 r h
    rw [laws_eqOriginS_b4] at h
    rcases cond_inv h with ⟨h0, h⟩ | ⟨h0, h⟩
    · obtain ⟨h1, h⟩ := ite_inv h
      obtain ⟨h2, h⟩ := ite_inv h
      obtain ⟨r1, h3, h⟩ := bind_inv h
      rcases cond_inv h with ⟨h4, h⟩ | ⟨h4, h⟩
      · obtain rfl := Option.some.inj h
        exact Reach.done ttok mix fk58 (p58_4_0 x0 x1 x5 r1) (obs_cons h0 (obs_cons h1 (obs_cons h2 (obs_cons (laws_eqOrigin_ok h3) (obs_cons h4 obs_nil)))))
      · exact Reach.stop ttok mix fk58 (p58_4_1 x0 x1 x5 r1) (obs_cons h0 (obs_cons h1 (obs_cons h2 (obs_cons (laws_eqOrigin_ok h3) (obs_cons h4 obs_nil))))) (ih _ _ _ _ h)
    · obtain rfl := Option.some.inj h
      exact Reach.done ttok mix fk58 (p58_4_2 x0 x1 x5) (obs_cons h0 obs_nil)
theorem c58_e {N : Nat} : ∀ a0 a1 r, laws_eqOriginS N a0 a1 = some r → Reach Try.prog Try.f58 I58 [.code I58.body] (entry 0 (laws_eqOriginS_as a0 a1)) (laws_eqOriginS_ro r) := by
  intro a0 a1 r h
  unfold laws_eqOriginS at h
  rcases cond_inv h with ⟨h0, h⟩ | ⟨h0, h⟩
  · obtain rfl := Option.some.inj h
    exact Reach.done ttok mix fk58 (p58_e_3 a0 a1) (obs_cons h0 obs_nil)
  · exact Reach.stop ttok mix fk58 (p58_e_4 a0 a1) (obs_cons h0 obs_nil) (c58_4   _ _ _ _ _ h)
theorem laws_eqOriginS_ok {N : Nat} {a0 : List Org} {a1 : List Org} {r : Bool} (h : laws_eqOriginS N  a0 a1 = some r) : AbsCalls Try.prog 58 (laws_eqOriginS_as a0 a1) (laws_eqOriginS_ro r) :=
 AbsCalls.of_reach fk58 rfl rfl (Nat.le_of_ble_eq_true rfl) (c58_e a0 a1 r h)
noncomputable def I129 : Info := { body := (Try.f129.body).getD .skip, nt := 17, results := [.tmp 4], keep := [0, 2, 4, 6, 8, 20, 32, 5, 7], live := [], modes := [], ext := [], lnt := [], casts := [], fcast := [] }
theorem fk129 : FnOk Try.prog 129 Try.f129 I129 := ⟨Try.func129, by kernel_rfl, by kernel_rfl, by kernel_rfl, by kernel_rfl⟩
theorem p129_e_0 (a0 : Rowd) (a1 : Rowd) (r1 : Bool) : run tt (AbsCalls Try.prog) I129 3000 false [.code I129.body] ⟨(entry 0 (laws_eqRow_as a0 a1)), [true], [laws_eqIntS_ro r1], []⟩ = some (.done (laws_eqRow_ro false) [AbsCalls Try.prog 148 (laws_eqIntS_as (Rowd.cells a0) (Rowd.cells a1)) (laws_eqIntS_ro r1), (!r1) = true]) := by kernel_rfl
theorem p129_e_1 (a0 : Rowd) (a1 : Rowd) (r1 : Bool) (r2 : Bool) : run tt (AbsCalls Try.prog) I129 3000 false [.code I129.body] ⟨(entry 0 (laws_eqRow_as a0 a1)), [false, true], [laws_eqIntS_ro r1, laws_eqOriginS_ro r2], []⟩ = some (.done (laws_eqRow_ro false) [AbsCalls Try.prog 148 (laws_eqIntS_as (Rowd.cells a0) (Rowd.cells a1)) (laws_eqIntS_ro r1), (!r1) = false, AbsCalls Try.prog 58 (laws_eqOriginS_as (Rowd.frm a0) (Rowd.frm a1)) (laws_eqOriginS_ro r2), (!r2) = true]) := by kernel_rfl
theorem p129_e_2 (a0 : Rowd) (a1 : Rowd) (r1 : Bool) (r2 : Bool) : run tt (AbsCalls Try.prog) I129 3000 false [.code I129.body] ⟨(entry 0 (laws_eqRow_as a0 a1)), [false, false], [laws_eqIntS_ro r1, laws_eqOriginS_ro r2], []⟩ = some (.done (laws_eqRow_ro true) [AbsCalls Try.prog 148 (laws_eqIntS_as (Rowd.cells a0) (Rowd.cells a1)) (laws_eqIntS_ro r1), (!r1) = false, AbsCalls Try.prog 58 (laws_eqOriginS_as (Rowd.frm a0) (Rowd.frm a1)) (laws_eqOriginS_ro r2), (!r2) = false]) := by kernel_rfl
theorem c129_e {N : Nat} : ∀ a0 a1 r, laws_eqRow N a0 a1 = some r → Reach Try.prog Try.f129 I129 [.code I129.body] (entry 0 (laws_eqRow_as a0 a1)) (laws_eqRow_ro r) := by
  intro a0 a1 r h
  unfold laws_eqRow at h
  obtain ⟨r1, h0, h⟩ := bind_inv h
  rcases cond_inv h with ⟨h1, h⟩ | ⟨h1, h⟩
  · obtain rfl := Option.some.inj h
    exact Reach.done ttok mix fk129 (p129_e_0 a0 a1 r1) (obs_cons (laws_eqIntS_ok h0) (obs_cons h1 obs_nil))
  · obtain ⟨r2, h2, h⟩ := bind_inv h
    rcases cond_inv h with ⟨h3, h⟩ | ⟨h3, h⟩
    · obtain rfl := Option.some.inj h
      exact Reach.done ttok mix fk129 (p129_e_1 a0 a1 r1 r2) (obs_cons (laws_eqIntS_ok h0) (obs_cons h1 (obs_cons (laws_eqOriginS_ok h2) (obs_cons h3 obs_nil))))
    · obtain rfl := Option.some.inj h
      exact Reach.done ttok mix fk129 (p129_e_2 a0 a1 r1 r2) (obs_cons (laws_eqIntS_ok h0) (obs_cons h1 (obs_cons (laws_eqOriginS_ok h2) (obs_cons h3 obs_nil))))
theorem laws_eqRow_ok {N : Nat} {a0 : Rowd} {a1 : Rowd} {r : Bool} (h : laws_eqRow N  a0 a1 = some r) : AbsCalls Try.prog 129 (laws_eqRow_as a0 a1) (laws_eqRow_ro r) :=
 AbsCalls.of_reach fk129 rfl rfl (Nat.le_of_ble_eq_true rfl) (c129_e a0 a1 r h)
noncomputable def I77 : Info := { body := (Try.f77.body).getD .skip, nt := 27, results := [.tmp 4], keep := [0, 2, 8, 10, 20, 28, 52], live := [(4, [0, 2, 10])], modes := [], ext := [], lnt := [], casts := [], fcast := [] }
theorem fk77 : FnOk Try.prog 77 Try.f77 I77 := ⟨Try.func77, by kernel_rfl, by kernel_rfl, by kernel_rfl, by kernel_rfl⟩
def S77_4 (x0 : List Rowd) (x1 : List Rowd) (x5 : Int) : St := [(0, .v false [.sl .ro .row x0]), (2, .v false [.sl .ro .row x1]), (10, .v false [.int .i64 x5])]
theorem p77_4_0 (x0 : List Rowd) (x1 : List Rowd) (x5 : Int) (r1 : Bool) : run tt (AbsCalls Try.prog) I77 3000 true (stkAt 4 I77.body) ⟨(S77_4 x0 x1 x5), [true, true], [laws_eqRow_ro r1], []⟩ = some (.done (laws_eqRowS_ro false) [(decide ((x5 : Int) < (List.length x0 : Int))) = true, (0 : Int) ≤ x5 ∧ x5 < (List.length x0), (0 : Int) ≤ x5 ∧ x5 < (List.length x1), AbsCalls Try.prog 129 (laws_eqRow_as (List.getD x0 (Int.toNat x5) Ty.row.dflt) (List.getD x1 (Int.toNat x5) Ty.row.dflt)) (laws_eqRow_ro r1), (!r1) = true]) := by kernel_rfl
theorem p77_4_1 (x0 : List Rowd) (x1 : List Rowd) (x5 : Int) (r1 : Bool) : run tt (AbsCalls Try.prog) I77 3000 true (stkAt 4 I77.body) ⟨(S77_4 x0 x1 x5), [true, false], [laws_eqRow_ro r1], []⟩ = some (.stop (stkAt 4 I77.body) (S77_4 x0 x1 (IntKind.i64.wrap (x5 + 1))) [(decide ((x5 : Int) < (List.length x0 : Int))) = true, (0 : Int) ≤ x5 ∧ x5 < (List.length x0), (0 : Int) ≤ x5 ∧ x5 < (List.length x1), AbsCalls Try.prog 129 (laws_eqRow_as (List.getD x0 (Int.toNat x5) Ty.row.dflt) (List.getD x1 (Int.toNat x5) Ty.row.dflt)) (laws_eqRow_ro r1), (!r1) = false]) := by kernel_rfl
theorem p77_4_2 (x0 : List Rowd) (x1 : List Rowd) (x5 : Int) : run tt (AbsCalls Try.prog) I77 3000 true (stkAt 4 I77.body) ⟨(S77_4 x0 x1 x5), [false], [], []⟩ = some (.done (laws_eqRowS_ro true) [(decide ((x5 : Int) < (List.length x0 : Int))) = false]) := by kernel_rfl
theorem p77_e_3 (a0 : List Rowd) (a1 : List Rowd) : run tt (AbsCalls Try.prog) I77 3000 false [.code I77.body] ⟨(entry 0 (laws_eqRowS_as a0 a1)), [true], [], []⟩ = some (.done (laws_eqRowS_ro false) [(((List.length a0 : Int) : Int) != (List.length a1 : Int)) = true]) := by kernel_rfl
theorem p77_e_4 (a0 : List Rowd) (a1 : List Rowd) : run tt (AbsCalls Try.prog) I77 3000 false [.code I77.body] ⟨(entry 0 (laws_eqRowS_as a0 a1)), [false], [], []⟩ = some (.stop (stkAt 4 I77.body) (S77_4 a0 a1 0) [(((List.length a0 : Int) : Int) != (List.length a1 : Int)) = false]) := by kernel_rfl
theorem c77_4 {N : Nat} : ∀ n x0 x1 x5 r, laws_eqRowS_b4 N n x0 x1 x5 = some r → Reach Try.prog Try.f77 I77 (stkAt 4 I77.body) (S77_4 x0 x1 x5) (laws_eqRowS_ro r) := by
  intro n
  induction n with
  | zero => intro x0 x1 x5 r h; have h' : (none : Option (Bool)) = some r := h; cases h'
  | succ n ih =>
    intro x0 x1 x5 r h
    rw [laws_eqRowS_b4] at h
    rcases cond_inv h with ⟨h0, h⟩ | ⟨h0, h⟩
    · obtain ⟨h1, h⟩ := ite_inv h
      obtain ⟨h2, h⟩ := ite_inv h
      obtain ⟨r1, h3, h⟩ := bind_inv h
      rcases cond_inv h with ⟨h4, h⟩ | ⟨h4, h⟩
      · obtain rfl := Option.some.inj h
        exact Reach.done ttok mix fk77 (p77_4_0 x0 x1 x5 r1) (obs_cons h0 (obs_cons h1 (obs_cons h2 (obs_cons (laws_eqRow_ok h3) (obs_cons h4 obs_nil)))))
      · exact Reach.stop ttok mix fk77 (p77_4_1 x0 x1 x5 r1) (obs_cons h0 (obs_cons h1 (obs_cons h2 (obs_cons (laws_eqRow_ok h3) (obs_cons h4 obs_nil))))) (ih _ _ _ _ h)
    · obtain rfl := Option.some.inj h
      exact Reach.done ttok mix fk77 (p77_4_2 x0 x1 x5) (obs_cons h0 obs_nil)
theorem c77_e {N : Nat} : ∀ a0 a1 r, laws_eqRowS N a0 a1 = some r → Reach Try.prog Try.f77 I77 [.code I77.body] (entry 0 (laws_eqRowS_as a0 a1)) (laws_eqRowS_ro r) := by
  intro a0 a1 r h
  unfold laws_eqRowS at h
  rcases cond_inv h with ⟨h0, h⟩ | ⟨h0, h⟩
  · obtain rfl := Option.some.inj h
    exact Reach.done ttok mix fk77 (p77_e_3 a0 a1) (obs_cons h0 obs_nil)
  · exact Reach.stop ttok mix fk77 (p77_e_4 a0 a1) (obs_cons h0 obs_nil) (c77_4   _ _ _ _ _ h)
theorem laws_eqRowS_ok {N : Nat} {a0 : List Rowd} {a1 : List Rowd} {r : Bool} (h : laws_eqRowS N  a0 a1 = some r) : AbsCalls Try.prog 77 (laws_eqRowS_as a0 a1) (laws_eqRowS_ro r) :=
 AbsCalls.of_reach fk77 rfl rfl (Nat.le_of_ble_eq_true rfl) (c77_e a0 a1 r h)
noncomputable def I19 : Info := { body := (Try.f19.body).getD .skip, nt := 43, results := [.tmp 4], keep := [0, 2, 4, 6, 8, 18, 28, 38, 48, 60, 72, 84, 5, 7], live := [], modes := [], ext := [], lnt := [], casts := [], fcast := [] }
theorem fk19 : FnOk Try.prog 19 Try.f19 I19 := ⟨Try.func19, by kernel_rfl, by kernel_rfl, by kernel_rfl, by kernel_rfl⟩
theorem p19_e_0 (a0 : Val) (a1 : Val) : run tt (AbsCalls Try.prog) I19 3000 false [.code I19.body] ⟨(entry 0 (laws_eqValue_as a0 a1)), [true], [], []⟩ = some (.done (laws_eqValue_ro false) [(((Val.kind a0) : Int) != (Val.kind a1)) = true]) := by kernel_rfl
theorem p19_e_1 (a0 : Val) (a1 : Val) : run tt (AbsCalls Try.prog) I19 3000 false [.code I19.body] ⟨(entry 0 (laws_eqValue_as a0 a1)), [false, true], [], []⟩ = some (.done (laws_eqValue_ro false) [(((Val.kind a0) : Int) != (Val.kind a1)) = false, (((Val.n a0) : Int) != (Val.n a1)) = true]) := by kernel_rfl
theorem p19_e_2 (a0 : Val) (a1 : Val) : run tt (AbsCalls Try.prog) I19 3000 false [.code I19.body] ⟨(entry 0 (laws_eqValue_as a0 a1)), [false, false, true], [], []⟩ = some (.done (laws_eqValue_ro false) [(((Val.kind a0) : Int) != (Val.kind a1)) = false, (((Val.n a0) : Int) != (Val.n a1)) = false, (((Val.step a0) : Int) != (Val.step a1)) = true]) := by kernel_rfl
theorem p19_e_3 (a0 : Val) (a1 : Val) : run tt (AbsCalls Try.prog) I19 3000 false [.code I19.body] ⟨(entry 0 (laws_eqValue_as a0 a1)), [false, false, false, true], [], []⟩ = some (.done (laws_eqValue_ro false) [(((Val.kind a0) : Int) != (Val.kind a1)) = false, (((Val.n a0) : Int) != (Val.n a1)) = false, (((Val.step a0) : Int) != (Val.step a1)) = false, (!(((Val.text a0) : Str) == (Val.text a1))) = true]) := by kernel_rfl
theorem p19_e_4 (a0 : Val) (a1 : Val) (r1 : Bool) : run tt (AbsCalls Try.prog) I19 3000 false [.code I19.body] ⟨(entry 0 (laws_eqValue_as a0 a1)), [false, false, false, false, true], [laws_eqValueS_ro r1], []⟩ = some (.done (laws_eqValue_ro false) [(((Val.kind a0) : Int) != (Val.kind a1)) = false, (((Val.n a0) : Int) != (Val.n a1)) = false, (((Val.step a0) : Int) != (Val.step a1)) = false, (!(((Val.text a0) : Str) == (Val.text a1))) = false, AbsCalls Try.prog 66 (laws_eqValueS_as (Val.list a0) (Val.list a1)) (laws_eqValueS_ro r1), (!r1) = true]) := by kernel_rfl
theorem p19_e_5 (a0 : Val) (a1 : Val) (r1 : Bool) (r2 : Bool) : run tt (AbsCalls Try.prog) I19 3000 false [.code I19.body] ⟨(entry 0 (laws_eqValue_as a0 a1)), [false, false, false, false, false, true], [laws_eqValueS_ro r1, laws_eqStringS_ro r2], []⟩ = some (.done (laws_eqValue_ro false) [(((Val.kind a0) : Int) != (Val.kind a1)) = false, (((Val.n a0) : Int) != (Val.n a1)) = false, (((Val.step a0) : Int) != (Val.step a1)) = false, (!(((Val.text a0) : Str) == (Val.text a1))) = false, AbsCalls Try.prog 66 (laws_eqValueS_as (Val.list a0) (Val.list a1)) (laws_eqValueS_ro r1), (!r1) = false, AbsCalls Try.prog 76 (laws_eqStringS_as (Val.columns a0) (Val.columns a1)) (laws_eqStringS_ro r2), (!r2) = true]) := by kernel_rfl
theorem p19_e_6 (a0 : Val) (a1 : Val) (r1 : Bool) (r2 : Bool) (r3 : Bool) : run tt (AbsCalls Try.prog) I19 3000 false [.code I19.body] ⟨(entry 0 (laws_eqValue_as a0 a1)), [false, false, false, false, false, false, true], [laws_eqValueS_ro r1, laws_eqStringS_ro r2, laws_eqRowS_ro r3], []⟩ = some (.done (laws_eqValue_ro false) [(((Val.kind a0) : Int) != (Val.kind a1)) = false, (((Val.n a0) : Int) != (Val.n a1)) = false, (((Val.step a0) : Int) != (Val.step a1)) = false, (!(((Val.text a0) : Str) == (Val.text a1))) = false, AbsCalls Try.prog 66 (laws_eqValueS_as (Val.list a0) (Val.list a1)) (laws_eqValueS_ro r1), (!r1) = false, AbsCalls Try.prog 76 (laws_eqStringS_as (Val.columns a0) (Val.columns a1)) (laws_eqStringS_ro r2), (!r2) = false, AbsCalls Try.prog 77 (laws_eqRowS_as (Val.rows a0) (Val.rows a1)) (laws_eqRowS_ro r3), (!r3) = true]) := by kernel_rfl
theorem p19_e_7 (a0 : Val) (a1 : Val) (r1 : Bool) (r2 : Bool) (r3 : Bool) : run tt (AbsCalls Try.prog) I19 3000 false [.code I19.body] ⟨(entry 0 (laws_eqValue_as a0 a1)), [false, false, false, false, false, false, false], [laws_eqValueS_ro r1, laws_eqStringS_ro r2, laws_eqRowS_ro r3], []⟩ = some (.done (laws_eqValue_ro true) [(((Val.kind a0) : Int) != (Val.kind a1)) = false, (((Val.n a0) : Int) != (Val.n a1)) = false, (((Val.step a0) : Int) != (Val.step a1)) = false, (!(((Val.text a0) : Str) == (Val.text a1))) = false, AbsCalls Try.prog 66 (laws_eqValueS_as (Val.list a0) (Val.list a1)) (laws_eqValueS_ro r1), (!r1) = false, AbsCalls Try.prog 76 (laws_eqStringS_as (Val.columns a0) (Val.columns a1)) (laws_eqStringS_ro r2), (!r2) = false, AbsCalls Try.prog 77 (laws_eqRowS_as (Val.rows a0) (Val.rows a1)) (laws_eqRowS_ro r3), (!r3) = false]) := by kernel_rfl
theorem c19_e {N : Nat} {rc_laws_eqValue : Val → Val → Option (Bool)} (hrc_laws_eqValue : ∀ a0 a1 r, rc_laws_eqValue a0 a1 = some r → AbsCalls Try.prog 19 (laws_eqValue_as a0 a1) (laws_eqValue_ro r)) {rc_laws_eqValueS : (List Val) → (List Val) → Option (Bool)} (hrc_laws_eqValueS : ∀ a0 a1 r, rc_laws_eqValueS a0 a1 = some r → AbsCalls Try.prog 66 (laws_eqValueS_as a0 a1) (laws_eqValueS_ro r)) : ∀ a0 a1 r, laws_eqValue_body N rc_laws_eqValue rc_laws_eqValueS a0 a1 = some r → Reach Try.prog Try.f19 I19 [.code I19.body] (entry 0 (laws_eqValue_as a0 a1)) (laws_eqValue_ro r) := by
  intro a0 a1 r h
  unfold laws_eqValue_body at h
  rcases cond_inv h with ⟨h0, h⟩ | ⟨h0, h⟩
  · obtain rfl := Option.some.inj h
    exact Reach.done ttok mix fk19 (p19_e_0 a0 a1) (obs_cons h0 obs_nil)
  · rcases cond_inv h with ⟨h1, h⟩ | ⟨h1, h⟩
    · obtain rfl := Option.some.inj h
      exact Reach.done ttok mix fk19 (p19_e_1 a0 a1) (obs_cons h0 (obs_cons h1 obs_nil))
    · rcases cond_inv h with ⟨h2, h⟩ | ⟨h2, h⟩
      · obtain rfl := Option.some.inj h
        exact Reach.done ttok mix fk19 (p19_e_2 a0 a1) (obs_cons h0 (obs_cons h1 (obs_cons h2 obs_nil)))
      · rcases cond_inv h with ⟨h3, h⟩ | ⟨h3, h⟩
        · obtain rfl := Option.some.inj h
          exact Reach.done ttok mix fk19 (p19_e_3 a0 a1) (obs_cons h0 (obs_cons h1 (obs_cons h2 (obs_cons h3 obs_nil))))
        · obtain ⟨r1, h4, h⟩ := bind_inv h
          rcases cond_inv h with ⟨h5, h⟩ | ⟨h5, h⟩
          · obtain rfl := Option.some.inj h
            exact Reach.done ttok mix fk19 (p19_e_4 a0 a1 r1) (obs_cons h0 (obs_cons h1 (obs_cons h2 (obs_cons h3 (obs_cons (hrc_laws_eqValueS _ _ _ h4) (obs_cons h5 obs_nil))))))
          · obtain ⟨r2, h6, h⟩ := bind_inv h
            rcases cond_inv h with ⟨h7, h⟩ | ⟨h7, h⟩
            · obtain rfl := Option.some.inj h
              exact Reach.done ttok mix fk19 (p19_e_5 a0 a1 r1 r2) (obs_cons h0 (obs_cons h1 (obs_cons h2 (obs_cons h3 (obs_cons (hrc_laws_eqValueS _ _ _ h4) (obs_cons h5 (obs_cons (laws_eqStringS_ok h6) (obs_cons h7 obs_nil))))))))
            · obtain ⟨r3, h8, h⟩ := bind_inv h
              rcases cond_inv h with ⟨h9, h⟩ | ⟨h9, h⟩
              · obtain rfl := Option.some.inj h
                exact Reach.done ttok mix fk19 (p19_e_6 a0 a1 r1 r2 r3) (obs_cons h0 (obs_cons h1 (obs_cons h2 (obs_cons h3 (obs_cons (hrc_laws_eqValueS _ _ _ h4) (obs_cons h5 (obs_cons (laws_eqStringS_ok h6) (obs_cons h7 (obs_cons (laws_eqRowS_ok h8) (obs_cons h9 obs_nil))))))))))
              · obtain rfl := Option.some.inj h
                exact Reach.done ttok mix fk19 (p19_e_7 a0 a1 r1 r2 r3) (obs_cons h0 (obs_cons h1 (obs_cons h2 (obs_cons h3 (obs_cons (hrc_laws_eqValueS _ _ _ h4) (obs_cons h5 (obs_cons (laws_eqStringS_ok h6) (obs_cons h7 (obs_cons (laws_eqRowS_ok h8) (obs_cons h9 obs_nil))))))))))
theorem laws_eqValue_body_ok {N : Nat} {rc_laws_eqValue : Val → Val → Option (Bool)} (hrc_laws_eqValue : ∀ a0 a1 r, rc_laws_eqValue a0 a1 = some r → AbsCalls Try.prog 19 (laws_eqValue_as a0 a1) (laws_eqValue_ro r)) {rc_laws_eqValueS : (List Val) → (List Val) → Option (Bool)} (hrc_laws_eqValueS : ∀ a0 a1 r, rc_laws_eqValueS a0 a1 = some r → AbsCalls Try.prog 66 (laws_eqValueS_as a0 a1) (laws_eqValueS_ro r)) {a0 : Val} {a1 : Val} {r : Bool} (h : laws_eqValue_body N rc_laws_eqValue rc_laws_eqValueS a0 a1 = some r) : AbsCalls Try.prog 19 (laws_eqValue_as a0 a1) (laws_eqValue_ro r) :=
 AbsCalls.of_reach fk19 rfl rfl (Nat.le_of_ble_eq_true rfl) (c19_e hrc_laws_eqValue hrc_laws_eqValueS a0 a1 r h)
noncomputable def I66 : Info := { body := (Try.f66.body).getD .skip, nt := 27, results := [.tmp 4], keep := [0, 2, 8, 10, 20, 28, 52], live := [(4, [0, 2, 10])], modes := [], ext := [], lnt := [], casts := [], fcast := [] }
theorem fk66 : FnOk Try.prog 66 Try.f66 I66 := ⟨Try.func66, by kernel_rfl, by kernel_rfl, by kernel_rfl, by kernel_rfl⟩
def S66_4 (x0 : List Val) (x1 : List Val) (x5 : Int) : St := [(0, .v false [.sl .ro .val x0]), (2, .v false [.sl .ro .val x1]), (10, .v false [.int .i64 x5])]
theorem p66_4_0 (x0 : List Val) (x1 : List Val) (x5 : Int) (r1 : Bool) : run tt (AbsCalls Try.prog) I66 3000 true (stkAt 4 I66.body) ⟨(S66_4 x0 x1 x5), [true, true], [laws_eqValue_ro r1], []⟩ = some (.done (laws_eqValueS_ro false) [(decide ((x5 : Int) < (List.length x0 : Int))) = true, (0 : Int) ≤ x5 ∧ x5 < (List.length x0), (0 : Int) ≤ x5 ∧ x5 < (List.length x1), AbsCalls Try.prog 19 (laws_eqValue_as (List.getD x0 (Int.toNat x5) Ty.val.dflt) (List.getD x1 (Int.toNat x5) Ty.val.dflt)) (laws_eqValue_ro r1), (!r1) = true]) := by kernel_rfl
theorem p66_4_1 (x0 : List Val) (x1 : List Val) (x5 : Int) (r1 : Bool) : run tt (AbsCalls Try.prog) I66 3000 true (stkAt 4 I66.body) ⟨(S66_4 x0 x1 x5), [true, false], [laws_eqValue_ro r1], []⟩ = some (.stop (stkAt 4 I66.body) (S66_4 x0 x1 (IntKind.i64.wrap (x5 + 1))) [(decide ((x5 : Int) < (List.length x0 : Int))) = true, (0 : Int) ≤ x5 ∧ x5 < (List.length x0), (0 : Int) ≤ x5 ∧ x5 < (List.length x1), AbsCalls Try.prog 19 (laws_eqValue_as (List.getD x0 (Int.toNat x5) Ty.val.dflt) (List.getD x1 (Int.toNat x5) Ty.val.dflt)) (laws_eqValue_ro r1), (!r1) = false]) := by kernel_rfl
theorem p66_4_2 (x0 : List Val) (x1 : List Val) (x5 : Int) : run tt (AbsCalls Try.prog) I66 3000 true (stkAt 4 I66.body) ⟨(S66_4 x0 x1 x5), [false], [], []⟩ = some (.done (laws_eqValueS_ro true) [(decide ((x5 : Int) < (List.length x0 : Int))) = false]) := by kernel_rfl
theorem p66_e_3 (a0 : List Val) (a1 : List Val) : run tt (AbsCalls Try.prog) I66 3000 false [.code I66.body] ⟨(entry 0 (laws_eqValueS_as a0 a1)), [true], [], []⟩ = some (.done (laws_eqValueS_ro false) [(((List.length a0 : Int) : Int) != (List.length a1 : Int)) = true]) := by kernel_rfl
theorem p66_e_4 (a0 : List Val) (a1 : List Val) : run tt (AbsCalls Try.prog) I66 3000 false [.code I66.body] ⟨(entry 0 (laws_eqValueS_as a0 a1)), [false], [], []⟩ = some (.stop (stkAt 4 I66.body) (S66_4 a0 a1 0) [(((List.length a0 : Int) : Int) != (List.length a1 : Int)) = false]) := by kernel_rfl
theorem c66_4 {N : Nat} {rc_laws_eqValue : Val → Val → Option (Bool)} (hrc_laws_eqValue : ∀ a0 a1 r, rc_laws_eqValue a0 a1 = some r → AbsCalls Try.prog 19 (laws_eqValue_as a0 a1) (laws_eqValue_ro r)) {rc_laws_eqValueS : (List Val) → (List Val) → Option (Bool)} (hrc_laws_eqValueS : ∀ a0 a1 r, rc_laws_eqValueS a0 a1 = some r → AbsCalls Try.prog 66 (laws_eqValueS_as a0 a1) (laws_eqValueS_ro r)) : ∀ n x0 x1 x5 r, laws_eqValueS_b4 N rc_laws_eqValue rc_laws_eqValueS n x0 x1 x5 = some r → Reach Try.prog Try.f66 I66 (stkAt 4 I66.body) (S66_4 x0 x1 x5) (laws_eqValueS_ro r) := by
  intro n
  induction n with
  | zero => intro x0 x1 x5 r h; have h' : (none : Option (Bool)) = some r := h; cases h'
  | succ n ih =>
    intro x0 x1 x5 r h
    rw [laws_eqValueS_b4] at h
    rcases cond_inv h with ⟨h0, h⟩ | ⟨h0, h⟩
    · obtain ⟨h1, h⟩ := ite_inv h
      obtain ⟨h2, h⟩ := ite_inv h
      obtain ⟨r1, h3, h⟩ := bind_inv h
      rcases cond_inv h with ⟨h4, h⟩ | ⟨h4, h⟩
      · obtain rfl := Option.some.inj h
        exact Reach.done ttok mix fk66 (p66_4_0 x0 x1 x5 r1) (obs_cons h0 (obs_cons h1 (obs_cons h2 (obs_cons (hrc_laws_eqValue _ _ _ h3) (obs_cons h4 obs_nil)))))
      · exact Reach.stop ttok mix fk66 (p66_4_1 x0 x1 x5 r1) (obs_cons h0 (obs_cons h1 (obs_cons h2 (obs_cons (hrc_laws_eqValue _ _ _ h3) (obs_cons h4 obs_nil))))) (ih _ _ _ _ h)
    · obtain rfl := Option.some.inj h
      exact Reach.done ttok mix fk66 (p66_4_2 x0 x1 x5) (obs_cons h0 obs_nil)
theorem c66_e {N : Nat} {rc_laws_eqValue : Val → Val → Option (Bool)} (hrc_laws_eqValue : ∀ a0 a1 r, rc_laws_eqValue a0 a1 = some r → AbsCalls Try.prog 19 (laws_eqValue_as a0 a1) (laws_eqValue_ro r)) {rc_laws_eqValueS : (List Val) → (List Val) → Option (Bool)} (hrc_laws_eqValueS : ∀ a0 a1 r, rc_laws_eqValueS a0 a1 = some r → AbsCalls Try.prog 66 (laws_eqValueS_as a0 a1) (laws_eqValueS_ro r)) : ∀ a0 a1 r, laws_eqValueS_body N rc_laws_eqValue rc_laws_eqValueS a0 a1 = some r → Reach Try.prog Try.f66 I66 [.code I66.body] (entry 0 (laws_eqValueS_as a0 a1)) (laws_eqValueS_ro r) := by
  intro a0 a1 r h
  unfold laws_eqValueS_body at h
  rcases cond_inv h with ⟨h0, h⟩ | ⟨h0, h⟩
  · obtain rfl := Option.some.inj h
    exact Reach.done ttok mix fk66 (p66_e_3 a0 a1) (obs_cons h0 obs_nil)
  · exact Reach.stop ttok mix fk66 (p66_e_4 a0 a1) (obs_cons h0 obs_nil) (c66_4 hrc_laws_eqValue hrc_laws_eqValueS  _ _ _ _ _ h)
theorem laws_eqValueS_body_ok {N : Nat} {rc_laws_eqValue : Val → Val → Option (Bool)} (hrc_laws_eqValue : ∀ a0 a1 r, rc_laws_eqValue a0 a1 = some r → AbsCalls Try.prog 19 (laws_eqValue_as a0 a1) (laws_eqValue_ro r)) {rc_laws_eqValueS : (List Val) → (List Val) → Option (Bool)} (hrc_laws_eqValueS : ∀ a0 a1 r, rc_laws_eqValueS a0 a1 = some r → AbsCalls Try.prog 66 (laws_eqValueS_as a0 a1) (laws_eqValueS_ro r)) {a0 : List Val} {a1 : List Val} {r : Bool} (h : laws_eqValueS_body N rc_laws_eqValue rc_laws_eqValueS a0 a1 = some r) : AbsCalls Try.prog 66 (laws_eqValueS_as a0 a1) (laws_eqValueS_ro r) :=
 AbsCalls.of_reach fk66 rfl rfl (Nat.le_of_ble_eq_true rfl) (c66_e hrc_laws_eqValue hrc_laws_eqValueS a0 a1 r h)
theorem laws_eqValue_fix_ok {N : Nat} : ∀ d, (∀ a0 a1 r, (laws_eqValue_fix N d).c_laws_eqValue a0 a1 = some r → AbsCalls Try.prog 19 (laws_eqValue_as a0 a1) (laws_eqValue_ro r)) ∧ (∀ a0 a1 r, (laws_eqValue_fix N d).c_laws_eqValueS a0 a1 = some r → AbsCalls Try.prog 66 (laws_eqValueS_as a0 a1) (laws_eqValueS_ro r)) := by
  intro d
  induction d with
  | zero =>
    refine ⟨?_, ?_⟩ <;> (intros; rename_i h; cases h)
  | succ d ih =>
    obtain ⟨ih0, ih1⟩ := ih
    refine ⟨?_, ?_⟩
    · intro _ _ r h; exact laws_eqValue_body_ok (N := N) ih0 ih1 h
    · intro _ _ r h; exact laws_eqValueS_body_ok (N := N) ih0 ih1 h
theorem laws_eqValue_ok {N : Nat} {a0 : Val} {a1 : Val} {r : Bool} (h : laws_eqValue N a0 a1 = some r) : AbsCalls Try.prog 19 (laws_eqValue_as a0 a1) (laws_eqValue_ro r) := (laws_eqValue_fix_ok N).1 _ _ r h
noncomputable def I78 : Info := { body := (Try.f78.body).getD .skip, nt := 16, results := [.tmp 4], keep := [0, 2, 4, 6, 8, 18, 30, 5, 7], live := [], modes := [], ext := [], lnt := [], casts := [], fcast := [] }
theorem fk78 : FnOk Try.prog 78 Try.f78 I78 := ⟨Try.func78, by kernel_rfl, by kernel_rfl, by kernel_rfl, by kernel_rfl⟩
theorem p78_e_0 (a0 : Bnd) (a1 : Bnd) : run tt (AbsCalls Try.prog) I78 3000 false [.code I78.body] ⟨(entry 0 (laws_eqBinding_as a0 a1)), [true], [], []⟩ = some (.done (laws_eqBinding_ro false) [(!(((Bnd.name a0) : Str) == (Bnd.name a1))) = true]) := by kernel_rfl
theorem p78_e_1 (a0 : Bnd) (a1 : Bnd) (r1 : Bool) : run tt (AbsCalls Try.prog) I78 3000 false [.code I78.body] ⟨(entry 0 (laws_eqBinding_as a0 a1)), [false, true], [laws_eqValue_ro r1], []⟩ = some (.done (laws_eqBinding_ro false) [(!(((Bnd.name a0) : Str) == (Bnd.name a1))) = false, AbsCalls Try.prog 19 (laws_eqValue_as (Bnd.value a0) (Bnd.value a1)) (laws_eqValue_ro r1), (!r1) = true]) := by kernel_rfl
theorem p78_e_2 (a0 : Bnd) (a1 : Bnd) (r1 : Bool) : run tt (AbsCalls Try.prog) I78 3000 false [.code I78.body] ⟨(entry 0 (laws_eqBinding_as a0 a1)), [false, false], [laws_eqValue_ro r1], []⟩ = some (.done (laws_eqBinding_ro true) [(!(((Bnd.name a0) : Str) == (Bnd.name a1))) = false, AbsCalls Try.prog 19 (laws_eqValue_as (Bnd.value a0) (Bnd.value a1)) (laws_eqValue_ro r1), (!r1) = false]) := by kernel_rfl
theorem c78_e {N : Nat} : ∀ a0 a1 r, laws_eqBinding N a0 a1 = some r → Reach Try.prog Try.f78 I78 [.code I78.body] (entry 0 (laws_eqBinding_as a0 a1)) (laws_eqBinding_ro r) := by
  intro a0 a1 r h
  unfold laws_eqBinding at h
  rcases cond_inv h with ⟨h0, h⟩ | ⟨h0, h⟩
  · obtain rfl := Option.some.inj h
    exact Reach.done ttok mix fk78 (p78_e_0 a0 a1) (obs_cons h0 obs_nil)
  · obtain ⟨r1, h1, h⟩ := bind_inv h
    rcases cond_inv h with ⟨h2, h⟩ | ⟨h2, h⟩
    · obtain rfl := Option.some.inj h
      exact Reach.done ttok mix fk78 (p78_e_1 a0 a1 r1) (obs_cons h0 (obs_cons (laws_eqValue_ok h1) (obs_cons h2 obs_nil)))
    · obtain rfl := Option.some.inj h
      exact Reach.done ttok mix fk78 (p78_e_2 a0 a1 r1) (obs_cons h0 (obs_cons (laws_eqValue_ok h1) (obs_cons h2 obs_nil)))
theorem laws_eqBinding_ok {N : Nat} {a0 : Bnd} {a1 : Bnd} {r : Bool} (h : laws_eqBinding N  a0 a1 = some r) : AbsCalls Try.prog 78 (laws_eqBinding_as a0 a1) (laws_eqBinding_ro r) :=
 AbsCalls.of_reach fk78 rfl rfl (Nat.le_of_ble_eq_true rfl) (c78_e a0 a1 r h)
noncomputable def I20 : Info := { body := (Try.f20.body).getD .skip, nt := 27, results := [.tmp 4], keep := [0, 2, 8, 10, 20, 28, 52], live := [(4, [0, 2, 10])], modes := [], ext := [], lnt := [], casts := [], fcast := [] }
theorem fk20 : FnOk Try.prog 20 Try.f20 I20 := ⟨Try.func20, by kernel_rfl, by kernel_rfl, by kernel_rfl, by kernel_rfl⟩
def S20_4 (x0 : List Bnd) (x1 : List Bnd) (x5 : Int) : St := [(0, .v false [.sl .ro .bnd x0]), (2, .v false [.sl .ro .bnd x1]), (10, .v false [.int .i64 x5])]
theorem p20_4_0 (x0 : List Bnd) (x1 : List Bnd) (x5 : Int) (r1 : Bool) : run tt (AbsCalls Try.prog) I20 3000 true (stkAt 4 I20.body) ⟨(S20_4 x0 x1 x5), [true, true], [laws_eqBinding_ro r1], []⟩ = some (.done (laws_eqBindingS_ro false) [(decide ((x5 : Int) < (List.length x0 : Int))) = true, (0 : Int) ≤ x5 ∧ x5 < (List.length x0), (0 : Int) ≤ x5 ∧ x5 < (List.length x1), AbsCalls Try.prog 78 (laws_eqBinding_as (List.getD x0 (Int.toNat x5) Ty.bnd.dflt) (List.getD x1 (Int.toNat x5) Ty.bnd.dflt)) (laws_eqBinding_ro r1), (!r1) = true]) := by kernel_rfl
theorem p20_4_1 (x0 : List Bnd) (x1 : List Bnd) (x5 : Int) (r1 : Bool) : run tt (AbsCalls Try.prog) I20 3000 true (stkAt 4 I20.body) ⟨(S20_4 x0 x1 x5), [true, false], [laws_eqBinding_ro r1], []⟩ = some (.stop (stkAt 4 I20.body) (S20_4 x0 x1 (IntKind.i64.wrap (x5 + 1))) [(decide ((x5 : Int) < (List.length x0 : Int))) = true, (0 : Int) ≤ x5 ∧ x5 < (List.length x0), (0 : Int) ≤ x5 ∧ x5 < (List.length x1), AbsCalls Try.prog 78 (laws_eqBinding_as (List.getD x0 (Int.toNat x5) Ty.bnd.dflt) (List.getD x1 (Int.toNat x5) Ty.bnd.dflt)) (laws_eqBinding_ro r1), (!r1) = false]) := by kernel_rfl
theorem p20_4_2 (x0 : List Bnd) (x1 : List Bnd) (x5 : Int) : run tt (AbsCalls Try.prog) I20 3000 true (stkAt 4 I20.body) ⟨(S20_4 x0 x1 x5), [false], [], []⟩ = some (.done (laws_eqBindingS_ro true) [(decide ((x5 : Int) < (List.length x0 : Int))) = false]) := by kernel_rfl
theorem p20_e_3 (a0 : List Bnd) (a1 : List Bnd) : run tt (AbsCalls Try.prog) I20 3000 false [.code I20.body] ⟨(entry 0 (laws_eqBindingS_as a0 a1)), [true], [], []⟩ = some (.done (laws_eqBindingS_ro false) [(((List.length a0 : Int) : Int) != (List.length a1 : Int)) = true]) := by kernel_rfl
theorem p20_e_4 (a0 : List Bnd) (a1 : List Bnd) : run tt (AbsCalls Try.prog) I20 3000 false [.code I20.body] ⟨(entry 0 (laws_eqBindingS_as a0 a1)), [false], [], []⟩ = some (.stop (stkAt 4 I20.body) (S20_4 a0 a1 0) [(((List.length a0 : Int) : Int) != (List.length a1 : Int)) = false]) := by kernel_rfl
theorem c20_4 {N : Nat} : ∀ n x0 x1 x5 r, laws_eqBindingS_b4 N n x0 x1 x5 = some r → Reach Try.prog Try.f20 I20 (stkAt 4 I20.body) (S20_4 x0 x1 x5) (laws_eqBindingS_ro r) := by
  intro n
  induction n with
  | zero => intro x0 x1 x5 r h; have h' : (none : Option (Bool)) = some r := h; cases h'
  | succ n ih =>
    intro x0 x1 x5 r h
    rw [laws_eqBindingS_b4] at h
    rcases cond_inv h with ⟨h0, h⟩ | ⟨h0, h⟩
    · obtain ⟨h1, h⟩ := ite_inv h
      obtain ⟨h2, h⟩ := ite_inv h
      obtain ⟨r1, h3, h⟩ := bind_inv h
      rcases cond_inv h with ⟨h4, h⟩ | ⟨h4, h⟩
      · obtain rfl := Option.some.inj h
        exact Reach.done ttok mix fk20 (p20_4_0 x0 x1 x5 r1) (obs_cons h0 (obs_cons h1 (obs_cons h2 (obs_cons (laws_eqBinding_ok h3) (obs_cons h4 obs_nil)))))
      · exact Reach.stop ttok mix fk20 (p20_4_1 x0 x1 x5 r1) (obs_cons h0 (obs_cons h1 (obs_cons h2 (obs_cons (laws_eqBinding_ok h3) (obs_cons h4 obs_nil))))) (ih _ _ _ _ h)
    · obtain rfl := Option.some.inj h
      exact Reach.done ttok mix fk20 (p20_4_2 x0 x1 x5) (obs_cons h0 obs_nil)
theorem c20_e {N : Nat} : ∀ a0 a1 r, laws_eqBindingS N a0 a1 = some r → Reach Try.prog Try.f20 I20 [.code I20.body] (entry 0 (laws_eqBindingS_as a0 a1)) (laws_eqBindingS_ro r) := by
  intro a0 a1 r h
  unfold laws_eqBindingS at h
  rcases cond_inv h with ⟨h0, h⟩ | ⟨h0, h⟩
  · obtain rfl := Option.some.inj h
    exact Reach.done ttok mix fk20 (p20_e_3 a0 a1) (obs_cons h0 obs_nil)
  · exact Reach.stop ttok mix fk20 (p20_e_4 a0 a1) (obs_cons h0 obs_nil) (c20_4   _ _ _ _ _ h)
theorem laws_eqBindingS_ok {N : Nat} {a0 : List Bnd} {a1 : List Bnd} {r : Bool} (h : laws_eqBindingS N  a0 a1 = some r) : AbsCalls Try.prog 20 (laws_eqBindingS_as a0 a1) (laws_eqBindingS_ro r) :=
 AbsCalls.of_reach fk20 rfl rfl (Nat.le_of_ble_eq_true rfl) (c20_e a0 a1 r h)
noncomputable def I79 : Info := { body := (Try.f79.body).getD .skip, nt := 20, results := [.tmp 2], keep := [0, 4, 6, 10, 14], live := [(4, [0, 6])], modes := [], ext := [], lnt := [], casts := [], fcast := [] }
theorem fk79 : FnOk Try.prog 79 Try.f79 I79 := ⟨Try.func79, by kernel_rfl, by kernel_rfl, by kernel_rfl, by kernel_rfl⟩
def S79_4 (x0 : Int) (x3 : Str) : St := [(0, .v false [.int .i64 x0]), (6, .v false [.str x3])]
theorem p79_4_0 (x0 : Int) (x3 : Str) : run tt (AbsCalls Try.prog) I79 3000 true (stkAt 4 I79.body) ⟨(S79_4 x0 x3), [true], [], []⟩ = some (.stop (stkAt 4 I79.body) (S79_4 (IntKind.i64.wrap (Int.tdiv x0 10)) ((List.map (fun n => UInt8.ofNat (Int.toNat n)) [(IntKind.u8.wrap ((IntKind.i64.wrap (48 + (Int.tmod x0 10)))))]) ++ x3)) [(decide ((x0 : Int) > 0)) = true, 10 ≠ (0 : Int), List.length (List.map (fun n => UInt8.ofNat (Int.toNat n)) [(IntKind.u8.wrap ((IntKind.i64.wrap (48 + (Int.tmod x0 10)))))]) + List.length x3 ≤ Lim, 10 ≠ (0 : Int)]) := by kernel_rfl
theorem p79_4_1 (x0 : Int) (x3 : Str) : run tt (AbsCalls Try.prog) I79 3000 true (stkAt 4 I79.body) ⟨(S79_4 x0 x3), [false], [], []⟩ = some (.done (laws_markText_ro ([109] ++ x3)) [(decide ((x0 : Int) > 0)) = false, List.length [109] + List.length x3 ≤ Lim]) := by kernel_rfl
theorem p79_e_2 (a0 : Int) : run tt (AbsCalls Try.prog) I79 3000 false [.code I79.body] ⟨(entry 0 (laws_markText_as a0)), [true], [], []⟩ = some (.done (laws_markText_ro [109, 48]) [(decide ((a0 : Int) ≤ 0)) = true]) := by kernel_rfl
theorem p79_e_3 (a0 : Int) : run tt (AbsCalls Try.prog) I79 3000 false [.code I79.body] ⟨(entry 0 (laws_markText_as a0)), [false], [], []⟩ = some (.stop (stkAt 4 I79.body) (S79_4 a0 []) [(decide ((a0 : Int) ≤ 0)) = false]) := by kernel_rfl
theorem c79_4 {N : Nat} : ∀ n x0 x3 r, laws_markText_b4 N n x0 x3 = some r → Reach Try.prog Try.f79 I79 (stkAt 4 I79.body) (S79_4 x0 x3) (laws_markText_ro r) := by
  intro n
  induction n with
  | zero => intro x0 x3 r h; have h' : (none : Option (Str)) = some r := h; cases h'
  | succ n ih =>
    intro x0 x3 r h
    rw [laws_markText_b4] at h
    rcases cond_inv h with ⟨h0, h⟩ | ⟨h0, h⟩
    · obtain ⟨h2, h⟩ := ite_inv h
      exact Reach.stop ttok mix fk79 (p79_4_0 x0 x3) (obs_cons h0 (obs_cons (by decide) (obs_cons h2 (obs_cons (by decide) obs_nil)))) (ih _ _ _ h)
    · obtain ⟨h1, h⟩ := ite_inv h
      obtain rfl := Option.some.inj h
      exact Reach.done ttok mix fk79 (p79_4_1 x0 x3) (obs_cons h0 (obs_cons h1 obs_nil))
theorem c79_e {N : Nat} : ∀ a0 r, laws_markText N a0 = some r → Reach Try.prog Try.f79 I79 [.code I79.body] (entry 0 (laws_markText_as a0)) (laws_markText_ro r) := by
  intro a0 r h
  unfold laws_markText at h
  rcases cond_inv h with ⟨h0, h⟩ | ⟨h0, h⟩
  · obtain rfl := Option.some.inj h
    exact Reach.done ttok mix fk79 (p79_e_2 a0) (obs_cons h0 obs_nil)
  · exact Reach.stop ttok mix fk79 (p79_e_3 a0) (obs_cons h0 obs_nil) (c79_4   _ _ _ _ h)
theorem laws_markText_ok {N : Nat} {a0 : Int} {r : Str} (h : laws_markText N  a0 = some r) : AbsCalls Try.prog 79 (laws_markText_as a0) (laws_markText_ro r) :=
 AbsCalls.of_reach fk79 rfl rfl (Nat.le_of_ble_eq_true rfl) (c79_e a0 r h)
noncomputable def I80 : Info := { body := (Try.f80.body).getD .skip, nt := 20, results := [.tmp 4], keep := [0, 2, 8, 10, 18], live := [(2, [0, 2, 10])], modes := [(4, [(0, .ref, false)])], ext := [], lnt := [(0, 0)], casts := [], fcast := [] }
theorem fk80 : FnOk Try.prog 80 Try.f80 I80 := ⟨Try.func80, by kernel_rfl, by kernel_rfl, by kernel_rfl, by kernel_rfl⟩
def S80_2 (x0 : List Str) (x1 : Int) (x5 : Int) : St := [(0, .v false [.sl (.lnt 0) .str x0]), (2, .v false [.int .i64 x1]), (10, .v false [.int .i64 x5])]
theorem p80_2_0 (x0 : List Str) (x1 : Int) (x5 : Int) (r1 : Str) : run tt (AbsCalls Try.prog) I80 3000 true (stkAt 2 I80.body) ⟨(S80_2 x0 x1 x5), [true], [laws_markText_ro r1], []⟩ = some (.stop (stkAt 2 I80.body) (S80_2 (List.set x0 (Int.toNat x5) r1) (IntKind.i64.wrap (x1 + 1)) (IntKind.i64.wrap (x5 + 1))) [(decide ((x5 : Int) < (List.length x0 : Int))) = true, AbsCalls Try.prog 79 (laws_markText_as x1) (laws_markText_ro r1), (0 : Int) ≤ x5 ∧ x5 < (List.length x0)]) := by kernel_rfl
theorem p80_2_1 (x0 : List Str) (x1 : Int) (x5 : Int) : run tt (AbsCalls Try.prog) I80 3000 true (stkAt 2 I80.body) ⟨(S80_2 x0 x1 x5), [false], [], []⟩ = some (.done (laws_markStringS_ro (x1, x0)) [(decide ((x5 : Int) < (List.length x0 : Int))) = false]) := by kernel_rfl
theorem p80_e_2 (a0 : List Str) (a1 : Int) : run tt (AbsCalls Try.prog) I80 3000 false [.code I80.body] ⟨(entry 0 (laws_markStringS_as a0 a1)), [], [], []⟩ = some (.stop (stkAt 2 I80.body) (S80_2 a0 a1 0) []) := by kernel_rfl
theorem c80_2 {N : Nat} : ∀ n x0 x1 x5 r, laws_markStringS_b2 N n x0 x1 x5 = some r → Reach Try.prog Try.f80 I80 (stkAt 2 I80.body) (S80_2 x0 x1 x5) (laws_markStringS_ro r) := by
  intro n
  induction n with
  | zero => intro x0 x1 x5 r h; have h' : (none : Option (Int × (List Str))) = some r := h; cases h'
  | succ n ih =>
    intro x0 x1 x5 r h
    rw [laws_markStringS_b2] at h
    rcases cond_inv h with ⟨h0, h⟩ | ⟨h0, h⟩
    · obtain ⟨r1, h1, h⟩ := bind_inv h
      obtain ⟨h2, h⟩ := ite_inv h
      exact Reach.stop ttok mix fk80 (p80_2_0 x0 x1 x5 r1) (obs_cons h0 (obs_cons (laws_markText_ok h1) (obs_cons h2 obs_nil))) (ih _ _ _ _ h)
    · obtain rfl := Option.some.inj h
      exact Reach.done ttok mix fk80 (p80_2_1 x0 x1 x5) (obs_cons h0 obs_nil)
theorem c80_e {N : Nat} : ∀ a0 a1 r, laws_markStringS N a0 a1 = some r → Reach Try.prog Try.f80 I80 [.code I80.body] (entry 0 (laws_markStringS_as a0 a1)) (laws_markStringS_ro r) := by
  intro a0 a1 r h
  unfold laws_markStringS at h
  exact Reach.stop ttok mix fk80 (p80_e_2 a0 a1) obs_nil (c80_2   _ _ _ _ _ h)
theorem laws_markStringS_ok {N : Nat} {a0 : List Str} {a1 : Int} {r : Int × (List Str)} (h : laws_markStringS N  a0 a1 = some r) : AbsCalls Try.prog 80 (laws_markStringS_as a0 a1) (laws_markStringS_ro r) :=
 AbsCalls.of_reach fk80 rfl rfl (Nat.le_of_ble_eq_true rfl) (c80_e a0 a1 r h)
end Go.Ab.T
end
