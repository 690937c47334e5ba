/- The statement FnExactFindRead holds: plain functions, certificates, laws. Conditions: none. -/
import Derived.Test.YtbcfnggjagchiaaChecked
import Derived.Test.YtbcfnggjagchiaaProg
import Derived.Test.YtbcfnggjagchiaaRows
import Derived.Test.YtbcfnggjagchiaaL2
set_option linter.all false
section
namespace Go.Ab
set_option linter.unusedVariables false
def xBH (a0 : List Str) (a1 : Int) : List Arg := [.val (.v false [.sl .ro .str a0]), .val (.v false [.int .i64 a1])]
def xAU (r : Int) : CallO := ⟨.v false [.int .i64 r], [], []⟩
def xCO (N : Nat) : Nat → (List Str) → Int → Int → Option (Int)
  | 0, _, _, _ => none
  | n + 1, x0, x1, x5 =>
    bif (decide ((x5 : Int) < (List.length x0 : Int))) then (
      if (0 : Int) ≤ x5 ∧ x5 < (List.length x0) then
      bif (decide (((IntKind.i64.wrap (x1 - (List.length (List.getD x0 (Int.toNat x5) Ty.str.dflt) : Int))) : Int) < 0)) then (
        some (-1)
      ) else (
        (xCO N n x0 (IntKind.i64.wrap (x1 - (List.length (List.getD x0 (Int.toNat x5) Ty.str.dflt) : Int))) (IntKind.i64.wrap (x5 + 1)))
      )
      else none
    ) else (
      some x1
    )
def xDt (N : Nat) (a0 : List Str) (a1 : Int) : Option (Int) :=
  bif (decide (((IntKind.i64.wrap (a1 - (List.length a0 : Int))) : Int) < 0)) then (
    some (-1)
  ) else (
    (xCO N N a0 (IntKind.i64.wrap (a1 - (List.length a0 : Int))) 0)
  )
def xCo (a0 : List Int) (a1 : Int) : List Arg := [.val (.v false [.sl .ro .int a0]), .val (.v false [.int .i64 a1])]
def xBq (r : Int) : CallO := ⟨.v false [.int .i64 r], [], []⟩
def xEb (N : Nat) (a0 : List Int) (a1 : Int) : Option (Int) :=
  bif (decide (((IntKind.i64.wrap (a1 - (List.length a0 : Int))) : Int) < 0)) then (
    some (-1)
  ) else (
    some (IntKind.i64.wrap (a1 - (List.length a0 : Int)))
  )
def xBZ (a0 : List Org) (a1 : Int) : List Arg := [.val (.v false [.sl .ro .org a0]), .val (.v false [.int .i64 a1])]
def xBo (r : Int) : CallO := ⟨.v false [.int .i64 r], [], []⟩
def xDr (N : Nat) (a0 : List Org) (a1 : Int) : Option (Int) :=
  bif (decide (((IntKind.i64.wrap (a1 - (List.length a0 : Int))) : Int) < 0)) then (
    some (-1)
  ) else (
    some (IntKind.i64.wrap (a1 - (List.length a0 : Int)))
  )
def xCz (a0 : Rowd) (a1 : Int) : List Arg := [.val (.v true [.sl .ro .int (Rowd.cells a0), .sl .ro .org (Rowd.frm a0)]), .val (.v false [.int .i64 a1])]
def xBU (r : Int) : CallO := ⟨.v false [.int .i64 r], [], []⟩
def xD6 (N : Nat) (a0 : Rowd) (a1 : Int) : Option (Int) :=
  Option.bind (xEb N (Rowd.cells a0) a1) fun r1 =>
  bif (decide ((r1 : Int) < 0)) then (
    some (-1)
  ) else (
    Option.bind (xDr N (Rowd.frm a0) r1) fun r2 =>
    bif (decide ((r2 : Int) < 0)) then (
      some (-1)
    ) else (
      some r2
    )
  )
def xCH (a0 : List Rowd) (a1 : Int) : List Arg := [.val (.v false [.sl .ro .row a0]), .val (.v false [.int .i64 a1])]
def xBr (r : Int) : CallO := ⟨.v false [.int .i64 r], [], []⟩
def xDs (N : Nat) : Nat → (List Rowd) → Int → Int → Option (Int)
  | 0, _, _, _ => none
  | n + 1, x0, x1, x5 =>
    bif (decide ((x5 : Int) < (List.length x0 : Int))) then (
      if (0 : Int) ≤ x5 ∧ x5 < (List.length x0) then
      Option.bind (xD6 N (List.getD x0 (Int.toNat x5) Ty.row.dflt) x1) fun r1 =>
      bif (decide ((r1 : Int) < 0)) then (
        some (-1)
      ) else (
        (xDs N n x0 r1 (IntKind.i64.wrap (x5 + 1)))
      )
      else none
    ) else (
      some x1
    )
def xEc (N : Nat) (a0 : List Rowd) (a1 : Int) : Option (Int) :=
  bif (decide (((IntKind.i64.wrap (a1 - (List.length a0 : Int))) : Int) < 0)) then (
    some (-1)
  ) else (
    (xDs N N a0 (IntKind.i64.wrap (a1 - (List.length a0 : Int))) 0)
  )
def xA0 (a0 : Val) (a1 : Int) : List Arg := [.val (.v true [.int .i64 (Val.kind a0), .int .i64 (Val.n a0), .int .i64 (Val.step a0), .str (Val.text a0), .sl .ro .val (Val.list a0), .sl .ro .str (Val.columns a0), .sl .ro .row (Val.rows a0)]), .val (.v false [.int .i64 a1])]
def xAI (r : Int) : CallO := ⟨.v false [.int .i64 r], [], []⟩
def xDo (N : Nat) (q0 : Val → Int → Option (Int)) (q1 : (List Val) → Int → Option (Int)) (a0 : Val) (a1 : Int) : Option (Int) :=
  bif (decide (((IntKind.i64.wrap (a1 - (List.length (Val.text a0) : Int))) : Int) < 0)) then (
    some (-1)
  ) else (
    Option.bind (q1 (Val.list a0) (IntKind.i64.wrap (a1 - (List.length (Val.text a0) : Int)))) fun r1 =>
    bif (decide ((r1 : Int) < 0)) then (
      some (-1)
    ) else (
      Option.bind (xDt N (Val.columns a0) r1) fun r2 =>
      bif (decide ((r2 : Int) < 0)) then (
        some (-1)
      ) else (
        Option.bind (xEc N (Val.rows a0) r2) fun r3 =>
        bif (decide ((r3 : Int) < 0)) then (
          some (-1)
        ) else (
          some r3
        )
      )
    )
  )
def xBm (a0 : List Val) (a1 : Int) : List Arg := [.val (.v false [.sl .ro .val a0]), .val (.v false [.int .i64 a1])]
def xAM (r : Int) : CallO := ⟨.v false [.int .i64 r], [], []⟩
def xC3 (N : Nat) (q0 : Val → Int → Option (Int)) (q1 : (List Val) → Int → Option (Int)) : Nat → (List Val) → Int → Int → Option (Int)
  | 0, _, _, _ => none
  | n + 1, x0, x1, x5 =>
    bif (decide ((x5 : Int) < (List.length x0 : Int))) then (
      if (0 : Int) ≤ x5 ∧ x5 < (List.length x0) then
      Option.bind (q0 (List.getD x0 (Int.toNat x5) Ty.val.dflt) x1) fun r1 =>
      bif (decide ((r1 : Int) < 0)) then (
        some (-1)
      ) else (
        (xC3 N q0 q1 n x0 r1 (IntKind.i64.wrap (x5 + 1)))
      )
      else none
    ) else (
      some x1
    )
def xDe (N : Nat) (q0 : Val → Int → Option (Int)) (q1 : (List Val) → Int → Option (Int)) (a0 : List Val) (a1 : Int) : Option (Int) :=
  bif (decide (((IntKind.i64.wrap (a1 - (List.length a0 : Int))) : Int) < 0)) then (
    some (-1)
  ) else (
    (xC3 N q0 q1 N a0 (IntKind.i64.wrap (a1 - (List.length a0 : Int))) 0)
  )
structure laws_szValue_rec where
  c_laws_szValue : Val → Int → Option (Int)
  c_laws_szValueS : (List Val) → Int → Option (Int)
def xA5 (N : Nat) : Nat → laws_szValue_rec
  | 0 => ⟨fun _ _ => none, fun _ _ => none⟩
  | d + 1 => ⟨xDo N (xA5 N d).c_laws_szValue (xA5 N d).c_laws_szValueS, xDe N (xA5 N d).c_laws_szValue (xA5 N d).c_laws_szValueS⟩
def xEl (N : Nat) (a0 : Val) (a1 : Int) : Option (Int) := (xA5 N N).c_laws_szValue a0 a1
def xAB (a0 : Rea) (a1 : Int) : List Arg := [.val (.v true [.int .i64 (Rea.kind a0), .int .i64 (Rea.n a0), .int .i64 (Rea.time a0), .str (Rea.text a0), .int .i64 (Val.kind (Rea.result a0)), .int .i64 (Val.n (Rea.result a0)), .int .i64 (Val.step (Rea.result a0)), .str (Val.text (Rea.result a0)), .sl .ro .val (Val.list (Rea.result a0)), .sl .ro .str (Val.columns (Rea.result a0)), .sl .ro .row (Val.rows (Rea.result a0))]), .val (.v false [.int .i64 a1])]
def xAl (r : Int) : CallO := ⟨.v false [.int .i64 r], [], []⟩
def xDm (N : Nat) (a0 : Rea) (a1 : Int) : Option (Int) :=
  bif (decide (((IntKind.i64.wrap (a1 - (List.length (Rea.text a0) : Int))) : Int) < 0)) then (
    some (-1)
  ) else (
    Option.bind (xEl N (Rea.result a0) (IntKind.i64.wrap (a1 - (List.length (Rea.text a0) : Int)))) fun r1 =>
    bif (decide ((r1 : Int) < 0)) then (
      some (-1)
    ) else (
      some r1
    )
  )
def xAC (a0 : List Rea) (a1 : Int) : List Arg := [.val (.v false [.sl .ro .rea a0]), .val (.v false [.int .i64 a1])]
def xAk (r : Int) : CallO := ⟨.v false [.int .i64 r], [], []⟩
def xDd (N : Nat) : Nat → (List Rea) → Int → Int → Option (Int)
  | 0, _, _, _ => none
  | n + 1, x0, x1, x5 =>
    bif (decide ((x5 : Int) < (List.length x0 : Int))) then (
      if (0 : Int) ≤ x5 ∧ x5 < (List.length x0) then
      Option.bind (xDm N (List.getD x0 (Int.toNat x5) Ty.rea.dflt) x1) fun r1 =>
      bif (decide ((r1 : Int) < 0)) then (
        some (-1)
      ) else (
        (xDd N n x0 r1 (IntKind.i64.wrap (x5 + 1)))
      )
      else none
    ) else (
      some x1
    )
def xDX (N : Nat) (a0 : List Rea) (a1 : Int) : Option (Int) :=
  bif (decide (((IntKind.i64.wrap (a1 - (List.length a0 : Int))) : Int) < 0)) then (
    some (-1)
  ) else (
    (xDd N N a0 (IntKind.i64.wrap (a1 - (List.length a0 : Int))) 0)
  )
def xCR (a0 : List Str) : List Arg := [.val (.v false [.sl .ro .str a0])]
def xB1 (r : (List Str)) : CallO := ⟨.v false [.sl .own .str r], [], []⟩
def xCS (N : Nat) : Nat → (List Str) → (List Str) → Int → Option ((List Str))
  | 0, _, _, _ => none
  | n + 1, x0, x3, x4 =>
    bif (decide ((x4 : Int) < (List.length x0 : Int))) then (
      if (0 : Int) ≤ x4 ∧ x4 < (List.length x0) then
      if (0 : Int) ≤ x4 ∧ x4 < (List.length x3) then
      (xCS N n x0 (List.set x3 (Int.toNat x4) (List.getD x0 (Int.toNat x4) Ty.str.dflt)) (IntKind.i64.wrap (x4 + 1)))
      else none
      else none
    ) else (
      some x3
    )
def xCY (N : Nat) (a0 : List Str) : Option ((List Str)) :=
  if (0 : Int) ≤ (List.length a0 : Int) ∧ (List.length a0 : Int) = (List.length a0 : Int) ∧ (List.length a0 : Int) ≤ Lim then
  (xCS N N a0 (List.replicate (Int.toNat (List.length a0 : Int)) Ty.str.dflt) 0)
  else none
def xDu (a0 : List Int) : List Arg := [.val (.v false [.sl .ro .int a0])]
def xCI (r : (List Int)) : CallO := ⟨.v false [.sl .own .int r], [], []⟩
def xDv (N : Nat) : Nat → (List Int) → (List Int) → Int → Option ((List Int))
  | 0, _, _, _ => none
  | n + 1, x0, x3, x4 =>
    bif (decide ((x4 : Int) < (List.length x0 : Int))) then (
      if (0 : Int) ≤ x4 ∧ x4 < (List.length x0) then
      if (0 : Int) ≤ x4 ∧ x4 < (List.length x3) then
      (xDv N n x0 (List.set x3 (Int.toNat x4) (List.getD x0 (Int.toNat x4) Ty.int.dflt)) (IntKind.i64.wrap (x4 + 1)))
      else none
      else none
    ) else (
      some x3
    )
def xDT (N : Nat) (a0 : List Int) : Option ((List Int)) :=
  if (0 : Int) ≤ (List.length a0 : Int) ∧ (List.length a0 : Int) = (List.length a0 : Int) ∧ (List.length a0 : Int) ≤ Lim then
  (xDv N N a0 (List.replicate (Int.toNat (List.length a0 : Int)) Ty.int.dflt) 0)
  else none
def xC4 (a0 : Org) : List Arg := [.val (.v true [.int .i64 (Org.cell a0), .int .i64 (Org.row a0)])]
def xCB (r : Org) : CallO := ⟨.v true [.int .i64 (Org.cell r), .int .i64 (Org.row r)], [], []⟩
def xDJ (N : Nat) (a0 : Org) : Option (Org) :=
  some a0
def xCP (a0 : List Org) : List Arg := [.val (.v false [.sl .ro .org a0])]
def xB0 (r : (List Org)) : CallO := ⟨.v false [.sl .own .org r], [], []⟩
def xCQ (N : Nat) : Nat → (List Org) → (List Org) → Int → Option ((List Org))
  | 0, _, _, _ => none
  | n + 1, x0, x3, x4 =>
    bif (decide ((x4 : Int) < (List.length x0 : Int))) then (
      if (0 : Int) ≤ x4 ∧ x4 < (List.length x0) then
      Option.bind (xDJ N (List.getD x0 (Int.toNat x4) Ty.org.dflt)) fun r1 =>
      if (0 : Int) ≤ x4 ∧ x4 < (List.length x3) then
      (xCQ N n x0 (List.set x3 (Int.toNat x4) r1) (IntKind.i64.wrap (x4 + 1)))
      else none
      else none
    ) else (
      some x3
    )
def xCX (N : Nat) (a0 : List Org) : Option ((List Org)) :=
  if (0 : Int) ≤ (List.length a0 : Int) ∧ (List.length a0 : Int) = (List.length a0 : Int) ∧ (List.length a0 : Int) ≤ Lim then
  (xCQ N N a0 (List.replicate (Int.toNat (List.length a0 : Int)) Ty.org.dflt) 0)
  else none
def xDK (a0 : Rowd) : List Arg := [.val (.v true [.sl .ro .int (Rowd.cells a0), .sl .ro .org (Rowd.frm a0)])]
def xDg (r : Rowd) : CallO := ⟨.v true [.sl .own .int (Rowd.cells r), .sl .own .org (Rowd.frm r)], [], []⟩
def xDO (N : Nat) (a0 : Rowd) : Option (Rowd) :=
  Option.bind (xDT N (Rowd.cells a0)) fun r1 =>
  Option.bind (xCX N (Rowd.frm a0)) fun r2 =>
  some (Rowd.mk r1 r2)
def xDw (a0 : List Rowd) : List Arg := [.val (.v false [.sl .ro .row a0])]
def xCJ (r : (List Rowd)) : CallO := ⟨.v false [.sl .own .row r], [], []⟩
def xDx (N : Nat) : Nat → (List Rowd) → (List Rowd) → Int → Option ((List Rowd))
  | 0, _, _, _ => none
  | n + 1, x0, x3, x4 =>
    bif (decide ((x4 : Int) < (List.length x0 : Int))) then (
      if (0 : Int) ≤ x4 ∧ x4 < (List.length x0) then
      Option.bind (xDO N (List.getD x0 (Int.toNat x4) Ty.row.dflt)) fun r1 =>
      if (0 : Int) ≤ x4 ∧ x4 < (List.length x3) then
      (xDx N n x0 (List.set x3 (Int.toNat x4) r1) (IntKind.i64.wrap (x4 + 1)))
      else none
      else none
    ) else (
      some x3
    )
def xDU (N : Nat) (a0 : List Rowd) : Option ((List Rowd)) :=
  if (0 : Int) ≤ (List.length a0 : Int) ∧ (List.length a0 : Int) = (List.length a0 : Int) ∧ (List.length a0 : Int) ≤ Lim then
  (xDx N N a0 (List.replicate (Int.toNat (List.length a0 : Int)) Ty.row.dflt) 0)
  else none
def xB6 (a0 : Val) : List Arg := [.val (.v true [.int .i64 (Val.kind a0), .int .i64 (Val.n a0), .int .i64 (Val.step a0), .str (Val.text a0), .sl .ro .val (Val.list a0), .sl .ro .str (Val.columns a0), .sl .ro .row (Val.rows a0)])]
def xBt (r : Val) : CallO := ⟨.v true [.int .i64 (Val.kind r), .int .i64 (Val.n r), .int .i64 (Val.step r), .str (Val.text r), .sl .own .val (Val.list r), .sl .own .str (Val.columns r), .sl .own .row (Val.rows r)], [], []⟩
def xCv (N : Nat) (q0 : Val → Option (Val)) (q1 : (List Val) → Option ((List Val))) (a0 : Val) : Option (Val) :=
  Option.bind (q1 (Val.list a0)) fun r1 =>
  Option.bind (xCY N (Val.columns a0)) fun r2 =>
  Option.bind (xDU N (Val.rows a0)) fun r3 =>
  some (Val.mk (Val.kind a0) (Val.n a0) (Val.step a0) (Val.text a0) r1 r2 r3)
def xCC (a0 : List Val) : List Arg := [.val (.v false [.sl .ro .val a0])]
def xBQ (r : (List Val)) : CallO := ⟨.v false [.sl .own .val r], [], []⟩
def xC5 (N : Nat) (q0 : Val → Option (Val)) (q1 : (List Val) → Option ((List Val))) : Nat → (List Val) → (List Val) → Int → Option ((List Val))
  | 0, _, _, _ => none
  | n + 1, x0, x3, x4 =>
    bif (decide ((x4 : Int) < (List.length x0 : Int))) then (
      if (0 : Int) ≤ x4 ∧ x4 < (List.length x0) then
      Option.bind (q0 (List.getD x0 (Int.toNat x4) Ty.val.dflt)) fun r1 =>
      if (0 : Int) ≤ x4 ∧ x4 < (List.length x3) then
      (xC5 N q0 q1 n x0 (List.set x3 (Int.toNat x4) (Val.re r1)) (IntKind.i64.wrap (x4 + 1)))
      else none
      else none
    ) else (
      some x3
    )
def xCk (N : Nat) (q0 : Val → Option (Val)) (q1 : (List Val) → Option ((List Val))) (a0 : List Val) : Option ((List Val)) :=
  if (0 : Int) ≤ (List.length a0 : Int) ∧ (List.length a0 : Int) = (List.length a0 : Int) ∧ (List.length a0 : Int) ≤ Lim then
  (xC5 N q0 q1 N a0 (List.replicate (Int.toNat (List.length a0 : Int)) Ty.val.dflt) 0)
  else none
structure laws_toValue_rec where
  c_laws_toValue : Val → Option (Val)
  c_laws_toValueS : (List Val) → Option ((List Val))
def xAE (N : Nat) : Nat → laws_toValue_rec
  | 0 => ⟨fun _ => none, fun _ => none⟩
  | d + 1 => ⟨xCv N (xAE N d).c_laws_toValue (xAE N d).c_laws_toValueS, xCk N (xAE N d).c_laws_toValue (xAE N d).c_laws_toValueS⟩
def xEo (N : Nat) (a0 : Val) : Option (Val) := (xAE N N).c_laws_toValue a0
def xAh (a0 : Rea) : List Arg := [.val (.v true [.int .i64 (Rea.kind a0), .int .i64 (Rea.n a0), .int .i64 (Rea.time a0), .str (Rea.text a0), .int .i64 (Val.kind (Rea.result a0)), .int .i64 (Val.n (Rea.result a0)), .int .i64 (Val.step (Rea.result a0)), .str (Val.text (Rea.result a0)), .sl .ro .val (Val.list (Rea.result a0)), .sl .ro .str (Val.columns (Rea.result a0)), .sl .ro .row (Val.rows (Rea.result a0))])]
def xAb (r : Rea) : CallO := ⟨.v true [.int .i64 (Rea.kind r), .int .i64 (Rea.n r), .int .i64 (Rea.time r), .str (Rea.text r), .int .i64 (Val.kind (Rea.result r)), .int .i64 (Val.n (Rea.result r)), .int .i64 (Val.step (Rea.result r)), .str (Val.text (Rea.result r)), .sl .own .val (Val.list (Rea.result r)), .sl .own .str (Val.columns (Rea.result r)), .sl .own .row (Val.rows (Rea.result r))], [], []⟩
def xCp (N : Nat) (a0 : Rea) : Option (Rea) :=
  Option.bind (xEo N (Rea.result a0)) fun r1 =>
  some (Rea.mk (Rea.kind a0) (Rea.n a0) (Rea.time a0) (Rea.text a0) r1)
def xAd (a0 : List Rea) : List Arg := [.val (.v false [.sl .ro .rea a0])]
def xAa (r : (List Rea)) : CallO := ⟨.v false [.sl .own .rea r], [], []⟩
def xDf (N : Nat) : Nat → (List Rea) → (List Rea) → Int → Option ((List Rea))
  | 0, _, _, _ => none
  | n + 1, x0, x3, x4 =>
    bif (decide ((x4 : Int) < (List.length x0 : Int))) then (
      if (0 : Int) ≤ x4 ∧ x4 < (List.length x0) then
      Option.bind (xCp N (List.getD x0 (Int.toNat x4) Ty.rea.dflt)) fun r1 =>
      if (0 : Int) ≤ x4 ∧ x4 < (List.length x3) then
      (xDf N n x0 (List.set x3 (Int.toNat x4) (Rea.mk (Rea.kind r1) (Rea.n r1) (Rea.time r1) (Rea.text r1) (Val.re (Rea.result r1)))) (IntKind.i64.wrap (x4 + 1)))
      else none
      else none
    ) else (
      some x3
    )
def xCw (N : Nat) (a0 : List Rea) : Option ((List Rea)) :=
  if (0 : Int) ≤ (List.length a0 : Int) ∧ (List.length a0 : Int) = (List.length a0 : Int) ∧ (List.length a0 : Int) ≤ Lim then
  (xDf N N a0 (List.replicate (Int.toNat (List.length a0 : Int)) Ty.rea.dflt) 0)
  else none
def xBJ (a0 : Rea) (a1 : Rea) : List Arg := [.val (.v true [.int .i64 (Rea.kind a0), .int .i64 (Rea.n a0), .int .i64 (Rea.time a0), .str (Rea.text a0), .int .i64 (Val.kind (Rea.result a0)), .int .i64 (Val.n (Rea.result a0)), .int .i64 (Val.step (Rea.result a0)), .str (Val.text (Rea.result a0)), .sl .ro .val (Val.list (Rea.result a0)), .sl .ro .str (Val.columns (Rea.result a0)), .sl .ro .row (Val.rows (Rea.result a0))]), .val (.v true [.int .i64 (Rea.kind a1), .int .i64 (Rea.n a1), .int .i64 (Rea.time a1), .str (Rea.text a1), .int .i64 (Val.kind (Rea.result a1)), .int .i64 (Val.n (Rea.result a1)), .int .i64 (Val.step (Rea.result a1)), .str (Val.text (Rea.result a1)), .sl .ro .val (Val.list (Rea.result a1)), .sl .ro .str (Val.columns (Rea.result a1)), .sl .ro .row (Val.rows (Rea.result a1))])]
def xBh (r : Bool) : CallO := ⟨.v false [.bool r], [], []⟩
def xDz (N : Nat) (a0 : Rea) (a1 : Rea) : Option (Bool) :=
  bif (((Rea.kind a0) : Int) == (Rea.kind a1)) then (
    bif (((Rea.n a0) : Int) == (Rea.n a1)) then (
      bif (((Rea.text a0) : Str) == (Rea.text a1)) then (
        some (((Rea.time a0) : Int) == (Rea.time a1))
      ) else (
        some false
      )
    ) else (
      some false
    )
  ) else (
    some false
  )
def xDN (a0 : Rowd) : List Arg := [.val (.v true [.sl .ro .int (Rowd.cells a0), .sl .ro .org (Rowd.frm a0)])]
def xDh (r : Rowd) : CallO := ⟨.v true [.sl .own .int (Rowd.cells r), .sl .own .org (Rowd.frm r)], [], []⟩
def xD7 (N : Nat) (a0 : Rowd) : Option (Rowd) :=
  if 0 + List.length (Rowd.cells a0) ≤ Lim then
  if 0 + List.length (Rowd.frm a0) ≤ Lim then
  some (Rowd.mk ([] ++ (Rowd.cells a0)) ([] ++ (Rowd.frm a0)))
  else none
  else none
def xCq (a0 : Val) : List Arg := [.val (.v true [.int .i64 (Val.kind a0), .int .i64 (Val.n a0), .int .i64 (Val.step a0), .str (Val.text a0), .sl .ro .val (Val.list a0), .sl .ro .str (Val.columns a0), .sl .ro .row (Val.rows a0)])]
def xBi (r : Val) : CallO := ⟨.v true [.int .i64 (Val.kind r), .int .i64 (Val.n r), .int .i64 (Val.step r), .str (Val.text r), .sl .own .val (Val.list r), .sl .own .str (Val.columns r), .sl .own .row (Val.rows r)], [], []⟩
def xCr (N : Nat) (q0 : Val → Option (Val)) : Nat → Int → Val → Val → Val → Option (Val)
  | 0, _, _, _, _ => none
  | n + 1, x5, b1, b2, b3 =>
    bif (decide ((x5 : Int) < (List.length (Val.rows b1) : Int))) then (
      if (0 : Int) ≤ x5 ∧ x5 < (List.length (Val.rows b1)) then
      Option.bind (xD7 N (List.getD (Val.rows b1) (Int.toNat x5) Ty.row.dflt)) fun r1 =>
      if List.length (Val.rows b3) + List.length [r1] ≤ Lim then
      (xCr N q0 n (IntKind.i64.wrap (x5 + 1)) b1 b2 (Val.mk (Val.kind b3) (Val.n b3) (Val.step b3) (Val.text b3) (Val.list b3) (Val.columns b3) ((Val.rows b3) ++ [r1])))
      else none
      else none
    ) else (
      some b3
    )
def xCK (N : Nat) (q0 : Val → Option (Val)) : Nat → Int → Val → Val → Val → Option (Val)
  | 0, _, _, _, _ => none
  | n + 1, x4, b1, b2, b3 =>
    bif (decide ((x4 : Int) < (List.length (Val.list b1) : Int))) then (
      if (0 : Int) ≤ x4 ∧ x4 < (List.length (Val.list b1)) then
      Option.bind (q0 (List.getD (Val.list b1) (Int.toNat x4) Ty.val.dflt)) fun r1 =>
      if List.length (Val.list b3) + List.length [(Val.re r1)] ≤ Lim then
      (xCK N q0 n (IntKind.i64.wrap (x4 + 1)) b1 b2 (Val.mk (Val.kind b3) (Val.n b3) (Val.step b3) (Val.text b3) ((Val.list b3) ++ [(Val.re r1)]) (Val.columns b3) (Val.rows b3)))
      else none
      else none
    ) else (
      (xCr N q0 N 0 b1 b2 b3)
    )
def xCD (N : Nat) (q0 : Val → Option (Val)) (a0 : Val) : Option (Val) :=
  if 0 + List.length (Val.columns a0) ≤ Lim then
  (xCK N q0 N 0 a0 (Val.mk 0 0 0 [] [] [] []) (Val.mk (Val.kind a0) (Val.n a0) (Val.step a0) (Val.text a0) [] ([] ++ (Val.columns a0)) []))
  else none
def xB7 (N : Nat) : Nat → Val → Option (Val)
  | 0, _ => none
  | d + 1, a0 => xCD N (xB7 N d) a0
def xEe (N : Nat) (a0 : Val) : Option (Val) := xB7 N N a0
def xAH (a0 : List Rea) (a1 : Rea) : List Arg := [.val (.v false [.sl .ro .rea a0]), .val (.v true [.int .i64 (Rea.kind a1), .int .i64 (Rea.n a1), .int .i64 (Rea.time a1), .str (Rea.text a1), .int .i64 (Val.kind (Rea.result a1)), .int .i64 (Val.n (Rea.result a1)), .int .i64 (Val.step (Rea.result a1)), .str (Val.text (Rea.result a1)), .sl .ro .val (Val.list (Rea.result a1)), .sl .ro .str (Val.columns (Rea.result a1)), .sl .ro .row (Val.rows (Rea.result a1))])]
def xAm (r : Val × Bool) : CallO := ⟨.tup [(true, [.int .i64 (Val.kind r.1), .int .i64 (Val.n r.1), .int .i64 (Val.step r.1), .str (Val.text r.1), .sl .own .val (Val.list r.1), .sl .own .str (Val.columns r.1), .sl .own .row (Val.rows r.1)]), (false, [.bool r.2])], [], []⟩
def xBR (N : Nat) : Nat → (List Rea) → Int → Rea → Val → Option (Val × Bool)
  | 0, _, _, _, _ => none
  | n + 1, x0, x6, b3, b4 =>
    bif (decide ((x6 : Int) < (List.length x0 : Int))) then (
      if (0 : Int) ≤ x6 ∧ x6 < (List.length x0) then
      Option.bind (xDz N (List.getD x0 (Int.toNat x6) Ty.rea.dflt) b3) fun r1 =>
      bif r1 then (
        Option.bind (xEe N (Rea.result (List.getD x0 (Int.toNat x6) Ty.rea.dflt))) fun r2 =>
        some (r2, true)
      ) else (
        (xBR N n x0 (IntKind.i64.wrap (x6 + 1)) b3 b4)
      )
      else none
    ) else (
      some ((Val.mk 0 0 0 [] [] [] []), false)
    )
def xDM (N : Nat) (a0 : List Rea) (a1 : Rea) : Option (Val × Bool) :=
  (xBR N N a0 0 a1 (Val.mk 0 0 0 [] [] [] []))
def xBv (a0 : Rea) (a1 : Rea) : List Arg := [.val (.v true [.int .i64 (Rea.kind a0), .int .i64 (Rea.n a0), .int .i64 (Rea.time a0), .str (Rea.text a0), .int .i64 (Val.kind (Rea.result a0)), .int .i64 (Val.n (Rea.result a0)), .int .i64 (Val.step (Rea.result a0)), .str (Val.text (Rea.result a0)), .sl .ro .val (Val.list (Rea.result a0)), .sl .ro .str (Val.columns (Rea.result a0)), .sl .ro .row (Val.rows (Rea.result a0))]), .val (.v true [.int .i64 (Rea.kind a1), .int .i64 (Rea.n a1), .int .i64 (Rea.time a1), .str (Rea.text a1), .int .i64 (Val.kind (Rea.result a1)), .int .i64 (Val.n (Rea.result a1)), .int .i64 (Val.step (Rea.result a1)), .str (Val.text (Rea.result a1)), .sl .ro .val (Val.list (Rea.result a1)), .sl .ro .str (Val.columns (Rea.result a1)), .sl .ro .row (Val.rows (Rea.result a1))])]
def xBa (r : Bool) : CallO := ⟨.v false [.bool r], [], []⟩
def xDa (N : Nat) (a0 : Rea) (a1 : Rea) : Option (Bool) :=
  bif (((Rea.kind a0) : Int) == (Rea.kind a1)) then (
    bif (((Rea.n a0) : Int) == (Rea.n a1)) then (
      bif (((Rea.text a0) : Str) == (Rea.text a1)) then (
        some (((Rea.time a0) : Int) == (Rea.time a1))
      ) else (
        some false
      )
    ) else (
      some false
    )
  ) else (
    some false
  )
def xC9 (a0 : Rowd) : List Arg := [.val (.v true [.sl .ro .int (Rowd.cells a0), .sl .ro .org (Rowd.frm a0)])]
def xCM (r : Rowd) : CallO := ⟨.v true [.sl .own .int (Rowd.cells r), .sl .own .org (Rowd.frm r)], [], []⟩
def xDV (N : Nat) (a0 : Rowd) : Option (Rowd) :=
  if 0 + List.length (Rowd.cells a0) ≤ Lim then
  if 0 + List.length (Rowd.frm a0) ≤ Lim then
  some (Rowd.mk ([] ++ (Rowd.cells a0)) ([] ++ (Rowd.frm a0)))
  else none
  else none
def xBx (a0 : Val) : List Arg := [.val (.v true [.int .i64 (Val.kind a0), .int .i64 (Val.n a0), .int .i64 (Val.step a0), .str (Val.text a0), .sl .ro .val (Val.list a0), .sl .ro .str (Val.columns a0), .sl .ro .row (Val.rows a0)])]
def xA6 (r : Val) : CallO := ⟨.v true [.int .i64 (Val.kind r), .int .i64 (Val.n r), .int .i64 (Val.step r), .str (Val.text r), .sl .own .val (Val.list r), .sl .own .str (Val.columns r), .sl .own .row (Val.rows r)], [], []⟩
def xBy (N : Nat) (q0 : Val → Option (Val)) (q1 : (List Val) → Option ((List Val))) : Nat → (List Rowd) → Int → Int → Val → Val → Option (Val)
  | 0, _, _, _, _, _ => none
  | n + 1, x18, x19, x20, b2, b3 =>
    bif (decide ((x20 : Int) < x19)) then (
      if (0 : Int) ≤ x20 ∧ x20 < (List.length x18) then
      Option.bind (xDV N (List.getD x18 (Int.toNat x20) Ty.row.dflt)) fun r1 =>
      if List.length (Val.rows b3) + List.length [r1] ≤ Lim then
      (xBy N q0 q1 n x18 x19 (IntKind.i64.wrap (x20 + 1)) b2 (Val.mk (Val.kind b3) (Val.n b3) (Val.step b3) (Val.text b3) (Val.list b3) (Val.columns b3) ((Val.rows b3) ++ [r1])))
      else none
      else none
    ) else (
      some b3
    )
def xB2 (N : Nat) (q0 : Val → Option (Val)) (q1 : (List Val) → Option ((List Val))) (a0 : Val) : Option (Val) :=
  Option.bind (q1 (Val.list a0)) fun r1 =>
  if 0 + List.length (Val.columns a0) ≤ Lim then
  (xBy N q0 q1 N (Val.rows a0) (List.length (Val.rows a0) : Int) 0 (Val.mk 0 0 0 [] [] [] []) (Val.mk (Val.kind a0) (Val.n a0) (Val.step a0) (Val.text a0) r1 ([] ++ (Val.columns a0)) []))
  else none
def xCi (a0 : List Val) : List Arg := [.val (.v false [.sl .ro .val a0])]
def xBs (r : (List Val)) : CallO := ⟨.v false [.sl .own .val r], [], []⟩
def xBK (N : Nat) (q0 : Val → Option (Val)) (q1 : (List Val) → Option ((List Val))) : Nat → (List Val) → (List Val) → Int → Int → Option ((List Val))
  | 0, _, _, _, _ => none
  | n + 1, x3, x7, x8, x9 =>
    bif (decide ((x9 : Int) < x8)) then (
      if (0 : Int) ≤ x9 ∧ x9 < (List.length x7) then
      Option.bind (q0 (List.getD x7 (Int.toNat x9) Ty.val.dflt)) fun r1 =>
      if List.length x3 + List.length [(Val.re r1)] ≤ Lim then
      (xBK N q0 q1 n (x3 ++ [(Val.re r1)]) x7 x8 (IntKind.i64.wrap (x9 + 1)))
      else none
      else none
    ) else (
      some x3
    )
def xBS (N : Nat) (q0 : Val → Option (Val)) (q1 : (List Val) → Option ((List Val))) (a0 : List Val) : Option ((List Val)) :=
  (xBK N q0 q1 N [] a0 (List.length a0 : Int) 0)
structure impl_copyValue_rec where
  c_impl_copyValue : Val → Option (Val)
  c_impl_copyValues : (List Val) → Option ((List Val))
def xAy (N : Nat) : Nat → impl_copyValue_rec
  | 0 => ⟨fun _ => none, fun _ => none⟩
  | d + 1 => ⟨xB2 N (xAy N d).c_impl_copyValue (xAy N d).c_impl_copyValues, xBS N (xAy N d).c_impl_copyValue (xAy N d).c_impl_copyValues⟩
def xDp (N : Nat) (a0 : Val) : Option (Val) := (xAy N N).c_impl_copyValue a0
def xAw (a0 : List Rea) (a1 : Rea) : List Arg := [.val (.v false [.sl .ro .rea a0]), .val (.v true [.int .i64 (Rea.kind a1), .int .i64 (Rea.n a1), .int .i64 (Rea.time a1), .str (Rea.text a1), .int .i64 (Val.kind (Rea.result a1)), .int .i64 (Val.n (Rea.result a1)), .int .i64 (Val.step (Rea.result a1)), .str (Val.text (Rea.result a1)), .sl .ro .val (Val.list (Rea.result a1)), .sl .ro .str (Val.columns (Rea.result a1)), .sl .ro .row (Val.rows (Rea.result a1))])]
def xAe (r : Val × Bool) : CallO := ⟨.tup [(true, [.int .i64 (Val.kind r.1), .int .i64 (Val.n r.1), .int .i64 (Val.step r.1), .str (Val.text r.1), .sl .own .val (Val.list r.1), .sl .own .str (Val.columns r.1), .sl .own .row (Val.rows r.1)]), (false, [.bool r.2])], [], []⟩
def xBN (N : Nat) : Nat → (List Rea) → Int → Int → Rea → Val → Option (Val × Bool)
  | 0, _, _, _, _, _ => none
  | n + 1, x8, x9, x10, b3, b4 =>
    bif (decide ((x10 : Int) < x9)) then (
      if (0 : Int) ≤ x10 ∧ x10 < (List.length x8) then
      Option.bind (xDa N (List.getD x8 (Int.toNat x10) Ty.rea.dflt) b3) fun r1 =>
      bif r1 then (
        Option.bind (xDp N (Rea.result (List.getD x8 (Int.toNat x10) Ty.rea.dflt))) fun r2 =>
        some (r2, true)
      ) else (
        (xBN N n x8 x9 (IntKind.i64.wrap (x10 + 1)) b3 b4)
      )
      else none
    ) else (
      some ((Val.mk 0 0 0 [] [] [] []), false)
    )
def xC8 (N : Nat) (a0 : List Rea) (a1 : Rea) : Option (Val × Bool) :=
  (xBN N N a0 (List.length a0 : Int) 0 a1 (Val.mk 0 0 0 [] [] [] []))
def xBz (a0 : List Str) (a1 : List Str) : List Arg := [.val (.v false [.sl .ro .str a0]), .val (.v false [.sl .ro .str a1])]
def xAS (r : Bool) : CallO := ⟨.v false [.bool r], [], []⟩
def xBX (N : Nat) : Nat → (List Str) → (List Str) → Int → Option (Bool)
  | 0, _, _, _ => none
  | n + 1, x0, x1, x5 =>
    bif (decide ((x5 : Int) < (List.length x0 : Int))) then (
      if (0 : Int) ≤ x5 ∧ x5 < (List.length x0) then
      if (0 : Int) ≤ x5 ∧ x5 < (List.length x1) then
      bif (!(((List.getD x0 (Int.toNat x5) Ty.str.dflt) : Str) == (List.getD x1 (Int.toNat x5) Ty.str.dflt))) then (
        some false
      ) else (
        (xBX N n x0 x1 (IntKind.i64.wrap (x5 + 1)))
      )
      else none
      else none
    ) else (
      some true
    )
def xCW (N : Nat) (a0 : List Str) (a1 : List Str) : Option (Bool) :=
  bif (((List.length a0 : Int) : Int) != (List.length a1 : Int)) then (
    some false
  ) else (
    (xBX N N a0 a1 0)
  )
def xCl (a0 : List Int) (a1 : List Int) : List Arg := [.val (.v false [.sl .ro .int a0]), .val (.v false [.sl .ro .int a1])]
def xBb (r : Bool) : CallO := ⟨.v false [.bool r], [], []⟩
def xCE (N : Nat) : Nat → (List Int) → (List Int) → Int → Option (Bool)
  | 0, _, _, _ => none
  | n + 1, x0, x1, x5 =>
    bif (decide ((x5 : Int) < (List.length x0 : Int))) then (
      if (0 : Int) ≤ x5 ∧ x5 < (List.length x0) then
      if (0 : Int) ≤ x5 ∧ x5 < (List.length x1) then
      bif (((List.getD x0 (Int.toNat x5) Ty.int.dflt) : Int) != (List.getD x1 (Int.toNat x5) Ty.int.dflt)) then (
        some false
      ) else (
        (xCE N n x0 x1 (IntKind.i64.wrap (x5 + 1)))
      )
      else none
      else none
    ) else (
      some true
    )
def xDP (N : Nat) (a0 : List Int) (a1 : List Int) : Option (Bool) :=
  bif (((List.length a0 : Int) : Int) != (List.length a1 : Int)) then (
    some false
  ) else (
    (xCE N N a0 a1 0)
  )
def xBO (a0 : Org) (a1 : Org) : List Arg := [.val (.v true [.int .i64 (Org.cell a0), .int .i64 (Org.row a0)]), .val (.v true [.int .i64 (Org.cell a1), .int .i64 (Org.row a1)])]
def xBj (r : Bool) : CallO := ⟨.v false [.bool r], [], []⟩
def xDb (N : Nat) (a0 : Org) (a1 : Org) : Option (Bool) :=
  bif (((Org.cell a0) : Int) != (Org.cell a1)) then (
    some false
  ) else (
    bif (((Org.row a0) : Int) != (Org.row a1)) then (
      some false
    ) else (
      some true
    )
  )
def xBV (a0 : List Org) (a1 : List Org) : List Arg := [.val (.v false [.sl .ro .org a0]), .val (.v false [.sl .ro .org a1])]
def xA7 (r : Bool) : CallO := ⟨.v false [.bool r], [], []⟩
def xBW (N : Nat) : Nat → (List Org) → (List Org) → Int → Option (Bool)
  | 0, _, _, _ => none
  | n + 1, x0, x1, x5 =>
    bif (decide ((x5 : Int) < (List.length x0 : Int))) then (
      if (0 : Int) ≤ x5 ∧ x5 < (List.length x0) then
      if (0 : Int) ≤ x5 ∧ x5 < (List.length x1) then
      Option.bind (xDb N (List.getD x0 (Int.toNat x5) Ty.org.dflt) (List.getD x1 (Int.toNat x5) Ty.org.dflt)) fun r1 =>
      bif (!r1) then (
        some false
      ) else (
        (xBW N n x0 x1 (IntKind.i64.wrap (x5 + 1)))
      )
      else none
      else none
    ) else (
      some true
    )
def xCV (N : Nat) (a0 : List Org) (a1 : List Org) : Option (Bool) :=
  bif (((List.length a0 : Int) : Int) != (List.length a1 : Int)) then (
    some false
  ) else (
    (xBW N N a0 a1 0)
  )
def xCx (a0 : Rowd) (a1 : Rowd) : List Arg := [.val (.v true [.sl .ro .int (Rowd.cells a0), .sl .ro .org (Rowd.frm a0)]), .val (.v true [.sl .ro .int (Rowd.cells a1), .sl .ro .org (Rowd.frm a1)])]
def xBT (r : Bool) : CallO := ⟨.v false [.bool r], [], []⟩
def xD4 (N : Nat) (a0 : Rowd) (a1 : Rowd) : Option (Bool) :=
  Option.bind (xDP N (Rowd.cells a0) (Rowd.cells a1)) fun r1 =>
  bif (!r1) then (
    some false
  ) else (
    Option.bind (xCV N (Rowd.frm a0) (Rowd.frm a1)) fun r2 =>
    bif (!r2) then (
      some false
    ) else (
      some true
    )
  )
def xCF (a0 : List Rowd) (a1 : List Rowd) : List Arg := [.val (.v false [.sl .ro .row a0]), .val (.v false [.sl .ro .row a1])]
def xBp (r : Bool) : CallO := ⟨.v false [.bool r], [], []⟩
def xCG (N : Nat) : Nat → (List Rowd) → (List Rowd) → Int → Option (Bool)
  | 0, _, _, _ => none
  | n + 1, x0, x1, x5 =>
    bif (decide ((x5 : Int) < (List.length x0 : Int))) then (
      if (0 : Int) ≤ x5 ∧ x5 < (List.length x0) then
      if (0 : Int) ≤ x5 ∧ x5 < (List.length x1) then
      Option.bind (xD4 N (List.getD x0 (Int.toNat x5) Ty.row.dflt) (List.getD x1 (Int.toNat x5) Ty.row.dflt)) fun r1 =>
      bif (!r1) then (
        some false
      ) else (
        (xCG N n x0 x1 (IntKind.i64.wrap (x5 + 1)))
      )
      else none
      else none
    ) else (
      some true
    )
def xDQ (N : Nat) (a0 : List Rowd) (a1 : List Rowd) : Option (Bool) :=
  bif (((List.length a0 : Int) : Int) != (List.length a1 : Int)) then (
    some false
  ) else (
    (xCG N N a0 a1 0)
  )
def xAf (a0 : Val) (a1 : Val) : List Arg := [.val (.v true [.int .i64 (Val.kind a0), .int .i64 (Val.n a0), .int .i64 (Val.step a0), .str (Val.text a0), .sl .ro .val (Val.list a0), .sl .ro .str (Val.columns a0), .sl .ro .row (Val.rows a0)]), .val (.v true [.int .i64 (Val.kind a1), .int .i64 (Val.n a1), .int .i64 (Val.step a1), .str (Val.text a1), .sl .ro .val (Val.list a1), .sl .ro .str (Val.columns a1), .sl .ro .row (Val.rows a1)])]
def xAc (r : Bool) : CallO := ⟨.v false [.bool r], [], []⟩
def xCt (N : Nat) (q0 : Val → Val → Option (Bool)) (q1 : (List Val) → (List Val) → Option (Bool)) (a0 : Val) (a1 : Val) : Option (Bool) :=
  bif (((Val.kind a0) : Int) != (Val.kind a1)) then (
    some false
  ) else (
    bif (((Val.n a0) : Int) != (Val.n a1)) then (
      some false
    ) else (
      bif (((Val.step a0) : Int) != (Val.step a1)) then (
        some false
      ) else (
        bif (!(((Val.text a0) : Str) == (Val.text a1))) then (
          some false
        ) else (
          Option.bind (q1 (Val.list a0) (Val.list a1)) fun r1 =>
          bif (!r1) then (
            some false
          ) else (
            Option.bind (xCW N (Val.columns a0) (Val.columns a1)) fun r2 =>
            bif (!r2) then (
              some false
            ) else (
              Option.bind (xDQ N (Val.rows a0) (Val.rows a1)) fun r3 =>
              bif (!r3) then (
                some false
              ) else (
                some true
              )
            )
          )
        )
      )
    )
  )
def xBk (a0 : List Val) (a1 : List Val) : List Arg := [.val (.v false [.sl .ro .val a0]), .val (.v false [.sl .ro .val a1])]
def xAK (r : Bool) : CallO := ⟨.v false [.bool r], [], []⟩
def xB8 (N : Nat) (q0 : Val → Val → Option (Bool)) (q1 : (List Val) → (List Val) → Option (Bool)) : Nat → (List Val) → (List Val) → Int → Option (Bool)
  | 0, _, _, _ => none
  | n + 1, x0, x1, x5 =>
    bif (decide ((x5 : Int) < (List.length x0 : Int))) then (
      if (0 : Int) ≤ x5 ∧ x5 < (List.length x0) then
      if (0 : Int) ≤ x5 ∧ x5 < (List.length x1) then
      Option.bind (q0 (List.getD x0 (Int.toNat x5) Ty.val.dflt) (List.getD x1 (Int.toNat x5) Ty.val.dflt)) fun r1 =>
      bif (!r1) then (
        some false
      ) else (
        (xB8 N q0 q1 n x0 x1 (IntKind.i64.wrap (x5 + 1)))
      )
      else none
      else none
    ) else (
      some true
    )
def xCj (N : Nat) (q0 : Val → Val → Option (Bool)) (q1 : (List Val) → (List Val) → Option (Bool)) (a0 : List Val) (a1 : List Val) : Option (Bool) :=
  bif (((List.length a0 : Int) : Int) != (List.length a1 : Int)) then (
    some false
  ) else (
    (xB8 N q0 q1 N a0 a1 0)
  )
structure laws_eqValue_rec where
  c_laws_eqValue : Val → Val → Option (Bool)
  c_laws_eqValueS : (List Val) → (List Val) → Option (Bool)
def xAG (N : Nat) : Nat → laws_eqValue_rec
  | 0 => ⟨fun _ _ => none, fun _ _ => none⟩
  | d + 1 => ⟨xCt N (xAG N d).c_laws_eqValue (xAG N d).c_laws_eqValueS, xCj N (xAG N d).c_laws_eqValue (xAG N d).c_laws_eqValueS⟩
def xC7 (N : Nat) (a0 : Val) (a1 : Val) : Option (Bool) := (xAG N N).c_laws_eqValue a0 a1
def xAF (a0 : Rea) (a1 : Rea) : List Arg := [.val (.v true [.int .i64 (Rea.kind a0), .int .i64 (Rea.n a0), .int .i64 (Rea.time a0), .str (Rea.text a0), .int .i64 (Val.kind (Rea.result a0)), .int .i64 (Val.n (Rea.result a0)), .int .i64 (Val.step (Rea.result a0)), .str (Val.text (Rea.result a0)), .sl .ro .val (Val.list (Rea.result a0)), .sl .ro .str (Val.columns (Rea.result a0)), .sl .ro .row (Val.rows (Rea.result a0))]), .val (.v true [.int .i64 (Rea.kind a1), .int .i64 (Rea.n a1), .int .i64 (Rea.time a1), .str (Rea.text a1), .int .i64 (Val.kind (Rea.result a1)), .int .i64 (Val.n (Rea.result a1)), .int .i64 (Val.step (Rea.result a1)), .str (Val.text (Rea.result a1)), .sl .ro .val (Val.list (Rea.result a1)), .sl .ro .str (Val.columns (Rea.result a1)), .sl .ro .row (Val.rows (Rea.result a1))])]
def xAp (r : Bool) : CallO := ⟨.v false [.bool r], [], []⟩
def xDk (N : Nat) (a0 : Rea) (a1 : Rea) : Option (Bool) :=
  bif (((Rea.kind a0) : Int) != (Rea.kind a1)) then (
    some false
  ) else (
    bif (((Rea.n a0) : Int) != (Rea.n a1)) then (
      some false
    ) else (
      bif (((Rea.time a0) : Int) != (Rea.time a1)) then (
        some false
      ) else (
        bif (!(((Rea.text a0) : Str) == (Rea.text a1))) then (
          some false
        ) else (
          Option.bind (xC7 N (Rea.result a0) (Rea.result a1)) fun r1 =>
          bif (!r1) then (
            some false
          ) else (
            some true
          )
        )
      )
    )
  )
def xAP (a0 : List Rea) (a1 : List Rea) : List Arg := [.val (.v false [.sl .ro .rea a0]), .val (.v false [.sl .ro .rea a1])]
def xAs (r : Bool) : CallO := ⟨.v false [.bool r], [], []⟩
def xCs (N : Nat) : Nat → (List Rea) → (List Rea) → Int → Option (Bool)
  | 0, _, _, _ => none
  | n + 1, x0, x1, x5 =>
    bif (decide ((x5 : Int) < (List.length x0 : Int))) then (
      if (0 : Int) ≤ x5 ∧ x5 < (List.length x0) then
      if (0 : Int) ≤ x5 ∧ x5 < (List.length x1) then
      Option.bind (xDk N (List.getD x0 (Int.toNat x5) Ty.rea.dflt) (List.getD x1 (Int.toNat x5) Ty.rea.dflt)) fun r1 =>
      bif (!r1) then (
        some false
      ) else (
        (xCs N n x0 x1 (IntKind.i64.wrap (x5 + 1)))
      )
      else none
      else none
    ) else (
      some true
    )
def xDy (N : Nat) (a0 : List Rea) (a1 : List Rea) : Option (Bool) :=
  bif (((List.length a0 : Int) : Int) != (List.length a1 : Int)) then (
    some false
  ) else (
    (xCs N N a0 a1 0)
  )
def xAL (a0 : Int) : List Arg := [.val (.v false [.int .i64 a0])]
def xAo (r : Str) : CallO := ⟨.v false [.str r], [], []⟩
def xCh (N : Nat) : Nat → Int → Str → Option (Str)
  | 0, _, _ => none
  | n + 1, x0, x3 =>
    bif (decide ((x0 : Int) > 0)) then (
      if List.length (List.map (fun n => UInt8.ofNat (Int.toNat n)) [(IntKind.u8.wrap ((IntKind.i64.wrap (48 + (Int.tmod x0 10)))))]) + List.length x3 ≤ Lim then
      (xCh N n (IntKind.i64.wrap (Int.tdiv x0 10)) ((List.map (fun n => UInt8.ofNat (Int.toNat n)) [(IntKind.u8.wrap ((IntKind.i64.wrap (48 + (Int.tmod x0 10)))))]) ++ x3))
      else none
    ) else (
      if List.length [109] + List.length x3 ≤ Lim then
      some ([109] ++ x3)
      else none
    )
def xBI (N : Nat) (a0 : Int) : Option (Str) :=
  bif (decide ((a0 : Int) ≤ 0)) then (
    some [109, 48]
  ) else (
    (xCh N N a0 [])
  )
def xBF (a0 : List Str) (a1 : Int) : List Arg := [.val (.v false [.sl (.lnt 0) .str a0]), .val (.v false [.int .i64 a1])]
def xAX (r : Int × (List Str)) : CallO := ⟨.v false [.int .i64 r.1], [], [.sl (.lnt 0) .str r.2]⟩
def xBG (N : Nat) : Nat → (List Str) → Int → Int → Option (Int × (List Str))
  | 0, _, _, _ => none
  | n + 1, x0, x1, x5 =>
    bif (decide ((x5 : Int) < (List.length x0 : Int))) then (
      Option.bind (xBI N x1) fun r1 =>
      if (0 : Int) ≤ x5 ∧ x5 < (List.length x0) then
      (xBG N n (List.set x0 (Int.toNat x5) r1) (IntKind.i64.wrap (x1 + 1)) (IntKind.i64.wrap (x5 + 1)))
      else none
    ) else (
      some (x1, x0)
    )
def xCg (N : Nat) (a0 : List Str) (a1 : Int) : Option (Int × (List Str)) :=
  (xBG N N a0 a1 0)
def xC1 (a0 : List Int) (a1 : Int) : List Arg := [.val (.v false [.sl (.lnt 0) .int a0]), .val (.v false [.int .i64 a1])]
def xCd (r : Int × (List Int)) : CallO := ⟨.v false [.int .i64 r.1], [], [.sl (.lnt 0) .int r.2]⟩
def xCc (N : Nat) : Nat → (List Int) → Int → Int → Option (Int × (List Int))
  | 0, _, _, _ => none
  | n + 1, x0, x1, x5 =>
    bif (decide ((x5 : Int) < (List.length x0 : Int))) then (
      if (0 : Int) ≤ x5 ∧ x5 < (List.length x0) then
      (xCc N n (List.set x0 (Int.toNat x5) x1) (IntKind.i64.wrap (x1 + 1)) (IntKind.i64.wrap (x5 + 1)))
      else none
    ) else (
      some (x1, x0)
    )
def xDH (N : Nat) (a0 : List Int) (a1 : Int) : Option (Int × (List Int)) :=
  (xCc N N a0 a1 0)
def xCy (a0 : List Org) (a1 : Int) : List Arg := [.val (.v false [.sl (.lnt 0) .org a0]), .val (.v false [.int .i64 a1])]
def xBE (r : Int × (List Org)) : CallO := ⟨.v false [.int .i64 r.1], [], [.sl (.lnt 0) .org r.2]⟩
def xBD (N : Nat) : Nat → (List Org) → Int → Int → Option (Int × (List Org))
  | 0, _, _, _ => none
  | n + 1, x0, x1, x5 =>
    bif (decide ((x5 : Int) < (List.length x0 : Int))) then (
      if (0 : Int) ≤ x5 ∧ x5 < (List.length x0) then
      if (0 : Int) ≤ x5 ∧ x5 < (List.length (List.set x0 (Int.toNat x5) (Org.mk x1 (Org.row (List.getD x0 (Int.toNat x5) Ty.org.dflt))))) then
      (xBD N n ((fun (z1 : List Org) => List.set z1 (Int.toNat x5) (Org.mk (Org.cell (List.getD z1 (Int.toNat x5) Ty.org.dflt)) (IntKind.i64.wrap (x1 + 1)))) (List.set x0 (Int.toNat x5) (Org.mk x1 (Org.row (List.getD x0 (Int.toNat x5) Ty.org.dflt))))) (IntKind.i64.wrap ((IntKind.i64.wrap (x1 + 1)) + 1)) (IntKind.i64.wrap (x5 + 1)))
      else none
      else none
    ) else (
      some (x1, x0)
    )
def xC2 (N : Nat) (a0 : List Org) (a1 : Int) : Option (Int × (List Org)) :=
  (xBD N N a0 a1 0)
def xCe (a0 : List Rowd) (a1 : Int) : List Arg := [.val (.v false [.sl (.lnt 0) .row a0]), .val (.v false [.int .i64 a1])]
def xBd (r : Int × (List Rowd)) : CallO := ⟨.v false [.int .i64 r.1], [], [.sl (.lnt 0) .row r.2]⟩
def xCf (N : Nat) : Nat → (List Rowd) → Int → Int → Option (Int × (List Rowd))
  | 0, _, _, _ => none
  | n + 1, x0, x1, x5 =>
    bif (decide ((x5 : Int) < (List.length x0 : Int))) then (
      if (0 : Int) ≤ x5 ∧ x5 < (List.length x0) then
      Option.bind (xDH N (Rowd.cells (List.getD x0 (Int.toNat x5) Ty.row.dflt)) x1) fun r1 =>
      if List.length r1.2 = List.length (Rowd.cells (List.getD x0 (Int.toNat x5) Ty.row.dflt)) then
      if (0 : Int) ≤ x5 ∧ x5 < (List.length (List.set x0 (Int.toNat x5) (Rowd.mk r1.2 (Rowd.frm (List.getD x0 (Int.toNat x5) Ty.row.dflt))))) then
      Option.bind (xC2 N (Rowd.frm (List.getD (List.set x0 (Int.toNat x5) (Rowd.mk r1.2 (Rowd.frm (List.getD x0 (Int.toNat x5) Ty.row.dflt)))) (Int.toNat x5) Ty.row.dflt)) r1.1) fun r2 =>
      if List.length r2.2 = List.length (Rowd.frm (List.getD (List.set x0 (Int.toNat x5) (Rowd.mk r1.2 (Rowd.frm (List.getD x0 (Int.toNat x5) Ty.row.dflt)))) (Int.toNat x5) Ty.row.dflt)) then
      (xCf N n ((fun (z1 : List Rowd) => List.set z1 (Int.toNat x5) (Rowd.mk (Rowd.cells (List.getD z1 (Int.toNat x5) Ty.row.dflt)) r2.2)) (List.set x0 (Int.toNat x5) (Rowd.mk r1.2 (Rowd.frm (List.getD x0 (Int.toNat x5) Ty.row.dflt))))) r2.1 (IntKind.i64.wrap (x5 + 1)))
      else none
      else none
      else none
      else none
    ) else (
      some (x1, x0)
    )
def xCN (N : Nat) (a0 : List Rowd) (a1 : Int) : Option (Int × (List Rowd)) :=
  (xCf N N a0 a1 0)
def xBg (a0 : List Val) (a1 : Int) : List Arg := [.val (.v false [.sl (.lnt 0) .val a0]), .val (.v false [.int .i64 a1])]
def xAO (r : Int × (List Val)) : CallO := ⟨.v false [.int .i64 r.1], [], [.sl (.lnt 0) .val r.2]⟩
def xBM (N : Nat) (q0 : (List Val) → Int → Option (Int × (List Val))) : Nat → (List Val) → Int → Int → Option (Int × (List Val))
  | 0, _, _, _ => none
  | n + 1, x0, x1, x5 =>
    bif (decide ((x5 : Int) < (List.length x0 : Int))) then (
      if (0 : Int) ≤ x5 ∧ x5 < (List.length x0) then
      if (0 : Int) ≤ x5 ∧ x5 < (List.length (List.set x0 (Int.toNat x5) (Val.mk x1 (Val.n (List.getD x0 (Int.toNat x5) Ty.val.dflt)) (Val.step (List.getD x0 (Int.toNat x5) Ty.val.dflt)) (Val.text (List.getD x0 (Int.toNat x5) Ty.val.dflt)) (Val.list (List.getD x0 (Int.toNat x5) Ty.val.dflt)) (Val.columns (List.getD x0 (Int.toNat x5) Ty.val.dflt)) (Val.rows (List.getD x0 (Int.toNat x5) Ty.val.dflt))))) then
      if (0 : Int) ≤ x5 ∧ x5 < (List.length ((fun (z40 : List Val) => List.set z40 (Int.toNat x5) (Val.mk (Val.kind (List.getD z40 (Int.toNat x5) Ty.val.dflt)) (IntKind.i64.wrap (x1 + 1)) (Val.step (List.getD z40 (Int.toNat x5) Ty.val.dflt)) (Val.text (List.getD z40 (Int.toNat x5) Ty.val.dflt)) (Val.list (List.getD z40 (Int.toNat x5) Ty.val.dflt)) (Val.columns (List.getD z40 (Int.toNat x5) Ty.val.dflt)) (Val.rows (List.getD z40 (Int.toNat x5) Ty.val.dflt)))) (List.set x0 (Int.toNat x5) (Val.mk x1 (Val.n (List.getD x0 (Int.toNat x5) Ty.val.dflt)) (Val.step (List.getD x0 (Int.toNat x5) Ty.val.dflt)) (Val.text (List.getD x0 (Int.toNat x5) Ty.val.dflt)) (Val.list (List.getD x0 (Int.toNat x5) Ty.val.dflt)) (Val.columns (List.getD x0 (Int.toNat x5) Ty.val.dflt)) (Val.rows (List.getD x0 (Int.toNat x5) Ty.val.dflt)))))) then
      Option.bind (xBI N (IntKind.i64.wrap ((IntKind.i64.wrap ((IntKind.i64.wrap (x1 + 1)) + 1)) + 1))) fun r1 =>
      if (0 : Int) ≤ x5 ∧ x5 < (List.length ((fun (z41 : List Val) => List.set z41 (Int.toNat x5) (Val.mk (Val.kind (List.getD z41 (Int.toNat x5) Ty.val.dflt)) (Val.n (List.getD z41 (Int.toNat x5) Ty.val.dflt)) (IntKind.i64.wrap ((IntKind.i64.wrap (x1 + 1)) + 1)) (Val.text (List.getD z41 (Int.toNat x5) Ty.val.dflt)) (Val.list (List.getD z41 (Int.toNat x5) Ty.val.dflt)) (Val.columns (List.getD z41 (Int.toNat x5) Ty.val.dflt)) (Val.rows (List.getD z41 (Int.toNat x5) Ty.val.dflt)))) ((fun (z40 : List Val) => List.set z40 (Int.toNat x5) (Val.mk (Val.kind (List.getD z40 (Int.toNat x5) Ty.val.dflt)) (IntKind.i64.wrap (x1 + 1)) (Val.step (List.getD z40 (Int.toNat x5) Ty.val.dflt)) (Val.text (List.getD z40 (Int.toNat x5) Ty.val.dflt)) (Val.list (List.getD z40 (Int.toNat x5) Ty.val.dflt)) (Val.columns (List.getD z40 (Int.toNat x5) Ty.val.dflt)) (Val.rows (List.getD z40 (Int.toNat x5) Ty.val.dflt)))) (List.set x0 (Int.toNat x5) (Val.mk x1 (Val.n (List.getD x0 (Int.toNat x5) Ty.val.dflt)) (Val.step (List.getD x0 (Int.toNat x5) Ty.val.dflt)) (Val.text (List.getD x0 (Int.toNat x5) Ty.val.dflt)) (Val.list (List.getD x0 (Int.toNat x5) Ty.val.dflt)) (Val.columns (List.getD x0 (Int.toNat x5) Ty.val.dflt)) (Val.rows (List.getD x0 (Int.toNat x5) Ty.val.dflt))))))) then
      if (0 : Int) ≤ x5 ∧ x5 < (List.length ((fun (z42 : List Val) => List.set z42 (Int.toNat x5) (Val.mk (Val.kind (List.getD z42 (Int.toNat x5) Ty.val.dflt)) (Val.n (List.getD z42 (Int.toNat x5) Ty.val.dflt)) (Val.step (List.getD z42 (Int.toNat x5) Ty.val.dflt)) r1 (Val.list (List.getD z42 (Int.toNat x5) Ty.val.dflt)) (Val.columns (List.getD z42 (Int.toNat x5) Ty.val.dflt)) (Val.rows (List.getD z42 (Int.toNat x5) Ty.val.dflt)))) ((fun (z41 : List Val) => List.set z41 (Int.toNat x5) (Val.mk (Val.kind (List.getD z41 (Int.toNat x5) Ty.val.dflt)) (Val.n (List.getD z41 (Int.toNat x5) Ty.val.dflt)) (IntKind.i64.wrap ((IntKind.i64.wrap (x1 + 1)) + 1)) (Val.text (List.getD z41 (Int.toNat x5) Ty.val.dflt)) (Val.list (List.getD z41 (Int.toNat x5) Ty.val.dflt)) (Val.columns (List.getD z41 (Int.toNat x5) Ty.val.dflt)) (Val.rows (List.getD z41 (Int.toNat x5) Ty.val.dflt)))) ((fun (z40 : List Val) => List.set z40 (Int.toNat x5) (Val.mk (Val.kind (List.getD z40 (Int.toNat x5) Ty.val.dflt)) (IntKind.i64.wrap (x1 + 1)) (Val.step (List.getD z40 (Int.toNat x5) Ty.val.dflt)) (Val.text (List.getD z40 (Int.toNat x5) Ty.val.dflt)) (Val.list (List.getD z40 (Int.toNat x5) Ty.val.dflt)) (Val.columns (List.getD z40 (Int.toNat x5) Ty.val.dflt)) (Val.rows (List.getD z40 (Int.toNat x5) Ty.val.dflt)))) (List.set x0 (Int.toNat x5) (Val.mk x1 (Val.n (List.getD x0 (Int.toNat x5) Ty.val.dflt)) (Val.step (List.getD x0 (Int.toNat x5) Ty.val.dflt)) (Val.text (List.getD x0 (Int.toNat x5) Ty.val.dflt)) (Val.list (List.getD x0 (Int.toNat x5) Ty.val.dflt)) (Val.columns (List.getD x0 (Int.toNat x5) Ty.val.dflt)) (Val.rows (List.getD x0 (Int.toNat x5) Ty.val.dflt)))))))) then
      Option.bind (q0 (Val.list (List.getD ((fun (z42 : List Val) => List.set z42 (Int.toNat x5) (Val.mk (Val.kind (List.getD z42 (Int.toNat x5) Ty.val.dflt)) (Val.n (List.getD z42 (Int.toNat x5) Ty.val.dflt)) (Val.step (List.getD z42 (Int.toNat x5) Ty.val.dflt)) r1 (Val.list (List.getD z42 (Int.toNat x5) Ty.val.dflt)) (Val.columns (List.getD z42 (Int.toNat x5) Ty.val.dflt)) (Val.rows (List.getD z42 (Int.toNat x5) Ty.val.dflt)))) ((fun (z41 : List Val) => List.set z41 (Int.toNat x5) (Val.mk (Val.kind (List.getD z41 (Int.toNat x5) Ty.val.dflt)) (Val.n (List.getD z41 (Int.toNat x5) Ty.val.dflt)) (IntKind.i64.wrap ((IntKind.i64.wrap (x1 + 1)) + 1)) (Val.text (List.getD z41 (Int.toNat x5) Ty.val.dflt)) (Val.list (List.getD z41 (Int.toNat x5) Ty.val.dflt)) (Val.columns (List.getD z41 (Int.toNat x5) Ty.val.dflt)) (Val.rows (List.getD z41 (Int.toNat x5) Ty.val.dflt)))) ((fun (z40 : List Val) => List.set z40 (Int.toNat x5) (Val.mk (Val.kind (List.getD z40 (Int.toNat x5) Ty.val.dflt)) (IntKind.i64.wrap (x1 + 1)) (Val.step (List.getD z40 (Int.toNat x5) Ty.val.dflt)) (Val.text (List.getD z40 (Int.toNat x5) Ty.val.dflt)) (Val.list (List.getD z40 (Int.toNat x5) Ty.val.dflt)) (Val.columns (List.getD z40 (Int.toNat x5) Ty.val.dflt)) (Val.rows (List.getD z40 (Int.toNat x5) Ty.val.dflt)))) (List.set x0 (Int.toNat x5) (Val.mk x1 (Val.n (List.getD x0 (Int.toNat x5) Ty.val.dflt)) (Val.step (List.getD x0 (Int.toNat x5) Ty.val.dflt)) (Val.text (List.getD x0 (Int.toNat x5) Ty.val.dflt)) (Val.list (List.getD x0 (Int.toNat x5) Ty.val.dflt)) (Val.columns (List.getD x0 (Int.toNat x5) Ty.val.dflt)) (Val.rows (List.getD x0 (Int.toNat x5) Ty.val.dflt))))))) (Int.toNat x5) Ty.val.dflt)) (IntKind.i64.wrap ((IntKind.i64.wrap ((IntKind.i64.wrap ((IntKind.i64.wrap (x1 + 1)) + 1)) + 1)) + 1))) fun r2 =>
      if List.length r2.2 = List.length (Val.list (List.getD ((fun (z42 : List Val) => List.set z42 (Int.toNat x5) (Val.mk (Val.kind (List.getD z42 (Int.toNat x5) Ty.val.dflt)) (Val.n (List.getD z42 (Int.toNat x5) Ty.val.dflt)) (Val.step (List.getD z42 (Int.toNat x5) Ty.val.dflt)) r1 (Val.list (List.getD z42 (Int.toNat x5) Ty.val.dflt)) (Val.columns (List.getD z42 (Int.toNat x5) Ty.val.dflt)) (Val.rows (List.getD z42 (Int.toNat x5) Ty.val.dflt)))) ((fun (z41 : List Val) => List.set z41 (Int.toNat x5) (Val.mk (Val.kind (List.getD z41 (Int.toNat x5) Ty.val.dflt)) (Val.n (List.getD z41 (Int.toNat x5) Ty.val.dflt)) (IntKind.i64.wrap ((IntKind.i64.wrap (x1 + 1)) + 1)) (Val.text (List.getD z41 (Int.toNat x5) Ty.val.dflt)) (Val.list (List.getD z41 (Int.toNat x5) Ty.val.dflt)) (Val.columns (List.getD z41 (Int.toNat x5) Ty.val.dflt)) (Val.rows (List.getD z41 (Int.toNat x5) Ty.val.dflt)))) ((fun (z40 : List Val) => List.set z40 (Int.toNat x5) (Val.mk (Val.kind (List.getD z40 (Int.toNat x5) Ty.val.dflt)) (IntKind.i64.wrap (x1 + 1)) (Val.step (List.getD z40 (Int.toNat x5) Ty.val.dflt)) (Val.text (List.getD z40 (Int.toNat x5) Ty.val.dflt)) (Val.list (List.getD z40 (Int.toNat x5) Ty.val.dflt)) (Val.columns (List.getD z40 (Int.toNat x5) Ty.val.dflt)) (Val.rows (List.getD z40 (Int.toNat x5) Ty.val.dflt)))) (List.set x0 (Int.toNat x5) (Val.mk x1 (Val.n (List.getD x0 (Int.toNat x5) Ty.val.dflt)) (Val.step (List.getD x0 (Int.toNat x5) Ty.val.dflt)) (Val.text (List.getD x0 (Int.toNat x5) Ty.val.dflt)) (Val.list (List.getD x0 (Int.toNat x5) Ty.val.dflt)) (Val.columns (List.getD x0 (Int.toNat x5) Ty.val.dflt)) (Val.rows (List.getD x0 (Int.toNat x5) Ty.val.dflt))))))) (Int.toNat x5) Ty.val.dflt)) then
      if (0 : Int) ≤ x5 ∧ x5 < (List.length ((fun (z43 : List Val) => List.set z43 (Int.toNat x5) (Val.mk (Val.kind (List.getD z43 (Int.toNat x5) Ty.val.dflt)) (Val.n (List.getD z43 (Int.toNat x5) Ty.val.dflt)) (Val.step (List.getD z43 (Int.toNat x5) Ty.val.dflt)) (Val.text (List.getD z43 (Int.toNat x5) Ty.val.dflt)) r2.2 (Val.columns (List.getD z43 (Int.toNat x5) Ty.val.dflt)) (Val.rows (List.getD z43 (Int.toNat x5) Ty.val.dflt)))) ((fun (z42 : List Val) => List.set z42 (Int.toNat x5) (Val.mk (Val.kind (List.getD z42 (Int.toNat x5) Ty.val.dflt)) (Val.n (List.getD z42 (Int.toNat x5) Ty.val.dflt)) (Val.step (List.getD z42 (Int.toNat x5) Ty.val.dflt)) r1 (Val.list (List.getD z42 (Int.toNat x5) Ty.val.dflt)) (Val.columns (List.getD z42 (Int.toNat x5) Ty.val.dflt)) (Val.rows (List.getD z42 (Int.toNat x5) Ty.val.dflt)))) ((fun (z41 : List Val) => List.set z41 (Int.toNat x5) (Val.mk (Val.kind (List.getD z41 (Int.toNat x5) Ty.val.dflt)) (Val.n (List.getD z41 (Int.toNat x5) Ty.val.dflt)) (IntKind.i64.wrap ((IntKind.i64.wrap (x1 + 1)) + 1)) (Val.text (List.getD z41 (Int.toNat x5) Ty.val.dflt)) (Val.list (List.getD z41 (Int.toNat x5) Ty.val.dflt)) (Val.columns (List.getD z41 (Int.toNat x5) Ty.val.dflt)) (Val.rows (List.getD z41 (Int.toNat x5) Ty.val.dflt)))) ((fun (z40 : List Val) => List.set z40 (Int.toNat x5) (Val.mk (Val.kind (List.getD z40 (Int.toNat x5) Ty.val.dflt)) (IntKind.i64.wrap (x1 + 1)) (Val.step (List.getD z40 (Int.toNat x5) Ty.val.dflt)) (Val.text (List.getD z40 (Int.toNat x5) Ty.val.dflt)) (Val.list (List.getD z40 (Int.toNat x5) Ty.val.dflt)) (Val.columns (List.getD z40 (Int.toNat x5) Ty.val.dflt)) (Val.rows (List.getD z40 (Int.toNat x5) Ty.val.dflt)))) (List.set x0 (Int.toNat x5) (Val.mk x1 (Val.n (List.getD x0 (Int.toNat x5) Ty.val.dflt)) (Val.step (List.getD x0 (Int.toNat x5) Ty.val.dflt)) (Val.text (List.getD x0 (Int.toNat x5) Ty.val.dflt)) (Val.list (List.getD x0 (Int.toNat x5) Ty.val.dflt)) (Val.columns (List.getD x0 (Int.toNat x5) Ty.val.dflt)) (Val.rows (List.getD x0 (Int.toNat x5) Ty.val.dflt))))))))) then
      Option.bind (xCg N (Val.columns (List.getD ((fun (z43 : List Val) => List.set z43 (Int.toNat x5) (Val.mk (Val.kind (List.getD z43 (Int.toNat x5) Ty.val.dflt)) (Val.n (List.getD z43 (Int.toNat x5) Ty.val.dflt)) (Val.step (List.getD z43 (Int.toNat x5) Ty.val.dflt)) (Val.text (List.getD z43 (Int.toNat x5) Ty.val.dflt)) r2.2 (Val.columns (List.getD z43 (Int.toNat x5) Ty.val.dflt)) (Val.rows (List.getD z43 (Int.toNat x5) Ty.val.dflt)))) ((fun (z42 : List Val) => List.set z42 (Int.toNat x5) (Val.mk (Val.kind (List.getD z42 (Int.toNat x5) Ty.val.dflt)) (Val.n (List.getD z42 (Int.toNat x5) Ty.val.dflt)) (Val.step (List.getD z42 (Int.toNat x5) Ty.val.dflt)) r1 (Val.list (List.getD z42 (Int.toNat x5) Ty.val.dflt)) (Val.columns (List.getD z42 (Int.toNat x5) Ty.val.dflt)) (Val.rows (List.getD z42 (Int.toNat x5) Ty.val.dflt)))) ((fun (z41 : List Val) => List.set z41 (Int.toNat x5) (Val.mk (Val.kind (List.getD z41 (Int.toNat x5) Ty.val.dflt)) (Val.n (List.getD z41 (Int.toNat x5) Ty.val.dflt)) (IntKind.i64.wrap ((IntKind.i64.wrap (x1 + 1)) + 1)) (Val.text (List.getD z41 (Int.toNat x5) Ty.val.dflt)) (Val.list (List.getD z41 (Int.toNat x5) Ty.val.dflt)) (Val.columns (List.getD z41 (Int.toNat x5) Ty.val.dflt)) (Val.rows (List.getD z41 (Int.toNat x5) Ty.val.dflt)))) ((fun (z40 : List Val) => List.set z40 (Int.toNat x5) (Val.mk (Val.kind (List.getD z40 (Int.toNat x5) Ty.val.dflt)) (IntKind.i64.wrap (x1 + 1)) (Val.step (List.getD z40 (Int.toNat x5) Ty.val.dflt)) (Val.text (List.getD z40 (Int.toNat x5) Ty.val.dflt)) (Val.list (List.getD z40 (Int.toNat x5) Ty.val.dflt)) (Val.columns (List.getD z40 (Int.toNat x5) Ty.val.dflt)) (Val.rows (List.getD z40 (Int.toNat x5) Ty.val.dflt)))) (List.set x0 (Int.toNat x5) (Val.mk x1 (Val.n (List.getD x0 (Int.toNat x5) Ty.val.dflt)) (Val.step (List.getD x0 (Int.toNat x5) Ty.val.dflt)) (Val.text (List.getD x0 (Int.toNat x5) Ty.val.dflt)) (Val.list (List.getD x0 (Int.toNat x5) Ty.val.dflt)) (Val.columns (List.getD x0 (Int.toNat x5) Ty.val.dflt)) (Val.rows (List.getD x0 (Int.toNat x5) Ty.val.dflt)))))))) (Int.toNat x5) Ty.val.dflt)) r2.1) fun r3 =>
      if List.length r3.2 = List.length (Val.columns (List.getD ((fun (z43 : List Val) => List.set z43 (Int.toNat x5) (Val.mk (Val.kind (List.getD z43 (Int.toNat x5) Ty.val.dflt)) (Val.n (List.getD z43 (Int.toNat x5) Ty.val.dflt)) (Val.step (List.getD z43 (Int.toNat x5) Ty.val.dflt)) (Val.text (List.getD z43 (Int.toNat x5) Ty.val.dflt)) r2.2 (Val.columns (List.getD z43 (Int.toNat x5) Ty.val.dflt)) (Val.rows (List.getD z43 (Int.toNat x5) Ty.val.dflt)))) ((fun (z42 : List Val) => List.set z42 (Int.toNat x5) (Val.mk (Val.kind (List.getD z42 (Int.toNat x5) Ty.val.dflt)) (Val.n (List.getD z42 (Int.toNat x5) Ty.val.dflt)) (Val.step (List.getD z42 (Int.toNat x5) Ty.val.dflt)) r1 (Val.list (List.getD z42 (Int.toNat x5) Ty.val.dflt)) (Val.columns (List.getD z42 (Int.toNat x5) Ty.val.dflt)) (Val.rows (List.getD z42 (Int.toNat x5) Ty.val.dflt)))) ((fun (z41 : List Val) => List.set z41 (Int.toNat x5) (Val.mk (Val.kind (List.getD z41 (Int.toNat x5) Ty.val.dflt)) (Val.n (List.getD z41 (Int.toNat x5) Ty.val.dflt)) (IntKind.i64.wrap ((IntKind.i64.wrap (x1 + 1)) + 1)) (Val.text (List.getD z41 (Int.toNat x5) Ty.val.dflt)) (Val.list (List.getD z41 (Int.toNat x5) Ty.val.dflt)) (Val.columns (List.getD z41 (Int.toNat x5) Ty.val.dflt)) (Val.rows (List.getD z41 (Int.toNat x5) Ty.val.dflt)))) ((fun (z40 : List Val) => List.set z40 (Int.toNat x5) (Val.mk (Val.kind (List.getD z40 (Int.toNat x5) Ty.val.dflt)) (IntKind.i64.wrap (x1 + 1)) (Val.step (List.getD z40 (Int.toNat x5) Ty.val.dflt)) (Val.text (List.getD z40 (Int.toNat x5) Ty.val.dflt)) (Val.list (List.getD z40 (Int.toNat x5) Ty.val.dflt)) (Val.columns (List.getD z40 (Int.toNat x5) Ty.val.dflt)) (Val.rows (List.getD z40 (Int.toNat x5) Ty.val.dflt)))) (List.set x0 (Int.toNat x5) (Val.mk x1 (Val.n (List.getD x0 (Int.toNat x5) Ty.val.dflt)) (Val.step (List.getD x0 (Int.toNat x5) Ty.val.dflt)) (Val.text (List.getD x0 (Int.toNat x5) Ty.val.dflt)) (Val.list (List.getD x0 (Int.toNat x5) Ty.val.dflt)) (Val.columns (List.getD x0 (Int.toNat x5) Ty.val.dflt)) (Val.rows (List.getD x0 (Int.toNat x5) Ty.val.dflt)))))))) (Int.toNat x5) Ty.val.dflt)) then
      if (0 : Int) ≤ x5 ∧ x5 < (List.length ((fun (z44 : List Val) => List.set z44 (Int.toNat x5) (Val.mk (Val.kind (List.getD z44 (Int.toNat x5) Ty.val.dflt)) (Val.n (List.getD z44 (Int.toNat x5) Ty.val.dflt)) (Val.step (List.getD z44 (Int.toNat x5) Ty.val.dflt)) (Val.text (List.getD z44 (Int.toNat x5) Ty.val.dflt)) (Val.list (List.getD z44 (Int.toNat x5) Ty.val.dflt)) r3.2 (Val.rows (List.getD z44 (Int.toNat x5) Ty.val.dflt)))) ((fun (z43 : List Val) => List.set z43 (Int.toNat x5) (Val.mk (Val.kind (List.getD z43 (Int.toNat x5) Ty.val.dflt)) (Val.n (List.getD z43 (Int.toNat x5) Ty.val.dflt)) (Val.step (List.getD z43 (Int.toNat x5) Ty.val.dflt)) (Val.text (List.getD z43 (Int.toNat x5) Ty.val.dflt)) r2.2 (Val.columns (List.getD z43 (Int.toNat x5) Ty.val.dflt)) (Val.rows (List.getD z43 (Int.toNat x5) Ty.val.dflt)))) ((fun (z42 : List Val) => List.set z42 (Int.toNat x5) (Val.mk (Val.kind (List.getD z42 (Int.toNat x5) Ty.val.dflt)) (Val.n (List.getD z42 (Int.toNat x5) Ty.val.dflt)) (Val.step (List.getD z42 (Int.toNat x5) Ty.val.dflt)) r1 (Val.list (List.getD z42 (Int.toNat x5) Ty.val.dflt)) (Val.columns (List.getD z42 (Int.toNat x5) Ty.val.dflt)) (Val.rows (List.getD z42 (Int.toNat x5) Ty.val.dflt)))) ((fun (z41 : List Val) => List.set z41 (Int.toNat x5) (Val.mk (Val.kind (List.getD z41 (Int.toNat x5) Ty.val.dflt)) (Val.n (List.getD z41 (Int.toNat x5) Ty.val.dflt)) (IntKind.i64.wrap ((IntKind.i64.wrap (x1 + 1)) + 1)) (Val.text (List.getD z41 (Int.toNat x5) Ty.val.dflt)) (Val.list (List.getD z41 (Int.toNat x5) Ty.val.dflt)) (Val.columns (List.getD z41 (Int.toNat x5) Ty.val.dflt)) (Val.rows (List.getD z41 (Int.toNat x5) Ty.val.dflt)))) ((fun (z40 : List Val) => List.set z40 (Int.toNat x5) (Val.mk (Val.kind (List.getD z40 (Int.toNat x5) Ty.val.dflt)) (IntKind.i64.wrap (x1 + 1)) (Val.step (List.getD z40 (Int.toNat x5) Ty.val.dflt)) (Val.text (List.getD z40 (Int.toNat x5) Ty.val.dflt)) (Val.list (List.getD z40 (Int.toNat x5) Ty.val.dflt)) (Val.columns (List.getD z40 (Int.toNat x5) Ty.val.dflt)) (Val.rows (List.getD z40 (Int.toNat x5) Ty.val.dflt)))) (List.set x0 (Int.toNat x5) (Val.mk x1 (Val.n (List.getD x0 (Int.toNat x5) Ty.val.dflt)) (Val.step (List.getD x0 (Int.toNat x5) Ty.val.dflt)) (Val.text (List.getD x0 (Int.toNat x5) Ty.val.dflt)) (Val.list (List.getD x0 (Int.toNat x5) Ty.val.dflt)) (Val.columns (List.getD x0 (Int.toNat x5) Ty.val.dflt)) (Val.rows (List.getD x0 (Int.toNat x5) Ty.val.dflt)))))))))) then
      Option.bind (xCN N (Val.rows (List.getD ((fun (z44 : List Val) => List.set z44 (Int.toNat x5) (Val.mk (Val.kind (List.getD z44 (Int.toNat x5) Ty.val.dflt)) (Val.n (List.getD z44 (Int.toNat x5) Ty.val.dflt)) (Val.step (List.getD z44 (Int.toNat x5) Ty.val.dflt)) (Val.text (List.getD z44 (Int.toNat x5) Ty.val.dflt)) (Val.list (List.getD z44 (Int.toNat x5) Ty.val.dflt)) r3.2 (Val.rows (List.getD z44 (Int.toNat x5) Ty.val.dflt)))) ((fun (z43 : List Val) => List.set z43 (Int.toNat x5) (Val.mk (Val.kind (List.getD z43 (Int.toNat x5) Ty.val.dflt)) (Val.n (List.getD z43 (Int.toNat x5) Ty.val.dflt)) (Val.step (List.getD z43 (Int.toNat x5) Ty.val.dflt)) (Val.text (List.getD z43 (Int.toNat x5) Ty.val.dflt)) r2.2 (Val.columns (List.getD z43 (Int.toNat x5) Ty.val.dflt)) (Val.rows (List.getD z43 (Int.toNat x5) Ty.val.dflt)))) ((fun (z42 : List Val) => List.set z42 (Int.toNat x5) (Val.mk (Val.kind (List.getD z42 (Int.toNat x5) Ty.val.dflt)) (Val.n (List.getD z42 (Int.toNat x5) Ty.val.dflt)) (Val.step (List.getD z42 (Int.toNat x5) Ty.val.dflt)) r1 (Val.list (List.getD z42 (Int.toNat x5) Ty.val.dflt)) (Val.columns (List.getD z42 (Int.toNat x5) Ty.val.dflt)) (Val.rows (List.getD z42 (Int.toNat x5) Ty.val.dflt)))) ((fun (z41 : List Val) => List.set z41 (Int.toNat x5) (Val.mk (Val.kind (List.getD z41 (Int.toNat x5) Ty.val.dflt)) (Val.n (List.getD z41 (Int.toNat x5) Ty.val.dflt)) (IntKind.i64.wrap ((IntKind.i64.wrap (x1 + 1)) + 1)) (Val.text (List.getD z41 (Int.toNat x5) Ty.val.dflt)) (Val.list (List.getD z41 (Int.toNat x5) Ty.val.dflt)) (Val.columns (List.getD z41 (Int.toNat x5) Ty.val.dflt)) (Val.rows (List.getD z41 (Int.toNat x5) Ty.val.dflt)))) ((fun (z40 : List Val) => List.set z40 (Int.toNat x5) (Val.mk (Val.kind (List.getD z40 (Int.toNat x5) Ty.val.dflt)) (IntKind.i64.wrap (x1 + 1)) (Val.step (List.getD z40 (Int.toNat x5) Ty.val.dflt)) (Val.text (List.getD z40 (Int.toNat x5) Ty.val.dflt)) (Val.list (List.getD z40 (Int.toNat x5) Ty.val.dflt)) (Val.columns (List.getD z40 (Int.toNat x5) Ty.val.dflt)) (Val.rows (List.getD z40 (Int.toNat x5) Ty.val.dflt)))) (List.set x0 (Int.toNat x5) (Val.mk x1 (Val.n (List.getD x0 (Int.toNat x5) Ty.val.dflt)) (Val.step (List.getD x0 (Int.toNat x5) Ty.val.dflt)) (Val.text (List.getD x0 (Int.toNat x5) Ty.val.dflt)) (Val.list (List.getD x0 (Int.toNat x5) Ty.val.dflt)) (Val.columns (List.getD x0 (Int.toNat x5) Ty.val.dflt)) (Val.rows (List.getD x0 (Int.toNat x5) Ty.val.dflt))))))))) (Int.toNat x5) Ty.val.dflt)) r3.1) fun r4 =>
      if List.length r4.2 = List.length (Val.rows (List.getD ((fun (z44 : List Val) => List.set z44 (Int.toNat x5) (Val.mk (Val.kind (List.getD z44 (Int.toNat x5) Ty.val.dflt)) (Val.n (List.getD z44 (Int.toNat x5) Ty.val.dflt)) (Val.step (List.getD z44 (Int.toNat x5) Ty.val.dflt)) (Val.text (List.getD z44 (Int.toNat x5) Ty.val.dflt)) (Val.list (List.getD z44 (Int.toNat x5) Ty.val.dflt)) r3.2 (Val.rows (List.getD z44 (Int.toNat x5) Ty.val.dflt)))) ((fun (z43 : List Val) => List.set z43 (Int.toNat x5) (Val.mk (Val.kind (List.getD z43 (Int.toNat x5) Ty.val.dflt)) (Val.n (List.getD z43 (Int.toNat x5) Ty.val.dflt)) (Val.step (List.getD z43 (Int.toNat x5) Ty.val.dflt)) (Val.text (List.getD z43 (Int.toNat x5) Ty.val.dflt)) r2.2 (Val.columns (List.getD z43 (Int.toNat x5) Ty.val.dflt)) (Val.rows (List.getD z43 (Int.toNat x5) Ty.val.dflt)))) ((fun (z42 : List Val) => List.set z42 (Int.toNat x5) (Val.mk (Val.kind (List.getD z42 (Int.toNat x5) Ty.val.dflt)) (Val.n (List.getD z42 (Int.toNat x5) Ty.val.dflt)) (Val.step (List.getD z42 (Int.toNat x5) Ty.val.dflt)) r1 (Val.list (List.getD z42 (Int.toNat x5) Ty.val.dflt)) (Val.columns (List.getD z42 (Int.toNat x5) Ty.val.dflt)) (Val.rows (List.getD z42 (Int.toNat x5) Ty.val.dflt)))) ((fun (z41 : List Val) => List.set z41 (Int.toNat x5) (Val.mk (Val.kind (List.getD z41 (Int.toNat x5) Ty.val.dflt)) (Val.n (List.getD z41 (Int.toNat x5) Ty.val.dflt)) (IntKind.i64.wrap ((IntKind.i64.wrap (x1 + 1)) + 1)) (Val.text (List.getD z41 (Int.toNat x5) Ty.val.dflt)) (Val.list (List.getD z41 (Int.toNat x5) Ty.val.dflt)) (Val.columns (List.getD z41 (Int.toNat x5) Ty.val.dflt)) (Val.rows (List.getD z41 (Int.toNat x5) Ty.val.dflt)))) ((fun (z40 : List Val) => List.set z40 (Int.toNat x5) (Val.mk (Val.kind (List.getD z40 (Int.toNat x5) Ty.val.dflt)) (IntKind.i64.wrap (x1 + 1)) (Val.step (List.getD z40 (Int.toNat x5) Ty.val.dflt)) (Val.text (List.getD z40 (Int.toNat x5) Ty.val.dflt)) (Val.list (List.getD z40 (Int.toNat x5) Ty.val.dflt)) (Val.columns (List.getD z40 (Int.toNat x5) Ty.val.dflt)) (Val.rows (List.getD z40 (Int.toNat x5) Ty.val.dflt)))) (List.set x0 (Int.toNat x5) (Val.mk x1 (Val.n (List.getD x0 (Int.toNat x5) Ty.val.dflt)) (Val.step (List.getD x0 (Int.toNat x5) Ty.val.dflt)) (Val.text (List.getD x0 (Int.toNat x5) Ty.val.dflt)) (Val.list (List.getD x0 (Int.toNat x5) Ty.val.dflt)) (Val.columns (List.getD x0 (Int.toNat x5) Ty.val.dflt)) (Val.rows (List.getD x0 (Int.toNat x5) Ty.val.dflt))))))))) (Int.toNat x5) Ty.val.dflt)) then
      (xBM N q0 n ((fun (z45 : List Val) => List.set z45 (Int.toNat x5) (Val.mk (Val.kind (List.getD z45 (Int.toNat x5) Ty.val.dflt)) (Val.n (List.getD z45 (Int.toNat x5) Ty.val.dflt)) (Val.step (List.getD z45 (Int.toNat x5) Ty.val.dflt)) (Val.text (List.getD z45 (Int.toNat x5) Ty.val.dflt)) (Val.list (List.getD z45 (Int.toNat x5) Ty.val.dflt)) (Val.columns (List.getD z45 (Int.toNat x5) Ty.val.dflt)) r4.2)) ((fun (z44 : List Val) => List.set z44 (Int.toNat x5) (Val.mk (Val.kind (List.getD z44 (Int.toNat x5) Ty.val.dflt)) (Val.n (List.getD z44 (Int.toNat x5) Ty.val.dflt)) (Val.step (List.getD z44 (Int.toNat x5) Ty.val.dflt)) (Val.text (List.getD z44 (Int.toNat x5) Ty.val.dflt)) (Val.list (List.getD z44 (Int.toNat x5) Ty.val.dflt)) r3.2 (Val.rows (List.getD z44 (Int.toNat x5) Ty.val.dflt)))) ((fun (z43 : List Val) => List.set z43 (Int.toNat x5) (Val.mk (Val.kind (List.getD z43 (Int.toNat x5) Ty.val.dflt)) (Val.n (List.getD z43 (Int.toNat x5) Ty.val.dflt)) (Val.step (List.getD z43 (Int.toNat x5) Ty.val.dflt)) (Val.text (List.getD z43 (Int.toNat x5) Ty.val.dflt)) r2.2 (Val.columns (List.getD z43 (Int.toNat x5) Ty.val.dflt)) (Val.rows (List.getD z43 (Int.toNat x5) Ty.val.dflt)))) ((fun (z42 : List Val) => List.set z42 (Int.toNat x5) (Val.mk (Val.kind (List.getD z42 (Int.toNat x5) Ty.val.dflt)) (Val.n (List.getD z42 (Int.toNat x5) Ty.val.dflt)) (Val.step (List.getD z42 (Int.toNat x5) Ty.val.dflt)) r1 (Val.list (List.getD z42 (Int.toNat x5) Ty.val.dflt)) (Val.columns (List.getD z42 (Int.toNat x5) Ty.val.dflt)) (Val.rows (List.getD z42 (Int.toNat x5) Ty.val.dflt)))) ((fun (z41 : List Val) => List.set z41 (Int.toNat x5) (Val.mk (Val.kind (List.getD z41 (Int.toNat x5) Ty.val.dflt)) (Val.n (List.getD z41 (Int.toNat x5) Ty.val.dflt)) (IntKind.i64.wrap ((IntKind.i64.wrap (x1 + 1)) + 1)) (Val.text (List.getD z41 (Int.toNat x5) Ty.val.dflt)) (Val.list (List.getD z41 (Int.toNat x5) Ty.val.dflt)) (Val.columns (List.getD z41 (Int.toNat x5) Ty.val.dflt)) (Val.rows (List.getD z41 (Int.toNat x5) Ty.val.dflt)))) ((fun (z40 : List Val) => List.set z40 (Int.toNat x5) (Val.mk (Val.kind (List.getD z40 (Int.toNat x5) Ty.val.dflt)) (IntKind.i64.wrap (x1 + 1)) (Val.step (List.getD z40 (Int.toNat x5) Ty.val.dflt)) (Val.text (List.getD z40 (Int.toNat x5) Ty.val.dflt)) (Val.list (List.getD z40 (Int.toNat x5) Ty.val.dflt)) (Val.columns (List.getD z40 (Int.toNat x5) Ty.val.dflt)) (Val.rows (List.getD z40 (Int.toNat x5) Ty.val.dflt)))) (List.set x0 (Int.toNat x5) (Val.mk x1 (Val.n (List.getD x0 (Int.toNat x5) Ty.val.dflt)) (Val.step (List.getD x0 (Int.toNat x5) Ty.val.dflt)) (Val.text (List.getD x0 (Int.toNat x5) Ty.val.dflt)) (Val.list (List.getD x0 (Int.toNat x5) Ty.val.dflt)) (Val.columns (List.getD x0 (Int.toNat x5) Ty.val.dflt)) (Val.rows (List.getD x0 (Int.toNat x5) Ty.val.dflt)))))))))) r4.1 (IntKind.i64.wrap (x5 + 1)))
      else none
      else none
      else none
      else none
      else none
      else none
      else none
      else none
      else none
      else none
    ) else (
      some (x1, x0)
    )
def xCU (N : Nat) (q0 : (List Val) → Int → Option (Int × (List Val))) (a0 : List Val) (a1 : Int) : Option (Int × (List Val)) :=
  (xBM N q0 N a0 a1 0)
def xB5 (N : Nat) : Nat → (List Val) → Int → Option (Int × (List Val))
  | 0, _, _ => none
  | d + 1, a0, a1 => xCU N (xB5 N d) a0 a1
def xCu (N : Nat) (a0 : List Val) (a1 : Int) : Option (Int × (List Val)) := xB5 N N a0 a1
def xAT (a0 : List Rea) (a1 : Int) : List Arg := [.val (.v false [.sl (.lnt 0) .rea a0]), .val (.v false [.int .i64 a1])]
def xAu (r : Int × (List Rea)) : CallO := ⟨.v false [.int .i64 r.1], [], [.sl (.lnt 0) .rea r.2]⟩
def xBY (N : Nat) : Nat → (List Rea) → Int → Int → Option (Int × (List Rea))
  | 0, _, _, _ => none
  | n + 1, x0, x1, x5 =>
    bif (decide ((x5 : Int) < (List.length x0 : Int))) then (
      if (0 : Int) ≤ x5 ∧ x5 < (List.length x0) then
      if (0 : Int) ≤ x5 ∧ x5 < (List.length (List.set x0 (Int.toNat x5) (Rea.mk x1 (Rea.n (List.getD x0 (Int.toNat x5) Ty.rea.dflt)) (Rea.time (List.getD x0 (Int.toNat x5) Ty.rea.dflt)) (Rea.text (List.getD x0 (Int.toNat x5) Ty.rea.dflt)) (Val.re (Rea.result (List.getD x0 (Int.toNat x5) Ty.rea.dflt)))))) then
      if (0 : Int) ≤ x5 ∧ x5 < (List.length ((fun (z94 : List Rea) => List.set z94 (Int.toNat x5) (Rea.mk (Rea.kind (List.getD z94 (Int.toNat x5) Ty.rea.dflt)) (IntKind.i64.wrap (x1 + 1)) (Rea.time (List.getD z94 (Int.toNat x5) Ty.rea.dflt)) (Rea.text (List.getD z94 (Int.toNat x5) Ty.rea.dflt)) (Val.re (Rea.result (List.getD z94 (Int.toNat x5) Ty.rea.dflt))))) (List.set x0 (Int.toNat x5) (Rea.mk x1 (Rea.n (List.getD x0 (Int.toNat x5) Ty.rea.dflt)) (Rea.time (List.getD x0 (Int.toNat x5) Ty.rea.dflt)) (Rea.text (List.getD x0 (Int.toNat x5) Ty.rea.dflt)) (Val.re (Rea.result (List.getD x0 (Int.toNat x5) Ty.rea.dflt))))))) then
      Option.bind (xBI N (IntKind.i64.wrap ((IntKind.i64.wrap ((IntKind.i64.wrap (x1 + 1)) + 1)) + 1))) fun r1 =>
      if (0 : Int) ≤ x5 ∧ x5 < (List.length ((fun (z95 : List Rea) => List.set z95 (Int.toNat x5) (Rea.mk (Rea.kind (List.getD z95 (Int.toNat x5) Ty.rea.dflt)) (Rea.n (List.getD z95 (Int.toNat x5) Ty.rea.dflt)) (IntKind.i64.wrap ((IntKind.i64.wrap (x1 + 1)) + 1)) (Rea.text (List.getD z95 (Int.toNat x5) Ty.rea.dflt)) (Val.re (Rea.result (List.getD z95 (Int.toNat x5) Ty.rea.dflt))))) ((fun (z94 : List Rea) => List.set z94 (Int.toNat x5) (Rea.mk (Rea.kind (List.getD z94 (Int.toNat x5) Ty.rea.dflt)) (IntKind.i64.wrap (x1 + 1)) (Rea.time (List.getD z94 (Int.toNat x5) Ty.rea.dflt)) (Rea.text (List.getD z94 (Int.toNat x5) Ty.rea.dflt)) (Val.re (Rea.result (List.getD z94 (Int.toNat x5) Ty.rea.dflt))))) (List.set x0 (Int.toNat x5) (Rea.mk x1 (Rea.n (List.getD x0 (Int.toNat x5) Ty.rea.dflt)) (Rea.time (List.getD x0 (Int.toNat x5) Ty.rea.dflt)) (Rea.text (List.getD x0 (Int.toNat x5) Ty.rea.dflt)) (Val.re (Rea.result (List.getD x0 (Int.toNat x5) Ty.rea.dflt)))))))) then
      if (0 : Int) ≤ x5 ∧ x5 < (List.length ((fun (z96 : List Rea) => List.set z96 (Int.toNat x5) (Rea.mk (Rea.kind (List.getD z96 (Int.toNat x5) Ty.rea.dflt)) (Rea.n (List.getD z96 (Int.toNat x5) Ty.rea.dflt)) (Rea.time (List.getD z96 (Int.toNat x5) Ty.rea.dflt)) r1 (Val.re (Rea.result (List.getD z96 (Int.toNat x5) Ty.rea.dflt))))) ((fun (z95 : List Rea) => List.set z95 (Int.toNat x5) (Rea.mk (Rea.kind (List.getD z95 (Int.toNat x5) Ty.rea.dflt)) (Rea.n (List.getD z95 (Int.toNat x5) Ty.rea.dflt)) (IntKind.i64.wrap ((IntKind.i64.wrap (x1 + 1)) + 1)) (Rea.text (List.getD z95 (Int.toNat x5) Ty.rea.dflt)) (Val.re (Rea.result (List.getD z95 (Int.toNat x5) Ty.rea.dflt))))) ((fun (z94 : List Rea) => List.set z94 (Int.toNat x5) (Rea.mk (Rea.kind (List.getD z94 (Int.toNat x5) Ty.rea.dflt)) (IntKind.i64.wrap (x1 + 1)) (Rea.time (List.getD z94 (Int.toNat x5) Ty.rea.dflt)) (Rea.text (List.getD z94 (Int.toNat x5) Ty.rea.dflt)) (Val.re (Rea.result (List.getD z94 (Int.toNat x5) Ty.rea.dflt))))) (List.set x0 (Int.toNat x5) (Rea.mk x1 (Rea.n (List.getD x0 (Int.toNat x5) Ty.rea.dflt)) (Rea.time (List.getD x0 (Int.toNat x5) Ty.rea.dflt)) (Rea.text (List.getD x0 (Int.toNat x5) Ty.rea.dflt)) (Val.re (Rea.result (List.getD x0 (Int.toNat x5) Ty.rea.dflt))))))))) then
      if (0 : Int) ≤ x5 ∧ x5 < (List.length ((fun (z97 : List Rea) => List.set z97 (Int.toNat x5) (Rea.mk (Rea.kind (List.getD z97 (Int.toNat x5) Ty.rea.dflt)) (Rea.n (List.getD z97 (Int.toNat x5) Ty.rea.dflt)) (Rea.time (List.getD z97 (Int.toNat x5) Ty.rea.dflt)) (Rea.text (List.getD z97 (Int.toNat x5) Ty.rea.dflt)) (Val.mk (IntKind.i64.wrap ((IntKind.i64.wrap ((IntKind.i64.wrap ((IntKind.i64.wrap (x1 + 1)) + 1)) + 1)) + 1)) (Val.n (Rea.result (List.getD z97 (Int.toNat x5) Ty.rea.dflt))) (Val.step (Rea.result (List.getD z97 (Int.toNat x5) Ty.rea.dflt))) (Val.text (Rea.result (List.getD z97 (Int.toNat x5) Ty.rea.dflt))) (Val.list (Rea.result (List.getD z97 (Int.toNat x5) Ty.rea.dflt))) (Val.columns (Rea.result (List.getD z97 (Int.toNat x5) Ty.rea.dflt))) (Val.rows (Rea.result (List.getD z97 (Int.toNat x5) Ty.rea.dflt)))))) ((fun (z96 : List Rea) => List.set z96 (Int.toNat x5) (Rea.mk (Rea.kind (List.getD z96 (Int.toNat x5) Ty.rea.dflt)) (Rea.n (List.getD z96 (Int.toNat x5) Ty.rea.dflt)) (Rea.time (List.getD z96 (Int.toNat x5) Ty.rea.dflt)) r1 (Val.re (Rea.result (List.getD z96 (Int.toNat x5) Ty.rea.dflt))))) ((fun (z95 : List Rea) => List.set z95 (Int.toNat x5) (Rea.mk (Rea.kind (List.getD z95 (Int.toNat x5) Ty.rea.dflt)) (Rea.n (List.getD z95 (Int.toNat x5) Ty.rea.dflt)) (IntKind.i64.wrap ((IntKind.i64.wrap (x1 + 1)) + 1)) (Rea.text (List.getD z95 (Int.toNat x5) Ty.rea.dflt)) (Val.re (Rea.result (List.getD z95 (Int.toNat x5) Ty.rea.dflt))))) ((fun (z94 : List Rea) => List.set z94 (Int.toNat x5) (Rea.mk (Rea.kind (List.getD z94 (Int.toNat x5) Ty.rea.dflt)) (IntKind.i64.wrap (x1 + 1)) (Rea.time (List.getD z94 (Int.toNat x5) Ty.rea.dflt)) (Rea.text (List.getD z94 (Int.toNat x5) Ty.rea.dflt)) (Val.re (Rea.result (List.getD z94 (Int.toNat x5) Ty.rea.dflt))))) (List.set x0 (Int.toNat x5) (Rea.mk x1 (Rea.n (List.getD x0 (Int.toNat x5) Ty.rea.dflt)) (Rea.time (List.getD x0 (Int.toNat x5) Ty.rea.dflt)) (Rea.text (List.getD x0 (Int.toNat x5) Ty.rea.dflt)) (Val.re (Rea.result (List.getD x0 (Int.toNat x5) Ty.rea.dflt)))))))))) then
      if (0 : Int) ≤ x5 ∧ x5 < (List.length ((fun (z98 : List Rea) => List.set z98 (Int.toNat x5) (Rea.mk (Rea.kind (List.getD z98 (Int.toNat x5) Ty.rea.dflt)) (Rea.n (List.getD z98 (Int.toNat x5) Ty.rea.dflt)) (Rea.time (List.getD z98 (Int.toNat x5) Ty.rea.dflt)) (Rea.text (List.getD z98 (Int.toNat x5) Ty.rea.dflt)) (Val.mk (Val.kind (Rea.result (List.getD z98 (Int.toNat x5) Ty.rea.dflt))) (IntKind.i64.wrap ((IntKind.i64.wrap ((IntKind.i64.wrap ((IntKind.i64.wrap ((IntKind.i64.wrap (x1 + 1)) + 1)) + 1)) + 1)) + 1)) (Val.step (Rea.result (List.getD z98 (Int.toNat x5) Ty.rea.dflt))) (Val.text (Rea.result (List.getD z98 (Int.toNat x5) Ty.rea.dflt))) (Val.list (Rea.result (List.getD z98 (Int.toNat x5) Ty.rea.dflt))) (Val.columns (Rea.result (List.getD z98 (Int.toNat x5) Ty.rea.dflt))) (Val.rows (Rea.result (List.getD z98 (Int.toNat x5) Ty.rea.dflt)))))) ((fun (z97 : List Rea) => List.set z97 (Int.toNat x5) (Rea.mk (Rea.kind (List.getD z97 (Int.toNat x5) Ty.rea.dflt)) (Rea.n (List.getD z97 (Int.toNat x5) Ty.rea.dflt)) (Rea.time (List.getD z97 (Int.toNat x5) Ty.rea.dflt)) (Rea.text (List.getD z97 (Int.toNat x5) Ty.rea.dflt)) (Val.mk (IntKind.i64.wrap ((IntKind.i64.wrap ((IntKind.i64.wrap ((IntKind.i64.wrap (x1 + 1)) + 1)) + 1)) + 1)) (Val.n (Rea.result (List.getD z97 (Int.toNat x5) Ty.rea.dflt))) (Val.step (Rea.result (List.getD z97 (Int.toNat x5) Ty.rea.dflt))) (Val.text (Rea.result (List.getD z97 (Int.toNat x5) Ty.rea.dflt))) (Val.list (Rea.result (List.getD z97 (Int.toNat x5) Ty.rea.dflt))) (Val.columns (Rea.result (List.getD z97 (Int.toNat x5) Ty.rea.dflt))) (Val.rows (Rea.result (List.getD z97 (Int.toNat x5) Ty.rea.dflt)))))) ((fun (z96 : List Rea) => List.set z96 (Int.toNat x5) (Rea.mk (Rea.kind (List.getD z96 (Int.toNat x5) Ty.rea.dflt)) (Rea.n (List.getD z96 (Int.toNat x5) Ty.rea.dflt)) (Rea.time (List.getD z96 (Int.toNat x5) Ty.rea.dflt)) r1 (Val.re (Rea.result (List.getD z96 (Int.toNat x5) Ty.rea.dflt))))) ((fun (z95 : List Rea) => List.set z95 (Int.toNat x5) (Rea.mk (Rea.kind (List.getD z95 (Int.toNat x5) Ty.rea.dflt)) (Rea.n (List.getD z95 (Int.toNat x5) Ty.rea.dflt)) (IntKind.i64.wrap ((IntKind.i64.wrap (x1 + 1)) + 1)) (Rea.text (List.getD z95 (Int.toNat x5) Ty.rea.dflt)) (Val.re (Rea.result (List.getD z95 (Int.toNat x5) Ty.rea.dflt))))) ((fun (z94 : List Rea) => List.set z94 (Int.toNat x5) (Rea.mk (Rea.kind (List.getD z94 (Int.toNat x5) Ty.rea.dflt)) (IntKind.i64.wrap (x1 + 1)) (Rea.time (List.getD z94 (Int.toNat x5) Ty.rea.dflt)) (Rea.text (List.getD z94 (Int.toNat x5) Ty.rea.dflt)) (Val.re (Rea.result (List.getD z94 (Int.toNat x5) Ty.rea.dflt))))) (List.set x0 (Int.toNat x5) (Rea.mk x1 (Rea.n (List.getD x0 (Int.toNat x5) Ty.rea.dflt)) (Rea.time (List.getD x0 (Int.toNat x5) Ty.rea.dflt)) (Rea.text (List.getD x0 (Int.toNat x5) Ty.rea.dflt)) (Val.re (Rea.result (List.getD x0 (Int.toNat x5) Ty.rea.dflt))))))))))) then
      Option.bind (xBI N (IntKind.i64.wrap ((IntKind.i64.wrap ((IntKind.i64.wrap ((IntKind.i64.wrap ((IntKind.i64.wrap ((IntKind.i64.wrap ((IntKind.i64.wrap (x1 + 1)) + 1)) + 1)) + 1)) + 1)) + 1)) + 1))) fun r2 =>
      if (0 : Int) ≤ x5 ∧ x5 < (List.length ((fun (z99 : List Rea) => List.set z99 (Int.toNat x5) (Rea.mk (Rea.kind (List.getD z99 (Int.toNat x5) Ty.rea.dflt)) (Rea.n (List.getD z99 (Int.toNat x5) Ty.rea.dflt)) (Rea.time (List.getD z99 (Int.toNat x5) Ty.rea.dflt)) (Rea.text (List.getD z99 (Int.toNat x5) Ty.rea.dflt)) (Val.mk (Val.kind (Rea.result (List.getD z99 (Int.toNat x5) Ty.rea.dflt))) (Val.n (Rea.result (List.getD z99 (Int.toNat x5) Ty.rea.dflt))) (IntKind.i64.wrap ((IntKind.i64.wrap ((IntKind.i64.wrap ((IntKind.i64.wrap ((IntKind.i64.wrap ((IntKind.i64.wrap (x1 + 1)) + 1)) + 1)) + 1)) + 1)) + 1)) (Val.text (Rea.result (List.getD z99 (Int.toNat x5) Ty.rea.dflt))) (Val.list (Rea.result (List.getD z99 (Int.toNat x5) Ty.rea.dflt))) (Val.columns (Rea.result (List.getD z99 (Int.toNat x5) Ty.rea.dflt))) (Val.rows (Rea.result (List.getD z99 (Int.toNat x5) Ty.rea.dflt)))))) ((fun (z98 : List Rea) => List.set z98 (Int.toNat x5) (Rea.mk (Rea.kind (List.getD z98 (Int.toNat x5) Ty.rea.dflt)) (Rea.n (List.getD z98 (Int.toNat x5) Ty.rea.dflt)) (Rea.time (List.getD z98 (Int.toNat x5) Ty.rea.dflt)) (Rea.text (List.getD z98 (Int.toNat x5) Ty.rea.dflt)) (Val.mk (Val.kind (Rea.result (List.getD z98 (Int.toNat x5) Ty.rea.dflt))) (IntKind.i64.wrap ((IntKind.i64.wrap ((IntKind.i64.wrap ((IntKind.i64.wrap ((IntKind.i64.wrap (x1 + 1)) + 1)) + 1)) + 1)) + 1)) (Val.step (Rea.result (List.getD z98 (Int.toNat x5) Ty.rea.dflt))) (Val.text (Rea.result (List.getD z98 (Int.toNat x5) Ty.rea.dflt))) (Val.list (Rea.result (List.getD z98 (Int.toNat x5) Ty.rea.dflt))) (Val.columns (Rea.result (List.getD z98 (Int.toNat x5) Ty.rea.dflt))) (Val.rows (Rea.result (List.getD z98 (Int.toNat x5) Ty.rea.dflt)))))) ((fun (z97 : List Rea) => List.set z97 (Int.toNat x5) (Rea.mk (Rea.kind (List.getD z97 (Int.toNat x5) Ty.rea.dflt)) (Rea.n (List.getD z97 (Int.toNat x5) Ty.rea.dflt)) (Rea.time (List.getD z97 (Int.toNat x5) Ty.rea.dflt)) (Rea.text (List.getD z97 (Int.toNat x5) Ty.rea.dflt)) (Val.mk (IntKind.i64.wrap ((IntKind.i64.wrap ((IntKind.i64.wrap ((IntKind.i64.wrap (x1 + 1)) + 1)) + 1)) + 1)) (Val.n (Rea.result (List.getD z97 (Int.toNat x5) Ty.rea.dflt))) (Val.step (Rea.result (List.getD z97 (Int.toNat x5) Ty.rea.dflt))) (Val.text (Rea.result (List.getD z97 (Int.toNat x5) Ty.rea.dflt))) (Val.list (Rea.result (List.getD z97 (Int.toNat x5) Ty.rea.dflt))) (Val.columns (Rea.result (List.getD z97 (Int.toNat x5) Ty.rea.dflt))) (Val.rows (Rea.result (List.getD z97 (Int.toNat x5) Ty.rea.dflt)))))) ((fun (z96 : List Rea) => List.set z96 (Int.toNat x5) (Rea.mk (Rea.kind (List.getD z96 (Int.toNat x5) Ty.rea.dflt)) (Rea.n (List.getD z96 (Int.toNat x5) Ty.rea.dflt)) (Rea.time (List.getD z96 (Int.toNat x5) Ty.rea.dflt)) r1 (Val.re (Rea.result (List.getD z96 (Int.toNat x5) Ty.rea.dflt))))) ((fun (z95 : List Rea) => List.set z95 (Int.toNat x5) (Rea.mk (Rea.kind (List.getD z95 (Int.toNat x5) Ty.rea.dflt)) (Rea.n (List.getD z95 (Int.toNat x5) Ty.rea.dflt)) (IntKind.i64.wrap ((IntKind.i64.wrap (x1 + 1)) + 1)) (Rea.text (List.getD z95 (Int.toNat x5) Ty.rea.dflt)) (Val.re (Rea.result (List.getD z95 (Int.toNat x5) Ty.rea.dflt))))) ((fun (z94 : List Rea) => List.set z94 (Int.toNat x5) (Rea.mk (Rea.kind (List.getD z94 (Int.toNat x5) Ty.rea.dflt)) (IntKind.i64.wrap (x1 + 1)) (Rea.time (List.getD z94 (Int.toNat x5) Ty.rea.dflt)) (Rea.text (List.getD z94 (Int.toNat x5) Ty.rea.dflt)) (Val.re (Rea.result (List.getD z94 (Int.toNat x5) Ty.rea.dflt))))) (List.set x0 (Int.toNat x5) (Rea.mk x1 (Rea.n (List.getD x0 (Int.toNat x5) Ty.rea.dflt)) (Rea.time (List.getD x0 (Int.toNat x5) Ty.rea.dflt)) (Rea.text (List.getD x0 (Int.toNat x5) Ty.rea.dflt)) (Val.re (Rea.result (List.getD x0 (Int.toNat x5) Ty.rea.dflt)))))))))))) then
      if (0 : Int) ≤ x5 ∧ x5 < (List.length ((fun (z100 : List Rea) => List.set z100 (Int.toNat x5) (Rea.mk (Rea.kind (List.getD z100 (Int.toNat x5) Ty.rea.dflt)) (Rea.n (List.getD z100 (Int.toNat x5) Ty.rea.dflt)) (Rea.time (List.getD z100 (Int.toNat x5) Ty.rea.dflt)) (Rea.text (List.getD z100 (Int.toNat x5) Ty.rea.dflt)) (Val.mk (Val.kind (Rea.result (List.getD z100 (Int.toNat x5) Ty.rea.dflt))) (Val.n (Rea.result (List.getD z100 (Int.toNat x5) Ty.rea.dflt))) (Val.step (Rea.result (List.getD z100 (Int.toNat x5) Ty.rea.dflt))) r2 (Val.list (Rea.result (List.getD z100 (Int.toNat x5) Ty.rea.dflt))) (Val.columns (Rea.result (List.getD z100 (Int.toNat x5) Ty.rea.dflt))) (Val.rows (Rea.result (List.getD z100 (Int.toNat x5) Ty.rea.dflt)))))) ((fun (z99 : List Rea) => List.set z99 (Int.toNat x5) (Rea.mk (Rea.kind (List.getD z99 (Int.toNat x5) Ty.rea.dflt)) (Rea.n (List.getD z99 (Int.toNat x5) Ty.rea.dflt)) (Rea.time (List.getD z99 (Int.toNat x5) Ty.rea.dflt)) (Rea.text (List.getD z99 (Int.toNat x5) Ty.rea.dflt)) (Val.mk (Val.kind (Rea.result (List.getD z99 (Int.toNat x5) Ty.rea.dflt))) (Val.n (Rea.result (List.getD z99 (Int.toNat x5) Ty.rea.dflt))) (IntKind.i64.wrap ((IntKind.i64.wrap ((IntKind.i64.wrap ((IntKind.i64.wrap ((IntKind.i64.wrap ((IntKind.i64.wrap (x1 + 1)) + 1)) + 1)) + 1)) + 1)) + 1)) (Val.text (Rea.result (List.getD z99 (Int.toNat x5) Ty.rea.dflt))) (Val.list (Rea.result (List.getD z99 (Int.toNat x5) Ty.rea.dflt))) (Val.columns (Rea.result (List.getD z99 (Int.toNat x5) Ty.rea.dflt))) (Val.rows (Rea.result (List.getD z99 (Int.toNat x5) Ty.rea.dflt)))))) ((fun (z98 : List Rea) => List.set z98 (Int.toNat x5) (Rea.mk (Rea.kind (List.getD z98 (Int.toNat x5) Ty.rea.dflt)) (Rea.n (List.getD z98 (Int.toNat x5) Ty.rea.dflt)) (Rea.time (List.getD z98 (Int.toNat x5) Ty.rea.dflt)) (Rea.text (List.getD z98 (Int.toNat x5) Ty.rea.dflt)) (Val.mk (Val.kind (Rea.result (List.getD z98 (Int.toNat x5) Ty.rea.dflt))) (IntKind.i64.wrap ((IntKind.i64.wrap ((IntKind.i64.wrap ((IntKind.i64.wrap ((IntKind.i64.wrap (x1 + 1)) + 1)) + 1)) + 1)) + 1)) (Val.step (Rea.result (List.getD z98 (Int.toNat x5) Ty.rea.dflt))) (Val.text (Rea.result (List.getD z98 (Int.toNat x5) Ty.rea.dflt))) (Val.list (Rea.result (List.getD z98 (Int.toNat x5) Ty.rea.dflt))) (Val.columns (Rea.result (List.getD z98 (Int.toNat x5) Ty.rea.dflt))) (Val.rows (Rea.result (List.getD z98 (Int.toNat x5) Ty.rea.dflt)))))) ((fun (z97 : List Rea) => List.set z97 (Int.toNat x5) (Rea.mk (Rea.kind (List.getD z97 (Int.toNat x5) Ty.rea.dflt)) (Rea.n (List.getD z97 (Int.toNat x5) Ty.rea.dflt)) (Rea.time (List.getD z97 (Int.toNat x5) Ty.rea.dflt)) (Rea.text (List.getD z97 (Int.toNat x5) Ty.rea.dflt)) (Val.mk (IntKind.i64.wrap ((IntKind.i64.wrap ((IntKind.i64.wrap ((IntKind.i64.wrap (x1 + 1)) + 1)) + 1)) + 1)) (Val.n (Rea.result (List.getD z97 (Int.toNat x5) Ty.rea.dflt))) (Val.step (Rea.result (List.getD z97 (Int.toNat x5) Ty.rea.dflt))) (Val.text (Rea.result (List.getD z97 (Int.toNat x5) Ty.rea.dflt))) (Val.list (Rea.result (List.getD z97 (Int.toNat x5) Ty.rea.dflt))) (Val.columns (Rea.result (List.getD z97 (Int.toNat x5) Ty.rea.dflt))) (Val.rows (Rea.result (List.getD z97 (Int.toNat x5) Ty.rea.dflt)))))) ((fun (z96 : List Rea) => List.set z96 (Int.toNat x5) (Rea.mk (Rea.kind (List.getD z96 (Int.toNat x5) Ty.rea.dflt)) (Rea.n (List.getD z96 (Int.toNat x5) Ty.rea.dflt)) (Rea.time (List.getD z96 (Int.toNat x5) Ty.rea.dflt)) r1 (Val.re (Rea.result (List.getD z96 (Int.toNat x5) Ty.rea.dflt))))) ((fun (z95 : List Rea) => List.set z95 (Int.toNat x5) (Rea.mk (Rea.kind (List.getD z95 (Int.toNat x5) Ty.rea.dflt)) (Rea.n (List.getD z95 (Int.toNat x5) Ty.rea.dflt)) (IntKind.i64.wrap ((IntKind.i64.wrap (x1 + 1)) + 1)) (Rea.text (List.getD z95 (Int.toNat x5) Ty.rea.dflt)) (Val.re (Rea.result (List.getD z95 (Int.toNat x5) Ty.rea.dflt))))) ((fun (z94 : List Rea) => List.set z94 (Int.toNat x5) (Rea.mk (Rea.kind (List.getD z94 (Int.toNat x5) Ty.rea.dflt)) (IntKind.i64.wrap (x1 + 1)) (Rea.time (List.getD z94 (Int.toNat x5) Ty.rea.dflt)) (Rea.text (List.getD z94 (Int.toNat x5) Ty.rea.dflt)) (Val.re (Rea.result (List.getD z94 (Int.toNat x5) Ty.rea.dflt))))) (List.set x0 (Int.toNat x5) (Rea.mk x1 (Rea.n (List.getD x0 (Int.toNat x5) Ty.rea.dflt)) (Rea.time (List.getD x0 (Int.toNat x5) Ty.rea.dflt)) (Rea.text (List.getD x0 (Int.toNat x5) Ty.rea.dflt)) (Val.re (Rea.result (List.getD x0 (Int.toNat x5) Ty.rea.dflt))))))))))))) then
      Option.bind (xCu N (Val.list (Rea.result (List.getD ((fun (z100 : List Rea) => List.set z100 (Int.toNat x5) (Rea.mk (Rea.kind (List.getD z100 (Int.toNat x5) Ty.rea.dflt)) (Rea.n (List.getD z100 (Int.toNat x5) Ty.rea.dflt)) (Rea.time (List.getD z100 (Int.toNat x5) Ty.rea.dflt)) (Rea.text (List.getD z100 (Int.toNat x5) Ty.rea.dflt)) (Val.mk (Val.kind (Rea.result (List.getD z100 (Int.toNat x5) Ty.rea.dflt))) (Val.n (Rea.result (List.getD z100 (Int.toNat x5) Ty.rea.dflt))) (Val.step (Rea.result (List.getD z100 (Int.toNat x5) Ty.rea.dflt))) r2 (Val.list (Rea.result (List.getD z100 (Int.toNat x5) Ty.rea.dflt))) (Val.columns (Rea.result (List.getD z100 (Int.toNat x5) Ty.rea.dflt))) (Val.rows (Rea.result (List.getD z100 (Int.toNat x5) Ty.rea.dflt)))))) ((fun (z99 : List Rea) => List.set z99 (Int.toNat x5) (Rea.mk (Rea.kind (List.getD z99 (Int.toNat x5) Ty.rea.dflt)) (Rea.n (List.getD z99 (Int.toNat x5) Ty.rea.dflt)) (Rea.time (List.getD z99 (Int.toNat x5) Ty.rea.dflt)) (Rea.text (List.getD z99 (Int.toNat x5) Ty.rea.dflt)) (Val.mk (Val.kind (Rea.result (List.getD z99 (Int.toNat x5) Ty.rea.dflt))) (Val.n (Rea.result (List.getD z99 (Int.toNat x5) Ty.rea.dflt))) (IntKind.i64.wrap ((IntKind.i64.wrap ((IntKind.i64.wrap ((IntKind.i64.wrap ((IntKind.i64.wrap ((IntKind.i64.wrap (x1 + 1)) + 1)) + 1)) + 1)) + 1)) + 1)) (Val.text (Rea.result (List.getD z99 (Int.toNat x5) Ty.rea.dflt))) (Val.list (Rea.result (List.getD z99 (Int.toNat x5) Ty.rea.dflt))) (Val.columns (Rea.result (List.getD z99 (Int.toNat x5) Ty.rea.dflt))) (Val.rows (Rea.result (List.getD z99 (Int.toNat x5) Ty.rea.dflt)))))) ((fun (z98 : List Rea) => List.set z98 (Int.toNat x5) (Rea.mk (Rea.kind (List.getD z98 (Int.toNat x5) Ty.rea.dflt)) (Rea.n (List.getD z98 (Int.toNat x5) Ty.rea.dflt)) (Rea.time (List.getD z98 (Int.toNat x5) Ty.rea.dflt)) (Rea.text (List.getD z98 (Int.toNat x5) Ty.rea.dflt)) (Val.mk (Val.kind (Rea.result (List.getD z98 (Int.toNat x5) Ty.rea.dflt))) (IntKind.i64.wrap ((IntKind.i64.wrap ((IntKind.i64.wrap ((IntKind.i64.wrap ((IntKind.i64.wrap (x1 + 1)) + 1)) + 1)) + 1)) + 1)) (Val.step (Rea.result (List.getD z98 (Int.toNat x5) Ty.rea.dflt))) (Val.text (Rea.result (List.getD z98 (Int.toNat x5) Ty.rea.dflt))) (Val.list (Rea.result (List.getD z98 (Int.toNat x5) Ty.rea.dflt))) (Val.columns (Rea.result (List.getD z98 (Int.toNat x5) Ty.rea.dflt))) (Val.rows (Rea.result (List.getD z98 (Int.toNat x5) Ty.rea.dflt)))))) ((fun (z97 : List Rea) => List.set z97 (Int.toNat x5) (Rea.mk (Rea.kind (List.getD z97 (Int.toNat x5) Ty.rea.dflt)) (Rea.n (List.getD z97 (Int.toNat x5) Ty.rea.dflt)) (Rea.time (List.getD z97 (Int.toNat x5) Ty.rea.dflt)) (Rea.text (List.getD z97 (Int.toNat x5) Ty.rea.dflt)) (Val.mk (IntKind.i64.wrap ((IntKind.i64.wrap ((IntKind.i64.wrap ((IntKind.i64.wrap (x1 + 1)) + 1)) + 1)) + 1)) (Val.n (Rea.result (List.getD z97 (Int.toNat x5) Ty.rea.dflt))) (Val.step (Rea.result (List.getD z97 (Int.toNat x5) Ty.rea.dflt))) (Val.text (Rea.result (List.getD z97 (Int.toNat x5) Ty.rea.dflt))) (Val.list (Rea.result (List.getD z97 (Int.toNat x5) Ty.rea.dflt))) (Val.columns (Rea.result (List.getD z97 (Int.toNat x5) Ty.rea.dflt))) (Val.rows (Rea.result (List.getD z97 (Int.toNat x5) Ty.rea.dflt)))))) ((fun (z96 : List Rea) => List.set z96 (Int.toNat x5) (Rea.mk (Rea.kind (List.getD z96 (Int.toNat x5) Ty.rea.dflt)) (Rea.n (List.getD z96 (Int.toNat x5) Ty.rea.dflt)) (Rea.time (List.getD z96 (Int.toNat x5) Ty.rea.dflt)) r1 (Val.re (Rea.result (List.getD z96 (Int.toNat x5) Ty.rea.dflt))))) ((fun (z95 : List Rea) => List.set z95 (Int.toNat x5) (Rea.mk (Rea.kind (List.getD z95 (Int.toNat x5) Ty.rea.dflt)) (Rea.n (List.getD z95 (Int.toNat x5) Ty.rea.dflt)) (IntKind.i64.wrap ((IntKind.i64.wrap (x1 + 1)) + 1)) (Rea.text (List.getD z95 (Int.toNat x5) Ty.rea.dflt)) (Val.re (Rea.result (List.getD z95 (Int.toNat x5) Ty.rea.dflt))))) ((fun (z94 : List Rea) => List.set z94 (Int.toNat x5) (Rea.mk (Rea.kind (List.getD z94 (Int.toNat x5) Ty.rea.dflt)) (IntKind.i64.wrap (x1 + 1)) (Rea.time (List.getD z94 (Int.toNat x5) Ty.rea.dflt)) (Rea.text (List.getD z94 (Int.toNat x5) Ty.rea.dflt)) (Val.re (Rea.result (List.getD z94 (Int.toNat x5) Ty.rea.dflt))))) (List.set x0 (Int.toNat x5) (Rea.mk x1 (Rea.n (List.getD x0 (Int.toNat x5) Ty.rea.dflt)) (Rea.time (List.getD x0 (Int.toNat x5) Ty.rea.dflt)) (Rea.text (List.getD x0 (Int.toNat x5) Ty.rea.dflt)) (Val.re (Rea.result (List.getD x0 (Int.toNat x5) Ty.rea.dflt)))))))))))) (Int.toNat x5) Ty.rea.dflt))) (IntKind.i64.wrap ((IntKind.i64.wrap ((IntKind.i64.wrap ((IntKind.i64.wrap ((IntKind.i64.wrap ((IntKind.i64.wrap ((IntKind.i64.wrap ((IntKind.i64.wrap (x1 + 1)) + 1)) + 1)) + 1)) + 1)) + 1)) + 1)) + 1))) fun r3 =>
      if List.length r3.2 = List.length (Val.list (Rea.result (List.getD ((fun (z100 : List Rea) => List.set z100 (Int.toNat x5) (Rea.mk (Rea.kind (List.getD z100 (Int.toNat x5) Ty.rea.dflt)) (Rea.n (List.getD z100 (Int.toNat x5) Ty.rea.dflt)) (Rea.time (List.getD z100 (Int.toNat x5) Ty.rea.dflt)) (Rea.text (List.getD z100 (Int.toNat x5) Ty.rea.dflt)) (Val.mk (Val.kind (Rea.result (List.getD z100 (Int.toNat x5) Ty.rea.dflt))) (Val.n (Rea.result (List.getD z100 (Int.toNat x5) Ty.rea.dflt))) (Val.step (Rea.result (List.getD z100 (Int.toNat x5) Ty.rea.dflt))) r2 (Val.list (Rea.result (List.getD z100 (Int.toNat x5) Ty.rea.dflt))) (Val.columns (Rea.result (List.getD z100 (Int.toNat x5) Ty.rea.dflt))) (Val.rows (Rea.result (List.getD z100 (Int.toNat x5) Ty.rea.dflt)))))) ((fun (z99 : List Rea) => List.set z99 (Int.toNat x5) (Rea.mk (Rea.kind (List.getD z99 (Int.toNat x5) Ty.rea.dflt)) (Rea.n (List.getD z99 (Int.toNat x5) Ty.rea.dflt)) (Rea.time (List.getD z99 (Int.toNat x5) Ty.rea.dflt)) (Rea.text (List.getD z99 (Int.toNat x5) Ty.rea.dflt)) (Val.mk (Val.kind (Rea.result (List.getD z99 (Int.toNat x5) Ty.rea.dflt))) (Val.n (Rea.result (List.getD z99 (Int.toNat x5) Ty.rea.dflt))) (IntKind.i64.wrap ((IntKind.i64.wrap ((IntKind.i64.wrap ((IntKind.i64.wrap ((IntKind.i64.wrap ((IntKind.i64.wrap (x1 + 1)) + 1)) + 1)) + 1)) + 1)) + 1)) (Val.text (Rea.result (List.getD z99 (Int.toNat x5) Ty.rea.dflt))) (Val.list (Rea.result (List.getD z99 (Int.toNat x5) Ty.rea.dflt))) (Val.columns (Rea.result (List.getD z99 (Int.toNat x5) Ty.rea.dflt))) (Val.rows (Rea.result (List.getD z99 (Int.toNat x5) Ty.rea.dflt)))))) ((fun (z98 : List Rea) => List.set z98 (Int.toNat x5) (Rea.mk (Rea.kind (List.getD z98 (Int.toNat x5) Ty.rea.dflt)) (Rea.n (List.getD z98 (Int.toNat x5) Ty.rea.dflt)) (Rea.time (List.getD z98 (Int.toNat x5) Ty.rea.dflt)) (Rea.text (List.getD z98 (Int.toNat x5) Ty.rea.dflt)) (Val.mk (Val.kind (Rea.result (List.getD z98 (Int.toNat x5) Ty.rea.dflt))) (IntKind.i64.wrap ((IntKind.i64.wrap ((IntKind.i64.wrap ((IntKind.i64.wrap ((IntKind.i64.wrap (x1 + 1)) + 1)) + 1)) + 1)) + 1)) (Val.step (Rea.result (List.getD z98 (Int.toNat x5) Ty.rea.dflt))) (Val.text (Rea.result (List.getD z98 (Int.toNat x5) Ty.rea.dflt))) (Val.list (Rea.result (List.getD z98 (Int.toNat x5) Ty.rea.dflt))) (Val.columns (Rea.result (List.getD z98 (Int.toNat x5) Ty.rea.dflt))) (Val.rows (Rea.result (List.getD z98 (Int.toNat x5) Ty.rea.dflt)))))) ((fun (z97 : List Rea) => List.set z97 (Int.toNat x5) (Rea.mk (Rea.kind (List.getD z97 (Int.toNat x5) Ty.rea.dflt)) (Rea.n (List.getD z97 (Int.toNat x5) Ty.rea.dflt)) (Rea.time (List.getD z97 (Int.toNat x5) Ty.rea.dflt)) (Rea.text (List.getD z97 (Int.toNat x5) Ty.rea.dflt)) (Val.mk (IntKind.i64.wrap ((IntKind.i64.wrap ((IntKind.i64.wrap ((IntKind.i64.wrap (x1 + 1)) + 1)) + 1)) + 1)) (Val.n (Rea.result (List.getD z97 (Int.toNat x5) Ty.rea.dflt))) (Val.step (Rea.result (List.getD z97 (Int.toNat x5) Ty.rea.dflt))) (Val.text (Rea.result (List.getD z97 (Int.toNat x5) Ty.rea.dflt))) (Val.list (Rea.result (List.getD z97 (Int.toNat x5) Ty.rea.dflt))) (Val.columns (Rea.result (List.getD z97 (Int.toNat x5) Ty.rea.dflt))) (Val.rows (Rea.result (List.getD z97 (Int.toNat x5) Ty.rea.dflt)))))) ((fun (z96 : List Rea) => List.set z96 (Int.toNat x5) (Rea.mk (Rea.kind (List.getD z96 (Int.toNat x5) Ty.rea.dflt)) (Rea.n (List.getD z96 (Int.toNat x5) Ty.rea.dflt)) (Rea.time (List.getD z96 (Int.toNat x5) Ty.rea.dflt)) r1 (Val.re (Rea.result (List.getD z96 (Int.toNat x5) Ty.rea.dflt))))) ((fun (z95 : List Rea) => List.set z95 (Int.toNat x5) (Rea.mk (Rea.kind (List.getD z95 (Int.toNat x5) Ty.rea.dflt)) (Rea.n (List.getD z95 (Int.toNat x5) Ty.rea.dflt)) (IntKind.i64.wrap ((IntKind.i64.wrap (x1 + 1)) + 1)) (Rea.text (List.getD z95 (Int.toNat x5) Ty.rea.dflt)) (Val.re (Rea.result (List.getD z95 (Int.toNat x5) Ty.rea.dflt))))) ((fun (z94 : List Rea) => List.set z94 (Int.toNat x5) (Rea.mk (Rea.kind (List.getD z94 (Int.toNat x5) Ty.rea.dflt)) (IntKind.i64.wrap (x1 + 1)) (Rea.time (List.getD z94 (Int.toNat x5) Ty.rea.dflt)) (Rea.text (List.getD z94 (Int.toNat x5) Ty.rea.dflt)) (Val.re (Rea.result (List.getD z94 (Int.toNat x5) Ty.rea.dflt))))) (List.set x0 (Int.toNat x5) (Rea.mk x1 (Rea.n (List.getD x0 (Int.toNat x5) Ty.rea.dflt)) (Rea.time (List.getD x0 (Int.toNat x5) Ty.rea.dflt)) (Rea.text (List.getD x0 (Int.toNat x5) Ty.rea.dflt)) (Val.re (Rea.result (List.getD x0 (Int.toNat x5) Ty.rea.dflt)))))))))))) (Int.toNat x5) Ty.rea.dflt))) then
      if (0 : Int) ≤ x5 ∧ x5 < (List.length ((fun (z101 : List Rea) => List.set z101 (Int.toNat x5) (Rea.mk (Rea.kind (List.getD z101 (Int.toNat x5) Ty.rea.dflt)) (Rea.n (List.getD z101 (Int.toNat x5) Ty.rea.dflt)) (Rea.time (List.getD z101 (Int.toNat x5) Ty.rea.dflt)) (Rea.text (List.getD z101 (Int.toNat x5) Ty.rea.dflt)) (Val.mk (Val.kind (Rea.result (List.getD z101 (Int.toNat x5) Ty.rea.dflt))) (Val.n (Rea.result (List.getD z101 (Int.toNat x5) Ty.rea.dflt))) (Val.step (Rea.result (List.getD z101 (Int.toNat x5) Ty.rea.dflt))) (Val.text (Rea.result (List.getD z101 (Int.toNat x5) Ty.rea.dflt))) r3.2 (Val.columns (Rea.result (List.getD z101 (Int.toNat x5) Ty.rea.dflt))) (Val.rows (Rea.result (List.getD z101 (Int.toNat x5) Ty.rea.dflt)))))) ((fun (z100 : List Rea) => List.set z100 (Int.toNat x5) (Rea.mk (Rea.kind (List.getD z100 (Int.toNat x5) Ty.rea.dflt)) (Rea.n (List.getD z100 (Int.toNat x5) Ty.rea.dflt)) (Rea.time (List.getD z100 (Int.toNat x5) Ty.rea.dflt)) (Rea.text (List.getD z100 (Int.toNat x5) Ty.rea.dflt)) (Val.mk (Val.kind (Rea.result (List.getD z100 (Int.toNat x5) Ty.rea.dflt))) (Val.n (Rea.result (List.getD z100 (Int.toNat x5) Ty.rea.dflt))) (Val.step (Rea.result (List.getD z100 (Int.toNat x5) Ty.rea.dflt))) r2 (Val.list (Rea.result (List.getD z100 (Int.toNat x5) Ty.rea.dflt))) (Val.columns (Rea.result (List.getD z100 (Int.toNat x5) Ty.rea.dflt))) (Val.rows (Rea.result (List.getD z100 (Int.toNat x5) Ty.rea.dflt)))))) ((fun (z99 : List Rea) => List.set z99 (Int.toNat x5) (Rea.mk (Rea.kind (List.getD z99 (Int.toNat x5) Ty.rea.dflt)) (Rea.n (List.getD z99 (Int.toNat x5) Ty.rea.dflt)) (Rea.time (List.getD z99 (Int.toNat x5) Ty.rea.dflt)) (Rea.text (List.getD z99 (Int.toNat x5) Ty.rea.dflt)) (Val.mk (Val.kind (Rea.result (List.getD z99 (Int.toNat x5) Ty.rea.dflt))) (Val.n (Rea.result (List.getD z99 (Int.toNat x5) Ty.rea.dflt))) (IntKind.i64.wrap ((IntKind.i64.wrap ((IntKind.i64.wrap ((IntKind.i64.wrap ((IntKind.i64.wrap ((IntKind.i64.wrap (x1 + 1)) + 1)) + 1)) + 1)) + 1)) + 1)) (Val.text (Rea.result (List.getD z99 (Int.toNat x5) Ty.rea.dflt))) (Val.list (Rea.result (List.getD z99 (Int.toNat x5) Ty.rea.dflt))) (Val.columns (Rea.result (List.getD z99 (Int.toNat x5) Ty.rea.dflt))) (Val.rows (Rea.result (List.getD z99 (Int.toNat x5) Ty.rea.dflt)))))) ((fun (z98 : List Rea) => List.set z98 (Int.toNat x5) (Rea.mk (Rea.kind (List.getD z98 (Int.toNat x5) Ty.rea.dflt)) (Rea.n (List.getD z98 (Int.toNat x5) Ty.rea.dflt)) (Rea.time (List.getD z98 (Int.toNat x5) Ty.rea.dflt)) (Rea.text (List.getD z98 (Int.toNat x5) Ty.rea.dflt)) (Val.mk (Val.kind (Rea.result (List.getD z98 (Int.toNat x5) Ty.rea.dflt))) (IntKind.i64.wrap ((IntKind.i64.wrap ((IntKind.i64.wrap ((IntKind.i64.wrap ((IntKind.i64.wrap (x1 + 1)) + 1)) + 1)) + 1)) + 1)) (Val.step (Rea.result (List.getD z98 (Int.toNat x5) Ty.rea.dflt))) (Val.text (Rea.result (List.getD z98 (Int.toNat x5) Ty.rea.dflt))) (Val.list (Rea.result (List.getD z98 (Int.toNat x5) Ty.rea.dflt))) (Val.columns (Rea.result (List.getD z98 (Int.toNat x5) Ty.rea.dflt))) (Val.rows (Rea.result (List.getD z98 (Int.toNat x5) Ty.rea.dflt)))))) ((fun (z97 : List Rea) => List.set z97 (Int.toNat x5) (Rea.mk (Rea.kind (List.getD z97 (Int.toNat x5) Ty.rea.dflt)) (Rea.n (List.getD z97 (Int.toNat x5) Ty.rea.dflt)) (Rea.time (List.getD z97 (Int.toNat x5) Ty.rea.dflt)) (Rea.text (List.getD z97 (Int.toNat x5) Ty.rea.dflt)) (Val.mk (IntKind.i64.wrap ((IntKind.i64.wrap ((IntKind.i64.wrap ((IntKind.i64.wrap (x1 + 1)) + 1)) + 1)) + 1)) (Val.n (Rea.result (List.getD z97 (Int.toNat x5) Ty.rea.dflt))) (Val.step (Rea.result (List.getD z97 (Int.toNat x5) Ty.rea.dflt))) (Val.text (Rea.result (List.getD z97 (Int.toNat x5) Ty.rea.dflt))) (Val.list (Rea.result (List.getD z97 (Int.toNat x5) Ty.rea.dflt))) (Val.columns (Rea.result (List.getD z97 (Int.toNat x5) Ty.rea.dflt))) (Val.rows (Rea.result (List.getD z97 (Int.toNat x5) Ty.rea.dflt)))))) ((fun (z96 : List Rea) => List.set z96 (Int.toNat x5) (Rea.mk (Rea.kind (List.getD z96 (Int.toNat x5) Ty.rea.dflt)) (Rea.n (List.getD z96 (Int.toNat x5) Ty.rea.dflt)) (Rea.time (List.getD z96 (Int.toNat x5) Ty.rea.dflt)) r1 (Val.re (Rea.result (List.getD z96 (Int.toNat x5) Ty.rea.dflt))))) ((fun (z95 : List Rea) => List.set z95 (Int.toNat x5) (Rea.mk (Rea.kind (List.getD z95 (Int.toNat x5) Ty.rea.dflt)) (Rea.n (List.getD z95 (Int.toNat x5) Ty.rea.dflt)) (IntKind.i64.wrap ((IntKind.i64.wrap (x1 + 1)) + 1)) (Rea.text (List.getD z95 (Int.toNat x5) Ty.rea.dflt)) (Val.re (Rea.result (List.getD z95 (Int.toNat x5) Ty.rea.dflt))))) ((fun (z94 : List Rea) => List.set z94 (Int.toNat x5) (Rea.mk (Rea.kind (List.getD z94 (Int.toNat x5) Ty.rea.dflt)) (IntKind.i64.wrap (x1 + 1)) (Rea.time (List.getD z94 (Int.toNat x5) Ty.rea.dflt)) (Rea.text (List.getD z94 (Int.toNat x5) Ty.rea.dflt)) (Val.re (Rea.result (List.getD z94 (Int.toNat x5) Ty.rea.dflt))))) (List.set x0 (Int.toNat x5) (Rea.mk x1 (Rea.n (List.getD x0 (Int.toNat x5) Ty.rea.dflt)) (Rea.time (List.getD x0 (Int.toNat x5) Ty.rea.dflt)) (Rea.text (List.getD x0 (Int.toNat x5) Ty.rea.dflt)) (Val.re (Rea.result (List.getD x0 (Int.toNat x5) Ty.rea.dflt)))))))))))))) then
      Option.bind (xCg N (Val.columns (Rea.result (List.getD ((fun (z101 : List Rea) => List.set z101 (Int.toNat x5) (Rea.mk (Rea.kind (List.getD z101 (Int.toNat x5) Ty.rea.dflt)) (Rea.n (List.getD z101 (Int.toNat x5) Ty.rea.dflt)) (Rea.time (List.getD z101 (Int.toNat x5) Ty.rea.dflt)) (Rea.text (List.getD z101 (Int.toNat x5) Ty.rea.dflt)) (Val.mk (Val.kind (Rea.result (List.getD z101 (Int.toNat x5) Ty.rea.dflt))) (Val.n (Rea.result (List.getD z101 (Int.toNat x5) Ty.rea.dflt))) (Val.step (Rea.result (List.getD z101 (Int.toNat x5) Ty.rea.dflt))) (Val.text (Rea.result (List.getD z101 (Int.toNat x5) Ty.rea.dflt))) r3.2 (Val.columns (Rea.result (List.getD z101 (Int.toNat x5) Ty.rea.dflt))) (Val.rows (Rea.result (List.getD z101 (Int.toNat x5) Ty.rea.dflt)))))) ((fun (z100 : List Rea) => List.set z100 (Int.toNat x5) (Rea.mk (Rea.kind (List.getD z100 (Int.toNat x5) Ty.rea.dflt)) (Rea.n (List.getD z100 (Int.toNat x5) Ty.rea.dflt)) (Rea.time (List.getD z100 (Int.toNat x5) Ty.rea.dflt)) (Rea.text (List.getD z100 (Int.toNat x5) Ty.rea.dflt)) (Val.mk (Val.kind (Rea.result (List.getD z100 (Int.toNat x5) Ty.rea.dflt))) (Val.n (Rea.result (List.getD z100 (Int.toNat x5) Ty.rea.dflt))) (Val.step (Rea.result (List.getD z100 (Int.toNat x5) Ty.rea.dflt))) r2 (Val.list (Rea.result (List.getD z100 (Int.toNat x5) Ty.rea.dflt))) (Val.columns (Rea.result (List.getD z100 (Int.toNat x5) Ty.rea.dflt))) (Val.rows (Rea.result (List.getD z100 (Int.toNat x5) Ty.rea.dflt)))))) ((fun (z99 : List Rea) => List.set z99 (Int.toNat x5) (Rea.mk (Rea.kind (List.getD z99 (Int.toNat x5) Ty.rea.dflt)) (Rea.n (List.getD z99 (Int.toNat x5) Ty.rea.dflt)) (Rea.time (List.getD z99 (Int.toNat x5) Ty.rea.dflt)) (Rea.text (List.getD z99 (Int.toNat x5) Ty.rea.dflt)) (Val.mk (Val.kind (Rea.result (List.getD z99 (Int.toNat x5) Ty.rea.dflt))) (Val.n (Rea.result (List.getD z99 (Int.toNat x5) Ty.rea.dflt))) (IntKind.i64.wrap ((IntKind.i64.wrap ((IntKind.i64.wrap ((IntKind.i64.wrap ((IntKind.i64.wrap ((IntKind.i64.wrap (x1 + 1)) + 1)) + 1)) + 1)) + 1)) + 1)) (Val.text (Rea.result (List.getD z99 (Int.toNat x5) Ty.rea.dflt))) (Val.list (Rea.result (List.getD z99 (Int.toNat x5) Ty.rea.dflt))) (Val.columns (Rea.result (List.getD z99 (Int.toNat x5) Ty.rea.dflt))) (Val.rows (Rea.result (List.getD z99 (Int.toNat x5) Ty.rea.dflt)))))) ((fun (z98 : List Rea) => List.set z98 (Int.toNat x5) (Rea.mk (Rea.kind (List.getD z98 (Int.toNat x5) Ty.rea.dflt)) (Rea.n (List.getD z98 (Int.toNat x5) Ty.rea.dflt)) (Rea.time (List.getD z98 (Int.toNat x5) Ty.rea.dflt)) (Rea.text (List.getD z98 (Int.toNat x5) Ty.rea.dflt)) (Val.mk (Val.kind (Rea.result (List.getD z98 (Int.toNat x5) Ty.rea.dflt))) (IntKind.i64.wrap ((IntKind.i64.wrap ((IntKind.i64.wrap ((IntKind.i64.wrap ((IntKind.i64.wrap (x1 + 1)) + 1)) + 1)) + 1)) + 1)) (Val.step (Rea.result (List.getD z98 (Int.toNat x5) Ty.rea.dflt))) (Val.text (Rea.result (List.getD z98 (Int.toNat x5) Ty.rea.dflt))) (Val.list (Rea.result (List.getD z98 (Int.toNat x5) Ty.rea.dflt))) (Val.columns (Rea.result (List.getD z98 (Int.toNat x5) Ty.rea.dflt))) (Val.rows (Rea.result (List.getD z98 (Int.toNat x5) Ty.rea.dflt)))))) ((fun (z97 : List Rea) => List.set z97 (Int.toNat x5) (Rea.mk (Rea.kind (List.getD z97 (Int.toNat x5) Ty.rea.dflt)) (Rea.n (List.getD z97 (Int.toNat x5) Ty.rea.dflt)) (Rea.time (List.getD z97 (Int.toNat x5) Ty.rea.dflt)) (Rea.text (List.getD z97 (Int.toNat x5) Ty.rea.dflt)) (Val.mk (IntKind.i64.wrap ((IntKind.i64.wrap ((IntKind.i64.wrap ((IntKind.i64.wrap (x1 + 1)) + 1)) + 1)) + 1)) (Val.n (Rea.result (List.getD z97 (Int.toNat x5) Ty.rea.dflt))) (Val.step (Rea.result (List.getD z97 (Int.toNat x5) Ty.rea.dflt))) (Val.text (Rea.result (List.getD z97 (Int.toNat x5) Ty.rea.dflt))) (Val.list (Rea.result (List.getD z97 (Int.toNat x5) Ty.rea.dflt))) (Val.columns (Rea.result (List.getD z97 (Int.toNat x5) Ty.rea.dflt))) (Val.rows (Rea.result (List.getD z97 (Int.toNat x5) Ty.rea.dflt)))))) ((fun (z96 : List Rea) => List.set z96 (Int.toNat x5) (Rea.mk (Rea.kind (List.getD z96 (Int.toNat x5) Ty.rea.dflt)) (Rea.n (List.getD z96 (Int.toNat x5) Ty.rea.dflt)) (Rea.time (List.getD z96 (Int.toNat x5) Ty.rea.dflt)) r1 (Val.re (Rea.result (List.getD z96 (Int.toNat x5) Ty.rea.dflt))))) ((fun (z95 : List Rea) => List.set z95 (Int.toNat x5) (Rea.mk (Rea.kind (List.getD z95 (Int.toNat x5) Ty.rea.dflt)) (Rea.n (List.getD z95 (Int.toNat x5) Ty.rea.dflt)) (IntKind.i64.wrap ((IntKind.i64.wrap (x1 + 1)) + 1)) (Rea.text (List.getD z95 (Int.toNat x5) Ty.rea.dflt)) (Val.re (Rea.result (List.getD z95 (Int.toNat x5) Ty.rea.dflt))))) ((fun (z94 : List Rea) => List.set z94 (Int.toNat x5) (Rea.mk (Rea.kind (List.getD z94 (Int.toNat x5) Ty.rea.dflt)) (IntKind.i64.wrap (x1 + 1)) (Rea.time (List.getD z94 (Int.toNat x5) Ty.rea.dflt)) (Rea.text (List.getD z94 (Int.toNat x5) Ty.rea.dflt)) (Val.re (Rea.result (List.getD z94 (Int.toNat x5) Ty.rea.dflt))))) (List.set x0 (Int.toNat x5) (Rea.mk x1 (Rea.n (List.getD x0 (Int.toNat x5) Ty.rea.dflt)) (Rea.time (List.getD x0 (Int.toNat x5) Ty.rea.dflt)) (Rea.text (List.getD x0 (Int.toNat x5) Ty.rea.dflt)) (Val.re (Rea.result (List.getD x0 (Int.toNat x5) Ty.rea.dflt))))))))))))) (Int.toNat x5) Ty.rea.dflt))) r3.1) fun r4 =>
      if List.length r4.2 = List.length (Val.columns (Rea.result (List.getD ((fun (z101 : List Rea) => List.set z101 (Int.toNat x5) (Rea.mk (Rea.kind (List.getD z101 (Int.toNat x5) Ty.rea.dflt)) (Rea.n (List.getD z101 (Int.toNat x5) Ty.rea.dflt)) (Rea.time (List.getD z101 (Int.toNat x5) Ty.rea.dflt)) (Rea.text (List.getD z101 (Int.toNat x5) Ty.rea.dflt)) (Val.mk (Val.kind (Rea.result (List.getD z101 (Int.toNat x5) Ty.rea.dflt))) (Val.n (Rea.result (List.getD z101 (Int.toNat x5) Ty.rea.dflt))) (Val.step (Rea.result (List.getD z101 (Int.toNat x5) Ty.rea.dflt))) (Val.text (Rea.result (List.getD z101 (Int.toNat x5) Ty.rea.dflt))) r3.2 (Val.columns (Rea.result (List.getD z101 (Int.toNat x5) Ty.rea.dflt))) (Val.rows (Rea.result (List.getD z101 (Int.toNat x5) Ty.rea.dflt)))))) ((fun (z100 : List Rea) => List.set z100 (Int.toNat x5) (Rea.mk (Rea.kind (List.getD z100 (Int.toNat x5) Ty.rea.dflt)) (Rea.n (List.getD z100 (Int.toNat x5) Ty.rea.dflt)) (Rea.time (List.getD z100 (Int.toNat x5) Ty.rea.dflt)) (Rea.text (List.getD z100 (Int.toNat x5) Ty.rea.dflt)) (Val.mk (Val.kind (Rea.result (List.getD z100 (Int.toNat x5) Ty.rea.dflt))) (Val.n (Rea.result (List.getD z100 (Int.toNat x5) Ty.rea.dflt))) (Val.step (Rea.result (List.getD z100 (Int.toNat x5) Ty.rea.dflt))) r2 (Val.list (Rea.result (List.getD z100 (Int.toNat x5) Ty.rea.dflt))) (Val.columns (Rea.result (List.getD z100 (Int.toNat x5) Ty.rea.dflt))) (Val.rows (Rea.result (List.getD z100 (Int.toNat x5) Ty.rea.dflt)))))) ((fun (z99 : List Rea) => List.set z99 (Int.toNat x5) (Rea.mk (Rea.kind (List.getD z99 (Int.toNat x5) Ty.rea.dflt)) (Rea.n (List.getD z99 (Int.toNat x5) Ty.rea.dflt)) (Rea.time (List.getD z99 (Int.toNat x5) Ty.rea.dflt)) (Rea.text (List.getD z99 (Int.toNat x5) Ty.rea.dflt)) (Val.mk (Val.kind (Rea.result (List.getD z99 (Int.toNat x5) Ty.rea.dflt))) (Val.n (Rea.result (List.getD z99 (Int.toNat x5) Ty.rea.dflt))) (IntKind.i64.wrap ((IntKind.i64.wrap ((IntKind.i64.wrap ((IntKind.i64.wrap ((IntKind.i64.wrap ((IntKind.i64.wrap (x1 + 1)) + 1)) + 1)) + 1)) + 1)) + 1)) (Val.text (Rea.result (List.getD z99 (Int.toNat x5) Ty.rea.dflt))) (Val.list (Rea.result (List.getD z99 (Int.toNat x5) Ty.rea.dflt))) (Val.columns (Rea.result (List.getD z99 (Int.toNat x5) Ty.rea.dflt))) (Val.rows (Rea.result (List.getD z99 (Int.toNat x5) Ty.rea.dflt)))))) ((fun (z98 : List Rea) => List.set z98 (Int.toNat x5) (Rea.mk (Rea.kind (List.getD z98 (Int.toNat x5) Ty.rea.dflt)) (Rea.n (List.getD z98 (Int.toNat x5) Ty.rea.dflt)) (Rea.time (List.getD z98 (Int.toNat x5) Ty.rea.dflt)) (Rea.text (List.getD z98 (Int.toNat x5) Ty.rea.dflt)) (Val.mk (Val.kind (Rea.result (List.getD z98 (Int.toNat x5) Ty.rea.dflt))) (IntKind.i64.wrap ((IntKind.i64.wrap ((IntKind.i64.wrap ((IntKind.i64.wrap ((IntKind.i64.wrap (x1 + 1)) + 1)) + 1)) + 1)) + 1)) (Val.step (Rea.result (List.getD z98 (Int.toNat x5) Ty.rea.dflt))) (Val.text (Rea.result (List.getD z98 (Int.toNat x5) Ty.rea.dflt))) (Val.list (Rea.result (List.getD z98 (Int.toNat x5) Ty.rea.dflt))) (Val.columns (Rea.result (List.getD z98 (Int.toNat x5) Ty.rea.dflt))) (Val.rows (Rea.result (List.getD z98 (Int.toNat x5) Ty.rea.dflt)))))) ((fun (z97 : List Rea) => List.set z97 (Int.toNat x5) (Rea.mk (Rea.kind (List.getD z97 (Int.toNat x5) Ty.rea.dflt)) (Rea.n (List.getD z97 (Int.toNat x5) Ty.rea.dflt)) (Rea.time (List.getD z97 (Int.toNat x5) Ty.rea.dflt)) (Rea.text (List.getD z97 (Int.toNat x5) Ty.rea.dflt)) (Val.mk (IntKind.i64.wrap ((IntKind.i64.wrap ((IntKind.i64.wrap ((IntKind.i64.wrap (x1 + 1)) + 1)) + 1)) + 1)) (Val.n (Rea.result (List.getD z97 (Int.toNat x5) Ty.rea.dflt))) (Val.step (Rea.result (List.getD z97 (Int.toNat x5) Ty.rea.dflt))) (Val.text (Rea.result (List.getD z97 (Int.toNat x5) Ty.rea.dflt))) (Val.list (Rea.result (List.getD z97 (Int.toNat x5) Ty.rea.dflt))) (Val.columns (Rea.result (List.getD z97 (Int.toNat x5) Ty.rea.dflt))) (Val.rows (Rea.result (List.getD z97 (Int.toNat x5) Ty.rea.dflt)))))) ((fun (z96 : List Rea) => List.set z96 (Int.toNat x5) (Rea.mk (Rea.kind (List.getD z96 (Int.toNat x5) Ty.rea.dflt)) (Rea.n (List.getD z96 (Int.toNat x5) Ty.rea.dflt)) (Rea.time (List.getD z96 (Int.toNat x5) Ty.rea.dflt)) r1 (Val.re (Rea.result (List.getD z96 (Int.toNat x5) Ty.rea.dflt))))) ((fun (z95 : List Rea) => List.set z95 (Int.toNat x5) (Rea.mk (Rea.kind (List.getD z95 (Int.toNat x5) Ty.rea.dflt)) (Rea.n (List.getD z95 (Int.toNat x5) Ty.rea.dflt)) (IntKind.i64.wrap ((IntKind.i64.wrap (x1 + 1)) + 1)) (Rea.text (List.getD z95 (Int.toNat x5) Ty.rea.dflt)) (Val.re (Rea.result (List.getD z95 (Int.toNat x5) Ty.rea.dflt))))) ((fun (z94 : List Rea) => List.set z94 (Int.toNat x5) (Rea.mk (Rea.kind (List.getD z94 (Int.toNat x5) Ty.rea.dflt)) (IntKind.i64.wrap (x1 + 1)) (Rea.time (List.getD z94 (Int.toNat x5) Ty.rea.dflt)) (Rea.text (List.getD z94 (Int.toNat x5) Ty.rea.dflt)) (Val.re (Rea.result (List.getD z94 (Int.toNat x5) Ty.rea.dflt))))) (List.set x0 (Int.toNat x5) (Rea.mk x1 (Rea.n (List.getD x0 (Int.toNat x5) Ty.rea.dflt)) (Rea.time (List.getD x0 (Int.toNat x5) Ty.rea.dflt)) (Rea.text (List.getD x0 (Int.toNat x5) Ty.rea.dflt)) (Val.re (Rea.result (List.getD x0 (Int.toNat x5) Ty.rea.dflt))))))))))))) (Int.toNat x5) Ty.rea.dflt))) then
      if (0 : Int) ≤ x5 ∧ x5 < (List.length ((fun (z102 : List Rea) => List.set z102 (Int.toNat x5) (Rea.mk (Rea.kind (List.getD z102 (Int.toNat x5) Ty.rea.dflt)) (Rea.n (List.getD z102 (Int.toNat x5) Ty.rea.dflt)) (Rea.time (List.getD z102 (Int.toNat x5) Ty.rea.dflt)) (Rea.text (List.getD z102 (Int.toNat x5) Ty.rea.dflt)) (Val.mk (Val.kind (Rea.result (List.getD z102 (Int.toNat x5) Ty.rea.dflt))) (Val.n (Rea.result (List.getD z102 (Int.toNat x5) Ty.rea.dflt))) (Val.step (Rea.result (List.getD z102 (Int.toNat x5) Ty.rea.dflt))) (Val.text (Rea.result (List.getD z102 (Int.toNat x5) Ty.rea.dflt))) (Val.list (Rea.result (List.getD z102 (Int.toNat x5) Ty.rea.dflt))) r4.2 (Val.rows (Rea.result (List.getD z102 (Int.toNat x5) Ty.rea.dflt)))))) ((fun (z101 : List Rea) => List.set z101 (Int.toNat x5) (Rea.mk (Rea.kind (List.getD z101 (Int.toNat x5) Ty.rea.dflt)) (Rea.n (List.getD z101 (Int.toNat x5) Ty.rea.dflt)) (Rea.time (List.getD z101 (Int.toNat x5) Ty.rea.dflt)) (Rea.text (List.getD z101 (Int.toNat x5) Ty.rea.dflt)) (Val.mk (Val.kind (Rea.result (List.getD z101 (Int.toNat x5) Ty.rea.dflt))) (Val.n (Rea.result (List.getD z101 (Int.toNat x5) Ty.rea.dflt))) (Val.step (Rea.result (List.getD z101 (Int.toNat x5) Ty.rea.dflt))) (Val.text (Rea.result (List.getD z101 (Int.toNat x5) Ty.rea.dflt))) r3.2 (Val.columns (Rea.result (List.getD z101 (Int.toNat x5) Ty.rea.dflt))) (Val.rows (Rea.result (List.getD z101 (Int.toNat x5) Ty.rea.dflt)))))) ((fun (z100 : List Rea) => List.set z100 (Int.toNat x5) (Rea.mk (Rea.kind (List.getD z100 (Int.toNat x5) Ty.rea.dflt)) (Rea.n (List.getD z100 (Int.toNat x5) Ty.rea.dflt)) (Rea.time (List.getD z100 (Int.toNat x5) Ty.rea.dflt)) (Rea.text (List.getD z100 (Int.toNat x5) Ty.rea.dflt)) (Val.mk (Val.kind (Rea.result (List.getD z100 (Int.toNat x5) Ty.rea.dflt))) (Val.n (Rea.result (List.getD z100 (Int.toNat x5) Ty.rea.dflt))) (Val.step (Rea.result (List.getD z100 (Int.toNat x5) Ty.rea.dflt))) r2 (Val.list (Rea.result (List.getD z100 (Int.toNat x5) Ty.rea.dflt))) (Val.columns (Rea.result (List.getD z100 (Int.toNat x5) Ty.rea.dflt))) (Val.rows (Rea.result (List.getD z100 (Int.toNat x5) Ty.rea.dflt)))))) ((fun (z99 : List Rea) => List.set z99 (Int.toNat x5) (Rea.mk (Rea.kind (List.getD z99 (Int.toNat x5) Ty.rea.dflt)) (Rea.n (List.getD z99 (Int.toNat x5) Ty.rea.dflt)) (Rea.time (List.getD z99 (Int.toNat x5) Ty.rea.dflt)) (Rea.text (List.getD z99 (Int.toNat x5) Ty.rea.dflt)) (Val.mk (Val.kind (Rea.result (List.getD z99 (Int.toNat x5) Ty.rea.dflt))) (Val.n (Rea.result (List.getD z99 (Int.toNat x5) Ty.rea.dflt))) (IntKind.i64.wrap ((IntKind.i64.wrap ((IntKind.i64.wrap ((IntKind.i64.wrap ((IntKind.i64.wrap ((IntKind.i64.wrap (x1 + 1)) + 1)) + 1)) + 1)) + 1)) + 1)) (Val.text (Rea.result (List.getD z99 (Int.toNat x5) Ty.rea.dflt))) (Val.list (Rea.result (List.getD z99 (Int.toNat x5) Ty.rea.dflt))) (Val.columns (Rea.result (List.getD z99 (Int.toNat x5) Ty.rea.dflt))) (Val.rows (Rea.result (List.getD z99 (Int.toNat x5) Ty.rea.dflt)))))) ((fun (z98 : List Rea) => List.set z98 (Int.toNat x5) (Rea.mk (Rea.kind (List.getD z98 (Int.toNat x5) Ty.rea.dflt)) (Rea.n (List.getD z98 (Int.toNat x5) Ty.rea.dflt)) (Rea.time (List.getD z98 (Int.toNat x5) Ty.rea.dflt)) (Rea.text (List.getD z98 (Int.toNat x5) Ty.rea.dflt)) (Val.mk (Val.kind (Rea.result (List.getD z98 (Int.toNat x5) Ty.rea.dflt))) (IntKind.i64.wrap ((IntKind.i64.wrap ((IntKind.i64.wrap ((IntKind.i64.wrap ((IntKind.i64.wrap (x1 + 1)) + 1)) + 1)) + 1)) + 1)) (Val.step (Rea.result (List.getD z98 (Int.toNat x5) Ty.rea.dflt))) (Val.text (Rea.result (List.getD z98 (Int.toNat x5) Ty.rea.dflt))) (Val.list (Rea.result (List.getD z98 (Int.toNat x5) Ty.rea.dflt))) (Val.columns (Rea.result (List.getD z98 (Int.toNat x5) Ty.rea.dflt))) (Val.rows (Rea.result (List.getD z98 (Int.toNat x5) Ty.rea.dflt)))))) ((fun (z97 : List Rea) => List.set z97 (Int.toNat x5) (Rea.mk (Rea.kind (List.getD z97 (Int.toNat x5) Ty.rea.dflt)) (Rea.n (List.getD z97 (Int.toNat x5) Ty.rea.dflt)) (Rea.time (List.getD z97 (Int.toNat x5) Ty.rea.dflt)) (Rea.text (List.getD z97 (Int.toNat x5) Ty.rea.dflt)) (Val.mk (IntKind.i64.wrap ((IntKind.i64.wrap ((IntKind.i64.wrap ((IntKind.i64.wrap (x1 + 1)) + 1)) + 1)) + 1)) (Val.n (Rea.result (List.getD z97 (Int.toNat x5) Ty.rea.dflt))) (Val.step (Rea.result (List.getD z97 (Int.toNat x5) Ty.rea.dflt))) (Val.text (Rea.result (List.getD z97 (Int.toNat x5) Ty.rea.dflt))) (Val.list (Rea.result (List.getD z97 (Int.toNat x5) Ty.rea.dflt))) (Val.columns (Rea.result (List.getD z97 (Int.toNat x5) Ty.rea.dflt))) (Val.rows (Rea.result (List.getD z97 (Int.toNat x5) Ty.rea.dflt)))))) ((fun (z96 : List Rea) => List.set z96 (Int.toNat x5) (Rea.mk (Rea.kind (List.getD z96 (Int.toNat x5) Ty.rea.dflt)) (Rea.n (List.getD z96 (Int.toNat x5) Ty.rea.dflt)) (Rea.time (List.getD z96 (Int.toNat x5) Ty.rea.dflt)) r1 (Val.re (Rea.result (List.getD z96 (Int.toNat x5) Ty.rea.dflt))))) ((fun (z95 : List Rea) => List.set z95 (Int.toNat x5) (Rea.mk (Rea.kind (List.getD z95 (Int.toNat x5) Ty.rea.dflt)) (Rea.n (List.getD z95 (Int.toNat x5) Ty.rea.dflt)) (IntKind.i64.wrap ((IntKind.i64.wrap (x1 + 1)) + 1)) (Rea.text (List.getD z95 (Int.toNat x5) Ty.rea.dflt)) (Val.re (Rea.result (List.getD z95 (Int.toNat x5) Ty.rea.dflt))))) ((fun (z94 : List Rea) => List.set z94 (Int.toNat x5) (Rea.mk (Rea.kind (List.getD z94 (Int.toNat x5) Ty.rea.dflt)) (IntKind.i64.wrap (x1 + 1)) (Rea.time (List.getD z94 (Int.toNat x5) Ty.rea.dflt)) (Rea.text (List.getD z94 (Int.toNat x5) Ty.rea.dflt)) (Val.re (Rea.result (List.getD z94 (Int.toNat x5) Ty.rea.dflt))))) (List.set x0 (Int.toNat x5) (Rea.mk x1 (Rea.n (List.getD x0 (Int.toNat x5) Ty.rea.dflt)) (Rea.time (List.getD x0 (Int.toNat x5) Ty.rea.dflt)) (Rea.text (List.getD x0 (Int.toNat x5) Ty.rea.dflt)) (Val.re (Rea.result (List.getD x0 (Int.toNat x5) Ty.rea.dflt))))))))))))))) then
      Option.bind (xCN N (Val.rows (Rea.result (List.getD ((fun (z102 : List Rea) => List.set z102 (Int.toNat x5) (Rea.mk (Rea.kind (List.getD z102 (Int.toNat x5) Ty.rea.dflt)) (Rea.n (List.getD z102 (Int.toNat x5) Ty.rea.dflt)) (Rea.time (List.getD z102 (Int.toNat x5) Ty.rea.dflt)) (Rea.text (List.getD z102 (Int.toNat x5) Ty.rea.dflt)) (Val.mk (Val.kind (Rea.result (List.getD z102 (Int.toNat x5) Ty.rea.dflt))) (Val.n (Rea.result (List.getD z102 (Int.toNat x5) Ty.rea.dflt))) (Val.step (Rea.result (List.getD z102 (Int.toNat x5) Ty.rea.dflt))) (Val.text (Rea.result (List.getD z102 (Int.toNat x5) Ty.rea.dflt))) (Val.list (Rea.result (List.getD z102 (Int.toNat x5) Ty.rea.dflt))) r4.2 (Val.rows (Rea.result (List.getD z102 (Int.toNat x5) Ty.rea.dflt)))))) ((fun (z101 : List Rea) => List.set z101 (Int.toNat x5) (Rea.mk (Rea.kind (List.getD z101 (Int.toNat x5) Ty.rea.dflt)) (Rea.n (List.getD z101 (Int.toNat x5) Ty.rea.dflt)) (Rea.time (List.getD z101 (Int.toNat x5) Ty.rea.dflt)) (Rea.text (List.getD z101 (Int.toNat x5) Ty.rea.dflt)) (Val.mk (Val.kind (Rea.result (List.getD z101 (Int.toNat x5) Ty.rea.dflt))) (Val.n (Rea.result (List.getD z101 (Int.toNat x5) Ty.rea.dflt))) (Val.step (Rea.result (List.getD z101 (Int.toNat x5) Ty.rea.dflt))) (Val.text (Rea.result (List.getD z101 (Int.toNat x5) Ty.rea.dflt))) r3.2 (Val.columns (Rea.result (List.getD z101 (Int.toNat x5) Ty.rea.dflt))) (Val.rows (Rea.result (List.getD z101 (Int.toNat x5) Ty.rea.dflt)))))) ((fun (z100 : List Rea) => List.set z100 (Int.toNat x5) (Rea.mk (Rea.kind (List.getD z100 (Int.toNat x5) Ty.rea.dflt)) (Rea.n (List.getD z100 (Int.toNat x5) Ty.rea.dflt)) (Rea.time (List.getD z100 (Int.toNat x5) Ty.rea.dflt)) (Rea.text (List.getD z100 (Int.toNat x5) Ty.rea.dflt)) (Val.mk (Val.kind (Rea.result (List.getD z100 (Int.toNat x5) Ty.rea.dflt))) (Val.n (Rea.result (List.getD z100 (Int.toNat x5) Ty.rea.dflt))) (Val.step (Rea.result (List.getD z100 (Int.toNat x5) Ty.rea.dflt))) r2 (Val.list (Rea.result (List.getD z100 (Int.toNat x5) Ty.rea.dflt))) (Val.columns (Rea.result (List.getD z100 (Int.toNat x5) Ty.rea.dflt))) (Val.rows (Rea.result (List.getD z100 (Int.toNat x5) Ty.rea.dflt)))))) ((fun (z99 : List Rea) => List.set z99 (Int.toNat x5) (Rea.mk (Rea.kind (List.getD z99 (Int.toNat x5) Ty.rea.dflt)) (Rea.n (List.getD z99 (Int.toNat x5) Ty.rea.dflt)) (Rea.time (List.getD z99 (Int.toNat x5) Ty.rea.dflt)) (Rea.text (List.getD z99 (Int.toNat x5) Ty.rea.dflt)) (Val.mk (Val.kind (Rea.result (List.getD z99 (Int.toNat x5) Ty.rea.dflt))) (Val.n (Rea.result (List.getD z99 (Int.toNat x5) Ty.rea.dflt))) (IntKind.i64.wrap ((IntKind.i64.wrap ((IntKind.i64.wrap ((IntKind.i64.wrap ((IntKind.i64.wrap ((IntKind.i64.wrap (x1 + 1)) + 1)) + 1)) + 1)) + 1)) + 1)) (Val.text (Rea.result (List.getD z99 (Int.toNat x5) Ty.rea.dflt))) (Val.list (Rea.result (List.getD z99 (Int.toNat x5) Ty.rea.dflt))) (Val.columns (Rea.result (List.getD z99 (Int.toNat x5) Ty.rea.dflt))) (Val.rows (Rea.result (List.getD z99 (Int.toNat x5) Ty.rea.dflt)))))) ((fun (z98 : List Rea) => List.set z98 (Int.toNat x5) (Rea.mk (Rea.kind (List.getD z98 (Int.toNat x5) Ty.rea.dflt)) (Rea.n (List.getD z98 (Int.toNat x5) Ty.rea.dflt)) (Rea.time (List.getD z98 (Int.toNat x5) Ty.rea.dflt)) (Rea.text (List.getD z98 (Int.toNat x5) Ty.rea.dflt)) (Val.mk (Val.kind (Rea.result (List.getD z98 (Int.toNat x5) Ty.rea.dflt))) (IntKind.i64.wrap ((IntKind.i64.wrap ((IntKind.i64.wrap ((IntKind.i64.wrap ((IntKind.i64.wrap (x1 + 1)) + 1)) + 1)) + 1)) + 1)) (Val.step (Rea.result (List.getD z98 (Int.toNat x5) Ty.rea.dflt))) (Val.text (Rea.result (List.getD z98 (Int.toNat x5) Ty.rea.dflt))) (Val.list (Rea.result (List.getD z98 (Int.toNat x5) Ty.rea.dflt))) (Val.columns (Rea.result (List.getD z98 (Int.toNat x5) Ty.rea.dflt))) (Val.rows (Rea.result (List.getD z98 (Int.toNat x5) Ty.rea.dflt)))))) ((fun (z97 : List Rea) => List.set z97 (Int.toNat x5) (Rea.mk (Rea.kind (List.getD z97 (Int.toNat x5) Ty.rea.dflt)) (Rea.n (List.getD z97 (Int.toNat x5) Ty.rea.dflt)) (Rea.time (List.getD z97 (Int.toNat x5) Ty.rea.dflt)) (Rea.text (List.getD z97 (Int.toNat x5) Ty.rea.dflt)) (Val.mk (IntKind.i64.wrap ((IntKind.i64.wrap ((IntKind.i64.wrap ((IntKind.i64.wrap (x1 + 1)) + 1)) + 1)) + 1)) (Val.n (Rea.result (List.getD z97 (Int.toNat x5) Ty.rea.dflt))) (Val.step (Rea.result (List.getD z97 (Int.toNat x5) Ty.rea.dflt))) (Val.text (Rea.result (List.getD z97 (Int.toNat x5) Ty.rea.dflt))) (Val.list (Rea.result (List.getD z97 (Int.toNat x5) Ty.rea.dflt))) (Val.columns (Rea.result (List.getD z97 (Int.toNat x5) Ty.rea.dflt))) (Val.rows (Rea.result (List.getD z97 (Int.toNat x5) Ty.rea.dflt)))))) ((fun (z96 : List Rea) => List.set z96 (Int.toNat x5) (Rea.mk (Rea.kind (List.getD z96 (Int.toNat x5) Ty.rea.dflt)) (Rea.n (List.getD z96 (Int.toNat x5) Ty.rea.dflt)) (Rea.time (List.getD z96 (Int.toNat x5) Ty.rea.dflt)) r1 (Val.re (Rea.result (List.getD z96 (Int.toNat x5) Ty.rea.dflt))))) ((fun (z95 : List Rea) => List.set z95 (Int.toNat x5) (Rea.mk (Rea.kind (List.getD z95 (Int.toNat x5) Ty.rea.dflt)) (Rea.n (List.getD z95 (Int.toNat x5) Ty.rea.dflt)) (IntKind.i64.wrap ((IntKind.i64.wrap (x1 + 1)) + 1)) (Rea.text (List.getD z95 (Int.toNat x5) Ty.rea.dflt)) (Val.re (Rea.result (List.getD z95 (Int.toNat x5) Ty.rea.dflt))))) ((fun (z94 : List Rea) => List.set z94 (Int.toNat x5) (Rea.mk (Rea.kind (List.getD z94 (Int.toNat x5) Ty.rea.dflt)) (IntKind.i64.wrap (x1 + 1)) (Rea.time (List.getD z94 (Int.toNat x5) Ty.rea.dflt)) (Rea.text (List.getD z94 (Int.toNat x5) Ty.rea.dflt)) (Val.re (Rea.result (List.getD z94 (Int.toNat x5) Ty.rea.dflt))))) (List.set x0 (Int.toNat x5) (Rea.mk x1 (Rea.n (List.getD x0 (Int.toNat x5) Ty.rea.dflt)) (Rea.time (List.getD x0 (Int.toNat x5) Ty.rea.dflt)) (Rea.text (List.getD x0 (Int.toNat x5) Ty.rea.dflt)) (Val.re (Rea.result (List.getD x0 (Int.toNat x5) Ty.rea.dflt)))))))))))))) (Int.toNat x5) Ty.rea.dflt))) r4.1) fun r5 =>
      if List.length r5.2 = List.length (Val.rows (Rea.result (List.getD ((fun (z102 : List Rea) => List.set z102 (Int.toNat x5) (Rea.mk (Rea.kind (List.getD z102 (Int.toNat x5) Ty.rea.dflt)) (Rea.n (List.getD z102 (Int.toNat x5) Ty.rea.dflt)) (Rea.time (List.getD z102 (Int.toNat x5) Ty.rea.dflt)) (Rea.text (List.getD z102 (Int.toNat x5) Ty.rea.dflt)) (Val.mk (Val.kind (Rea.result (List.getD z102 (Int.toNat x5) Ty.rea.dflt))) (Val.n (Rea.result (List.getD z102 (Int.toNat x5) Ty.rea.dflt))) (Val.step (Rea.result (List.getD z102 (Int.toNat x5) Ty.rea.dflt))) (Val.text (Rea.result (List.getD z102 (Int.toNat x5) Ty.rea.dflt))) (Val.list (Rea.result (List.getD z102 (Int.toNat x5) Ty.rea.dflt))) r4.2 (Val.rows (Rea.result (List.getD z102 (Int.toNat x5) Ty.rea.dflt)))))) ((fun (z101 : List Rea) => List.set z101 (Int.toNat x5) (Rea.mk (Rea.kind (List.getD z101 (Int.toNat x5) Ty.rea.dflt)) (Rea.n (List.getD z101 (Int.toNat x5) Ty.rea.dflt)) (Rea.time (List.getD z101 (Int.toNat x5) Ty.rea.dflt)) (Rea.text (List.getD z101 (Int.toNat x5) Ty.rea.dflt)) (Val.mk (Val.kind (Rea.result (List.getD z101 (Int.toNat x5) Ty.rea.dflt))) (Val.n (Rea.result (List.getD z101 (Int.toNat x5) Ty.rea.dflt))) (Val.step (Rea.result (List.getD z101 (Int.toNat x5) Ty.rea.dflt))) (Val.text (Rea.result (List.getD z101 (Int.toNat x5) Ty.rea.dflt))) r3.2 (Val.columns (Rea.result (List.getD z101 (Int.toNat x5) Ty.rea.dflt))) (Val.rows (Rea.result (List.getD z101 (Int.toNat x5) Ty.rea.dflt)))))) ((fun (z100 : List Rea) => List.set z100 (Int.toNat x5) (Rea.mk (Rea.kind (List.getD z100 (Int.toNat x5) Ty.rea.dflt)) (Rea.n (List.getD z100 (Int.toNat x5) Ty.rea.dflt)) (Rea.time (List.getD z100 (Int.toNat x5) Ty.rea.dflt)) (Rea.text (List.getD z100 (Int.toNat x5) Ty.rea.dflt)) (Val.mk (Val.kind (Rea.result (List.getD z100 (Int.toNat x5) Ty.rea.dflt))) (Val.n (Rea.result (List.getD z100 (Int.toNat x5) Ty.rea.dflt))) (Val.step (Rea.result (List.getD z100 (Int.toNat x5) Ty.rea.dflt))) r2 (Val.list (Rea.result (List.getD z100 (Int.toNat x5) Ty.rea.dflt))) (Val.columns (Rea.result (List.getD z100 (Int.toNat x5) Ty.rea.dflt))) (Val.rows (Rea.result (List.getD z100 (Int.toNat x5) Ty.rea.dflt)))))) ((fun (z99 : List Rea) => List.set z99 (Int.toNat x5) (Rea.mk (Rea.kind (List.getD z99 (Int.toNat x5) Ty.rea.dflt)) (Rea.n (List.getD z99 (Int.toNat x5) Ty.rea.dflt)) (Rea.time (List.getD z99 (Int.toNat x5) Ty.rea.dflt)) (Rea.text (List.getD z99 (Int.toNat x5) Ty.rea.dflt)) (Val.mk (Val.kind (Rea.result (List.getD z99 (Int.toNat x5) Ty.rea.dflt))) (Val.n (Rea.result (List.getD z99 (Int.toNat x5) Ty.rea.dflt))) (IntKind.i64.wrap ((IntKind.i64.wrap ((IntKind.i64.wrap ((IntKind.i64.wrap ((IntKind.i64.wrap ((IntKind.i64.wrap (x1 + 1)) + 1)) + 1)) + 1)) + 1)) + 1)) (Val.text (Rea.result (List.getD z99 (Int.toNat x5) Ty.rea.dflt))) (Val.list (Rea.result (List.getD z99 (Int.toNat x5) Ty.rea.dflt))) (Val.columns (Rea.result (List.getD z99 (Int.toNat x5) Ty.rea.dflt))) (Val.rows (Rea.result (List.getD z99 (Int.toNat x5) Ty.rea.dflt)))))) ((fun (z98 : List Rea) => List.set z98 (Int.toNat x5) (Rea.mk (Rea.kind (List.getD z98 (Int.toNat x5) Ty.rea.dflt)) (Rea.n (List.getD z98 (Int.toNat x5) Ty.rea.dflt)) (Rea.time (List.getD z98 (Int.toNat x5) Ty.rea.dflt)) (Rea.text (List.getD z98 (Int.toNat x5) Ty.rea.dflt)) (Val.mk (Val.kind (Rea.result (List.getD z98 (Int.toNat x5) Ty.rea.dflt))) (IntKind.i64.wrap ((IntKind.i64.wrap ((IntKind.i64.wrap ((IntKind.i64.wrap ((IntKind.i64.wrap (x1 + 1)) + 1)) + 1)) + 1)) + 1)) (Val.step (Rea.result (List.getD z98 (Int.toNat x5) Ty.rea.dflt))) (Val.text (Rea.result (List.getD z98 (Int.toNat x5) Ty.rea.dflt))) (Val.list (Rea.result (List.getD z98 (Int.toNat x5) Ty.rea.dflt))) (Val.columns (Rea.result (List.getD z98 (Int.toNat x5) Ty.rea.dflt))) (Val.rows (Rea.result (List.getD z98 (Int.toNat x5) Ty.rea.dflt)))))) ((fun (z97 : List Rea) => List.set z97 (Int.toNat x5) (Rea.mk (Rea.kind (List.getD z97 (Int.toNat x5) Ty.rea.dflt)) (Rea.n (List.getD z97 (Int.toNat x5) Ty.rea.dflt)) (Rea.time (List.getD z97 (Int.toNat x5) Ty.rea.dflt)) (Rea.text (List.getD z97 (Int.toNat x5) Ty.rea.dflt)) (Val.mk (IntKind.i64.wrap ((IntKind.i64.wrap ((IntKind.i64.wrap ((IntKind.i64.wrap (x1 + 1)) + 1)) + 1)) + 1)) (Val.n (Rea.result (List.getD z97 (Int.toNat x5) Ty.rea.dflt))) (Val.step (Rea.result (List.getD z97 (Int.toNat x5) Ty.rea.dflt))) (Val.text (Rea.result (List.getD z97 (Int.toNat x5) Ty.rea.dflt))) (Val.list (Rea.result (List.getD z97 (Int.toNat x5) Ty.rea.dflt))) (Val.columns (Rea.result (List.getD z97 (Int.toNat x5) Ty.rea.dflt))) (Val.rows (Rea.result (List.getD z97 (Int.toNat x5) Ty.rea.dflt)))))) ((fun (z96 : List Rea) => List.set z96 (Int.toNat x5) (Rea.mk (Rea.kind (List.getD z96 (Int.toNat x5) Ty.rea.dflt)) (Rea.n (List.getD z96 (Int.toNat x5) Ty.rea.dflt)) (Rea.time (List.getD z96 (Int.toNat x5) Ty.rea.dflt)) r1 (Val.re (Rea.result (List.getD z96 (Int.toNat x5) Ty.rea.dflt))))) ((fun (z95 : List Rea) => List.set z95 (Int.toNat x5) (Rea.mk (Rea.kind (List.getD z95 (Int.toNat x5) Ty.rea.dflt)) (Rea.n (List.getD z95 (Int.toNat x5) Ty.rea.dflt)) (IntKind.i64.wrap ((IntKind.i64.wrap (x1 + 1)) + 1)) (Rea.text (List.getD z95 (Int.toNat x5) Ty.rea.dflt)) (Val.re (Rea.result (List.getD z95 (Int.toNat x5) Ty.rea.dflt))))) ((fun (z94 : List Rea) => List.set z94 (Int.toNat x5) (Rea.mk (Rea.kind (List.getD z94 (Int.toNat x5) Ty.rea.dflt)) (IntKind.i64.wrap (x1 + 1)) (Rea.time (List.getD z94 (Int.toNat x5) Ty.rea.dflt)) (Rea.text (List.getD z94 (Int.toNat x5) Ty.rea.dflt)) (Val.re (Rea.result (List.getD z94 (Int.toNat x5) Ty.rea.dflt))))) (List.set x0 (Int.toNat x5) (Rea.mk x1 (Rea.n (List.getD x0 (Int.toNat x5) Ty.rea.dflt)) (Rea.time (List.getD x0 (Int.toNat x5) Ty.rea.dflt)) (Rea.text (List.getD x0 (Int.toNat x5) Ty.rea.dflt)) (Val.re (Rea.result (List.getD x0 (Int.toNat x5) Ty.rea.dflt)))))))))))))) (Int.toNat x5) Ty.rea.dflt))) then
      (xBY N n ((fun (z103 : List Rea) => List.set z103 (Int.toNat x5) (Rea.mk (Rea.kind (List.getD z103 (Int.toNat x5) Ty.rea.dflt)) (Rea.n (List.getD z103 (Int.toNat x5) Ty.rea.dflt)) (Rea.time (List.getD z103 (Int.toNat x5) Ty.rea.dflt)) (Rea.text (List.getD z103 (Int.toNat x5) Ty.rea.dflt)) (Val.mk (Val.kind (Rea.result (List.getD z103 (Int.toNat x5) Ty.rea.dflt))) (Val.n (Rea.result (List.getD z103 (Int.toNat x5) Ty.rea.dflt))) (Val.step (Rea.result (List.getD z103 (Int.toNat x5) Ty.rea.dflt))) (Val.text (Rea.result (List.getD z103 (Int.toNat x5) Ty.rea.dflt))) (Val.list (Rea.result (List.getD z103 (Int.toNat x5) Ty.rea.dflt))) (Val.columns (Rea.result (List.getD z103 (Int.toNat x5) Ty.rea.dflt))) r5.2))) ((fun (z102 : List Rea) => List.set z102 (Int.toNat x5) (Rea.mk (Rea.kind (List.getD z102 (Int.toNat x5) Ty.rea.dflt)) (Rea.n (List.getD z102 (Int.toNat x5) Ty.rea.dflt)) (Rea.time (List.getD z102 (Int.toNat x5) Ty.rea.dflt)) (Rea.text (List.getD z102 (Int.toNat x5) Ty.rea.dflt)) (Val.mk (Val.kind (Rea.result (List.getD z102 (Int.toNat x5) Ty.rea.dflt))) (Val.n (Rea.result (List.getD z102 (Int.toNat x5) Ty.rea.dflt))) (Val.step (Rea.result (List.getD z102 (Int.toNat x5) Ty.rea.dflt))) (Val.text (Rea.result (List.getD z102 (Int.toNat x5) Ty.rea.dflt))) (Val.list (Rea.result (List.getD z102 (Int.toNat x5) Ty.rea.dflt))) r4.2 (Val.rows (Rea.result (List.getD z102 (Int.toNat x5) Ty.rea.dflt)))))) ((fun (z101 : List Rea) => List.set z101 (Int.toNat x5) (Rea.mk (Rea.kind (List.getD z101 (Int.toNat x5) Ty.rea.dflt)) (Rea.n (List.getD z101 (Int.toNat x5) Ty.rea.dflt)) (Rea.time (List.getD z101 (Int.toNat x5) Ty.rea.dflt)) (Rea.text (List.getD z101 (Int.toNat x5) Ty.rea.dflt)) (Val.mk (Val.kind (Rea.result (List.getD z101 (Int.toNat x5) Ty.rea.dflt))) (Val.n (Rea.result (List.getD z101 (Int.toNat x5) Ty.rea.dflt))) (Val.step (Rea.result (List.getD z101 (Int.toNat x5) Ty.rea.dflt))) (Val.text (Rea.result (List.getD z101 (Int.toNat x5) Ty.rea.dflt))) r3.2 (Val.columns (Rea.result (List.getD z101 (Int.toNat x5) Ty.rea.dflt))) (Val.rows (Rea.result (List.getD z101 (Int.toNat x5) Ty.rea.dflt)))))) ((fun (z100 : List Rea) => List.set z100 (Int.toNat x5) (Rea.mk (Rea.kind (List.getD z100 (Int.toNat x5) Ty.rea.dflt)) (Rea.n (List.getD z100 (Int.toNat x5) Ty.rea.dflt)) (Rea.time (List.getD z100 (Int.toNat x5) Ty.rea.dflt)) (Rea.text (List.getD z100 (Int.toNat x5) Ty.rea.dflt)) (Val.mk (Val.kind (Rea.result (List.getD z100 (Int.toNat x5) Ty.rea.dflt))) (Val.n (Rea.result (List.getD z100 (Int.toNat x5) Ty.rea.dflt))) (Val.step (Rea.result (List.getD z100 (Int.toNat x5) Ty.rea.dflt))) r2 (Val.list (Rea.result (List.getD z100 (Int.toNat x5) Ty.rea.dflt))) (Val.columns (Rea.result (List.getD z100 (Int.toNat x5) Ty.rea.dflt))) (Val.rows (Rea.result (List.getD z100 (Int.toNat x5) Ty.rea.dflt)))))) ((fun (z99 : List Rea) => List.set z99 (Int.toNat x5) (Rea.mk (Rea.kind (List.getD z99 (Int.toNat x5) Ty.rea.dflt)) (Rea.n (List.getD z99 (Int.toNat x5) Ty.rea.dflt)) (Rea.time (List.getD z99 (Int.toNat x5) Ty.rea.dflt)) (Rea.text (List.getD z99 (Int.toNat x5) Ty.rea.dflt)) (Val.mk (Val.kind (Rea.result (List.getD z99 (Int.toNat x5) Ty.rea.dflt))) (Val.n (Rea.result (List.getD z99 (Int.toNat x5) Ty.rea.dflt))) (IntKind.i64.wrap ((IntKind.i64.wrap ((IntKind.i64.wrap ((IntKind.i64.wrap ((IntKind.i64.wrap ((IntKind.i64.wrap (x1 + 1)) + 1)) + 1)) + 1)) + 1)) + 1)) (Val.text (Rea.result (List.getD z99 (Int.toNat x5) Ty.rea.dflt))) (Val.list (Rea.result (List.getD z99 (Int.toNat x5) Ty.rea.dflt))) (Val.columns (Rea.result (List.getD z99 (Int.toNat x5) Ty.rea.dflt))) (Val.rows (Rea.result (List.getD z99 (Int.toNat x5) Ty.rea.dflt)))))) ((fun (z98 : List Rea) => List.set z98 (Int.toNat x5) (Rea.mk (Rea.kind (List.getD z98 (Int.toNat x5) Ty.rea.dflt)) (Rea.n (List.getD z98 (Int.toNat x5) Ty.rea.dflt)) (Rea.time (List.getD z98 (Int.toNat x5) Ty.rea.dflt)) (Rea.text (List.getD z98 (Int.toNat x5) Ty.rea.dflt)) (Val.mk (Val.kind (Rea.result (List.getD z98 (Int.toNat x5) Ty.rea.dflt))) (IntKind.i64.wrap ((IntKind.i64.wrap ((IntKind.i64.wrap ((IntKind.i64.wrap ((IntKind.i64.wrap (x1 + 1)) + 1)) + 1)) + 1)) + 1)) (Val.step (Rea.result (List.getD z98 (Int.toNat x5) Ty.rea.dflt))) (Val.text (Rea.result (List.getD z98 (Int.toNat x5) Ty.rea.dflt))) (Val.list (Rea.result (List.getD z98 (Int.toNat x5) Ty.rea.dflt))) (Val.columns (Rea.result (List.getD z98 (Int.toNat x5) Ty.rea.dflt))) (Val.rows (Rea.result (List.getD z98 (Int.toNat x5) Ty.rea.dflt)))))) ((fun (z97 : List Rea) => List.set z97 (Int.toNat x5) (Rea.mk (Rea.kind (List.getD z97 (Int.toNat x5) Ty.rea.dflt)) (Rea.n (List.getD z97 (Int.toNat x5) Ty.rea.dflt)) (Rea.time (List.getD z97 (Int.toNat x5) Ty.rea.dflt)) (Rea.text (List.getD z97 (Int.toNat x5) Ty.rea.dflt)) (Val.mk (IntKind.i64.wrap ((IntKind.i64.wrap ((IntKind.i64.wrap ((IntKind.i64.wrap (x1 + 1)) + 1)) + 1)) + 1)) (Val.n (Rea.result (List.getD z97 (Int.toNat x5) Ty.rea.dflt))) (Val.step (Rea.result (List.getD z97 (Int.toNat x5) Ty.rea.dflt))) (Val.text (Rea.result (List.getD z97 (Int.toNat x5) Ty.rea.dflt))) (Val.list (Rea.result (List.getD z97 (Int.toNat x5) Ty.rea.dflt))) (Val.columns (Rea.result (List.getD z97 (Int.toNat x5) Ty.rea.dflt))) (Val.rows (Rea.result (List.getD z97 (Int.toNat x5) Ty.rea.dflt)))))) ((fun (z96 : List Rea) => List.set z96 (Int.toNat x5) (Rea.mk (Rea.kind (List.getD z96 (Int.toNat x5) Ty.rea.dflt)) (Rea.n (List.getD z96 (Int.toNat x5) Ty.rea.dflt)) (Rea.time (List.getD z96 (Int.toNat x5) Ty.rea.dflt)) r1 (Val.re (Rea.result (List.getD z96 (Int.toNat x5) Ty.rea.dflt))))) ((fun (z95 : List Rea) => List.set z95 (Int.toNat x5) (Rea.mk (Rea.kind (List.getD z95 (Int.toNat x5) Ty.rea.dflt)) (Rea.n (List.getD z95 (Int.toNat x5) Ty.rea.dflt)) (IntKind.i64.wrap ((IntKind.i64.wrap (x1 + 1)) + 1)) (Rea.text (List.getD z95 (Int.toNat x5) Ty.rea.dflt)) (Val.re (Rea.result (List.getD z95 (Int.toNat x5) Ty.rea.dflt))))) ((fun (z94 : List Rea) => List.set z94 (Int.toNat x5) (Rea.mk (Rea.kind (List.getD z94 (Int.toNat x5) Ty.rea.dflt)) (IntKind.i64.wrap (x1 + 1)) (Rea.time (List.getD z94 (Int.toNat x5) Ty.rea.dflt)) (Rea.text (List.getD z94 (Int.toNat x5) Ty.rea.dflt)) (Val.re (Rea.result (List.getD z94 (Int.toNat x5) Ty.rea.dflt))))) (List.set x0 (Int.toNat x5) (Rea.mk x1 (Rea.n (List.getD x0 (Int.toNat x5) Ty.rea.dflt)) (Rea.time (List.getD x0 (Int.toNat x5) Ty.rea.dflt)) (Rea.text (List.getD x0 (Int.toNat x5) Ty.rea.dflt)) (Val.re (Rea.result (List.getD x0 (Int.toNat x5) Ty.rea.dflt))))))))))))))) r5.1 (IntKind.i64.wrap (x5 + 1)))
      else none
      else none
      else none
      else none
      else none
      else none
      else none
      else none
      else none
      else none
      else none
      else none
      else none
      else none
    ) else (
      some (x1, x0)
    )
def xDq (N : Nat) (a0 : List Rea) (a1 : Int) : Option (Int × (List Rea)) :=
  (xBY N N a0 a1 0)
def xAZ (a0 : Val) (a1 : Int) : List Arg := [.val (.v true [.int .i64 (Val.kind a0), .int .i64 (Val.n a0), .int .i64 (Val.step a0), .str (Val.text a0), .sl (.lnt 0) .val (Val.list a0), .sl (.lnt 1) .str (Val.columns a0), .sl (.lnt 2) .row (Val.rows a0)]), .val (.v false [.int .i64 a1])]
def xAz (r : Int × (List Val) × (List Str) × (List Rowd)) : CallO := ⟨.v false [.int .i64 r.1], [], [.sl (.lnt 0) .val r.2.1, .sl (.lnt 1) .str r.2.2.1, .sl (.lnt 2) .row r.2.2.2]⟩
def xCn (N : Nat) (a0 : Val) (a1 : Int) : Option (Int × (List Val) × (List Str) × (List Rowd)) :=
  Option.bind (xCu N (Val.list a0) a1) fun r1 =>
  if List.length r1.2 = List.length (Val.list a0) then
  Option.bind (xCg N (Val.columns a0) r1.1) fun r2 =>
  if List.length r2.2 = List.length (Val.columns a0) then
  Option.bind (xCN N (Val.rows a0) r2.1) fun r3 =>
  if List.length r3.2 = List.length (Val.rows a0) then
  some (r3.1, r1.2, r2.2, r3.2)
  else none
  else none
  else none
def xAY (a0 : Rea) (a1 : Int) : List Arg := [.val (.v true [.int .i64 (Rea.kind a0), .int .i64 (Rea.n a0), .int .i64 (Rea.time a0), .str (Rea.text a0), .int .i64 (Val.kind (Rea.result a0)), .int .i64 (Val.n (Rea.result a0)), .int .i64 (Val.step (Rea.result a0)), .str (Val.text (Rea.result a0)), .sl (.lnt 0) .val (Val.list (Rea.result a0)), .sl (.lnt 1) .str (Val.columns (Rea.result a0)), .sl (.lnt 2) .row (Val.rows (Rea.result a0))]), .val (.v false [.int .i64 a1])]
def xAx (r : Int × (List Val) × (List Str) × (List Rowd)) : CallO := ⟨.v false [.int .i64 r.1], [], [.sl (.lnt 0) .val r.2.1, .sl (.lnt 1) .str r.2.2.1, .sl (.lnt 2) .row r.2.2.2]⟩
def xDI (N : Nat) (a0 : Rea) (a1 : Int) : Option (Int × (List Val) × (List Str) × (List Rowd)) :=
  Option.bind (xCn N (Rea.result a0) a1) fun r1 =>
  if List.length r1.2.1 = List.length (Val.list (Rea.result a0)) then
  if List.length r1.2.2.1 = List.length (Val.columns (Rea.result a0)) then
  if List.length r1.2.2.2 = List.length (Val.rows (Rea.result a0)) then
  some (r1.1, r1.2.1, r1.2.2.1, r1.2.2.2)
  else none
  else none
  else none
def xA2 (a0 : List Str) (a1 : Int) : List Arg := [.val (.v false [.sl .ro .str a0]), .val (.v false [.int .i64 a1])]
def xAv (r : Int) : CallO := ⟨.v false [.int .i64 r], [], []⟩
def xBB (N : Nat) : Nat → (List Str) → Int → Int → Option (Int)
  | 0, _, _, _ => none
  | n + 1, x0, x1, x5 =>
    bif (decide ((x5 : Int) < (List.length x0 : Int))) then (
      if (0 : Int) ≤ x5 ∧ x5 < (List.length x0) then
      Option.bind (xBI N x1) fun r1 =>
      bif (!(((List.getD x0 (Int.toNat x5) Ty.str.dflt) : Str) == r1)) then (
        some (-1)
      ) else (
        (xBB N n x0 (IntKind.i64.wrap (x1 + 1)) (IntKind.i64.wrap (x5 + 1)))
      )
      else none
    ) else (
      some x1
    )
def xCA (N : Nat) (a0 : List Str) (a1 : Int) : Option (Int) :=
  (xBB N N a0 a1 0)
def xB9 (a0 : List Int) (a1 : Int) : List Arg := [.val (.v false [.sl .ro .int a0]), .val (.v false [.int .i64 a1])]
def xA3 (r : Int) : CallO := ⟨.v false [.int .i64 r], [], []⟩
def xCa (N : Nat) : Nat → (List Int) → Int → Int → Option (Int)
  | 0, _, _, _ => none
  | n + 1, x0, x1, x5 =>
    bif (decide ((x5 : Int) < (List.length x0 : Int))) then (
      if (0 : Int) ≤ x5 ∧ x5 < (List.length x0) then
      bif (((List.getD x0 (Int.toNat x5) Ty.int.dflt) : Int) != x1) then (
        some (-1)
      ) else (
        (xCa N n x0 (IntKind.i64.wrap (x1 + 1)) (IntKind.i64.wrap (x5 + 1)))
      )
      else none
    ) else (
      some x1
    )
def xDG (N : Nat) (a0 : List Int) (a1 : Int) : Option (Int) :=
  (xCa N N a0 a1 0)
def xB3 (a0 : List Org) (a1 : Int) : List Arg := [.val (.v false [.sl .ro .org a0]), .val (.v false [.int .i64 a1])]
def xAW (r : Int) : CallO := ⟨.v false [.int .i64 r], [], []⟩
def xBA (N : Nat) : Nat → (List Org) → Int → Int → Option (Int)
  | 0, _, _, _ => none
  | n + 1, x0, x1, x5 =>
    bif (decide ((x5 : Int) < (List.length x0 : Int))) then (
      if (0 : Int) ≤ x5 ∧ x5 < (List.length x0) then
      bif (((Org.cell (List.getD x0 (Int.toNat x5) Ty.org.dflt)) : Int) != x1) then (
        some (-1)
      ) else (
        bif (((Org.row (List.getD x0 (Int.toNat x5) Ty.org.dflt)) : Int) != (IntKind.i64.wrap (x1 + 1))) then (
          some (-1)
        ) else (
          (xBA N n x0 (IntKind.i64.wrap ((IntKind.i64.wrap (x1 + 1)) + 1)) (IntKind.i64.wrap (x5 + 1)))
        )
      )
      else none
    ) else (
      some x1
    )
def xCZ (N : Nat) (a0 : List Org) (a1 : Int) : Option (Int) :=
  (xBA N N a0 a1 0)
def xBP (a0 : List Rowd) (a1 : Int) : List Arg := [.val (.v false [.sl .ro .row a0]), .val (.v false [.int .i64 a1])]
def xAN (r : Int) : CallO := ⟨.v false [.int .i64 r], [], []⟩
def xCb (N : Nat) : Nat → (List Rowd) → Int → Int → Option (Int)
  | 0, _, _, _ => none
  | n + 1, x0, x1, x5 =>
    bif (decide ((x5 : Int) < (List.length x0 : Int))) then (
      if (0 : Int) ≤ x5 ∧ x5 < (List.length x0) then
      Option.bind (xDG N (Rowd.cells (List.getD x0 (Int.toNat x5) Ty.row.dflt)) x1) fun r1 =>
      bif (decide ((r1 : Int) < 0)) then (
        some (-1)
      ) else (
        Option.bind (xCZ N (Rowd.frm (List.getD x0 (Int.toNat x5) Ty.row.dflt)) r1) fun r2 =>
        bif (decide ((r2 : Int) < 0)) then (
          some (-1)
        ) else (
          (xCb N n x0 r2 (IntKind.i64.wrap (x5 + 1)))
        )
      )
      else none
    ) else (
      some x1
    )
def xDc (N : Nat) (a0 : List Rowd) (a1 : Int) : Option (Int) :=
  (xCb N N a0 a1 0)
def xAJ (a0 : List Val) (a1 : Int) : List Arg := [.val (.v false [.sl .ro .val a0]), .val (.v false [.int .i64 a1])]
def xAj (r : Int) : CallO := ⟨.v false [.int .i64 r], [], []⟩
def xBL (N : Nat) (q0 : (List Val) → Int → Option (Int)) : Nat → (List Val) → Int → Int → Option (Int)
  | 0, _, _, _ => none
  | n + 1, x0, x1, x5 =>
    bif (decide ((x5 : Int) < (List.length x0 : Int))) then (
      if (0 : Int) ≤ x5 ∧ x5 < (List.length x0) then
      bif (((Val.kind (List.getD x0 (Int.toNat x5) Ty.val.dflt)) : Int) != x1) then (
        some (-1)
      ) else (
        bif (((Val.n (List.getD x0 (Int.toNat x5) Ty.val.dflt)) : Int) != (IntKind.i64.wrap (x1 + 1))) then (
          some (-1)
        ) else (
          bif (((Val.step (List.getD x0 (Int.toNat x5) Ty.val.dflt)) : Int) != (IntKind.i64.wrap ((IntKind.i64.wrap (x1 + 1)) + 1))) then (
            some (-1)
          ) else (
            Option.bind (xBI N (IntKind.i64.wrap ((IntKind.i64.wrap ((IntKind.i64.wrap (x1 + 1)) + 1)) + 1))) fun r1 =>
            bif (!(((Val.text (List.getD x0 (Int.toNat x5) Ty.val.dflt)) : Str) == r1)) then (
              some (-1)
            ) else (
              Option.bind (q0 (Val.list (List.getD x0 (Int.toNat x5) Ty.val.dflt)) (IntKind.i64.wrap ((IntKind.i64.wrap ((IntKind.i64.wrap ((IntKind.i64.wrap (x1 + 1)) + 1)) + 1)) + 1))) fun r2 =>
              bif (decide ((r2 : Int) < 0)) then (
                some (-1)
              ) else (
                Option.bind (xCA N (Val.columns (List.getD x0 (Int.toNat x5) Ty.val.dflt)) r2) fun r3 =>
                bif (decide ((r3 : Int) < 0)) then (
                  some (-1)
                ) else (
                  Option.bind (xDc N (Val.rows (List.getD x0 (Int.toNat x5) Ty.val.dflt)) r3) fun r4 =>
                  bif (decide ((r4 : Int) < 0)) then (
                    some (-1)
                  ) else (
                    (xBL N q0 n x0 r4 (IntKind.i64.wrap (x5 + 1)))
                  )
                )
              )
            )
          )
        )
      )
      else none
    ) else (
      some x1
    )
def xCT (N : Nat) (q0 : (List Val) → Int → Option (Int)) (a0 : List Val) (a1 : Int) : Option (Int) :=
  (xBL N q0 N a0 a1 0)
def xB4 (N : Nat) : Nat → (List Val) → Int → Option (Int)
  | 0, _, _ => none
  | d + 1, a0, a1 => xCT N (xB4 N d) a0 a1
def xDS (N : Nat) (a0 : List Val) (a1 : Int) : Option (Int) := xB4 N N a0 a1
def xAD (a0 : Val) (a1 : Int) : List Arg := [.val (.v true [.int .i64 (Val.kind a0), .int .i64 (Val.n a0), .int .i64 (Val.step a0), .str (Val.text a0), .sl .ro .val (Val.list a0), .sl .ro .str (Val.columns a0), .sl .ro .row (Val.rows a0)]), .val (.v false [.int .i64 a1])]
def xAn (r : Int) : CallO := ⟨.v false [.int .i64 r], [], []⟩
def xCm (N : Nat) (a0 : Val) (a1 : Int) : Option (Int) :=
  Option.bind (xDS N (Val.list a0) a1) fun r1 =>
  bif (decide ((r1 : Int) < 0)) then (
    some (-1)
  ) else (
    Option.bind (xCA N (Val.columns a0) r1) fun r2 =>
    bif (decide ((r2 : Int) < 0)) then (
      some (-1)
    ) else (
      Option.bind (xDc N (Val.rows a0) r2) fun r3 =>
      bif (decide ((r3 : Int) < 0)) then (
        some (-1)
      ) else (
        some r3
      )
    )
  )
def xAq (a0 : List Rea) (a1 : Rea) : List Arg := [.val (.v false [.sl .ro .rea a0]), .val (.v true [.int .i64 (Rea.kind a1), .int .i64 (Rea.n a1), .int .i64 (Rea.time a1), .str (Rea.text a1), .int .i64 (Val.kind (Rea.result a1)), .int .i64 (Val.n (Rea.result a1)), .int .i64 (Val.step (Rea.result a1)), .str (Val.text (Rea.result a1)), .sl .ro .val (Val.list (Rea.result a1)), .sl .ro .str (Val.columns (Rea.result a1)), .sl .ro .row (Val.rows (Rea.result a1))])]
def xAr (r : Bool) : CallO := ⟨.v false [.bool r], [], []⟩
def xBu (N : Nat) (a0 : List Rea) (a1 : Rea) : Option (Bool) :=
  Option.bind (xDX N a0 1048576) fun r1 =>
  bif (decide ((r1 : Int) < 0)) then (
    some true
  ) else (
    Option.bind (xDm N a1 r1) fun r2 =>
    bif (decide ((r2 : Int) < 0)) then (
      some true
    ) else (
      Option.bind (xCw N a0) fun r3 =>
      Option.bind (xCp N a1) fun r4 =>
      Option.bind (xDM N r3 r4) fun r5 =>
      Option.bind (xCw N a0) fun r6 =>
      Option.bind (xCp N a1) fun r7 =>
      Option.bind (xC8 N r6 r7) fun r8 =>
      Option.bind (xC7 N r8.1 r5.1) fun r9 =>
      bif (!r9) then (
        some false
      ) else (
        bif (!((r8.2 : Bool) == r5.2)) then (
          some false
        ) else (
          Option.bind (xCw N a0) fun r10 =>
          Option.bind (xDy N r6 r10) fun r11 =>
          bif (!r11) then (
            some false
          ) else (
            Option.bind (xCp N a1) fun r12 =>
            Option.bind (xDk N r7 r12) fun r13 =>
            bif (!r13) then (
              some false
            ) else (
              Option.bind (xDq N r6 1) fun r14 =>
              if List.length r14.2 = List.length r6 then
              Option.bind (xDI N r7 r14.1) fun r15 =>
              if List.length r15.2.1 = List.length (Val.list (Rea.result r7)) then
              if List.length r15.2.2.1 = List.length (Val.columns (Rea.result r7)) then
              if List.length r15.2.2.2 = List.length (Val.rows (Rea.result r7)) then
              bif (decide ((r15.1 : Int) < 0)) then (
                some false
              ) else (
                Option.bind (xC7 N r8.1 r5.1) fun r16 =>
                bif (!r16) then (
                  some false
                ) else (
                  Option.bind (xCn N r8.1 1) fun r17 =>
                  if List.length r17.2.1 = List.length (Val.list r8.1) then
                  if List.length r17.2.2.1 = List.length (Val.columns r8.1) then
                  if List.length r17.2.2.2 = List.length (Val.rows r8.1) then
                  Option.bind (xCm N (Val.mk (Val.kind r8.1) (Val.n r8.1) (Val.step r8.1) (Val.text r8.1) r17.2.1 r17.2.2.1 r17.2.2.2) 1) fun r18 =>
                  bif (decide ((r18 : Int) < 0)) then (
                    some false
                  ) else (
                    bif ((r18 : Int) != r17.1) then (
                      some false
                    ) else (
                      Option.bind (xCw N a0) fun r19 =>
                      Option.bind (xCp N a1) fun r20 =>
                      Option.bind (xC8 N r19 r20) fun r21 =>
                      Option.bind (xC7 N r21.1 r5.1) fun r22 =>
                      bif (!r22) then (
                        some false
                      ) else (
                        bif (!((r21.2 : Bool) == r5.2)) then (
                          some false
                        ) else (
                          Option.bind (xCm N (Val.mk (Val.kind r8.1) (Val.n r8.1) (Val.step r8.1) (Val.text r8.1) r17.2.1 r17.2.2.1 r17.2.2.2) 1) fun r23 =>
                          bif (decide ((r23 : Int) < 0)) then (
                            some false
                          ) else (
                            bif ((r23 : Int) != r17.1) then (
                              some false
                            ) else (
                              some true
                            )
                          )
                        )
                      )
                    )
                  )
                  else none
                  else none
                  else none
                )
              )
              else none
              else none
              else none
              else none
            )
          )
        )
      )
    )
  )
end Go.Ab
end
section
open Go.Proofs
namespace Go.Ab.T
abbrev AbC (f : FuncId) (a : List Arg) (r : CallO) : Prop := AbsCalls Try.prog f a r
abbrev W (x : Int) : Int := IntKind.i64.wrap x
abbrev Ln {α : Type} (l : List α) : Nat := List.length l
abbrev tN (x : Int) : Nat := Int.toNat x
abbrev gD {α : Type} (l : List α) (i : Nat) (d : α) : α := List.getD l i d
abbrev vd : Val := Ty.val.dflt
abbrev rd : Rowd := Ty.row.dflt
end Go.Ab.T
end
section
open Go.Proofs
namespace Go.Ab.T
set_option linter.unusedVariables false
set_option maxRecDepth 100000
def tt : TT := [(3, { zero := some [.int .i64 0], ik := some .i64 }),
 (4, { zero := some [.bool false], isBool := true }),
 (5, { zero := some [.int .u8 0], ik := some .u8 }),
 (9, { zero := some [.str []], isStr := true }),
 (22, { zero := some [.sl .own .val []], elem := some (26, .val) }),
 (23, { zero := some [.sl .own .str []], elem := some (9, .str) }),
 (24, { zero := some [.sl .own .row []], elem := some (133, .row) }),
 (26, { sz := 7, agg := true, zero := some [.int .i64 0, .int .i64 0, .int .i64 0, .str [], .sl .own .val [], .sl .own .str [], .sl .own .row []], offs := [0, 1, 2, 3, 4, 5, 6], fsz := [1, 1, 1, 1, 1, 1, 1] }),
 (28, { zero := some [.sl .own .val []], elem := some (31, .val) }),
 (29, { zero := some [.sl .own .row []], elem := some (107, .row) }),
 (31, { sz := 7, agg := true, zero := some [.int .i64 0, .int .i64 0, .int .i64 0, .str [], .sl .own .val [], .sl .own .str [], .sl .own .row []], offs := [0, 1, 2, 3, 4, 5, 6], fsz := [1, 1, 1, 1, 1, 1, 1] }),
 (39, { zero := some [.sl .own .rea []], elem := some (41, .rea) }),
 (41, { sz := 11, agg := true, zero := some [.int .i64 0, .int .i64 0, .int .i64 0, .str [], .int .i64 0, .int .i64 0, .int .i64 0, .str [], .sl .own .val [], .sl .own .str [], .sl .own .row []], offs := [0, 1, 2, 3, 4], fsz := [1, 1, 1, 1, 7] }),
 (46, { zero := some [.sl .own .rea []], elem := some (49, .rea) }),
 (49, { sz := 11, agg := true, zero := some [.int .i64 0, .int .i64 0, .int .i64 0, .str [], .int .i64 0, .int .i64 0, .int .i64 0, .str [], .sl .own .val [], .sl .own .str [], .sl .own .row []], offs := [0, 1, 2, 3, 4], fsz := [1, 1, 1, 1, 7] }),
 (56, { zero := some [.sl .own .byte []], elem := some (5, .byte) }),
 (102, { zero := some [.sl .own .int []], elem := some (3, .int) }),
 (105, { zero := some [.sl .own .org []], elem := some (156, .org) }),
 (107, { sz := 2, agg := true, zero := some [.sl .own .int [], .sl .own .org []], offs := [0, 1], fsz := [1, 1] }),
 (131, { zero := some [.sl .own .org []], elem := some (165, .org) }),
 (133, { sz := 2, agg := true, zero := some [.sl .own .int [], .sl .own .org []], offs := [0, 1], fsz := [1, 1] }),
 (156, { sz := 2, agg := true, zero := some [.int .i64 0, .int .i64 0], offs := [0, 1], fsz := [1, 1] }),
 (165, { sz := 2, agg := true, zero := some [.int .i64 0, .int .i64 0], offs := [0, 1], fsz := [1, 1] })]
theorem ttok : TTok Try.prog tt := ttChk_ok (by kernel_rfl)
theorem mix : Try.prog.follows .mixedOrders = true := by kernel_rfl
def F : Bool := false
def Y : Bool := true
noncomputable def rE (I : Info) (ag : List Arg) (bs : List Bool) (cs : List CallO) : Option Res := run tt (AbsCalls Try.prog) I 3000 false [.code I.body] ⟨zBn 0 ag, bs, cs, []⟩
noncomputable def rS (k : Nat) (I : Info) (σ : St) (bs : List Bool) (cs : List CallO) : Option Res := run tt (AbsCalls Try.prog) I 3000 true (stkAt k I.body) ⟨σ, bs, cs, []⟩
noncomputable def dn (r : CallO) (ob : List Prop) : Option Res := some (.done r ob)
noncomputable def st (k : Nat) (I : Info) (σ : St) (ob : List Prop) : Option Res := some (.stop (stkAt k I.body) σ ob)
def RE (fn : Func) (I : Info) (ag : List Arg) (r : CallO) : Prop := Reach Try.prog fn I [.code I.body] (zBn 0 ag) r
def RS (fn : Func) (I : Info) (k : Nat) (σ : St) (r : CallO) : Prop := Reach Try.prog fn I (stkAt k I.body) σ r
section
variable {ρ : Type} {f : FuncId} {fn : Func} {I : Info} {ag : List Arg} {bs : List Bool} {cs : List CallO} {k j : Nat} {σ σ' : St} {ob : List Prop} {ro : ρ → CallO} {x r : ρ} {q : CallO}
theorem dE (e : some x = some r) (hf : FnOk Try.prog f fn I) (h : rE I ag bs cs = dn (ro x) ob) (o : ∀ p ∈ ob, p) : RE fn I ag (ro r) := by
 cases e; exact Reach.done ttok mix hf h o
theorem dS (e : some x = some r) (hf : FnOk Try.prog f fn I) (h : rS k I σ bs cs = dn (ro x) ob) (o : ∀ p ∈ ob, p) : RS fn I k σ (ro r) := by
 cases e; exact Reach.done ttok mix hf h o
theorem tE (hf : FnOk Try.prog f fn I) (h : rE I ag bs cs = st k I σ ob) (o : ∀ p ∈ ob, p) (t : RS fn I k σ q) : RE fn I ag q := Reach.stop ttok mix hf h o t
theorem tS (hf : FnOk Try.prog f fn I) (h : rS j I σ' bs cs = st k I σ ob) (o : ∀ p ∈ ob, p) (t : RS fn I k σ q) : RS fn I j σ' q := Reach.stop ttok mix hf h o t
end
theorem oc {p : Prop} {l : List Prop} (h : p) (t : ∀ q ∈ l, q) : ∀ q ∈ p :: l, q := obs_cons h t
theorem on : ∀ q ∈ ([] : List Prop), q := obs_nil
theorem cE {α : Type} {C : Prop} {b : Bool} {x y : Option α} {r : α} (h : cond b x y = some r) (f : b = true → x = some r → C) (g : b = false → y = some r → C) : C := (cond_inv h).elim (fun h => f h.1 h.2) fun h => g h.1 h.2
theorem bE {α β : Type} {C : Prop} {o : Option α} {f : α → Option β} {r : β} (h : Option.bind o f = some r) (g : ∀ a, o = some a → f a = some r → C) : C := (bind_inv h).elim fun a h => g a h.1 h.2
theorem iE {α : Type} {C p : Prop} [Decidable p] {x : Option α} {r : α} (h : (if p then x else none) = some r) (g : p → x = some r → C) : C := (ite_inv h).elim g
theorem nE {α : Type} {C : Prop} {r : α} (h : none = some r) : C := nomatch h
noncomputable def I54 : Info := { body := (Try.f54.body).getD .skip, nt := 28, results := [.tmp 4], keep := [0, 2, 8, 10, 22, 30, 52], live := [(5, [0, 2, 10])], modes := [] }
theorem fk54 : FnOk Try.prog 54 Try.f54 I54 := ⟨Try.func54, by kernel_rfl, by kernel_rfl, by kernel_rfl, by kernel_rfl⟩
def S54_5 (x0 : List Str) (x1 x5 : Int) : St := [(0, .v false [.sl .ro .str x0]), (2, .v false [.int .i64 x1]), (10, .v false [.int .i64 x5])]
theorem p54_5_0 (x0 : List Str) (x1 x5 : Int) : rS 5 I54 (S54_5 x0 x1 x5) [Y, Y] [] = dn (xAU (-1)) [(decide ((x5 : Int) < (Ln x0 : Int))) = true, (0 : Int) ≤ x5 ∧ x5 < (Ln x0), (decide (((W (x1 - (Ln (gD x0 (tN x5) Ty.str.dflt) : Int))) : Int) < 0)) = true] := by kernel_rfl
theorem p54_5_1 (x0 : List Str) (x1 x5 : Int) : rS 5 I54 (S54_5 x0 x1 x5) [Y, F] [] = st 5 I54 (S54_5 x0 (W (x1 - (Ln (gD x0 (tN x5) Ty.str.dflt) : Int))) (W (x5 + 1))) [(decide ((x5 : Int) < (Ln x0 : Int))) = true, (0 : Int) ≤ x5 ∧ x5 < (Ln x0), (decide (((W (x1 - (Ln (gD x0 (tN x5) Ty.str.dflt) : Int))) : Int) < 0)) = false] := by kernel_rfl
theorem p54_5_2 (x0 : List Str) (x1 x5 : Int) : rS 5 I54 (S54_5 x0 x1 x5) [F] [] = dn (xAU x1) [(decide ((x5 : Int) < (Ln x0 : Int))) = false] := by kernel_rfl
theorem p54_e_3 (a0 : List Str) (a1 : Int) : rE I54 (xBH a0 a1) [Y] [] = dn (xAU (-1)) [(decide (((W (a1 - (Ln a0 : Int))) : Int) < 0)) = true] := by kernel_rfl
theorem p54_e_4 (a0 : List Str) (a1 : Int) : rE I54 (xBH a0 a1) [F] [] = st 5 I54 (S54_5 a0 (W (a1 - (Ln a0 : Int))) 0) [(decide (((W (a1 - (Ln a0 : Int))) : Int) < 0)) = false] := by kernel_rfl
theorem c54_5 {N : Nat} : ∀ n x0 x1 x5 r, xCO N n x0 x1 x5 = some r → RS Try.f54 I54 5 (S54_5 x0 x1 x5) (xAU r) := by
 intro n
 induction n with
 | zero => exact fun _ _ _ _ h => nE h
 | succ n ih =>
  exact fun x0 x1 x5 r h =>
   cE h (fun h0 h => iE h fun h1 h => cE h (fun h2 h => dS h fk54 (p54_5_0 x0 x1 x5) (oc h0 (oc h1 (oc h2 on)))) fun h2 h =>
   tS fk54 (p54_5_1 x0 x1 x5) (oc h0 (oc h1 (oc h2 on))) (ih _ _ _ _ h)) fun h0 h =>
   dS h fk54 (p54_5_2 x0 x1 x5) (oc h0 on)
theorem c54_e {N : Nat} : ∀ a0 a1 r, xDt N a0 a1 = some r → RE Try.f54 I54 (xBH a0 a1) (xAU r) := fun a0 a1 r h =>
 cE h (fun h0 h => dE h fk54 (p54_e_3 a0 a1) (oc h0 on)) fun h0 h =>
 tE fk54 (p54_e_4 a0 a1) (oc h0 on) (c54_5 _ _ _ _ _ h)
theorem xDn {N : Nat} {a0 : List Str} {a1 : Int} {r : Int} (h : xDt N  a0 a1 = some r) : AbC 54 (xBH a0 a1) (xAU r) :=
 AbsCalls.of_reach fk54 rfl rfl (Nat.le_of_ble_eq_true rfl) (c54_e a0 a1 r h)
noncomputable def I162 : Info := { body := (Try.f162.body).getD .skip, nt := 12, results := [.tmp 4], keep := [0, 2, 8, 20], live := [], modes := [] }
theorem fk162 : FnOk Try.prog 162 Try.f162 I162 := ⟨Try.func162, by kernel_rfl, by kernel_rfl, by kernel_rfl, by kernel_rfl⟩
theorem p162_e_0 (a0 : List Int) (a1 : Int) : rE I162 (xCo a0 a1) [Y] [] = dn (xBq (-1)) [(decide (((W (a1 - (Ln a0 : Int))) : Int) < 0)) = true] := by kernel_rfl
theorem p162_e_1 (a0 : List Int) (a1 : Int) : rE I162 (xCo a0 a1) [F] [] = dn (xBq (W (a1 - (Ln a0 : Int)))) [(decide (((W (a1 - (Ln a0 : Int))) : Int) < 0)) = false] := by kernel_rfl
theorem c162_e {N : Nat} : ∀ a0 a1 r, xEb N a0 a1 = some r → RE Try.f162 I162 (xCo a0 a1) (xBq r) := fun a0 a1 r h =>
 cE h (fun h0 h => dE h fk162 (p162_e_0 a0 a1) (oc h0 on)) fun h0 h =>
 dE h fk162 (p162_e_1 a0 a1) (oc h0 on)
theorem xD2 {N : Nat} {a0 : List Int} {a1 : Int} {r : Int} (h : xEb N  a0 a1 = some r) : AbC 162 (xCo a0 a1) (xBq r) :=
 AbsCalls.of_reach fk162 rfl rfl (Nat.le_of_ble_eq_true rfl) (c162_e a0 a1 r h)
noncomputable def I163 : Info := { body := (Try.f163.body).getD .skip, nt := 12, results := [.tmp 4], keep := [0, 2, 8, 20], live := [], modes := [] }
theorem fk163 : FnOk Try.prog 163 Try.f163 I163 := ⟨Try.func163, by kernel_rfl, by kernel_rfl, by kernel_rfl, by kernel_rfl⟩
theorem p163_e_0 (a0 : List Org) (a1 : Int) : rE I163 (xBZ a0 a1) [Y] [] = dn (xBo (-1)) [(decide (((W (a1 - (Ln a0 : Int))) : Int) < 0)) = true] := by kernel_rfl
theorem p163_e_1 (a0 : List Org) (a1 : Int) : rE I163 (xBZ a0 a1) [F] [] = dn (xBo (W (a1 - (Ln a0 : Int)))) [(decide (((W (a1 - (Ln a0 : Int))) : Int) < 0)) = false] := by kernel_rfl
theorem c163_e {N : Nat} : ∀ a0 a1 r, xDr N a0 a1 = some r → RE Try.f163 I163 (xBZ a0 a1) (xBo r) := fun a0 a1 r h =>
 cE h (fun h0 h => dE h fk163 (p163_e_0 a0 a1) (oc h0 on)) fun h0 h =>
 dE h fk163 (p163_e_1 a0 a1) (oc h0 on)
theorem xD5 {N : Nat} {a0 : List Org} {a1 : Int} {r : Int} (h : xDr N  a0 a1 = some r) : AbC 163 (xBZ a0 a1) (xBo r) :=
 AbsCalls.of_reach fk163 rfl rfl (Nat.le_of_ble_eq_true rfl) (c163_e a0 a1 r h)
noncomputable def I126 : Info := { body := (Try.f126.body).getD .skip, nt := 18, results := [.tmp 4], keep := [0, 2, 4, 8, 20, 32, 5], live := [], modes := [] }
theorem fk126 : FnOk Try.prog 126 Try.f126 I126 := ⟨Try.func126, by kernel_rfl, by kernel_rfl, by kernel_rfl, by kernel_rfl⟩
theorem p126_e_0 (a0 : Rowd) (a1 r1 : Int) : rE I126 (xCz a0 a1) [Y] [xBq r1] = dn (xBU (-1)) [AbC 162 (xCo (Rowd.cells a0) a1) (xBq r1), (decide ((r1 : Int) < 0)) = true] := by kernel_rfl
theorem p126_e_1 (a0 : Rowd) (a1 r1 r2 : Int) : rE I126 (xCz a0 a1) [F, Y] [xBq r1, xBo r2] = dn (xBU (-1)) [AbC 162 (xCo (Rowd.cells a0) a1) (xBq r1), (decide ((r1 : Int) < 0)) = false, AbC 163 (xBZ (Rowd.frm a0) r1) (xBo r2), (decide ((r2 : Int) < 0)) = true] := by kernel_rfl
theorem p126_e_2 (a0 : Rowd) (a1 r1 r2 : Int) : rE I126 (xCz a0 a1) [F, F] [xBq r1, xBo r2] = dn (xBU r2) [AbC 162 (xCo (Rowd.cells a0) a1) (xBq r1), (decide ((r1 : Int) < 0)) = false, AbC 163 (xBZ (Rowd.frm a0) r1) (xBo r2), (decide ((r2 : Int) < 0)) = false] := by kernel_rfl
theorem c126_e {N : Nat} : ∀ a0 a1 r, xD6 N a0 a1 = some r → RE Try.f126 I126 (xCz a0 a1) (xBU r) := fun a0 a1 r h =>
 bE h fun r1 h0 h => cE h (fun h1 h => dE h fk126 (p126_e_0 a0 a1 r1) (oc (xD2 h0) (oc h1 on))) fun h1 h =>
 bE h fun r2 h2 h => cE h (fun h3 h => dE h fk126 (p126_e_1 a0 a1 r1 r2) (oc (xD2 h0) (oc h1 (oc (xD5 h2) (oc h3 on))))) fun h3 h =>
 dE h fk126 (p126_e_2 a0 a1 r1 r2) (oc (xD2 h0) (oc h1 (oc (xD5 h2) (oc h3 on))))
theorem laws_szRow_ok {N : Nat} {a0 : Rowd} {a1 : Int} {r : Int} (h : xD6 N  a0 a1 = some r) : AbC 126 (xCz a0 a1) (xBU r) :=
 AbsCalls.of_reach fk126 rfl rfl (Nat.le_of_ble_eq_true rfl) (c126_e a0 a1 r h)
noncomputable def I55 : Info := { body := (Try.f55.body).getD .skip, nt := 27, results := [.tmp 4], keep := [0, 2, 8, 10, 22, 30, 50], live := [(5, [0, 2, 10])], modes := [] }
theorem fk55 : FnOk Try.prog 55 Try.f55 I55 := ⟨Try.func55, by kernel_rfl, by kernel_rfl, by kernel_rfl, by kernel_rfl⟩
def S55_5 (x0 : List Rowd) (x1 x5 : Int) : St := [(0, .v false [.sl .ro .row x0]), (2, .v false [.int .i64 x1]), (10, .v false [.int .i64 x5])]
theorem p55_5_0 (x0 : List Rowd) (x1 x5 r1 : Int) : rS 5 I55 (S55_5 x0 x1 x5) [Y, Y] [xBU r1] = dn (xBr (-1)) [(decide ((x5 : Int) < (Ln x0 : Int))) = true, (0 : Int) ≤ x5 ∧ x5 < (Ln x0), AbC 126 (xCz (gD x0 (tN x5) rd) x1) (xBU r1), (decide ((r1 : Int) < 0)) = true] := by kernel_rfl
theorem p55_5_1 (x0 : List Rowd) (x1 x5 r1 : Int) : rS 5 I55 (S55_5 x0 x1 x5) [Y, F] [xBU r1] = st 5 I55 (S55_5 x0 r1 (W (x5 + 1))) [(decide ((x5 : Int) < (Ln x0 : Int))) = true, (0 : Int) ≤ x5 ∧ x5 < (Ln x0), AbC 126 (xCz (gD x0 (tN x5) rd) x1) (xBU r1), (decide ((r1 : Int) < 0)) = false] := by kernel_rfl
theorem p55_5_2 (x0 : List Rowd) (x1 x5 : Int) : rS 5 I55 (S55_5 x0 x1 x5) [F] [] = dn (xBr x1) [(decide ((x5 : Int) < (Ln x0 : Int))) = false] := by kernel_rfl
theorem p55_e_3 (a0 : List Rowd) (a1 : Int) : rE I55 (xCH a0 a1) [Y] [] = dn (xBr (-1)) [(decide (((W (a1 - (Ln a0 : Int))) : Int) < 0)) = true] := by kernel_rfl
theorem p55_e_4 (a0 : List Rowd) (a1 : Int) : rE I55 (xCH a0 a1) [F] [] = st 5 I55 (S55_5 a0 (W (a1 - (Ln a0 : Int))) 0) [(decide (((W (a1 - (Ln a0 : Int))) : Int) < 0)) = false] := by kernel_rfl
theorem c55_5 {N : Nat} : ∀ n x0 x1 x5 r, xDs N n x0 x1 x5 = some r → RS Try.f55 I55 5 (S55_5 x0 x1 x5) (xBr r) := by
 intro n
 induction n with
 | zero => exact fun _ _ _ _ h => nE h
 | succ n ih =>
  exact fun x0 x1 x5 r h =>
   cE h (fun h0 h => iE h fun h1 h => bE h fun r1 h2 h => cE h (fun h3 h => dS h fk55 (p55_5_0 x0 x1 x5 r1) (oc h0 (oc h1 (oc (laws_szRow_ok h2) (oc h3 on))))) fun h3 h =>
   tS fk55 (p55_5_1 x0 x1 x5 r1) (oc h0 (oc h1 (oc (laws_szRow_ok h2) (oc h3 on)))) (ih _ _ _ _ h)) fun h0 h =>
   dS h fk55 (p55_5_2 x0 x1 x5) (oc h0 on)
theorem c55_e {N : Nat} : ∀ a0 a1 r, xEc N a0 a1 = some r → RE Try.f55 I55 (xCH a0 a1) (xBr r) := fun a0 a1 r h =>
 cE h (fun h0 h => dE h fk55 (p55_e_3 a0 a1) (oc h0 on)) fun h0 h =>
 tE fk55 (p55_e_4 a0 a1) (oc h0 on) (c55_5 _ _ _ _ _ h)
theorem xEw {N : Nat} {a0 : List Rowd} {a1 : Int} {r : Int} (h : xEc N  a0 a1 = some r) : AbC 55 (xCH a0 a1) (xBr r) :=
 AbsCalls.of_reach fk55 rfl rfl (Nat.le_of_ble_eq_true rfl) (c55_e a0 a1 r h)
def G10 (q : Val → Int → Option (Int)) : Prop := ∀ a0 a1 r, q a0 a1 = some r → AbC 10 (xA0 a0 a1) (xAI r)
def G53 (q : (List Val) → Int → Option (Int)) : Prop := ∀ a0 a1 r, q a0 a1 = some r → AbC 53 (xBm a0 a1) (xAM r)
noncomputable def I10 : Info := { body := (Try.f10.body).getD .skip, nt := 31, results := [.tmp 4], keep := [0, 2, 4, 8, 22, 34, 46, 58, 5], live := [], modes := [] }
theorem fk10 : FnOk Try.prog 10 Try.f10 I10 := ⟨Try.func10, by kernel_rfl, by kernel_rfl, by kernel_rfl, by kernel_rfl⟩
theorem p10_e_0 (a0 : Val) (a1 : Int) : rE I10 (xA0 a0 a1) [Y] [] = dn (xAI (-1)) [(decide (((W (a1 - (Ln (Val.text a0) : Int))) : Int) < 0)) = true] := by kernel_rfl
theorem p10_e_1 (a0 : Val) (a1 r1 : Int) : rE I10 (xA0 a0 a1) [F, Y] [xAM r1] = dn (xAI (-1)) [(decide (((W (a1 - (Ln (Val.text a0) : Int))) : Int) < 0)) = false, AbC 53 (xBm (Val.list a0) (W (a1 - (Ln (Val.text a0) : Int)))) (xAM r1), (decide ((r1 : Int) < 0)) = true] := by kernel_rfl
theorem p10_e_2 (a0 : Val) (a1 r1 r2 : Int) : rE I10 (xA0 a0 a1) [F, F, Y] [xAM r1, xAU r2] = dn (xAI (-1)) [(decide (((W (a1 - (Ln (Val.text a0) : Int))) : Int) < 0)) = false, AbC 53 (xBm (Val.list a0) (W (a1 - (Ln (Val.text a0) : Int)))) (xAM r1), (decide ((r1 : Int) < 0)) = false, AbC 54 (xBH (Val.columns a0) r1) (xAU r2), (decide ((r2 : Int) < 0)) = true] := by kernel_rfl
theorem p10_e_3 (a0 : Val) (a1 r1 r2 r3 : Int) : rE I10 (xA0 a0 a1) [F, F, F, Y] [xAM r1, xAU r2, xBr r3] = dn (xAI (-1)) [(decide (((W (a1 - (Ln (Val.text a0) : Int))) : Int) < 0)) = false, AbC 53 (xBm (Val.list a0) (W (a1 - (Ln (Val.text a0) : Int)))) (xAM r1), (decide ((r1 : Int) < 0)) = false, AbC 54 (xBH (Val.columns a0) r1) (xAU r2), (decide ((r2 : Int) < 0)) = false, AbC 55 (xCH (Val.rows a0) r2) (xBr r3), (decide ((r3 : Int) < 0)) = true] := by kernel_rfl
theorem p10_e_4 (a0 : Val) (a1 r1 r2 r3 : Int) : rE I10 (xA0 a0 a1) [F, F, F, F] [xAM r1, xAU r2, xBr r3] = dn (xAI r3) [(decide (((W (a1 - (Ln (Val.text a0) : Int))) : Int) < 0)) = false, AbC 53 (xBm (Val.list a0) (W (a1 - (Ln (Val.text a0) : Int)))) (xAM r1), (decide ((r1 : Int) < 0)) = false, AbC 54 (xBH (Val.columns a0) r1) (xAU r2), (decide ((r2 : Int) < 0)) = false, AbC 55 (xCH (Val.rows a0) r2) (xBr r3), (decide ((r3 : Int) < 0)) = false] := by kernel_rfl
theorem c10_e {N : Nat} {q0 : Val → Int → Option (Int)} (g0 : G10 q0) {q1 : (List Val) → Int → Option (Int)} (g1 : G53 q1) : ∀ a0 a1 r, xDo N q0 q1 a0 a1 = some r → RE Try.f10 I10 (xA0 a0 a1) (xAI r) := fun a0 a1 r h =>
 cE h (fun h0 h => dE h fk10 (p10_e_0 a0 a1) (oc h0 on)) fun h0 h =>
 bE h fun r1 h1 h => cE h (fun h2 h => dE h fk10 (p10_e_1 a0 a1 r1) (oc h0 (oc (g1 _ _ _ h1) (oc h2 on)))) fun h2 h =>
 bE h fun r2 h3 h => cE h (fun h4 h => dE h fk10 (p10_e_2 a0 a1 r1 r2) (oc h0 (oc (g1 _ _ _ h1) (oc h2 (oc (xDn h3) (oc h4 on)))))) fun h4 h =>
 bE h fun r3 h5 h => cE h (fun h6 h => dE h fk10 (p10_e_3 a0 a1 r1 r2 r3) (oc h0 (oc (g1 _ _ _ h1) (oc h2 (oc (xDn h3) (oc h4 (oc (xEw h5) (oc h6 on)))))))) fun h6 h =>
 dE h fk10 (p10_e_4 a0 a1 r1 r2 r3) (oc h0 (oc (g1 _ _ _ h1) (oc h2 (oc (xDn h3) (oc h4 (oc (xEw h5) (oc h6 on)))))))
theorem xEt {N : Nat} {q0 : Val → Int → Option (Int)} (g0 : G10 q0) {q1 : (List Val) → Int → Option (Int)} (g1 : G53 q1) {a0 : Val} {a1 : Int} {r : Int} (h : xDo N q0 q1 a0 a1 = some r) : AbC 10 (xA0 a0 a1) (xAI r) :=
 AbsCalls.of_reach fk10 rfl rfl (Nat.le_of_ble_eq_true rfl) (c10_e g0 g1 a0 a1 r h)
noncomputable def I53 : Info := { body := (Try.f53.body).getD .skip, nt := 27, results := [.tmp 4], keep := [0, 2, 8, 10, 22, 30, 50], live := [(5, [0, 2, 10])], modes := [] }
theorem fk53 : FnOk Try.prog 53 Try.f53 I53 := ⟨Try.func53, by kernel_rfl, by kernel_rfl, by kernel_rfl, by kernel_rfl⟩
def S53_5 (x0 : List Val) (x1 x5 : Int) : St := [(0, .v false [.sl .ro .val x0]), (2, .v false [.int .i64 x1]), (10, .v false [.int .i64 x5])]
theorem p53_5_0 (x0 : List Val) (x1 x5 r1 : Int) : rS 5 I53 (S53_5 x0 x1 x5) [Y, Y] [xAI r1] = dn (xAM (-1)) [(decide ((x5 : Int) < (Ln x0 : Int))) = true, (0 : Int) ≤ x5 ∧ x5 < (Ln x0), AbC 10 (xA0 (gD x0 (tN x5) vd) x1) (xAI r1), (decide ((r1 : Int) < 0)) = true] := by kernel_rfl
theorem p53_5_1 (x0 : List Val) (x1 x5 r1 : Int) : rS 5 I53 (S53_5 x0 x1 x5) [Y, F] [xAI r1] = st 5 I53 (S53_5 x0 r1 (W (x5 + 1))) [(decide ((x5 : Int) < (Ln x0 : Int))) = true, (0 : Int) ≤ x5 ∧ x5 < (Ln x0), AbC 10 (xA0 (gD x0 (tN x5) vd) x1) (xAI r1), (decide ((r1 : Int) < 0)) = false] := by kernel_rfl
theorem p53_5_2 (x0 : List Val) (x1 x5 : Int) : rS 5 I53 (S53_5 x0 x1 x5) [F] [] = dn (xAM x1) [(decide ((x5 : Int) < (Ln x0 : Int))) = false] := by kernel_rfl
theorem p53_e_3 (a0 : List Val) (a1 : Int) : rE I53 (xBm a0 a1) [Y] [] = dn (xAM (-1)) [(decide (((W (a1 - (Ln a0 : Int))) : Int) < 0)) = true] := by kernel_rfl
theorem p53_e_4 (a0 : List Val) (a1 : Int) : rE I53 (xBm a0 a1) [F] [] = st 5 I53 (S53_5 a0 (W (a1 - (Ln a0 : Int))) 0) [(decide (((W (a1 - (Ln a0 : Int))) : Int) < 0)) = false] := by kernel_rfl
theorem c53_5 {N : Nat} {q0 : Val → Int → Option (Int)} (g0 : G10 q0) {q1 : (List Val) → Int → Option (Int)} (g1 : G53 q1) : ∀ n x0 x1 x5 r, xC3 N q0 q1 n x0 x1 x5 = some r → RS Try.f53 I53 5 (S53_5 x0 x1 x5) (xAM r) := by
 intro n
 induction n with
 | zero => exact fun _ _ _ _ h => nE h
 | succ n ih =>
  exact fun x0 x1 x5 r h =>
   cE h (fun h0 h => iE h fun h1 h => bE h fun r1 h2 h => cE h (fun h3 h => dS h fk53 (p53_5_0 x0 x1 x5 r1) (oc h0 (oc h1 (oc (g0 _ _ _ h2) (oc h3 on))))) fun h3 h =>
   tS fk53 (p53_5_1 x0 x1 x5 r1) (oc h0 (oc h1 (oc (g0 _ _ _ h2) (oc h3 on)))) (ih _ _ _ _ h)) fun h0 h =>
   dS h fk53 (p53_5_2 x0 x1 x5) (oc h0 on)
theorem c53_e {N : Nat} {q0 : Val → Int → Option (Int)} (g0 : G10 q0) {q1 : (List Val) → Int → Option (Int)} (g1 : G53 q1) : ∀ a0 a1 r, xDe N q0 q1 a0 a1 = some r → RE Try.f53 I53 (xBm a0 a1) (xAM r) := fun a0 a1 r h =>
 cE h (fun h0 h => dE h fk53 (p53_e_3 a0 a1) (oc h0 on)) fun h0 h =>
 tE fk53 (p53_e_4 a0 a1) (oc h0 on) (c53_5 g0 g1 _ _ _ _ _ h)
theorem xEm {N : Nat} {q0 : Val → Int → Option (Int)} (g0 : G10 q0) {q1 : (List Val) → Int → Option (Int)} (g1 : G53 q1) {a0 : List Val} {a1 : Int} {r : Int} (h : xDe N q0 q1 a0 a1 = some r) : AbC 53 (xBm a0 a1) (xAM r) :=
 AbsCalls.of_reach fk53 rfl rfl (Nat.le_of_ble_eq_true rfl) (c53_e g0 g1 a0 a1 r h)
theorem xEz {N : Nat} : ∀ d, G10 (xA5 N d).c_laws_szValue ∧ G53 (xA5 N d).c_laws_szValueS := by
 intro d
 induction d with
 | zero => exact ⟨fun _ _ _ h => nE h, fun _ _ _ h => nE h⟩
 | succ d ih =>
  obtain ⟨ih0, ih1⟩ := ih
  exact ⟨fun _ _ _ h => xEt (N := N) ih0 ih1 h, fun _ _ _ h => xEm (N := N) ih0 ih1 h⟩
theorem xEn {N : Nat} {a0 : Val} {a1 : Int} {r : Int} (h : xEl N a0 a1 = some r) : AbC 10 (xA0 a0 a1) (xAI r) := (xEz N).1 _ _ r h
noncomputable def I20 : Info := { body := (Try.f20.body).getD .skip, nt := 19, results := [.tmp 4], keep := [0, 2, 4, 8, 22, 34, 5], live := [], modes := [] }
theorem fk20 : FnOk Try.prog 20 Try.f20 I20 := ⟨Try.func20, by kernel_rfl, by kernel_rfl, by kernel_rfl, by kernel_rfl⟩
theorem p20_e_0 (a0 : Rea) (a1 : Int) : rE I20 (xAB a0 a1) [Y] [] = dn (xAl (-1)) [(decide (((W (a1 - (Ln (Rea.text a0) : Int))) : Int) < 0)) = true] := by kernel_rfl
theorem p20_e_1 (a0 : Rea) (a1 r1 : Int) : rE I20 (xAB a0 a1) [F, Y] [xAI r1] = dn (xAl (-1)) [(decide (((W (a1 - (Ln (Rea.text a0) : Int))) : Int) < 0)) = false, AbC 10 (xA0 (Rea.result a0) (W (a1 - (Ln (Rea.text a0) : Int)))) (xAI r1), (decide ((r1 : Int) < 0)) = true] := by kernel_rfl
theorem p20_e_2 (a0 : Rea) (a1 r1 : Int) : rE I20 (xAB a0 a1) [F, F] [xAI r1] = dn (xAl r1) [(decide (((W (a1 - (Ln (Rea.text a0) : Int))) : Int) < 0)) = false, AbC 10 (xA0 (Rea.result a0) (W (a1 - (Ln (Rea.text a0) : Int)))) (xAI r1), (decide ((r1 : Int) < 0)) = false] := by kernel_rfl
theorem c20_e {N : Nat} : ∀ a0 a1 r, xDm N a0 a1 = some r → RE Try.f20 I20 (xAB a0 a1) (xAl r) := fun a0 a1 r h =>
 cE h (fun h0 h => dE h fk20 (p20_e_0 a0 a1) (oc h0 on)) fun h0 h =>
 bE h fun r1 h1 h => cE h (fun h2 h => dE h fk20 (p20_e_1 a0 a1 r1) (oc h0 (oc (xEn h1) (oc h2 on)))) fun h2 h =>
 dE h fk20 (p20_e_2 a0 a1 r1) (oc h0 (oc (xEn h1) (oc h2 on)))
theorem xAR {N : Nat} {a0 : Rea} {a1 : Int} {r : Int} (h : xDm N  a0 a1 = some r) : AbC 20 (xAB a0 a1) (xAl r) :=
 AbsCalls.of_reach fk20 rfl rfl (Nat.le_of_ble_eq_true rfl) (c20_e a0 a1 r h)
noncomputable def I19 : Info := { body := (Try.f19.body).getD .skip, nt := 27, results := [.tmp 4], keep := [0, 2, 8, 10, 22, 30, 50], live := [(5, [0, 2, 10])], modes := [] }
theorem fk19 : FnOk Try.prog 19 Try.f19 I19 := ⟨Try.func19, by kernel_rfl, by kernel_rfl, by kernel_rfl, by kernel_rfl⟩
def S19_5 (x0 : List Rea) (x1 x5 : Int) : St := [(0, .v false [.sl .ro .rea x0]), (2, .v false [.int .i64 x1]), (10, .v false [.int .i64 x5])]
theorem p19_5_0 (x0 : List Rea) (x1 x5 r1 : Int) : rS 5 I19 (S19_5 x0 x1 x5) [Y, Y] [xAl r1] = dn (xAk (-1)) [(decide ((x5 : Int) < (Ln x0 : Int))) = true, (0 : Int) ≤ x5 ∧ x5 < (Ln x0), AbC 20 (xAB (gD x0 (tN x5) Ty.rea.dflt) x1) (xAl r1), (decide ((r1 : Int) < 0)) = true] := by kernel_rfl
theorem p19_5_1 (x0 : List Rea) (x1 x5 r1 : Int) : rS 5 I19 (S19_5 x0 x1 x5) [Y, F] [xAl r1] = st 5 I19 (S19_5 x0 r1 (W (x5 + 1))) [(decide ((x5 : Int) < (Ln x0 : Int))) = true, (0 : Int) ≤ x5 ∧ x5 < (Ln x0), AbC 20 (xAB (gD x0 (tN x5) Ty.rea.dflt) x1) (xAl r1), (decide ((r1 : Int) < 0)) = false] := by kernel_rfl
theorem p19_5_2 (x0 : List Rea) (x1 x5 : Int) : rS 5 I19 (S19_5 x0 x1 x5) [F] [] = dn (xAk x1) [(decide ((x5 : Int) < (Ln x0 : Int))) = false] := by kernel_rfl
theorem p19_e_3 (a0 : List Rea) (a1 : Int) : rE I19 (xAC a0 a1) [Y] [] = dn (xAk (-1)) [(decide (((W (a1 - (Ln a0 : Int))) : Int) < 0)) = true] := by kernel_rfl
theorem p19_e_4 (a0 : List Rea) (a1 : Int) : rE I19 (xAC a0 a1) [F] [] = st 5 I19 (S19_5 a0 (W (a1 - (Ln a0 : Int))) 0) [(decide (((W (a1 - (Ln a0 : Int))) : Int) < 0)) = false] := by kernel_rfl
theorem c19_5 {N : Nat} : ∀ n x0 x1 x5 r, xDd N n x0 x1 x5 = some r → RS Try.f19 I19 5 (S19_5 x0 x1 x5) (xAk r) := by
 intro n
 induction n with
 | zero => exact fun _ _ _ _ h => nE h
 | succ n ih =>
  exact fun x0 x1 x5 r h =>
   cE h (fun h0 h => iE h fun h1 h => bE h fun r1 h2 h => cE h (fun h3 h => dS h fk19 (p19_5_0 x0 x1 x5 r1) (oc h0 (oc h1 (oc (xAR h2) (oc h3 on))))) fun h3 h =>
   tS fk19 (p19_5_1 x0 x1 x5 r1) (oc h0 (oc h1 (oc (xAR h2) (oc h3 on)))) (ih _ _ _ _ h)) fun h0 h =>
   dS h fk19 (p19_5_2 x0 x1 x5) (oc h0 on)
theorem c19_e {N : Nat} : ∀ a0 a1 r, xDX N a0 a1 = some r → RE Try.f19 I19 (xAC a0 a1) (xAk r) := fun a0 a1 r h =>
 cE h (fun h0 h => dE h fk19 (p19_e_3 a0 a1) (oc h0 on)) fun h0 h =>
 tE fk19 (p19_e_4 a0 a1) (oc h0 on) (c19_5 _ _ _ _ _ h)
theorem xAQ {N : Nat} {a0 : List Rea} {a1 : Int} {r : Int} (h : xDX N  a0 a1 = some r) : AbC 19 (xAC a0 a1) (xAk r) :=
 AbsCalls.of_reach fk19 rfl rfl (Nat.le_of_ble_eq_true rfl) (c19_e a0 a1 r h)
noncomputable def I63 : Info := { body := (Try.f63.body).getD .skip, nt := 22, results := [.tmp 2], keep := [0, 4, 6, 8, 22], live := [(3, [0, 6, 8])], modes := [(5, [(0, .ref, false)]), (6, [(0, .take, false)])] }
theorem fk63 : FnOk Try.prog 63 Try.f63 I63 := ⟨Try.func63, by kernel_rfl, by kernel_rfl, by kernel_rfl, by kernel_rfl⟩
def S63_3 (x0 x3 : List Str) (x4 : Int) : St := [(0, .v false [.sl .ro .str x0]), (6, .v false [.sl .own .str x3]), (8, .v false [.int .i64 x4])]
theorem p63_3_0 (x0 x3 : List Str) (x4 : Int) : rS 3 I63 (S63_3 x0 x3 x4) [Y] [] = st 3 I63 (S63_3 x0 (List.set x3 (tN x4) (gD x0 (tN x4) Ty.str.dflt)) (W (x4 + 1))) [(decide ((x4 : Int) < (Ln x0 : Int))) = true, (0 : Int) ≤ x4 ∧ x4 < (Ln x0), (0 : Int) ≤ x4 ∧ x4 < (Ln x3)] := by kernel_rfl
theorem p63_3_1 (x0 x3 : List Str) (x4 : Int) : rS 3 I63 (S63_3 x0 x3 x4) [F] [] = dn (xB1 x3) [(decide ((x4 : Int) < (Ln x0 : Int))) = false] := by kernel_rfl
theorem p63_e_2 (a0 : List Str) : rE I63 (xCR a0) [] [] = st 3 I63 (S63_3 a0 (List.replicate (tN (Ln a0 : Int)) Ty.str.dflt) 0) [(0 : Int) ≤ (Ln a0 : Int) ∧ (Ln a0 : Int) = (Ln a0 : Int) ∧ (Ln a0 : Int) ≤ Lim] := by kernel_rfl
theorem c63_3 {N : Nat} : ∀ n x0 x3 x4 r, xCS N n x0 x3 x4 = some r → RS Try.f63 I63 3 (S63_3 x0 x3 x4) (xB1 r) := by
 intro n
 induction n with
 | zero => exact fun _ _ _ _ h => nE h
 | succ n ih =>
  exact fun x0 x3 x4 r h =>
   cE h (fun h0 h => iE h fun h1 h => iE h fun h2 h => tS fk63 (p63_3_0 x0 x3 x4) (oc h0 (oc h1 (oc h2 on))) (ih _ _ _ _ h)) fun h0 h =>
   dS h fk63 (p63_3_1 x0 x3 x4) (oc h0 on)
theorem c63_e {N : Nat} : ∀ a0 r, xCY N a0 = some r → RE Try.f63 I63 (xCR a0) (xB1 r) := fun a0 r h =>
 iE h fun h0 h => tE fk63 (p63_e_2 a0) (oc h0 on) (c63_3 _ _ _ _ _ h)
theorem laws_toStringS_ok {N : Nat} {a0 : List Str} {r : (List Str)} (h : xCY N  a0 = some r) : AbC 63 (xCR a0) (xB1 r) :=
 AbsCalls.of_reach fk63 rfl rfl (Nat.le_of_ble_eq_true rfl) (c63_e a0 r h)
noncomputable def I164 : Info := { body := (Try.f164.body).getD .skip, nt := 22, results := [.tmp 2], keep := [0, 4, 6, 8, 22], live := [(3, [0, 6, 8])], modes := [(5, [(0, .ref, false)]), (6, [(0, .take, false)])] }
theorem fk164 : FnOk Try.prog 164 Try.f164 I164 := ⟨Try.func164, by kernel_rfl, by kernel_rfl, by kernel_rfl, by kernel_rfl⟩
def S164_3 (x0 x3 : List Int) (x4 : Int) : St := [(0, .v false [.sl .ro .int x0]), (6, .v false [.sl .own .int x3]), (8, .v false [.int .i64 x4])]
theorem p164_3_0 (x0 x3 : List Int) (x4 : Int) : rS 3 I164 (S164_3 x0 x3 x4) [Y] [] = st 3 I164 (S164_3 x0 (List.set x3 (tN x4) (gD x0 (tN x4) Ty.int.dflt)) (W (x4 + 1))) [(decide ((x4 : Int) < (Ln x0 : Int))) = true, (0 : Int) ≤ x4 ∧ x4 < (Ln x0), (0 : Int) ≤ x4 ∧ x4 < (Ln x3)] := by kernel_rfl
theorem p164_3_1 (x0 x3 : List Int) (x4 : Int) : rS 3 I164 (S164_3 x0 x3 x4) [F] [] = dn (xCI x3) [(decide ((x4 : Int) < (Ln x0 : Int))) = false] := by kernel_rfl
theorem p164_e_2 (a0 : List Int) : rE I164 (xDu a0) [] [] = st 3 I164 (S164_3 a0 (List.replicate (tN (Ln a0 : Int)) Ty.int.dflt) 0) [(0 : Int) ≤ (Ln a0 : Int) ∧ (Ln a0 : Int) = (Ln a0 : Int) ∧ (Ln a0 : Int) ≤ Lim] := by kernel_rfl
theorem c164_3 {N : Nat} : ∀ n x0 x3 x4 r, xDv N n x0 x3 x4 = some r → RS Try.f164 I164 3 (S164_3 x0 x3 x4) (xCI r) := by
 intro n
 induction n with
 | zero => exact fun _ _ _ _ h => nE h
 | succ n ih =>
  exact fun x0 x3 x4 r h =>
   cE h (fun h0 h => iE h fun h1 h => iE h fun h2 h => tS fk164 (p164_3_0 x0 x3 x4) (oc h0 (oc h1 (oc h2 on))) (ih _ _ _ _ h)) fun h0 h =>
   dS h fk164 (p164_3_1 x0 x3 x4) (oc h0 on)
theorem c164_e {N : Nat} : ∀ a0 r, xDT N a0 = some r → RE Try.f164 I164 (xDu a0) (xCI r) := fun a0 r h =>
 iE h fun h0 h => tE fk164 (p164_e_2 a0) (oc h0 on) (c164_3 _ _ _ _ _ h)
theorem laws_toIntS_ok {N : Nat} {a0 : List Int} {r : (List Int)} (h : xDT N  a0 = some r) : AbC 164 (xDu a0) (xCI r) :=
 AbsCalls.of_reach fk164 rfl rfl (Nat.le_of_ble_eq_true rfl) (c164_e a0 r h)
noncomputable def I184 : Info := { body := (Try.f184.body).getD .skip, nt := 11, results := [.cell 2 156], keep := [0, 2, 4, 6, 3, 5, 7], live := [], modes := [] }
theorem fk184 : FnOk Try.prog 184 Try.f184 I184 := ⟨Try.func184, by kernel_rfl, by kernel_rfl, by kernel_rfl, by kernel_rfl⟩
theorem p184_e_0 (a0 : Org) : rE I184 (xC4 a0) [] [] = dn (xCB a0) [] := by kernel_rfl
theorem c184_e {N : Nat} : ∀ a0 r, xDJ N a0 = some r → RE Try.f184 I184 (xC4 a0) (xCB r) := fun a0 r h =>
 dE h fk184 (p184_e_0 a0) on
theorem laws_toOrigin_ok {N : Nat} {a0 : Org} {r : Org} (h : xDJ N  a0 = some r) : AbC 184 (xC4 a0) (xCB r) :=
 AbsCalls.of_reach fk184 rfl rfl (Nat.le_of_ble_eq_true rfl) (c184_e a0 r h)
noncomputable def I165 : Info := { body := (Try.f165.body).getD .skip, nt := 23, results := [.tmp 2], keep := [0, 4, 6, 8, 22], live := [(3, [0, 6, 8])], modes := [(5, [(0, .ref, false)]), (6, [(0, .take, false)])] }
theorem fk165 : FnOk Try.prog 165 Try.f165 I165 := ⟨Try.func165, by kernel_rfl, by kernel_rfl, by kernel_rfl, by kernel_rfl⟩
def S165_3 (x0 x3 : List Org) (x4 : Int) : St := [(0, .v false [.sl .ro .org x0]), (6, .v false [.sl .own .org x3]), (8, .v false [.int .i64 x4])]
theorem p165_3_0 (x0 x3 : List Org) (x4 : Int) (r1 : Org) : rS 3 I165 (S165_3 x0 x3 x4) [Y] [xCB r1] = st 3 I165 (S165_3 x0 (List.set x3 (tN x4) r1) (W (x4 + 1))) [(decide ((x4 : Int) < (Ln x0 : Int))) = true, (0 : Int) ≤ x4 ∧ x4 < (Ln x0), AbC 184 (xC4 (gD x0 (tN x4) Ty.org.dflt)) (xCB r1), (0 : Int) ≤ x4 ∧ x4 < (Ln x3)] := by kernel_rfl
theorem p165_3_1 (x0 x3 : List Org) (x4 : Int) : rS 3 I165 (S165_3 x0 x3 x4) [F] [] = dn (xB0 x3) [(decide ((x4 : Int) < (Ln x0 : Int))) = false] := by kernel_rfl
theorem p165_e_2 (a0 : List Org) : rE I165 (xCP a0) [] [] = st 3 I165 (S165_3 a0 (List.replicate (tN (Ln a0 : Int)) Ty.org.dflt) 0) [(0 : Int) ≤ (Ln a0 : Int) ∧ (Ln a0 : Int) = (Ln a0 : Int) ∧ (Ln a0 : Int) ≤ Lim] := by kernel_rfl
theorem c165_3 {N : Nat} : ∀ n x0 x3 x4 r, xCQ N n x0 x3 x4 = some r → RS Try.f165 I165 3 (S165_3 x0 x3 x4) (xB0 r) := by
 intro n
 induction n with
 | zero => exact fun _ _ _ _ h => nE h
 | succ n ih =>
  exact fun x0 x3 x4 r h =>
   cE h (fun h0 h => iE h fun h1 h => bE h fun r1 h2 h => iE h fun h3 h => tS fk165 (p165_3_0 x0 x3 x4 r1) (oc h0 (oc h1 (oc (laws_toOrigin_ok h2) (oc h3 on)))) (ih _ _ _ _ h)) fun h0 h =>
   dS h fk165 (p165_3_1 x0 x3 x4) (oc h0 on)
theorem c165_e {N : Nat} : ∀ a0 r, xCX N a0 = some r → RE Try.f165 I165 (xCP a0) (xB0 r) := fun a0 r h =>
 iE h fun h0 h => tE fk165 (p165_e_2 a0) (oc h0 on) (c165_3 _ _ _ _ _ h)
theorem laws_toOriginS_ok {N : Nat} {a0 : List Org} {r : (List Org)} (h : xCX N  a0 = some r) : AbC 165 (xCP a0) (xB0 r) :=
 AbsCalls.of_reach fk165 rfl rfl (Nat.le_of_ble_eq_true rfl) (c165_e a0 r h)
noncomputable def I128 : Info := { body := (Try.f128.body).getD .skip, nt := 13, results := [.cell 2 107], keep := [0, 2, 4, 6, 3, 5, 7], live := [], modes := [(4, [(0, .take, false)])] }
theorem fk128 : FnOk Try.prog 128 Try.f128 I128 := ⟨Try.func128, by kernel_rfl, by kernel_rfl, by kernel_rfl, by kernel_rfl⟩
theorem p128_e_0 (a0 : Rowd) (r1 : (List Int)) (r2 : (List Org)) : rE I128 (xDK a0) [] [xCI r1, xB0 r2] = dn (xDg (Rowd.mk r1 r2)) [AbC 164 (xDu (Rowd.cells a0)) (xCI r1), AbC 165 (xCP (Rowd.frm a0)) (xB0 r2)] := by kernel_rfl
theorem c128_e {N : Nat} : ∀ a0 r, xDO N a0 = some r → RE Try.f128 I128 (xDK a0) (xDg r) := fun a0 r h =>
 bE h fun r1 h0 h => bE h fun r2 h1 h => dE h fk128 (p128_e_0 a0 r1 r2) (oc (laws_toIntS_ok h0) (oc (laws_toOriginS_ok h1) on))
theorem laws_toRow_ok {N : Nat} {a0 : Rowd} {r : Rowd} (h : xDO N  a0 = some r) : AbC 128 (xDK a0) (xDg r) :=
 AbsCalls.of_reach fk128 rfl rfl (Nat.le_of_ble_eq_true rfl) (c128_e a0 r h)
noncomputable def I64 : Info := { body := (Try.f64.body).getD .skip, nt := 23, results := [.tmp 2], keep := [0, 4, 6, 8, 22], live := [(3, [0, 6, 8])], modes := [(5, [(0, .ref, false)]), (6, [(0, .take, false)])] }
theorem fk64 : FnOk Try.prog 64 Try.f64 I64 := ⟨Try.func64, by kernel_rfl, by kernel_rfl, by kernel_rfl, by kernel_rfl⟩
def S64_3 (x0 x3 : List Rowd) (x4 : Int) : St := [(0, .v false [.sl .ro .row x0]), (6, .v false [.sl .own .row x3]), (8, .v false [.int .i64 x4])]
theorem p64_3_0 (x0 x3 : List Rowd) (x4 : Int) (r1 : Rowd) : rS 3 I64 (S64_3 x0 x3 x4) [Y] [xDg r1] = st 3 I64 (S64_3 x0 (List.set x3 (tN x4) r1) (W (x4 + 1))) [(decide ((x4 : Int) < (Ln x0 : Int))) = true, (0 : Int) ≤ x4 ∧ x4 < (Ln x0), AbC 128 (xDK (gD x0 (tN x4) rd)) (xDg r1), (0 : Int) ≤ x4 ∧ x4 < (Ln x3)] := by kernel_rfl
theorem p64_3_1 (x0 x3 : List Rowd) (x4 : Int) : rS 3 I64 (S64_3 x0 x3 x4) [F] [] = dn (xCJ x3) [(decide ((x4 : Int) < (Ln x0 : Int))) = false] := by kernel_rfl
theorem p64_e_2 (a0 : List Rowd) : rE I64 (xDw a0) [] [] = st 3 I64 (S64_3 a0 (List.replicate (tN (Ln a0 : Int)) rd) 0) [(0 : Int) ≤ (Ln a0 : Int) ∧ (Ln a0 : Int) = (Ln a0 : Int) ∧ (Ln a0 : Int) ≤ Lim] := by kernel_rfl
theorem c64_3 {N : Nat} : ∀ n x0 x3 x4 r, xDx N n x0 x3 x4 = some r → RS Try.f64 I64 3 (S64_3 x0 x3 x4) (xCJ r) := by
 intro n
 induction n with
 | zero => exact fun _ _ _ _ h => nE h
 | succ n ih =>
  exact fun x0 x3 x4 r h =>
   cE h (fun h0 h => iE h fun h1 h => bE h fun r1 h2 h => iE h fun h3 h => tS fk64 (p64_3_0 x0 x3 x4 r1) (oc h0 (oc h1 (oc (laws_toRow_ok h2) (oc h3 on)))) (ih _ _ _ _ h)) fun h0 h =>
   dS h fk64 (p64_3_1 x0 x3 x4) (oc h0 on)
theorem c64_e {N : Nat} : ∀ a0 r, xDU N a0 = some r → RE Try.f64 I64 (xDw a0) (xCJ r) := fun a0 r h =>
 iE h fun h0 h => tE fk64 (p64_e_2 a0) (oc h0 on) (c64_3 _ _ _ _ _ h)
theorem laws_toRowS_ok {N : Nat} {a0 : List Rowd} {r : (List Rowd)} (h : xDU N  a0 = some r) : AbC 64 (xDw a0) (xCJ r) :=
 AbsCalls.of_reach fk64 rfl rfl (Nat.le_of_ble_eq_true rfl) (c64_e a0 r h)
def G12 (q : Val → Option (Val)) : Prop := ∀ a0 r, q a0 = some r → AbC 12 (xB6 a0) (xBt r)
def G62 (q : (List Val) → Option ((List Val))) : Prop := ∀ a0 r, q a0 = some r → AbC 62 (xCC a0) (xBQ r)
noncomputable def I12 : Info := { body := (Try.f12.body).getD .skip, nt := 29, results := [.cell 2 31], keep := [0, 2, 4, 6, 3, 5, 7], live := [], modes := [(9, [(0, .take, false)])] }
theorem fk12 : FnOk Try.prog 12 Try.f12 I12 := ⟨Try.func12, by kernel_rfl, by kernel_rfl, by kernel_rfl, by kernel_rfl⟩
theorem p12_e_0 (a0 : Val) (r1 : (List Val)) (r2 : (List Str)) (r3 : (List Rowd)) : rE I12 (xB6 a0) [] [xBQ r1, xB1 r2, xCJ r3] = dn (xBt (Val.mk (Val.kind a0) (Val.n a0) (Val.step a0) (Val.text a0) r1 r2 r3)) [AbC 62 (xCC (Val.list a0)) (xBQ r1), AbC 63 (xCR (Val.columns a0)) (xB1 r2), AbC 64 (xDw (Val.rows a0)) (xCJ r3)] := by kernel_rfl
theorem c12_e {N : Nat} {q0 : Val → Option (Val)} (g0 : G12 q0) {q1 : (List Val) → Option ((List Val))} (g1 : G62 q1) : ∀ a0 r, xCv N q0 q1 a0 = some r → RE Try.f12 I12 (xB6 a0) (xBt r) := fun a0 r h =>
 bE h fun r1 h0 h => bE h fun r2 h1 h => bE h fun r3 h2 h => dE h fk12 (p12_e_0 a0 r1 r2 r3) (oc (g1 _ _ h0) (oc (laws_toStringS_ok h1) (oc (laws_toRowS_ok h2) on)))
theorem xEu {N : Nat} {q0 : Val → Option (Val)} (g0 : G12 q0) {q1 : (List Val) → Option ((List Val))} (g1 : G62 q1) {a0 : Val} {r : Val} (h : xCv N q0 q1 a0 = some r) : AbC 12 (xB6 a0) (xBt r) :=
 AbsCalls.of_reach fk12 rfl rfl (Nat.le_of_ble_eq_true rfl) (c12_e g0 g1 a0 r h)
noncomputable def I62 : Info := { body := (Try.f62.body).getD .skip, nt := 23, results := [.tmp 2], keep := [0, 4, 6, 8, 22], live := [(3, [0, 6, 8])], modes := [(5, [(0, .ref, false)]), (6, [(0, .take, false)])] }
theorem fk62 : FnOk Try.prog 62 Try.f62 I62 := ⟨Try.func62, by kernel_rfl, by kernel_rfl, by kernel_rfl, by kernel_rfl⟩
def S62_3 (x0 x3 : List Val) (x4 : Int) : St := [(0, .v false [.sl .ro .val x0]), (6, .v false [.sl .own .val x3]), (8, .v false [.int .i64 x4])]
theorem p62_3_0 (x0 x3 : List Val) (x4 : Int) (r1 : Val) : rS 3 I62 (S62_3 x0 x3 x4) [Y] [xBt r1] = st 3 I62 (S62_3 x0 (List.set x3 (tN x4) (Val.re r1)) (W (x4 + 1))) [(decide ((x4 : Int) < (Ln x0 : Int))) = true, (0 : Int) ≤ x4 ∧ x4 < (Ln x0), AbC 12 (xB6 (gD x0 (tN x4) vd)) (xBt r1), (0 : Int) ≤ x4 ∧ x4 < (Ln x3)] := by kernel_rfl
theorem p62_3_1 (x0 x3 : List Val) (x4 : Int) : rS 3 I62 (S62_3 x0 x3 x4) [F] [] = dn (xBQ x3) [(decide ((x4 : Int) < (Ln x0 : Int))) = false] := by kernel_rfl
theorem p62_e_2 (a0 : List Val) : rE I62 (xCC a0) [] [] = st 3 I62 (S62_3 a0 (List.replicate (tN (Ln a0 : Int)) vd) 0) [(0 : Int) ≤ (Ln a0 : Int) ∧ (Ln a0 : Int) = (Ln a0 : Int) ∧ (Ln a0 : Int) ≤ Lim] := by kernel_rfl
theorem c62_3 {N : Nat} {q0 : Val → Option (Val)} (g0 : G12 q0) {q1 : (List Val) → Option ((List Val))} (g1 : G62 q1) : ∀ n x0 x3 x4 r, xC5 N q0 q1 n x0 x3 x4 = some r → RS Try.f62 I62 3 (S62_3 x0 x3 x4) (xBQ r) := by
 intro n
 induction n with
 | zero => exact fun _ _ _ _ h => nE h
 | succ n ih =>
  exact fun x0 x3 x4 r h =>
   cE h (fun h0 h => iE h fun h1 h => bE h fun r1 h2 h => iE h fun h3 h => tS fk62 (p62_3_0 x0 x3 x4 r1) (oc h0 (oc h1 (oc (g0 _ _ h2) (oc h3 on)))) (ih _ _ _ _ h)) fun h0 h =>
   dS h fk62 (p62_3_1 x0 x3 x4) (oc h0 on)
theorem c62_e {N : Nat} {q0 : Val → Option (Val)} (g0 : G12 q0) {q1 : (List Val) → Option ((List Val))} (g1 : G62 q1) : ∀ a0 r, xCk N q0 q1 a0 = some r → RE Try.f62 I62 (xCC a0) (xBQ r) := fun a0 r h =>
 iE h fun h0 h => tE fk62 (p62_e_2 a0) (oc h0 on) (c62_3 g0 g1 _ _ _ _ _ h)
theorem xEp {N : Nat} {q0 : Val → Option (Val)} (g0 : G12 q0) {q1 : (List Val) → Option ((List Val))} (g1 : G62 q1) {a0 : List Val} {r : (List Val)} (h : xCk N q0 q1 a0 = some r) : AbC 62 (xCC a0) (xBQ r) :=
 AbsCalls.of_reach fk62 rfl rfl (Nat.le_of_ble_eq_true rfl) (c62_e g0 g1 a0 r h)
theorem xEA {N : Nat} : ∀ d, G12 (xAE N d).c_laws_toValue ∧ G62 (xAE N d).c_laws_toValueS := by
 intro d
 induction d with
 | zero => exact ⟨fun _ _ h => nE h, fun _ _ h => nE h⟩
 | succ d ih =>
  obtain ⟨ih0, ih1⟩ := ih
  exact ⟨fun _ _ h => xEu (N := N) ih0 ih1 h, fun _ _ h => xEp (N := N) ih0 ih1 h⟩
theorem laws_toValue_ok {N : Nat} {a0 : Val} {r : Val} (h : xEo N a0 = some r) : AbC 12 (xB6 a0) (xBt r) := (xEA N).1 _ r h
noncomputable def I23 : Info := { body := (Try.f23.body).getD .skip, nt := 21, results := [.cell 2 49], keep := [0, 2, 4, 6, 3, 5, 7], live := [], modes := [(7, [(0, .take, false)])] }
theorem fk23 : FnOk Try.prog 23 Try.f23 I23 := ⟨Try.func23, by kernel_rfl, by kernel_rfl, by kernel_rfl, by kernel_rfl⟩
theorem p23_e_0 (a0 : Rea) (r1 : Val) : rE I23 (xAh a0) [] [xBt r1] = dn (xAb (Rea.mk (Rea.kind a0) (Rea.n a0) (Rea.time a0) (Rea.text a0) r1)) [AbC 12 (xB6 (Rea.result a0)) (xBt r1)] := by kernel_rfl
theorem c23_e {N : Nat} : ∀ a0 r, xCp N a0 = some r → RE Try.f23 I23 (xAh a0) (xAb r) := fun a0 r h =>
 bE h fun r1 h0 h => dE h fk23 (p23_e_0 a0 r1) (oc (laws_toValue_ok h0) on)
theorem xAi {N : Nat} {a0 : Rea} {r : Rea} (h : xCp N  a0 = some r) : AbC 23 (xAh a0) (xAb r) :=
 AbsCalls.of_reach fk23 rfl rfl (Nat.le_of_ble_eq_true rfl) (c23_e a0 r h)
noncomputable def I22 : Info := { body := (Try.f22.body).getD .skip, nt := 23, results := [.tmp 2], keep := [0, 4, 6, 8, 22], live := [(3, [0, 6, 8])], modes := [(5, [(0, .ref, false)]), (6, [(0, .take, false)])] }
theorem fk22 : FnOk Try.prog 22 Try.f22 I22 := ⟨Try.func22, by kernel_rfl, by kernel_rfl, by kernel_rfl, by kernel_rfl⟩
def S22_3 (x0 x3 : List Rea) (x4 : Int) : St := [(0, .v false [.sl .ro .rea x0]), (6, .v false [.sl .own .rea x3]), (8, .v false [.int .i64 x4])]
theorem p22_3_0 (x0 x3 : List Rea) (x4 : Int) (r1 : Rea) : rS 3 I22 (S22_3 x0 x3 x4) [Y] [xAb r1] = st 3 I22 (S22_3 x0 (List.set x3 (tN x4) (Rea.mk (Rea.kind r1) (Rea.n r1) (Rea.time r1) (Rea.text r1) (Val.re (Rea.result r1)))) (W (x4 + 1))) [(decide ((x4 : Int) < (Ln x0 : Int))) = true, (0 : Int) ≤ x4 ∧ x4 < (Ln x0), AbC 23 (xAh (gD x0 (tN x4) Ty.rea.dflt)) (xAb r1), (0 : Int) ≤ x4 ∧ x4 < (Ln x3)] := by kernel_rfl
theorem p22_3_1 (x0 x3 : List Rea) (x4 : Int) : rS 3 I22 (S22_3 x0 x3 x4) [F] [] = dn (xAa x3) [(decide ((x4 : Int) < (Ln x0 : Int))) = false] := by kernel_rfl
theorem p22_e_2 (a0 : List Rea) : rE I22 (xAd a0) [] [] = st 3 I22 (S22_3 a0 (List.replicate (tN (Ln a0 : Int)) Ty.rea.dflt) 0) [(0 : Int) ≤ (Ln a0 : Int) ∧ (Ln a0 : Int) = (Ln a0 : Int) ∧ (Ln a0 : Int) ≤ Lim] := by kernel_rfl
theorem c22_3 {N : Nat} : ∀ n x0 x3 x4 r, xDf N n x0 x3 x4 = some r → RS Try.f22 I22 3 (S22_3 x0 x3 x4) (xAa r) := by
 intro n
 induction n with
 | zero => exact fun _ _ _ _ h => nE h
 | succ n ih =>
  exact fun x0 x3 x4 r h =>
   cE h (fun h0 h => iE h fun h1 h => bE h fun r1 h2 h => iE h fun h3 h => tS fk22 (p22_3_0 x0 x3 x4 r1) (oc h0 (oc h1 (oc (xAi h2) (oc h3 on)))) (ih _ _ _ _ h)) fun h0 h =>
   dS h fk22 (p22_3_1 x0 x3 x4) (oc h0 on)
theorem c22_e {N : Nat} : ∀ a0 r, xCw N a0 = some r → RE Try.f22 I22 (xAd a0) (xAa r) := fun a0 r h =>
 iE h fun h0 h => tE fk22 (p22_e_2 a0) (oc h0 on) (c22_3 _ _ _ _ _ h)
theorem xAg {N : Nat} {a0 : List Rea} {r : (List Rea)} (h : xCw N  a0 = some r) : AbC 22 (xAd a0) (xAa r) :=
 AbsCalls.of_reach fk22 rfl rfl (Nat.le_of_ble_eq_true rfl) (c22_e a0 r h)
noncomputable def I91 : Info := { body := (Try.f91.body).getD .skip, nt := 31, results := [.tmp 4], keep := [0, 2, 4, 6, 8, 5, 7], live := [], modes := [(1, [(5, .take, false), (12, .take, false), (19, .take, false)])] }
theorem fk91 : FnOk Try.prog 91 Try.f91 I91 := ⟨Try.func91, by kernel_rfl, by kernel_rfl, by kernel_rfl, by kernel_rfl⟩
theorem p91_e_0 (a0 a1 : Rea) : rE I91 (xBJ a0 a1) [Y, Y, Y] [] = dn (xBh (((Rea.time a0) : Int) == (Rea.time a1))) [(((Rea.kind a0) : Int) == (Rea.kind a1)) = true, (((Rea.n a0) : Int) == (Rea.n a1)) = true, (((Rea.text a0) : Str) == (Rea.text a1)) = true] := by kernel_rfl
theorem p91_e_1 (a0 a1 : Rea) : rE I91 (xBJ a0 a1) [Y, Y, F] [] = dn (xBh false) [(((Rea.kind a0) : Int) == (Rea.kind a1)) = true, (((Rea.n a0) : Int) == (Rea.n a1)) = true, (((Rea.text a0) : Str) == (Rea.text a1)) = false] := by kernel_rfl
theorem p91_e_2 (a0 a1 : Rea) : rE I91 (xBJ a0 a1) [Y, F, F] [] = dn (xBh false) [(((Rea.kind a0) : Int) == (Rea.kind a1)) = true, (((Rea.n a0) : Int) == (Rea.n a1)) = false, false = false] := by kernel_rfl
theorem p91_e_3 (a0 a1 : Rea) : rE I91 (xBJ a0 a1) [F, F, F] [] = dn (xBh false) [(((Rea.kind a0) : Int) == (Rea.kind a1)) = false, false = false, false = false] := by kernel_rfl
theorem c91_e {N : Nat} : ∀ a0 a1 r, xDz N a0 a1 = some r → RE Try.f91 I91 (xBJ a0 a1) (xBh r) := fun a0 a1 r h =>
 cE h (fun h0 h => cE h (fun h1 h => cE h (fun h2 h => dE h fk91 (p91_e_0 a0 a1) (oc h0 (oc h1 (oc h2 on)))) fun h2 h =>
 dE h fk91 (p91_e_1 a0 a1) (oc h0 (oc h1 (oc h2 on)))) fun h1 h =>
 dE h fk91 (p91_e_2 a0 a1) (oc h0 (oc h1 (oc rfl on)))) fun h0 h =>
 dE h fk91 (p91_e_3 a0 a1) (oc h0 (oc rfl (oc rfl on)))
theorem xEq {N : Nat} {a0 : Rea} {a1 : Rea} {r : Bool} (h : xDz N  a0 a1 = some r) : AbC 91 (xBJ a0 a1) (xBh r) :=
 AbsCalls.of_reach fk91 rfl rfl (Nat.le_of_ble_eq_true rfl) (c91_e a0 a1 r h)
noncomputable def I139 : Info := { body := (Try.f139.body).getD .skip, nt := 12, results := [.cell 2 107], keep := [0, 2, 4, 3, 5], live := [], modes := [] }
theorem fk139 : FnOk Try.prog 139 Try.f139 I139 := ⟨Try.func139, by kernel_rfl, by kernel_rfl, by kernel_rfl, by kernel_rfl⟩
theorem p139_e_0 (a0 : Rowd) : rE I139 (xDN a0) [] [] = dn (xDh (Rowd.mk ([] ++ (Rowd.cells a0)) ([] ++ (Rowd.frm a0)))) [0 + Ln (Rowd.cells a0) ≤ Lim, 0 + Ln (Rowd.frm a0) ≤ Lim] := by kernel_rfl
theorem c139_e {N : Nat} : ∀ a0 r, xD7 N a0 = some r → RE Try.f139 I139 (xDN a0) (xDh r) := fun a0 r h =>
 iE h fun h0 h => iE h fun h1 h => dE h fk139 (p139_e_0 a0) (oc h0 (oc h1 on))
theorem spec_l3Row_ok {N : Nat} {a0 : Rowd} {r : Rowd} (h : xD7 N  a0 = some r) : AbC 139 (xDN a0) (xDh r) :=
 AbsCalls.of_reach fk139 rfl rfl (Nat.le_of_ble_eq_true rfl) (c139_e a0 r h)
def G84 (q : Val → Option (Val)) : Prop := ∀ a0 r, q a0 = some r → AbC 84 (xCq a0) (xBi r)
noncomputable def I84 : Info := { body := (Try.f84.body).getD .skip, nt := 56, results := [.cell 2 31], keep := [0, 2, 4, 6, 8, 10, 46, 82, 3, 5, 7], live := [(3, [2, 4, 6, 8, 3, 5, 7]), (7, [2, 4, 6, 10, 3, 5, 7])], modes := [(5, [(1, .take, false), (9, .take, false)]), (9, [(1, .take, false), (9, .take, false)]), (10, [(0, .take, false)])] }
theorem fk84 : FnOk Try.prog 84 Try.f84 I84 := ⟨Try.func84, by kernel_rfl, by kernel_rfl, by kernel_rfl, by kernel_rfl⟩
def S84_3 (x4 : Int) (b1 b2 b3 : Val) : St := [(2, .v false [.ptr 1 0]), (4, .v false [.ptr 2 0]), (6, .v false [.ptr 3 0]), (8, .v false [.int .i64 x4]), (3, .v true [.int .i64 (Val.kind b1), .int .i64 (Val.n b1), .int .i64 (Val.step b1), .str (Val.text b1), .sl .ro .val (Val.list b1), .sl .ro .str (Val.columns b1), .sl .ro .row (Val.rows b1)]), (5, .v true [.int .i64 (Val.kind b2), .int .i64 (Val.n b2), .int .i64 (Val.step b2), .str (Val.text b2), .sl .own .val (Val.list b2), .sl .own .str (Val.columns b2), .sl .own .row (Val.rows b2)]), (7, .v true [.int .i64 (Val.kind b3), .int .i64 (Val.n b3), .int .i64 (Val.step b3), .str (Val.text b3), .sl .own .val (Val.list b3), .sl .own .str (Val.columns b3), .sl .own .row (Val.rows b3)])]
def S84_7 (x5 : Int) (b1 b2 b3 : Val) : St := [(2, .v false [.ptr 1 0]), (4, .v false [.ptr 2 0]), (6, .v false [.ptr 3 0]), (10, .v false [.int .i64 x5]), (3, .v true [.int .i64 (Val.kind b1), .int .i64 (Val.n b1), .int .i64 (Val.step b1), .str (Val.text b1), .sl .ro .val (Val.list b1), .sl .ro .str (Val.columns b1), .sl .ro .row (Val.rows b1)]), (5, .v true [.int .i64 (Val.kind b2), .int .i64 (Val.n b2), .int .i64 (Val.step b2), .str (Val.text b2), .sl .own .val (Val.list b2), .sl .own .str (Val.columns b2), .sl .own .row (Val.rows b2)]), (7, .v true [.int .i64 (Val.kind b3), .int .i64 (Val.n b3), .int .i64 (Val.step b3), .str (Val.text b3), .sl .own .val (Val.list b3), .sl .own .str (Val.columns b3), .sl .own .row (Val.rows b3)])]
theorem p84_7_0 (x5 : Int) (b1 b2 b3 : Val) (r1 : Rowd) : rS 7 I84 (S84_7 x5 b1 b2 b3) [Y] [xDh r1] = st 7 I84 (S84_7 (W (x5 + 1)) b1 b2 (Val.mk (Val.kind b3) (Val.n b3) (Val.step b3) (Val.text b3) (Val.list b3) (Val.columns b3) ((Val.rows b3) ++ [r1]))) [(decide ((x5 : Int) < (Ln (Val.rows b1) : Int))) = true, (0 : Int) ≤ x5 ∧ x5 < (Ln (Val.rows b1)), AbC 139 (xDN (gD (Val.rows b1) (tN x5) rd)) (xDh r1), Ln (Val.rows b3) + Ln [r1] ≤ Lim] := by kernel_rfl
theorem p84_7_1 (x5 : Int) (b1 b2 b3 : Val) : rS 7 I84 (S84_7 x5 b1 b2 b3) [F] [] = dn (xBi b3) [(decide ((x5 : Int) < (Ln (Val.rows b1) : Int))) = false] := by kernel_rfl
theorem p84_3_2 (x4 : Int) (b1 b2 b3 r1 : Val) : rS 3 I84 (S84_3 x4 b1 b2 b3) [Y] [xBi r1] = st 3 I84 (S84_3 (W (x4 + 1)) b1 b2 (Val.mk (Val.kind b3) (Val.n b3) (Val.step b3) (Val.text b3) ((Val.list b3) ++ [(Val.re r1)]) (Val.columns b3) (Val.rows b3))) [(decide ((x4 : Int) < (Ln (Val.list b1) : Int))) = true, (0 : Int) ≤ x4 ∧ x4 < (Ln (Val.list b1)), AbC 84 (xCq (gD (Val.list b1) (tN x4) vd)) (xBi r1), Ln (Val.list b3) + Ln [(Val.re r1)] ≤ Lim] := by kernel_rfl
theorem p84_3_3 (x4 : Int) (b1 b2 b3 : Val) : rS 3 I84 (S84_3 x4 b1 b2 b3) [F] [] = st 7 I84 (S84_7 0 b1 b2 b3) [(decide ((x4 : Int) < (Ln (Val.list b1) : Int))) = false] := by kernel_rfl
theorem p84_e_4 (a0 : Val) : rE I84 (xCq a0) [] [] = st 3 I84 (S84_3 0 a0 (Val.mk 0 0 0 [] [] [] []) (Val.mk (Val.kind a0) (Val.n a0) (Val.step a0) (Val.text a0) [] ([] ++ (Val.columns a0)) [])) [0 + Ln (Val.columns a0) ≤ Lim] := by kernel_rfl
theorem c84_7 {N : Nat} {q0 : Val → Option (Val)} (g0 : G84 q0) : ∀ n x5 b1 b2 b3 r, xCr N q0 n x5 b1 b2 b3 = some r → RS Try.f84 I84 7 (S84_7 x5 b1 b2 b3) (xBi r) := by
 intro n
 induction n with
 | zero => exact fun _ _ _ _ _ h => nE h
 | succ n ih =>
  exact fun x5 b1 b2 b3 r h =>
   cE h (fun h0 h => iE h fun h1 h => bE h fun r1 h2 h => iE h fun h3 h => tS fk84 (p84_7_0 x5 b1 b2 b3 r1) (oc h0 (oc h1 (oc (spec_l3Row_ok h2) (oc h3 on)))) (ih _ _ _ _ _ h)) fun h0 h =>
   dS h fk84 (p84_7_1 x5 b1 b2 b3) (oc h0 on)
theorem c84_3 {N : Nat} {q0 : Val → Option (Val)} (g0 : G84 q0) : ∀ n x4 b1 b2 b3 r, xCK N q0 n x4 b1 b2 b3 = some r → RS Try.f84 I84 3 (S84_3 x4 b1 b2 b3) (xBi r) := by
 intro n
 induction n with
 | zero => exact fun _ _ _ _ _ h => nE h
 | succ n ih =>
  exact fun x4 b1 b2 b3 r h =>
   cE h (fun h0 h => iE h fun h1 h => bE h fun r1 h2 h => iE h fun h3 h => tS fk84 (p84_3_2 x4 b1 b2 b3 r1) (oc h0 (oc h1 (oc (g0 _ _ h2) (oc h3 on)))) (ih _ _ _ _ _ h)) fun h0 h =>
   tS fk84 (p84_3_3 x4 b1 b2 b3) (oc h0 on) (c84_7 g0 _ _ _ _ _ _ h)
theorem c84_e {N : Nat} {q0 : Val → Option (Val)} (g0 : G84 q0) : ∀ a0 r, xCD N q0 a0 = some r → RE Try.f84 I84 (xCq a0) (xBi r) := fun a0 r h =>
 iE h fun h0 h => tE fk84 (p84_e_4 a0) (oc h0 on) (c84_3 g0 _ _ _ _ _ _ h)
theorem xEB {N : Nat} {q0 : Val → Option (Val)} (g0 : G84 q0) {a0 : Val} {r : Val} (h : xCD N q0 a0 = some r) : AbC 84 (xCq a0) (xBi r) :=
 AbsCalls.of_reach fk84 rfl rfl (Nat.le_of_ble_eq_true rfl) (c84_e g0 a0 r h)
theorem xDY {N : Nat} : ∀ d, G84 (xB7 N d)
 | 0 => fun _ _ h => nE h
 | d + 1 => fun _ _ h => xEB (N := N) (xDY d) h
theorem spec_l3Copy_ok {N : Nat} {a0 : Val} {r : Val} (h : xEe N a0 = some r) : AbC 84 (xCq a0) (xBi r) := xDY N _ r h
noncomputable def I21 : Info := { body := (Try.f21.body).getD .skip, nt := 26, results := [.cell 4 31, .tmp 5], keep := [0, 2, 6, 8, 10, 12, 20, 36, 7, 9], live := [(2, [0, 6, 8, 12, 7, 9])], modes := [] }
theorem fk21 : FnOk Try.prog 21 Try.f21 I21 := ⟨Try.func21, by kernel_rfl, by kernel_rfl, by kernel_rfl, by kernel_rfl⟩
def S21_2 (x0 : List Rea) (x6 : Int) (b3 : Rea) (b4 : Val) : St := [(0, .v false [.sl .ro .rea x0]), (6, .v false [.ptr 3 0]), (8, .v false [.ptr 4 0]), (12, .v false [.int .i64 x6]), (7, .v true [.int .i64 (Rea.kind b3), .int .i64 (Rea.n b3), .int .i64 (Rea.time b3), .str (Rea.text b3), .int .i64 (Val.kind (Rea.result b3)), .int .i64 (Val.n (Rea.result b3)), .int .i64 (Val.step (Rea.result b3)), .str (Val.text (Rea.result b3)), .sl .ro .val (Val.list (Rea.result b3)), .sl .ro .str (Val.columns (Rea.result b3)), .sl .ro .row (Val.rows (Rea.result b3))]), (9, .v true [.int .i64 (Val.kind b4), .int .i64 (Val.n b4), .int .i64 (Val.step b4), .str (Val.text b4), .sl .own .val (Val.list b4), .sl .own .str (Val.columns b4), .sl .own .row (Val.rows b4)])]
theorem p21_2_0 (x0 : List Rea) (x6 : Int) (b3 : Rea) (b4 : Val) (r1 : Bool) (r2 : Val) : rS 2 I21 (S21_2 x0 x6 b3 b4) [Y, Y] [xBh r1, xBi r2] = dn (xAm (r2, true)) [(decide ((x6 : Int) < (Ln x0 : Int))) = true, (0 : Int) ≤ x6 ∧ x6 < (Ln x0), AbC 91 (xBJ (gD x0 (tN x6) Ty.rea.dflt) b3) (xBh r1), r1 = true, (0 : Int) ≤ x6 ∧ x6 < (Ln x0), AbC 84 (xCq (Rea.result (gD x0 (tN x6) Ty.rea.dflt))) (xBi r2)] := by kernel_rfl
theorem p21_2_1 (x0 : List Rea) (x6 : Int) (b3 : Rea) (b4 : Val) (r1 : Bool) : rS 2 I21 (S21_2 x0 x6 b3 b4) [Y, F] [xBh r1] = st 2 I21 (S21_2 x0 (W (x6 + 1)) b3 b4) [(decide ((x6 : Int) < (Ln x0 : Int))) = true, (0 : Int) ≤ x6 ∧ x6 < (Ln x0), AbC 91 (xBJ (gD x0 (tN x6) Ty.rea.dflt) b3) (xBh r1), r1 = false] := by kernel_rfl
theorem p21_2_2 (x0 : List Rea) (x6 : Int) (b3 : Rea) (b4 : Val) : rS 2 I21 (S21_2 x0 x6 b3 b4) [F] [] = dn (xAm ((Val.mk 0 0 0 [] [] [] []), false)) [(decide ((x6 : Int) < (Ln x0 : Int))) = false] := by kernel_rfl
theorem p21_e_3 (a0 : List Rea) (a1 : Rea) : rE I21 (xAH a0 a1) [] [] = st 2 I21 (S21_2 a0 0 a1 (Val.mk 0 0 0 [] [] [] [])) [] := by kernel_rfl
theorem c21_2 {N : Nat} : ∀ n x0 x6 b3 b4 r, xBR N n x0 x6 b3 b4 = some r → RS Try.f21 I21 2 (S21_2 x0 x6 b3 b4) (xAm r) := by
 intro n
 induction n with
 | zero => exact fun _ _ _ _ _ h => nE h
 | succ n ih =>
  exact fun x0 x6 b3 b4 r h =>
   cE h (fun h0 h => iE h fun h1 h => bE h fun r1 h2 h => cE h (fun h3 h => bE h fun r2 h5 h => dS h fk21 (p21_2_0 x0 x6 b3 b4 r1 r2) (oc h0 (oc h1 (oc (xEq h2) (oc h3 (oc h1 (oc (spec_l3Copy_ok h5) on))))))) fun h3 h =>
   tS fk21 (p21_2_1 x0 x6 b3 b4 r1) (oc h0 (oc h1 (oc (xEq h2) (oc h3 on)))) (ih _ _ _ _ _ h)) fun h0 h =>
   dS h fk21 (p21_2_2 x0 x6 b3 b4) (oc h0 on)
theorem c21_e {N : Nat} : ∀ a0 a1 r, xDM N a0 a1 = some r → RE Try.f21 I21 (xAH a0 a1) (xAm r) := fun a0 a1 r h =>
 tE fk21 (p21_e_3 a0 a1) on (c21_2 _ _ _ _ _ _ h)
theorem xAV {N : Nat} {a0 : List Rea} {a1 : Rea} {r : Val × Bool} (h : xDM N  a0 a1 = some r) : AbC 21 (xAH a0 a1) (xAm r) :=
 AbsCalls.of_reach fk21 rfl rfl (Nat.le_of_ble_eq_true rfl) (c21_e a0 a1 r h)
noncomputable def I92 : Info := { body := (Try.f92.body).getD .skip, nt := 31, results := [.tmp 4], keep := [0, 2, 4, 6, 8, 5, 7], live := [], modes := [(1, [(5, .take, false), (12, .take, false), (19, .take, false)])] }
theorem fk92 : FnOk Try.prog 92 Try.f92 I92 := ⟨Try.func92, by kernel_rfl, by kernel_rfl, by kernel_rfl, by kernel_rfl⟩
theorem p92_e_0 (a0 a1 : Rea) : rE I92 (xBv a0 a1) [Y, Y, Y] [] = dn (xBa (((Rea.time a0) : Int) == (Rea.time a1))) [(((Rea.kind a0) : Int) == (Rea.kind a1)) = true, (((Rea.n a0) : Int) == (Rea.n a1)) = true, (((Rea.text a0) : Str) == (Rea.text a1)) = true] := by kernel_rfl
theorem p92_e_1 (a0 a1 : Rea) : rE I92 (xBv a0 a1) [Y, Y, F] [] = dn (xBa false) [(((Rea.kind a0) : Int) == (Rea.kind a1)) = true, (((Rea.n a0) : Int) == (Rea.n a1)) = true, (((Rea.text a0) : Str) == (Rea.text a1)) = false] := by kernel_rfl
theorem p92_e_2 (a0 a1 : Rea) : rE I92 (xBv a0 a1) [Y, F, F] [] = dn (xBa false) [(((Rea.kind a0) : Int) == (Rea.kind a1)) = true, (((Rea.n a0) : Int) == (Rea.n a1)) = false, false = false] := by kernel_rfl
theorem p92_e_3 (a0 a1 : Rea) : rE I92 (xBv a0 a1) [F, F, F] [] = dn (xBa false) [(((Rea.kind a0) : Int) == (Rea.kind a1)) = false, false = false, false = false] := by kernel_rfl
theorem c92_e {N : Nat} : ∀ a0 a1 r, xDa N a0 a1 = some r → RE Try.f92 I92 (xBv a0 a1) (xBa r) := fun a0 a1 r h =>
 cE h (fun h0 h => cE h (fun h1 h => cE h (fun h2 h => dE h fk92 (p92_e_0 a0 a1) (oc h0 (oc h1 (oc h2 on)))) fun h2 h =>
 dE h fk92 (p92_e_1 a0 a1) (oc h0 (oc h1 (oc h2 on)))) fun h1 h =>
 dE h fk92 (p92_e_2 a0 a1) (oc h0 (oc h1 (oc rfl on)))) fun h0 h =>
 dE h fk92 (p92_e_3 a0 a1) (oc h0 (oc rfl (oc rfl on)))
theorem xEf {N : Nat} {a0 : Rea} {a1 : Rea} {r : Bool} (h : xDa N  a0 a1 = some r) : AbC 92 (xBv a0 a1) (xBa r) :=
 AbsCalls.of_reach fk92 rfl rfl (Nat.le_of_ble_eq_true rfl) (c92_e a0 a1 r h)
noncomputable def I143 : Info := { body := (Try.f143.body).getD .skip, nt := 12, results := [.cell 2 107], keep := [0, 2, 4, 3, 5], live := [], modes := [] }
theorem fk143 : FnOk Try.prog 143 Try.f143 I143 := ⟨Try.func143, by kernel_rfl, by kernel_rfl, by kernel_rfl, by kernel_rfl⟩
theorem p143_e_0 (a0 : Rowd) : rE I143 (xC9 a0) [] [] = dn (xCM (Rowd.mk ([] ++ (Rowd.cells a0)) ([] ++ (Rowd.frm a0)))) [0 + Ln (Rowd.cells a0) ≤ Lim, 0 + Ln (Rowd.frm a0) ≤ Lim] := by kernel_rfl
theorem c143_e {N : Nat} : ∀ a0 r, xDV N a0 = some r → RE Try.f143 I143 (xC9 a0) (xCM r) := fun a0 r h =>
 iE h fun h0 h => iE h fun h1 h => dE h fk143 (p143_e_0 a0) (oc h0 (oc h1 on))
theorem impl_copyRow_ok {N : Nat} {a0 : Rowd} {r : Rowd} (h : xDV N  a0 = some r) : AbC 143 (xC9 a0) (xCM r) :=
 AbsCalls.of_reach fk143 rfl rfl (Nat.le_of_ble_eq_true rfl) (c143_e a0 r h)
def G89 (q : Val → Option (Val)) : Prop := ∀ a0 r, q a0 = some r → AbC 89 (xBx a0) (xA6 r)
def G69 (q : (List Val) → Option ((List Val))) : Prop := ∀ a0 r, q a0 = some r → AbC 69 (xCi a0) (xBs r)
noncomputable def I89 : Info := { body := (Try.f89.body).getD .skip, nt := 33, results := [.cell 2 31], keep := [0, 2, 4, 6, 10, 36, 38, 40, 42, 3, 5, 7, 11], live := [(6, [4, 6, 36, 38, 40, 5, 7])], modes := [(8, [(1, .take, false), (5, .take, false)]), (9, [(1, .take, false)]), (10, [(0, .take, false)])] }
theorem fk89 : FnOk Try.prog 89 Try.f89 I89 := ⟨Try.func89, by kernel_rfl, by kernel_rfl, by kernel_rfl, by kernel_rfl⟩
def S89_6 (x18 : List Rowd) (x19 x20 : Int) (b2 b3 : Val) : St := [(4, .v false [.ptr 2 0]), (6, .v false [.ptr 3 0]), (36, .v false [.sl .ro .row x18]), (38, .v false [.int .i64 x19]), (40, .v false [.int .i64 x20]), (5, .v true [.int .i64 (Val.kind b2), .int .i64 (Val.n b2), .int .i64 (Val.step b2), .str (Val.text b2), .sl .own .val (Val.list b2), .sl .own .str (Val.columns b2), .sl .own .row (Val.rows b2)]), (7, .v true [.int .i64 (Val.kind b3), .int .i64 (Val.n b3), .int .i64 (Val.step b3), .str (Val.text b3), .sl .own .val (Val.list b3), .sl .own .str (Val.columns b3), .sl .own .row (Val.rows b3)])]
theorem p89_6_0 (x18 : List Rowd) (x19 x20 : Int) (b2 b3 : Val) (r1 : Rowd) : rS 6 I89 (S89_6 x18 x19 x20 b2 b3) [Y] [xCM r1] = st 6 I89 (S89_6 x18 x19 (W (x20 + 1)) b2 (Val.mk (Val.kind b3) (Val.n b3) (Val.step b3) (Val.text b3) (Val.list b3) (Val.columns b3) ((Val.rows b3) ++ [r1]))) [(decide ((x20 : Int) < x19)) = true, (0 : Int) ≤ x20 ∧ x20 < (Ln x18), AbC 143 (xC9 (gD x18 (tN x20) rd)) (xCM r1), Ln (Val.rows b3) + Ln [r1] ≤ Lim] := by kernel_rfl
theorem p89_6_1 (x18 : List Rowd) (x19 x20 : Int) (b2 b3 : Val) : rS 6 I89 (S89_6 x18 x19 x20 b2 b3) [F] [] = dn (xA6 b3) [(decide ((x20 : Int) < x19)) = false] := by kernel_rfl
theorem p89_e_2 (a0 : Val) (r1 : (List Val)) : rE I89 (xBx a0) [] [xBs r1] = st 6 I89 (S89_6 (Val.rows a0) (Ln (Val.rows a0) : Int) 0 (Val.mk 0 0 0 [] [] [] []) (Val.mk (Val.kind a0) (Val.n a0) (Val.step a0) (Val.text a0) r1 ([] ++ (Val.columns a0)) [])) [AbC 69 (xCi (Val.list a0)) (xBs r1), 0 + Ln (Val.columns a0) ≤ Lim] := by kernel_rfl
theorem c89_6 {N : Nat} {q0 : Val → Option (Val)} (g0 : G89 q0) {q1 : (List Val) → Option ((List Val))} (g1 : G69 q1) : ∀ n x18 x19 x20 b2 b3 r, xBy N q0 q1 n x18 x19 x20 b2 b3 = some r → RS Try.f89 I89 6 (S89_6 x18 x19 x20 b2 b3) (xA6 r) := by
 intro n
 induction n with
 | zero => exact fun _ _ _ _ _ _ h => nE h
 | succ n ih =>
  exact fun x18 x19 x20 b2 b3 r h =>
   cE h (fun h0 h => iE h fun h1 h => bE h fun r1 h2 h => iE h fun h3 h => tS fk89 (p89_6_0 x18 x19 x20 b2 b3 r1) (oc h0 (oc h1 (oc (impl_copyRow_ok h2) (oc h3 on)))) (ih _ _ _ _ _ _ h)) fun h0 h =>
   dS h fk89 (p89_6_1 x18 x19 x20 b2 b3) (oc h0 on)
theorem c89_e {N : Nat} {q0 : Val → Option (Val)} (g0 : G89 q0) {q1 : (List Val) → Option ((List Val))} (g1 : G69 q1) : ∀ a0 r, xB2 N q0 q1 a0 = some r → RE Try.f89 I89 (xBx a0) (xA6 r) := fun a0 r h =>
 bE h fun r1 h0 h => iE h fun h1 h => tE fk89 (p89_e_2 a0 r1) (oc (g1 _ _ h0) (oc h1 on)) (c89_6 g0 g1 _ _ _ _ _ _ _ h)
theorem xEh {N : Nat} {q0 : Val → Option (Val)} (g0 : G89 q0) {q1 : (List Val) → Option ((List Val))} (g1 : G69 q1) {a0 : Val} {r : Val} (h : xB2 N q0 q1 a0 = some r) : AbC 89 (xBx a0) (xA6 r) :=
 AbsCalls.of_reach fk89 rfl rfl (Nat.le_of_ble_eq_true rfl) (c89_e g0 g1 a0 r h)
noncomputable def I69 : Info := { body := (Try.f69.body).getD .skip, nt := 20, results := [.tmp 2], keep := [0, 4, 6, 10, 14, 16, 18, 20, 11], live := [(3, [6, 14, 16, 18])], modes := [(5, [(0, .take, false), (4, .take, false)]), (6, [(1, .take, false)]), (7, [(0, .take, false)])] }
theorem fk69 : FnOk Try.prog 69 Try.f69 I69 := ⟨Try.func69, by kernel_rfl, by kernel_rfl, by kernel_rfl, by kernel_rfl⟩
def S69_3 (x3 x7 : List Val) (x8 x9 : Int) : St := [(6, .v false [.sl .own .val x3]), (14, .v false [.sl .ro .val x7]), (16, .v false [.int .i64 x8]), (18, .v false [.int .i64 x9])]
theorem p69_3_0 (x3 x7 : List Val) (x8 x9 : Int) (r1 : Val) : rS 3 I69 (S69_3 x3 x7 x8 x9) [Y] [xA6 r1] = st 3 I69 (S69_3 (x3 ++ [(Val.re r1)]) x7 x8 (W (x9 + 1))) [(decide ((x9 : Int) < x8)) = true, (0 : Int) ≤ x9 ∧ x9 < (Ln x7), AbC 89 (xBx (gD x7 (tN x9) vd)) (xA6 r1), Ln x3 + Ln [(Val.re r1)] ≤ Lim] := by kernel_rfl
theorem p69_3_1 (x3 x7 : List Val) (x8 x9 : Int) : rS 3 I69 (S69_3 x3 x7 x8 x9) [F] [] = dn (xBs x3) [(decide ((x9 : Int) < x8)) = false] := by kernel_rfl
theorem p69_e_2 (a0 : List Val) : rE I69 (xCi a0) [] [] = st 3 I69 (S69_3 [] a0 (Ln a0 : Int) 0) [] := by kernel_rfl
theorem c69_3 {N : Nat} {q0 : Val → Option (Val)} (g0 : G89 q0) {q1 : (List Val) → Option ((List Val))} (g1 : G69 q1) : ∀ n x3 x7 x8 x9 r, xBK N q0 q1 n x3 x7 x8 x9 = some r → RS Try.f69 I69 3 (S69_3 x3 x7 x8 x9) (xBs r) := by
 intro n
 induction n with
 | zero => exact fun _ _ _ _ _ h => nE h
 | succ n ih =>
  exact fun x3 x7 x8 x9 r h =>
   cE h (fun h0 h => iE h fun h1 h => bE h fun r1 h2 h => iE h fun h3 h => tS fk69 (p69_3_0 x3 x7 x8 x9 r1) (oc h0 (oc h1 (oc (g0 _ _ h2) (oc h3 on)))) (ih _ _ _ _ _ h)) fun h0 h =>
   dS h fk69 (p69_3_1 x3 x7 x8 x9) (oc h0 on)
theorem c69_e {N : Nat} {q0 : Val → Option (Val)} (g0 : G89 q0) {q1 : (List Val) → Option ((List Val))} (g1 : G69 q1) : ∀ a0 r, xBS N q0 q1 a0 = some r → RE Try.f69 I69 (xCi a0) (xBs r) := fun a0 r h =>
 tE fk69 (p69_e_2 a0) on (c69_3 g0 g1 _ _ _ _ _ _ h)
theorem xD8 {N : Nat} {q0 : Val → Option (Val)} (g0 : G89 q0) {q1 : (List Val) → Option ((List Val))} (g1 : G69 q1) {a0 : List Val} {r : (List Val)} (h : xBS N q0 q1 a0 = some r) : AbC 69 (xCi a0) (xBs r) :=
 AbsCalls.of_reach fk69 rfl rfl (Nat.le_of_ble_eq_true rfl) (c69_e g0 g1 a0 r h)
theorem xEj {N : Nat} : ∀ d, G89 (xAy N d).c_impl_copyValue ∧ G69 (xAy N d).c_impl_copyValues := by
 intro d
 induction d with
 | zero => exact ⟨fun _ _ h => nE h, fun _ _ h => nE h⟩
 | succ d ih =>
  obtain ⟨ih0, ih1⟩ := ih
  exact ⟨fun _ _ h => xEh (N := N) ih0 ih1 h, fun _ _ h => xD8 (N := N) ih0 ih1 h⟩
theorem impl_copyValue_ok {N : Nat} {a0 : Val} {r : Val} (h : xDp N a0 = some r) : AbC 89 (xBx a0) (xA6 r) := (xEj N).1 _ r h
noncomputable def I24 : Info := { body := (Try.f24.body).getD .skip, nt := 22, results := [.cell 4 31, .tmp 5], keep := [0, 2, 6, 8, 10, 14, 16, 18, 20, 22, 32, 7, 9, 15], live := [(2, [6, 8, 16, 18, 20, 7, 9])], modes := [(6, [(1, .take, false)])] }
theorem fk24 : FnOk Try.prog 24 Try.f24 I24 := ⟨Try.func24, by kernel_rfl, by kernel_rfl, by kernel_rfl, by kernel_rfl⟩
def S24_2 (x8 : List Rea) (x9 x10 : Int) (b3 : Rea) (b4 : Val) : St := [(6, .v false [.ptr 3 0]), (8, .v false [.ptr 4 0]), (16, .v false [.sl .ro .rea x8]), (18, .v false [.int .i64 x9]), (20, .v false [.int .i64 x10]), (7, .v true [.int .i64 (Rea.kind b3), .int .i64 (Rea.n b3), .int .i64 (Rea.time b3), .str (Rea.text b3), .int .i64 (Val.kind (Rea.result b3)), .int .i64 (Val.n (Rea.result b3)), .int .i64 (Val.step (Rea.result b3)), .str (Val.text (Rea.result b3)), .sl .ro .val (Val.list (Rea.result b3)), .sl .ro .str (Val.columns (Rea.result b3)), .sl .ro .row (Val.rows (Rea.result b3))]), (9, .v true [.int .i64 (Val.kind b4), .int .i64 (Val.n b4), .int .i64 (Val.step b4), .str (Val.text b4), .sl .own .val (Val.list b4), .sl .own .str (Val.columns b4), .sl .own .row (Val.rows b4)])]
theorem p24_2_0 (x8 : List Rea) (x9 x10 : Int) (b3 : Rea) (b4 : Val) (r1 : Bool) (r2 : Val) : rS 2 I24 (S24_2 x8 x9 x10 b3 b4) [Y, Y] [xBa r1, xA6 r2] = dn (xAe (r2, true)) [(decide ((x10 : Int) < x9)) = true, (0 : Int) ≤ x10 ∧ x10 < (Ln x8), AbC 92 (xBv (gD x8 (tN x10) Ty.rea.dflt) b3) (xBa r1), r1 = true, AbC 89 (xBx (Rea.result (gD x8 (tN x10) Ty.rea.dflt))) (xA6 r2)] := by kernel_rfl
theorem p24_2_1 (x8 : List Rea) (x9 x10 : Int) (b3 : Rea) (b4 : Val) (r1 : Bool) : rS 2 I24 (S24_2 x8 x9 x10 b3 b4) [Y, F] [xBa r1] = st 2 I24 (S24_2 x8 x9 (W (x10 + 1)) b3 b4) [(decide ((x10 : Int) < x9)) = true, (0 : Int) ≤ x10 ∧ x10 < (Ln x8), AbC 92 (xBv (gD x8 (tN x10) Ty.rea.dflt) b3) (xBa r1), r1 = false] := by kernel_rfl
theorem p24_2_2 (x8 : List Rea) (x9 x10 : Int) (b3 : Rea) (b4 : Val) : rS 2 I24 (S24_2 x8 x9 x10 b3 b4) [F] [] = dn (xAe ((Val.mk 0 0 0 [] [] [] []), false)) [(decide ((x10 : Int) < x9)) = false] := by kernel_rfl
theorem p24_e_3 (a0 : List Rea) (a1 : Rea) : rE I24 (xAw a0 a1) [] [] = st 2 I24 (S24_2 a0 (Ln a0 : Int) 0 a1 (Val.mk 0 0 0 [] [] [] [])) [] := by kernel_rfl
theorem c24_2 {N : Nat} : ∀ n x8 x9 x10 b3 b4 r, xBN N n x8 x9 x10 b3 b4 = some r → RS Try.f24 I24 2 (S24_2 x8 x9 x10 b3 b4) (xAe r) := by
 intro n
 induction n with
 | zero => exact fun _ _ _ _ _ _ h => nE h
 | succ n ih =>
  exact fun x8 x9 x10 b3 b4 r h =>
   cE h (fun h0 h => iE h fun h1 h => bE h fun r1 h2 h => cE h (fun h3 h => bE h fun r2 h4 h => dS h fk24 (p24_2_0 x8 x9 x10 b3 b4 r1 r2) (oc h0 (oc h1 (oc (xEf h2) (oc h3 (oc (impl_copyValue_ok h4) on)))))) fun h3 h =>
   tS fk24 (p24_2_1 x8 x9 x10 b3 b4 r1) (oc h0 (oc h1 (oc (xEf h2) (oc h3 on)))) (ih _ _ _ _ _ _ h)) fun h0 h =>
   dS h fk24 (p24_2_2 x8 x9 x10 b3 b4) (oc h0 on)
theorem c24_e {N : Nat} : ∀ a0 a1 r, xC8 N a0 a1 = some r → RE Try.f24 I24 (xAw a0 a1) (xAe r) := fun a0 a1 r h =>
 tE fk24 (p24_e_3 a0 a1) on (c24_2 _ _ _ _ _ _ _ h)
theorem xAA {N : Nat} {a0 : List Rea} {a1 : Rea} {r : Val × Bool} (h : xC8 N  a0 a1 = some r) : AbC 24 (xAw a0 a1) (xAe r) :=
 AbsCalls.of_reach fk24 rfl rfl (Nat.le_of_ble_eq_true rfl) (c24_e a0 a1 r h)
noncomputable def I73 : Info := { body := (Try.f73.body).getD .skip, nt := 26, results := [.tmp 4], keep := [0, 2, 8, 10, 20, 28, 50], live := [(4, [0, 2, 10])], modes := [] }
theorem fk73 : FnOk Try.prog 73 Try.f73 I73 := ⟨Try.func73, by kernel_rfl, by kernel_rfl, by kernel_rfl, by kernel_rfl⟩
def S73_4 (x0 x1 : List Str) (x5 : Int) : St := [(0, .v false [.sl .ro .str x0]), (2, .v false [.sl .ro .str x1]), (10, .v false [.int .i64 x5])]
theorem p73_4_0 (x0 x1 : List Str) (x5 : Int) : rS 4 I73 (S73_4 x0 x1 x5) [Y, Y] [] = dn (xAS false) [(decide ((x5 : Int) < (Ln x0 : Int))) = true, (0 : Int) ≤ x5 ∧ x5 < (Ln x0), (0 : Int) ≤ x5 ∧ x5 < (Ln x1), (!(((gD x0 (tN x5) Ty.str.dflt) : Str) == (gD x1 (tN x5) Ty.str.dflt))) = true] := by kernel_rfl
theorem p73_4_1 (x0 x1 : List Str) (x5 : Int) : rS 4 I73 (S73_4 x0 x1 x5) [Y, F] [] = st 4 I73 (S73_4 x0 x1 (W (x5 + 1))) [(decide ((x5 : Int) < (Ln x0 : Int))) = true, (0 : Int) ≤ x5 ∧ x5 < (Ln x0), (0 : Int) ≤ x5 ∧ x5 < (Ln x1), (!(((gD x0 (tN x5) Ty.str.dflt) : Str) == (gD x1 (tN x5) Ty.str.dflt))) = false] := by kernel_rfl
theorem p73_4_2 (x0 x1 : List Str) (x5 : Int) : rS 4 I73 (S73_4 x0 x1 x5) [F] [] = dn (xAS true) [(decide ((x5 : Int) < (Ln x0 : Int))) = false] := by kernel_rfl
theorem p73_e_3 (a0 a1 : List Str) : rE I73 (xBz a0 a1) [Y] [] = dn (xAS false) [(((Ln a0 : Int) : Int) != (Ln a1 : Int)) = true] := by kernel_rfl
theorem p73_e_4 (a0 a1 : List Str) : rE I73 (xBz a0 a1) [F] [] = st 4 I73 (S73_4 a0 a1 0) [(((Ln a0 : Int) : Int) != (Ln a1 : Int)) = false] := by kernel_rfl
theorem c73_4 {N : Nat} : ∀ n x0 x1 x5 r, xBX N n x0 x1 x5 = some r → RS Try.f73 I73 4 (S73_4 x0 x1 x5) (xAS r) := by
 intro n
 induction n with
 | zero => exact fun _ _ _ _ h => nE h
 | succ n ih =>
  exact fun x0 x1 x5 r h =>
   cE h (fun h0 h => iE h fun h1 h => iE h fun h2 h => cE h (fun h3 h => dS h fk73 (p73_4_0 x0 x1 x5) (oc h0 (oc h1 (oc h2 (oc h3 on))))) fun h3 h =>
   tS fk73 (p73_4_1 x0 x1 x5) (oc h0 (oc h1 (oc h2 (oc h3 on)))) (ih _ _ _ _ h)) fun h0 h =>
   dS h fk73 (p73_4_2 x0 x1 x5) (oc h0 on)
theorem c73_e {N : Nat} : ∀ a0 a1 r, xCW N a0 a1 = some r → RE Try.f73 I73 (xBz a0 a1) (xAS r) := fun a0 a1 r h =>
 cE h (fun h0 h => dE h fk73 (p73_e_3 a0 a1) (oc h0 on)) fun h0 h =>
 tE fk73 (p73_e_4 a0 a1) (oc h0 on) (c73_4 _ _ _ _ _ h)
theorem xDl {N : Nat} {a0 : List Str} {a1 : List Str} {r : Bool} (h : xCW N  a0 a1 = some r) : AbC 73 (xBz a0 a1) (xAS r) :=
 AbsCalls.of_reach fk73 rfl rfl (Nat.le_of_ble_eq_true rfl) (c73_e a0 a1 r h)
noncomputable def I172 : Info := { body := (Try.f172.body).getD .skip, nt := 26, results := [.tmp 4], keep := [0, 2, 8, 10, 20, 28, 50], live := [(4, [0, 2, 10])], modes := [] }
theorem fk172 : FnOk Try.prog 172 Try.f172 I172 := ⟨Try.func172, by kernel_rfl, by kernel_rfl, by kernel_rfl, by kernel_rfl⟩
def S172_4 (x0 x1 : List Int) (x5 : Int) : St := [(0, .v false [.sl .ro .int x0]), (2, .v false [.sl .ro .int x1]), (10, .v false [.int .i64 x5])]
theorem p172_4_0 (x0 x1 : List Int) (x5 : Int) : rS 4 I172 (S172_4 x0 x1 x5) [Y, Y] [] = dn (xBb false) [(decide ((x5 : Int) < (Ln x0 : Int))) = true, (0 : Int) ≤ x5 ∧ x5 < (Ln x0), (0 : Int) ≤ x5 ∧ x5 < (Ln x1), (((gD x0 (tN x5) Ty.int.dflt) : Int) != (gD x1 (tN x5) Ty.int.dflt)) = true] := by kernel_rfl
theorem p172_4_1 (x0 x1 : List Int) (x5 : Int) : rS 4 I172 (S172_4 x0 x1 x5) [Y, F] [] = st 4 I172 (S172_4 x0 x1 (W (x5 + 1))) [(decide ((x5 : Int) < (Ln x0 : Int))) = true, (0 : Int) ≤ x5 ∧ x5 < (Ln x0), (0 : Int) ≤ x5 ∧ x5 < (Ln x1), (((gD x0 (tN x5) Ty.int.dflt) : Int) != (gD x1 (tN x5) Ty.int.dflt)) = false] := by kernel_rfl
theorem p172_4_2 (x0 x1 : List Int) (x5 : Int) : rS 4 I172 (S172_4 x0 x1 x5) [F] [] = dn (xBb true) [(decide ((x5 : Int) < (Ln x0 : Int))) = false] := by kernel_rfl
theorem p172_e_3 (a0 a1 : List Int) : rE I172 (xCl a0 a1) [Y] [] = dn (xBb false) [(((Ln a0 : Int) : Int) != (Ln a1 : Int)) = true] := by kernel_rfl
theorem p172_e_4 (a0 a1 : List Int) : rE I172 (xCl a0 a1) [F] [] = st 4 I172 (S172_4 a0 a1 0) [(((Ln a0 : Int) : Int) != (Ln a1 : Int)) = false] := by kernel_rfl
theorem c172_4 {N : Nat} : ∀ n x0 x1 x5 r, xCE N n x0 x1 x5 = some r → RS Try.f172 I172 4 (S172_4 x0 x1 x5) (xBb r) := by
 intro n
 induction n with
 | zero => exact fun _ _ _ _ h => nE h
 | succ n ih =>
  exact fun x0 x1 x5 r h =>
   cE h (fun h0 h => iE h fun h1 h => iE h fun h2 h => cE h (fun h3 h => dS h fk172 (p172_4_0 x0 x1 x5) (oc h0 (oc h1 (oc h2 (oc h3 on))))) fun h3 h =>
   tS fk172 (p172_4_1 x0 x1 x5) (oc h0 (oc h1 (oc h2 (oc h3 on)))) (ih _ _ _ _ h)) fun h0 h =>
   dS h fk172 (p172_4_2 x0 x1 x5) (oc h0 on)
theorem c172_e {N : Nat} : ∀ a0 a1 r, xDP N a0 a1 = some r → RE Try.f172 I172 (xCl a0 a1) (xBb r) := fun a0 a1 r h =>
 cE h (fun h0 h => dE h fk172 (p172_e_3 a0 a1) (oc h0 on)) fun h0 h =>
 tE fk172 (p172_e_4 a0 a1) (oc h0 on) (c172_4 _ _ _ _ _ h)
theorem xD1 {N : Nat} {a0 : List Int} {a1 : List Int} {r : Bool} (h : xDP N  a0 a1 = some r) : AbC 172 (xCl a0 a1) (xBb r) :=
 AbsCalls.of_reach fk172 rfl rfl (Nat.le_of_ble_eq_true rfl) (c172_e a0 a1 r h)
noncomputable def I187 : Info := { body := (Try.f187.body).getD .skip, nt := 15, results := [.tmp 4], keep := [0, 2, 4, 6, 8, 18, 28, 5, 7], live := [], modes := [] }
theorem fk187 : FnOk Try.prog 187 Try.f187 I187 := ⟨Try.func187, by kernel_rfl, by kernel_rfl, by kernel_rfl, by kernel_rfl⟩
theorem p187_e_0 (a0 a1 : Org) : rE I187 (xBO a0 a1) [Y] [] = dn (xBj false) [(((Org.cell a0) : Int) != (Org.cell a1)) = true] := by kernel_rfl
theorem p187_e_1 (a0 a1 : Org) : rE I187 (xBO a0 a1) [F, Y] [] = dn (xBj false) [(((Org.cell a0) : Int) != (Org.cell a1)) = false, (((Org.row a0) : Int) != (Org.row a1)) = true] := by kernel_rfl
theorem p187_e_2 (a0 a1 : Org) : rE I187 (xBO a0 a1) [F, F] [] = dn (xBj true) [(((Org.cell a0) : Int) != (Org.cell a1)) = false, (((Org.row a0) : Int) != (Org.row a1)) = false] := by kernel_rfl
theorem c187_e {N : Nat} : ∀ a0 a1 r, xDb N a0 a1 = some r → RE Try.f187 I187 (xBO a0 a1) (xBj r) := fun a0 a1 r h =>
 cE h (fun h0 h => dE h fk187 (p187_e_0 a0 a1) (oc h0 on)) fun h0 h =>
 cE h (fun h1 h => dE h fk187 (p187_e_1 a0 a1) (oc h0 (oc h1 on))) fun h1 h =>
 dE h fk187 (p187_e_2 a0 a1) (oc h0 (oc h1 on))
theorem xEg {N : Nat} {a0 : Org} {a1 : Org} {r : Bool} (h : xDb N  a0 a1 = some r) : AbC 187 (xBO a0 a1) (xBj r) :=
 AbsCalls.of_reach fk187 rfl rfl (Nat.le_of_ble_eq_true rfl) (c187_e a0 a1 r h)
noncomputable def I173 : Info := { body := (Try.f173.body).getD .skip, nt := 27, results := [.tmp 4], keep := [0, 2, 8, 10, 20, 28, 52], live := [(4, [0, 2, 10])], modes := [] }
theorem fk173 : FnOk Try.prog 173 Try.f173 I173 := ⟨Try.func173, by kernel_rfl, by kernel_rfl, by kernel_rfl, by kernel_rfl⟩
def S173_4 (x0 x1 : List Org) (x5 : Int) : St := [(0, .v false [.sl .ro .org x0]), (2, .v false [.sl .ro .org x1]), (10, .v false [.int .i64 x5])]
theorem p173_4_0 (x0 x1 : List Org) (x5 : Int) (r1 : Bool) : rS 4 I173 (S173_4 x0 x1 x5) [Y, Y] [xBj r1] = dn (xA7 false) [(decide ((x5 : Int) < (Ln x0 : Int))) = true, (0 : Int) ≤ x5 ∧ x5 < (Ln x0), (0 : Int) ≤ x5 ∧ x5 < (Ln x1), AbC 187 (xBO (gD x0 (tN x5) Ty.org.dflt) (gD x1 (tN x5) Ty.org.dflt)) (xBj r1), (!r1) = true] := by kernel_rfl
theorem p173_4_1 (x0 x1 : List Org) (x5 : Int) (r1 : Bool) : rS 4 I173 (S173_4 x0 x1 x5) [Y, F] [xBj r1] = st 4 I173 (S173_4 x0 x1 (W (x5 + 1))) [(decide ((x5 : Int) < (Ln x0 : Int))) = true, (0 : Int) ≤ x5 ∧ x5 < (Ln x0), (0 : Int) ≤ x5 ∧ x5 < (Ln x1), AbC 187 (xBO (gD x0 (tN x5) Ty.org.dflt) (gD x1 (tN x5) Ty.org.dflt)) (xBj r1), (!r1) = false] := by kernel_rfl
theorem p173_4_2 (x0 x1 : List Org) (x5 : Int) : rS 4 I173 (S173_4 x0 x1 x5) [F] [] = dn (xA7 true) [(decide ((x5 : Int) < (Ln x0 : Int))) = false] := by kernel_rfl
theorem p173_e_3 (a0 a1 : List Org) : rE I173 (xBV a0 a1) [Y] [] = dn (xA7 false) [(((Ln a0 : Int) : Int) != (Ln a1 : Int)) = true] := by kernel_rfl
theorem p173_e_4 (a0 a1 : List Org) : rE I173 (xBV a0 a1) [F] [] = st 4 I173 (S173_4 a0 a1 0) [(((Ln a0 : Int) : Int) != (Ln a1 : Int)) = false] := by kernel_rfl
theorem c173_4 {N : Nat} : ∀ n x0 x1 x5 r, xBW N n x0 x1 x5 = some r → RS Try.f173 I173 4 (S173_4 x0 x1 x5) (xA7 r) := by
 intro n
 induction n with
 | zero => exact fun _ _ _ _ h => nE h
 | succ n ih =>
  exact fun x0 x1 x5 r h =>
   cE h (fun h0 h => iE h fun h1 h => iE h fun h2 h => bE h fun r1 h3 h => cE h (fun h4 h => dS h fk173 (p173_4_0 x0 x1 x5 r1) (oc h0 (oc h1 (oc h2 (oc (xEg h3) (oc h4 on)))))) fun h4 h =>
   tS fk173 (p173_4_1 x0 x1 x5 r1) (oc h0 (oc h1 (oc h2 (oc (xEg h3) (oc h4 on))))) (ih _ _ _ _ h)) fun h0 h =>
   dS h fk173 (p173_4_2 x0 x1 x5) (oc h0 on)
theorem c173_e {N : Nat} : ∀ a0 a1 r, xCV N a0 a1 = some r → RE Try.f173 I173 (xBV a0 a1) (xA7 r) := fun a0 a1 r h =>
 cE h (fun h0 h => dE h fk173 (p173_e_3 a0 a1) (oc h0 on)) fun h0 h =>
 tE fk173 (p173_e_4 a0 a1) (oc h0 on) (c173_4 _ _ _ _ _ h)
theorem xD3 {N : Nat} {a0 : List Org} {a1 : List Org} {r : Bool} (h : xCV N  a0 a1 = some r) : AbC 173 (xBV a0 a1) (xA7 r) :=
 AbsCalls.of_reach fk173 rfl rfl (Nat.le_of_ble_eq_true rfl) (c173_e a0 a1 r h)
noncomputable def I131 : Info := { body := (Try.f131.body).getD .skip, nt := 17, results := [.tmp 4], keep := [0, 2, 4, 6, 8, 20, 32, 5, 7], live := [], modes := [] }
theorem fk131 : FnOk Try.prog 131 Try.f131 I131 := ⟨Try.func131, by kernel_rfl, by kernel_rfl, by kernel_rfl, by kernel_rfl⟩
theorem p131_e_0 (a0 a1 : Rowd) (r1 : Bool) : rE I131 (xCx a0 a1) [Y] [xBb r1] = dn (xBT false) [AbC 172 (xCl (Rowd.cells a0) (Rowd.cells a1)) (xBb r1), (!r1) = true] := by kernel_rfl
theorem p131_e_1 (a0 a1 : Rowd) (r1 r2 : Bool) : rE I131 (xCx a0 a1) [F, Y] [xBb r1, xA7 r2] = dn (xBT false) [AbC 172 (xCl (Rowd.cells a0) (Rowd.cells a1)) (xBb r1), (!r1) = false, AbC 173 (xBV (Rowd.frm a0) (Rowd.frm a1)) (xA7 r2), (!r2) = true] := by kernel_rfl
theorem p131_e_2 (a0 a1 : Rowd) (r1 r2 : Bool) : rE I131 (xCx a0 a1) [F, F] [xBb r1, xA7 r2] = dn (xBT true) [AbC 172 (xCl (Rowd.cells a0) (Rowd.cells a1)) (xBb r1), (!r1) = false, AbC 173 (xBV (Rowd.frm a0) (Rowd.frm a1)) (xA7 r2), (!r2) = false] := by kernel_rfl
theorem c131_e {N : Nat} : ∀ a0 a1 r, xD4 N a0 a1 = some r → RE Try.f131 I131 (xCx a0 a1) (xBT r) := fun a0 a1 r h =>
 bE h fun r1 h0 h => cE h (fun h1 h => dE h fk131 (p131_e_0 a0 a1 r1) (oc (xD1 h0) (oc h1 on))) fun h1 h =>
 bE h fun r2 h2 h => cE h (fun h3 h => dE h fk131 (p131_e_1 a0 a1 r1 r2) (oc (xD1 h0) (oc h1 (oc (xD3 h2) (oc h3 on))))) fun h3 h =>
 dE h fk131 (p131_e_2 a0 a1 r1 r2) (oc (xD1 h0) (oc h1 (oc (xD3 h2) (oc h3 on))))
theorem laws_eqRow_ok {N : Nat} {a0 : Rowd} {a1 : Rowd} {r : Bool} (h : xD4 N  a0 a1 = some r) : AbC 131 (xCx a0 a1) (xBT r) :=
 AbsCalls.of_reach fk131 rfl rfl (Nat.le_of_ble_eq_true rfl) (c131_e a0 a1 r h)
noncomputable def I74 : Info := { body := (Try.f74.body).getD .skip, nt := 27, results := [.tmp 4], keep := [0, 2, 8, 10, 20, 28, 52], live := [(4, [0, 2, 10])], modes := [] }
theorem fk74 : FnOk Try.prog 74 Try.f74 I74 := ⟨Try.func74, by kernel_rfl, by kernel_rfl, by kernel_rfl, by kernel_rfl⟩
def S74_4 (x0 x1 : List Rowd) (x5 : Int) : St := [(0, .v false [.sl .ro .row x0]), (2, .v false [.sl .ro .row x1]), (10, .v false [.int .i64 x5])]
theorem p74_4_0 (x0 x1 : List Rowd) (x5 : Int) (r1 : Bool) : rS 4 I74 (S74_4 x0 x1 x5) [Y, Y] [xBT r1] = dn (xBp false) [(decide ((x5 : Int) < (Ln x0 : Int))) = true, (0 : Int) ≤ x5 ∧ x5 < (Ln x0), (0 : Int) ≤ x5 ∧ x5 < (Ln x1), AbC 131 (xCx (gD x0 (tN x5) rd) (gD x1 (tN x5) rd)) (xBT r1), (!r1) = true] := by kernel_rfl
theorem p74_4_1 (x0 x1 : List Rowd) (x5 : Int) (r1 : Bool) : rS 4 I74 (S74_4 x0 x1 x5) [Y, F] [xBT r1] = st 4 I74 (S74_4 x0 x1 (W (x5 + 1))) [(decide ((x5 : Int) < (Ln x0 : Int))) = true, (0 : Int) ≤ x5 ∧ x5 < (Ln x0), (0 : Int) ≤ x5 ∧ x5 < (Ln x1), AbC 131 (xCx (gD x0 (tN x5) rd) (gD x1 (tN x5) rd)) (xBT r1), (!r1) = false] := by kernel_rfl
theorem p74_4_2 (x0 x1 : List Rowd) (x5 : Int) : rS 4 I74 (S74_4 x0 x1 x5) [F] [] = dn (xBp true) [(decide ((x5 : Int) < (Ln x0 : Int))) = false] := by kernel_rfl
theorem p74_e_3 (a0 a1 : List Rowd) : rE I74 (xCF a0 a1) [Y] [] = dn (xBp false) [(((Ln a0 : Int) : Int) != (Ln a1 : Int)) = true] := by kernel_rfl
theorem p74_e_4 (a0 a1 : List Rowd) : rE I74 (xCF a0 a1) [F] [] = st 4 I74 (S74_4 a0 a1 0) [(((Ln a0 : Int) : Int) != (Ln a1 : Int)) = false] := by kernel_rfl
theorem c74_4 {N : Nat} : ∀ n x0 x1 x5 r, xCG N n x0 x1 x5 = some r → RS Try.f74 I74 4 (S74_4 x0 x1 x5) (xBp r) := by
 intro n
 induction n with
 | zero => exact fun _ _ _ _ h => nE h
 | succ n ih =>
  exact fun x0 x1 x5 r h =>
   cE h (fun h0 h => iE h fun h1 h => iE h fun h2 h => bE h fun r1 h3 h => cE h (fun h4 h => dS h fk74 (p74_4_0 x0 x1 x5 r1) (oc h0 (oc h1 (oc h2 (oc (laws_eqRow_ok h3) (oc h4 on)))))) fun h4 h =>
   tS fk74 (p74_4_1 x0 x1 x5 r1) (oc h0 (oc h1 (oc h2 (oc (laws_eqRow_ok h3) (oc h4 on))))) (ih _ _ _ _ h)) fun h0 h =>
   dS h fk74 (p74_4_2 x0 x1 x5) (oc h0 on)
theorem c74_e {N : Nat} : ∀ a0 a1 r, xDQ N a0 a1 = some r → RE Try.f74 I74 (xCF a0 a1) (xBp r) := fun a0 a1 r h =>
 cE h (fun h0 h => dE h fk74 (p74_e_3 a0 a1) (oc h0 on)) fun h0 h =>
 tE fk74 (p74_e_4 a0 a1) (oc h0 on) (c74_4 _ _ _ _ _ h)
theorem xEv {N : Nat} {a0 : List Rowd} {a1 : List Rowd} {r : Bool} (h : xDQ N  a0 a1 = some r) : AbC 74 (xCF a0 a1) (xBp r) :=
 AbsCalls.of_reach fk74 rfl rfl (Nat.le_of_ble_eq_true rfl) (c74_e a0 a1 r h)
def G14 (q : Val → Val → Option (Bool)) : Prop := ∀ a0 a1 r, q a0 a1 = some r → AbC 14 (xAf a0 a1) (xAc r)
def G72 (q : (List Val) → (List Val) → Option (Bool)) : Prop := ∀ a0 a1 r, q a0 a1 = some r → AbC 72 (xBk a0 a1) (xAK r)
noncomputable def I14 : Info := { body := (Try.f14.body).getD .skip, nt := 43, results := [.tmp 4], keep := [0, 2, 4, 6, 8, 18, 28, 38, 48, 60, 72, 84, 5, 7], live := [], modes := [] }
theorem fk14 : FnOk Try.prog 14 Try.f14 I14 := ⟨Try.func14, by kernel_rfl, by kernel_rfl, by kernel_rfl, by kernel_rfl⟩
theorem p14_e_0 (a0 a1 : Val) : rE I14 (xAf a0 a1) [Y] [] = dn (xAc false) [(((Val.kind a0) : Int) != (Val.kind a1)) = true] := by kernel_rfl
theorem p14_e_1 (a0 a1 : Val) : rE I14 (xAf a0 a1) [F, Y] [] = dn (xAc false) [(((Val.kind a0) : Int) != (Val.kind a1)) = false, (((Val.n a0) : Int) != (Val.n a1)) = true] := by kernel_rfl
theorem p14_e_2 (a0 a1 : Val) : rE I14 (xAf a0 a1) [F, F, Y] [] = dn (xAc false) [(((Val.kind a0) : Int) != (Val.kind a1)) = false, (((Val.n a0) : Int) != (Val.n a1)) = false, (((Val.step a0) : Int) != (Val.step a1)) = true] := by kernel_rfl
theorem p14_e_3 (a0 a1 : Val) : rE I14 (xAf a0 a1) [F, F, F, Y] [] = dn (xAc false) [(((Val.kind a0) : Int) != (Val.kind a1)) = false, (((Val.n a0) : Int) != (Val.n a1)) = false, (((Val.step a0) : Int) != (Val.step a1)) = false, (!(((Val.text a0) : Str) == (Val.text a1))) = true] := by kernel_rfl
theorem p14_e_4 (a0 a1 : Val) (r1 : Bool) : rE I14 (xAf a0 a1) [F, F, F, F, Y] [xAK r1] = dn (xAc false) [(((Val.kind a0) : Int) != (Val.kind a1)) = false, (((Val.n a0) : Int) != (Val.n a1)) = false, (((Val.step a0) : Int) != (Val.step a1)) = false, (!(((Val.text a0) : Str) == (Val.text a1))) = false, AbC 72 (xBk (Val.list a0) (Val.list a1)) (xAK r1), (!r1) = true] := by kernel_rfl
theorem p14_e_5 (a0 a1 : Val) (r1 r2 : Bool) : rE I14 (xAf a0 a1) [F, F, F, F, F, Y] [xAK r1, xAS r2] = dn (xAc false) [(((Val.kind a0) : Int) != (Val.kind a1)) = false, (((Val.n a0) : Int) != (Val.n a1)) = false, (((Val.step a0) : Int) != (Val.step a1)) = false, (!(((Val.text a0) : Str) == (Val.text a1))) = false, AbC 72 (xBk (Val.list a0) (Val.list a1)) (xAK r1), (!r1) = false, AbC 73 (xBz (Val.columns a0) (Val.columns a1)) (xAS r2), (!r2) = true] := by kernel_rfl
theorem p14_e_6 (a0 a1 : Val) (r1 r2 r3 : Bool) : rE I14 (xAf a0 a1) [F, F, F, F, F, F, Y] [xAK r1, xAS r2, xBp r3] = dn (xAc false) [(((Val.kind a0) : Int) != (Val.kind a1)) = false, (((Val.n a0) : Int) != (Val.n a1)) = false, (((Val.step a0) : Int) != (Val.step a1)) = false, (!(((Val.text a0) : Str) == (Val.text a1))) = false, AbC 72 (xBk (Val.list a0) (Val.list a1)) (xAK r1), (!r1) = false, AbC 73 (xBz (Val.columns a0) (Val.columns a1)) (xAS r2), (!r2) = false, AbC 74 (xCF (Val.rows a0) (Val.rows a1)) (xBp r3), (!r3) = true] := by kernel_rfl
theorem p14_e_7 (a0 a1 : Val) (r1 r2 r3 : Bool) : rE I14 (xAf a0 a1) [F, F, F, F, F, F, F] [xAK r1, xAS r2, xBp r3] = dn (xAc true) [(((Val.kind a0) : Int) != (Val.kind a1)) = false, (((Val.n a0) : Int) != (Val.n a1)) = false, (((Val.step a0) : Int) != (Val.step a1)) = false, (!(((Val.text a0) : Str) == (Val.text a1))) = false, AbC 72 (xBk (Val.list a0) (Val.list a1)) (xAK r1), (!r1) = false, AbC 73 (xBz (Val.columns a0) (Val.columns a1)) (xAS r2), (!r2) = false, AbC 74 (xCF (Val.rows a0) (Val.rows a1)) (xBp r3), (!r3) = false] := by kernel_rfl
theorem c14_e {N : Nat} {q0 : Val → Val → Option (Bool)} (g0 : G14 q0) {q1 : (List Val) → (List Val) → Option (Bool)} (g1 : G72 q1) : ∀ a0 a1 r, xCt N q0 q1 a0 a1 = some r → RE Try.f14 I14 (xAf a0 a1) (xAc r) := fun a0 a1 r h =>
 cE h (fun h0 h => dE h fk14 (p14_e_0 a0 a1) (oc h0 on)) fun h0 h =>
 cE h (fun h1 h => dE h fk14 (p14_e_1 a0 a1) (oc h0 (oc h1 on))) fun h1 h =>
 cE h (fun h2 h => dE h fk14 (p14_e_2 a0 a1) (oc h0 (oc h1 (oc h2 on)))) fun h2 h =>
 cE h (fun h3 h => dE h fk14 (p14_e_3 a0 a1) (oc h0 (oc h1 (oc h2 (oc h3 on))))) fun h3 h =>
 bE h fun r1 h4 h => cE h (fun h5 h => dE h fk14 (p14_e_4 a0 a1 r1) (oc h0 (oc h1 (oc h2 (oc h3 (oc (g1 _ _ _ h4) (oc h5 on))))))) fun h5 h =>
 bE h fun r2 h6 h => cE h (fun h7 h => dE h fk14 (p14_e_5 a0 a1 r1 r2) (oc h0 (oc h1 (oc h2 (oc h3 (oc (g1 _ _ _ h4) (oc h5 (oc (xDl h6) (oc h7 on))))))))) fun h7 h =>
 bE h fun r3 h8 h => cE h (fun h9 h => dE h fk14 (p14_e_6 a0 a1 r1 r2 r3) (oc h0 (oc h1 (oc h2 (oc h3 (oc (g1 _ _ _ h4) (oc h5 (oc (xDl h6) (oc h7 (oc (xEv h8) (oc h9 on))))))))))) fun h9 h =>
 dE h fk14 (p14_e_7 a0 a1 r1 r2 r3) (oc h0 (oc h1 (oc h2 (oc h3 (oc (g1 _ _ _ h4) (oc h5 (oc (xDl h6) (oc h7 (oc (xEv h8) (oc h9 on))))))))))
theorem xEs {N : Nat} {q0 : Val → Val → Option (Bool)} (g0 : G14 q0) {q1 : (List Val) → (List Val) → Option (Bool)} (g1 : G72 q1) {a0 : Val} {a1 : Val} {r : Bool} (h : xCt N q0 q1 a0 a1 = some r) : AbC 14 (xAf a0 a1) (xAc r) :=
 AbsCalls.of_reach fk14 rfl rfl (Nat.le_of_ble_eq_true rfl) (c14_e g0 g1 a0 a1 r h)
noncomputable def I72 : Info := { body := (Try.f72.body).getD .skip, nt := 27, results := [.tmp 4], keep := [0, 2, 8, 10, 20, 28, 52], live := [(4, [0, 2, 10])], modes := [] }
theorem fk72 : FnOk Try.prog 72 Try.f72 I72 := ⟨Try.func72, by kernel_rfl, by kernel_rfl, by kernel_rfl, by kernel_rfl⟩
def S72_4 (x0 x1 : List Val) (x5 : Int) : St := [(0, .v false [.sl .ro .val x0]), (2, .v false [.sl .ro .val x1]), (10, .v false [.int .i64 x5])]
theorem p72_4_0 (x0 x1 : List Val) (x5 : Int) (r1 : Bool) : rS 4 I72 (S72_4 x0 x1 x5) [Y, Y] [xAc r1] = dn (xAK false) [(decide ((x5 : Int) < (Ln x0 : Int))) = true, (0 : Int) ≤ x5 ∧ x5 < (Ln x0), (0 : Int) ≤ x5 ∧ x5 < (Ln x1), AbC 14 (xAf (gD x0 (tN x5) vd) (gD x1 (tN x5) vd)) (xAc r1), (!r1) = true] := by kernel_rfl
theorem p72_4_1 (x0 x1 : List Val) (x5 : Int) (r1 : Bool) : rS 4 I72 (S72_4 x0 x1 x5) [Y, F] [xAc r1] = st 4 I72 (S72_4 x0 x1 (W (x5 + 1))) [(decide ((x5 : Int) < (Ln x0 : Int))) = true, (0 : Int) ≤ x5 ∧ x5 < (Ln x0), (0 : Int) ≤ x5 ∧ x5 < (Ln x1), AbC 14 (xAf (gD x0 (tN x5) vd) (gD x1 (tN x5) vd)) (xAc r1), (!r1) = false] := by kernel_rfl
theorem p72_4_2 (x0 x1 : List Val) (x5 : Int) : rS 4 I72 (S72_4 x0 x1 x5) [F] [] = dn (xAK true) [(decide ((x5 : Int) < (Ln x0 : Int))) = false] := by kernel_rfl
theorem p72_e_3 (a0 a1 : List Val) : rE I72 (xBk a0 a1) [Y] [] = dn (xAK false) [(((Ln a0 : Int) : Int) != (Ln a1 : Int)) = true] := by kernel_rfl
theorem p72_e_4 (a0 a1 : List Val) : rE I72 (xBk a0 a1) [F] [] = st 4 I72 (S72_4 a0 a1 0) [(((Ln a0 : Int) : Int) != (Ln a1 : Int)) = false] := by kernel_rfl
theorem c72_4 {N : Nat} {q0 : Val → Val → Option (Bool)} (g0 : G14 q0) {q1 : (List Val) → (List Val) → Option (Bool)} (g1 : G72 q1) : ∀ n x0 x1 x5 r, xB8 N q0 q1 n x0 x1 x5 = some r → RS Try.f72 I72 4 (S72_4 x0 x1 x5) (xAK r) := by
 intro n
 induction n with
 | zero => exact fun _ _ _ _ h => nE h
 | succ n ih =>
  exact fun x0 x1 x5 r h =>
   cE h (fun h0 h => iE h fun h1 h => iE h fun h2 h => bE h fun r1 h3 h => cE h (fun h4 h => dS h fk72 (p72_4_0 x0 x1 x5 r1) (oc h0 (oc h1 (oc h2 (oc (g0 _ _ _ h3) (oc h4 on)))))) fun h4 h =>
   tS fk72 (p72_4_1 x0 x1 x5 r1) (oc h0 (oc h1 (oc h2 (oc (g0 _ _ _ h3) (oc h4 on))))) (ih _ _ _ _ h)) fun h0 h =>
   dS h fk72 (p72_4_2 x0 x1 x5) (oc h0 on)
theorem c72_e {N : Nat} {q0 : Val → Val → Option (Bool)} (g0 : G14 q0) {q1 : (List Val) → (List Val) → Option (Bool)} (g1 : G72 q1) : ∀ a0 a1 r, xCj N q0 q1 a0 a1 = some r → RE Try.f72 I72 (xBk a0 a1) (xAK r) := fun a0 a1 r h =>
 cE h (fun h0 h => dE h fk72 (p72_e_3 a0 a1) (oc h0 on)) fun h0 h =>
 tE fk72 (p72_e_4 a0 a1) (oc h0 on) (c72_4 g0 g1 _ _ _ _ _ h)
theorem xEk {N : Nat} {q0 : Val → Val → Option (Bool)} (g0 : G14 q0) {q1 : (List Val) → (List Val) → Option (Bool)} (g1 : G72 q1) {a0 : List Val} {a1 : List Val} {r : Bool} (h : xCj N q0 q1 a0 a1 = some r) : AbC 72 (xBk a0 a1) (xAK r) :=
 AbsCalls.of_reach fk72 rfl rfl (Nat.le_of_ble_eq_true rfl) (c72_e g0 g1 a0 a1 r h)
theorem xEx {N : Nat} : ∀ d, G14 (xAG N d).c_laws_eqValue ∧ G72 (xAG N d).c_laws_eqValueS := by
 intro d
 induction d with
 | zero => exact ⟨fun _ _ _ h => nE h, fun _ _ _ h => nE h⟩
 | succ d ih =>
  obtain ⟨ih0, ih1⟩ := ih
  exact ⟨fun _ _ _ h => xEs (N := N) ih0 ih1 h, fun _ _ _ h => xEk (N := N) ih0 ih1 h⟩
theorem xAt {N : Nat} {a0 : Val} {a1 : Val} {r : Bool} (h : xC7 N a0 a1 = some r) : AbC 14 (xAf a0 a1) (xAc r) := (xEx N).1 _ _ r h
noncomputable def I26 : Info := { body := (Try.f26.body).getD .skip, nt := 31, results := [.tmp 4], keep := [0, 2, 4, 6, 8, 18, 28, 38, 48, 60, 5, 7], live := [], modes := [] }
theorem fk26 : FnOk Try.prog 26 Try.f26 I26 := ⟨Try.func26, by kernel_rfl, by kernel_rfl, by kernel_rfl, by kernel_rfl⟩
theorem p26_e_0 (a0 a1 : Rea) : rE I26 (xAF a0 a1) [Y] [] = dn (xAp false) [(((Rea.kind a0) : Int) != (Rea.kind a1)) = true] := by kernel_rfl
theorem p26_e_1 (a0 a1 : Rea) : rE I26 (xAF a0 a1) [F, Y] [] = dn (xAp false) [(((Rea.kind a0) : Int) != (Rea.kind a1)) = false, (((Rea.n a0) : Int) != (Rea.n a1)) = true] := by kernel_rfl
theorem p26_e_2 (a0 a1 : Rea) : rE I26 (xAF a0 a1) [F, F, Y] [] = dn (xAp false) [(((Rea.kind a0) : Int) != (Rea.kind a1)) = false, (((Rea.n a0) : Int) != (Rea.n a1)) = false, (((Rea.time a0) : Int) != (Rea.time a1)) = true] := by kernel_rfl
theorem p26_e_3 (a0 a1 : Rea) : rE I26 (xAF a0 a1) [F, F, F, Y] [] = dn (xAp false) [(((Rea.kind a0) : Int) != (Rea.kind a1)) = false, (((Rea.n a0) : Int) != (Rea.n a1)) = false, (((Rea.time a0) : Int) != (Rea.time a1)) = false, (!(((Rea.text a0) : Str) == (Rea.text a1))) = true] := by kernel_rfl
theorem p26_e_4 (a0 a1 : Rea) (r1 : Bool) : rE I26 (xAF a0 a1) [F, F, F, F, Y] [xAc r1] = dn (xAp false) [(((Rea.kind a0) : Int) != (Rea.kind a1)) = false, (((Rea.n a0) : Int) != (Rea.n a1)) = false, (((Rea.time a0) : Int) != (Rea.time a1)) = false, (!(((Rea.text a0) : Str) == (Rea.text a1))) = false, AbC 14 (xAf (Rea.result a0) (Rea.result a1)) (xAc r1), (!r1) = true] := by kernel_rfl
theorem p26_e_5 (a0 a1 : Rea) (r1 : Bool) : rE I26 (xAF a0 a1) [F, F, F, F, F] [xAc r1] = dn (xAp true) [(((Rea.kind a0) : Int) != (Rea.kind a1)) = false, (((Rea.n a0) : Int) != (Rea.n a1)) = false, (((Rea.time a0) : Int) != (Rea.time a1)) = false, (!(((Rea.text a0) : Str) == (Rea.text a1))) = false, AbC 14 (xAf (Rea.result a0) (Rea.result a1)) (xAc r1), (!r1) = false] := by kernel_rfl
theorem c26_e {N : Nat} : ∀ a0 a1 r, xDk N a0 a1 = some r → RE Try.f26 I26 (xAF a0 a1) (xAp r) := fun a0 a1 r h =>
 cE h (fun h0 h => dE h fk26 (p26_e_0 a0 a1) (oc h0 on)) fun h0 h =>
 cE h (fun h1 h => dE h fk26 (p26_e_1 a0 a1) (oc h0 (oc h1 on))) fun h1 h =>
 cE h (fun h2 h => dE h fk26 (p26_e_2 a0 a1) (oc h0 (oc h1 (oc h2 on)))) fun h2 h =>
 cE h (fun h3 h => dE h fk26 (p26_e_3 a0 a1) (oc h0 (oc h1 (oc h2 (oc h3 on))))) fun h3 h =>
 bE h fun r1 h4 h => cE h (fun h5 h => dE h fk26 (p26_e_4 a0 a1 r1) (oc h0 (oc h1 (oc h2 (oc h3 (oc (xAt h4) (oc h5 on))))))) fun h5 h =>
 dE h fk26 (p26_e_5 a0 a1 r1) (oc h0 (oc h1 (oc h2 (oc h3 (oc (xAt h4) (oc h5 on))))))
theorem xBc {N : Nat} {a0 : Rea} {a1 : Rea} {r : Bool} (h : xDk N  a0 a1 = some r) : AbC 26 (xAF a0 a1) (xAp r) :=
 AbsCalls.of_reach fk26 rfl rfl (Nat.le_of_ble_eq_true rfl) (c26_e a0 a1 r h)
noncomputable def I25 : Info := { body := (Try.f25.body).getD .skip, nt := 27, results := [.tmp 4], keep := [0, 2, 8, 10, 20, 28, 52], live := [(4, [0, 2, 10])], modes := [] }
theorem fk25 : FnOk Try.prog 25 Try.f25 I25 := ⟨Try.func25, by kernel_rfl, by kernel_rfl, by kernel_rfl, by kernel_rfl⟩
def S25_4 (x0 x1 : List Rea) (x5 : Int) : St := [(0, .v false [.sl .ro .rea x0]), (2, .v false [.sl .ro .rea x1]), (10, .v false [.int .i64 x5])]
theorem p25_4_0 (x0 x1 : List Rea) (x5 : Int) (r1 : Bool) : rS 4 I25 (S25_4 x0 x1 x5) [Y, Y] [xAp r1] = dn (xAs false) [(decide ((x5 : Int) < (Ln x0 : Int))) = true, (0 : Int) ≤ x5 ∧ x5 < (Ln x0), (0 : Int) ≤ x5 ∧ x5 < (Ln x1), AbC 26 (xAF (gD x0 (tN x5) Ty.rea.dflt) (gD x1 (tN x5) Ty.rea.dflt)) (xAp r1), (!r1) = true] := by kernel_rfl
theorem p25_4_1 (x0 x1 : List Rea) (x5 : Int) (r1 : Bool) : rS 4 I25 (S25_4 x0 x1 x5) [Y, F] [xAp r1] = st 4 I25 (S25_4 x0 x1 (W (x5 + 1))) [(decide ((x5 : Int) < (Ln x0 : Int))) = true, (0 : Int) ≤ x5 ∧ x5 < (Ln x0), (0 : Int) ≤ x5 ∧ x5 < (Ln x1), AbC 26 (xAF (gD x0 (tN x5) Ty.rea.dflt) (gD x1 (tN x5) Ty.rea.dflt)) (xAp r1), (!r1) = false] := by kernel_rfl
theorem p25_4_2 (x0 x1 : List Rea) (x5 : Int) : rS 4 I25 (S25_4 x0 x1 x5) [F] [] = dn (xAs true) [(decide ((x5 : Int) < (Ln x0 : Int))) = false] := by kernel_rfl
theorem p25_e_3 (a0 a1 : List Rea) : rE I25 (xAP a0 a1) [Y] [] = dn (xAs false) [(((Ln a0 : Int) : Int) != (Ln a1 : Int)) = true] := by kernel_rfl
theorem p25_e_4 (a0 a1 : List Rea) : rE I25 (xAP a0 a1) [F] [] = st 4 I25 (S25_4 a0 a1 0) [(((Ln a0 : Int) : Int) != (Ln a1 : Int)) = false] := by kernel_rfl
theorem c25_4 {N : Nat} : ∀ n x0 x1 x5 r, xCs N n x0 x1 x5 = some r → RS Try.f25 I25 4 (S25_4 x0 x1 x5) (xAs r) := by
 intro n
 induction n with
 | zero => exact fun _ _ _ _ h => nE h
 | succ n ih =>
  exact fun x0 x1 x5 r h =>
   cE h (fun h0 h => iE h fun h1 h => iE h fun h2 h => bE h fun r1 h3 h => cE h (fun h4 h => dS h fk25 (p25_4_0 x0 x1 x5 r1) (oc h0 (oc h1 (oc h2 (oc (xBc h3) (oc h4 on)))))) fun h4 h =>
   tS fk25 (p25_4_1 x0 x1 x5 r1) (oc h0 (oc h1 (oc h2 (oc (xBc h3) (oc h4 on))))) (ih _ _ _ _ h)) fun h0 h =>
   dS h fk25 (p25_4_2 x0 x1 x5) (oc h0 on)
theorem c25_e {N : Nat} : ∀ a0 a1 r, xDy N a0 a1 = some r → RE Try.f25 I25 (xAP a0 a1) (xAs r) := fun a0 a1 r h =>
 cE h (fun h0 h => dE h fk25 (p25_e_3 a0 a1) (oc h0 on)) fun h0 h =>
 tE fk25 (p25_e_4 a0 a1) (oc h0 on) (c25_4 _ _ _ _ _ h)
theorem xA9 {N : Nat} {a0 : List Rea} {a1 : List Rea} {r : Bool} (h : xDy N  a0 a1 = some r) : AbC 25 (xAP a0 a1) (xAs r) :=
 AbsCalls.of_reach fk25 rfl rfl (Nat.le_of_ble_eq_true rfl) (c25_e a0 a1 r h)
noncomputable def I93 : Info := { body := (Try.f93.body).getD .skip, nt := 20, results := [.tmp 2], keep := [0, 4, 6, 10, 14], live := [(4, [0, 6])], modes := [] }
theorem fk93 : FnOk Try.prog 93 Try.f93 I93 := ⟨Try.func93, by kernel_rfl, by kernel_rfl, by kernel_rfl, by kernel_rfl⟩
def S93_4 (x0 : Int) (x3 : Str) : St := [(0, .v false [.int .i64 x0]), (6, .v false [.str x3])]
theorem p93_4_0 (x0 : Int) (x3 : Str) : rS 4 I93 (S93_4 x0 x3) [Y] [] = st 4 I93 (S93_4 (W (Int.tdiv x0 10)) ((List.map (fun n => UInt8.ofNat (tN n)) [(IntKind.u8.wrap ((W (48 + (Int.tmod x0 10)))))]) ++ x3)) [(decide ((x0 : Int) > 0)) = true, 10 ≠ (0 : Int), Ln (List.map (fun n => UInt8.ofNat (tN n)) [(IntKind.u8.wrap ((W (48 + (Int.tmod x0 10)))))]) + Ln x3 ≤ Lim, 10 ≠ (0 : Int)] := by kernel_rfl
theorem p93_4_1 (x0 : Int) (x3 : Str) : rS 4 I93 (S93_4 x0 x3) [F] [] = dn (xAo ([109] ++ x3)) [(decide ((x0 : Int) > 0)) = false, Ln [109] + Ln x3 ≤ Lim] := by kernel_rfl
theorem p93_e_2 (a0 : Int) : rE I93 (xAL a0) [Y] [] = dn (xAo [109, 48]) [(decide ((a0 : Int) ≤ 0)) = true] := by kernel_rfl
theorem p93_e_3 (a0 : Int) : rE I93 (xAL a0) [F] [] = st 4 I93 (S93_4 a0 []) [(decide ((a0 : Int) ≤ 0)) = false] := by kernel_rfl
theorem c93_4 {N : Nat} : ∀ n x0 x3 r, xCh N n x0 x3 = some r → RS Try.f93 I93 4 (S93_4 x0 x3) (xAo r) := by
 intro n
 induction n with
 | zero => exact fun _ _ _ h => nE h
 | succ n ih =>
  exact fun x0 x3 r h =>
   cE h (fun h0 h => iE h fun h2 h => tS fk93 (p93_4_0 x0 x3) (oc h0 (oc (by decide) (oc h2 (oc (by decide) on)))) (ih _ _ _ h)) fun h0 h =>
   iE h fun h1 h => dS h fk93 (p93_4_1 x0 x3) (oc h0 (oc h1 on))
theorem c93_e {N : Nat} : ∀ a0 r, xBI N a0 = some r → RE Try.f93 I93 (xAL a0) (xAo r) := fun a0 r h =>
 cE h (fun h0 h => dE h fk93 (p93_e_2 a0) (oc h0 on)) fun h0 h =>
 tE fk93 (p93_e_3 a0) (oc h0 on) (c93_4 _ _ _ _ h)
theorem xA4 {N : Nat} {a0 : Int} {r : Str} (h : xBI N  a0 = some r) : AbC 93 (xAL a0) (xAo r) :=
 AbsCalls.of_reach fk93 rfl rfl (Nat.le_of_ble_eq_true rfl) (c93_e a0 r h)
noncomputable def I76 : Info := { body := (Try.f76.body).getD .skip, nt := 20, results := [.tmp 4], keep := [0, 2, 8, 10, 18], live := [(2, [0, 2, 10])], modes := [(4, [(0, .ref, false)])], lnt := [(0, 0)] }
theorem fk76 : FnOk Try.prog 76 Try.f76 I76 := ⟨Try.func76, by kernel_rfl, by kernel_rfl, by kernel_rfl, by kernel_rfl⟩
def S76_2 (x0 : List Str) (x1 x5 : Int) : St := [(0, .v false [.sl (.lnt 0) .str x0]), (2, .v false [.int .i64 x1]), (10, .v false [.int .i64 x5])]
theorem p76_2_0 (x0 : List Str) (x1 x5 : Int) (r1 : Str) : rS 2 I76 (S76_2 x0 x1 x5) [Y] [xAo r1] = st 2 I76 (S76_2 (List.set x0 (tN x5) r1) (W (x1 + 1)) (W (x5 + 1))) [(decide ((x5 : Int) < (Ln x0 : Int))) = true, AbC 93 (xAL x1) (xAo r1), (0 : Int) ≤ x5 ∧ x5 < (Ln x0)] := by kernel_rfl
theorem p76_2_1 (x0 : List Str) (x1 x5 : Int) : rS 2 I76 (S76_2 x0 x1 x5) [F] [] = dn (xAX (x1, x0)) [(decide ((x5 : Int) < (Ln x0 : Int))) = false] := by kernel_rfl
theorem p76_e_2 (a0 : List Str) (a1 : Int) : rE I76 (xBF a0 a1) [] [] = st 2 I76 (S76_2 a0 a1 0) [] := by kernel_rfl
theorem c76_2 {N : Nat} : ∀ n x0 x1 x5 r, xBG N n x0 x1 x5 = some r → RS Try.f76 I76 2 (S76_2 x0 x1 x5) (xAX r) := by
 intro n
 induction n with
 | zero => exact fun _ _ _ _ h => nE h
 | succ n ih =>
  exact fun x0 x1 x5 r h =>
   cE h (fun h0 h => bE h fun r1 h1 h => iE h fun h2 h => tS fk76 (p76_2_0 x0 x1 x5 r1) (oc h0 (oc (xA4 h1) (oc h2 on))) (ih _ _ _ _ h)) fun h0 h =>
   dS h fk76 (p76_2_1 x0 x1 x5) (oc h0 on)
theorem c76_e {N : Nat} : ∀ a0 a1 r, xCg N a0 a1 = some r → RE Try.f76 I76 (xBF a0 a1) (xAX r) := fun a0 a1 r h =>
 tE fk76 (p76_e_2 a0 a1) on (c76_2 _ _ _ _ _ h)
theorem xC6 {N : Nat} {a0 : List Str} {a1 : Int} {r : Int × (List Str)} (h : xCg N  a0 a1 = some r) : AbC 76 (xBF a0 a1) (xAX r) :=
 AbsCalls.of_reach fk76 rfl rfl (Nat.le_of_ble_eq_true rfl) (c76_e a0 a1 r h)
noncomputable def I132 : Info := { body := (Try.f132.body).getD .skip, nt := 19, results := [.tmp 4], keep := [0, 2, 8, 10, 18], live := [(2, [0, 2, 10])], modes := [(4, [(0, .ref, false)])], lnt := [(0, 0)] }
theorem fk132 : FnOk Try.prog 132 Try.f132 I132 := ⟨Try.func132, by kernel_rfl, by kernel_rfl, by kernel_rfl, by kernel_rfl⟩
def S132_2 (x0 : List Int) (x1 x5 : Int) : St := [(0, .v false [.sl (.lnt 0) .int x0]), (2, .v false [.int .i64 x1]), (10, .v false [.int .i64 x5])]
theorem p132_2_0 (x0 : List Int) (x1 x5 : Int) : rS 2 I132 (S132_2 x0 x1 x5) [Y] [] = st 2 I132 (S132_2 (List.set x0 (tN x5) x1) (W (x1 + 1)) (W (x5 + 1))) [(decide ((x5 : Int) < (Ln x0 : Int))) = true, (0 : Int) ≤ x5 ∧ x5 < (Ln x0)] := by kernel_rfl
theorem p132_2_1 (x0 : List Int) (x1 x5 : Int) : rS 2 I132 (S132_2 x0 x1 x5) [F] [] = dn (xCd (x1, x0)) [(decide ((x5 : Int) < (Ln x0 : Int))) = false] := by kernel_rfl
theorem p132_e_2 (a0 : List Int) (a1 : Int) : rE I132 (xC1 a0 a1) [] [] = st 2 I132 (S132_2 a0 a1 0) [] := by kernel_rfl
theorem c132_2 {N : Nat} : ∀ n x0 x1 x5 r, xCc N n x0 x1 x5 = some r → RS Try.f132 I132 2 (S132_2 x0 x1 x5) (xCd r) := by
 intro n
 induction n with
 | zero => exact fun _ _ _ _ h => nE h
 | succ n ih =>
  exact fun x0 x1 x5 r h =>
   cE h (fun h0 h => iE h fun h1 h => tS fk132 (p132_2_0 x0 x1 x5) (oc h0 (oc h1 on)) (ih _ _ _ _ h)) fun h0 h =>
   dS h fk132 (p132_2_1 x0 x1 x5) (oc h0 on)
theorem c132_e {N : Nat} : ∀ a0 a1 r, xDH N a0 a1 = some r → RE Try.f132 I132 (xC1 a0 a1) (xCd r) := fun a0 a1 r h =>
 tE fk132 (p132_e_2 a0 a1) on (c132_2 _ _ _ _ _ h)
theorem laws_markIntS_ok {N : Nat} {a0 : List Int} {a1 : Int} {r : Int × (List Int)} (h : xDH N  a0 a1 = some r) : AbC 132 (xC1 a0 a1) (xCd r) :=
 AbsCalls.of_reach fk132 rfl rfl (Nat.le_of_ble_eq_true rfl) (c132_e a0 a1 r h)
noncomputable def I133 : Info := { body := (Try.f133.body).getD .skip, nt := 27, results := [.tmp 4], keep := [0, 2, 8, 10, 18], live := [(2, [0, 2, 10])], modes := [(4, [(0, .ref, false)]), (6, [(0, .ref, false)])], lnt := [(0, 0)] }
theorem fk133 : FnOk Try.prog 133 Try.f133 I133 := ⟨Try.func133, by kernel_rfl, by kernel_rfl, by kernel_rfl, by kernel_rfl⟩
def S133_2 (x0 : List Org) (x1 x5 : Int) : St := [(0, .v false [.sl (.lnt 0) .org x0]), (2, .v false [.int .i64 x1]), (10, .v false [.int .i64 x5])]
theorem p133_2_0 (x0 : List Org) (x1 x5 : Int) : rS 2 I133 (S133_2 x0 x1 x5) [Y] [] = st 2 I133 (S133_2 ((fun (z1 : List Org) => List.set z1 (tN x5) (Org.mk (Org.cell (gD z1 (tN x5) Ty.org.dflt)) (W (x1 + 1)))) (List.set x0 (tN x5) (Org.mk x1 (Org.row (gD x0 (tN x5) Ty.org.dflt))))) (W ((W (x1 + 1)) + 1)) (W (x5 + 1))) [(decide ((x5 : Int) < (Ln x0 : Int))) = true, (0 : Int) ≤ x5 ∧ x5 < (Ln x0), (0 : Int) ≤ x5 ∧ x5 < (Ln (List.set x0 (tN x5) (Org.mk x1 (Org.row (gD x0 (tN x5) Ty.org.dflt)))))] := by kernel_rfl
theorem p133_2_1 (x0 : List Org) (x1 x5 : Int) : rS 2 I133 (S133_2 x0 x1 x5) [F] [] = dn (xBE (x1, x0)) [(decide ((x5 : Int) < (Ln x0 : Int))) = false] := by kernel_rfl
theorem p133_e_2 (a0 : List Org) (a1 : Int) : rE I133 (xCy a0 a1) [] [] = st 2 I133 (S133_2 a0 a1 0) [] := by kernel_rfl
theorem c133_2 {N : Nat} : ∀ n x0 x1 x5 r, xBD N n x0 x1 x5 = some r → RS Try.f133 I133 2 (S133_2 x0 x1 x5) (xBE r) := by
 intro n
 induction n with
 | zero => exact fun _ _ _ _ h => nE h
 | succ n ih =>
  exact fun x0 x1 x5 r h =>
   cE h (fun h0 h => iE h fun h1 h => iE h fun h2 h => tS fk133 (p133_2_0 x0 x1 x5) (oc h0 (oc h1 (oc h2 on))) (ih _ _ _ _ h)) fun h0 h =>
   dS h fk133 (p133_2_1 x0 x1 x5) (oc h0 on)
theorem c133_e {N : Nat} : ∀ a0 a1 r, xC2 N a0 a1 = some r → RE Try.f133 I133 (xCy a0 a1) (xBE r) := fun a0 a1 r h =>
 tE fk133 (p133_e_2 a0 a1) on (c133_2 _ _ _ _ _ h)
theorem xEy {N : Nat} {a0 : List Org} {a1 : Int} {r : Int × (List Org)} (h : xC2 N  a0 a1 = some r) : AbC 133 (xCy a0 a1) (xBE r) :=
 AbsCalls.of_reach fk133 rfl rfl (Nat.le_of_ble_eq_true rfl) (c133_e a0 a1 r h)
noncomputable def I77 : Info := { body := (Try.f77.body).getD .skip, nt := 27, results := [.tmp 4], keep := [0, 2, 8, 10, 18], live := [(2, [0, 2, 10])], modes := [(4, [(0, .ref, false), (4, .ref, false), (6, .ref, false)]), (5, [(0, .ref, false), (4, .ref, false), (6, .ref, false)])], lnt := [(0, 0)] }
theorem fk77 : FnOk Try.prog 77 Try.f77 I77 := ⟨Try.func77, by kernel_rfl, by kernel_rfl, by kernel_rfl, by kernel_rfl⟩
def S77_2 (x0 : List Rowd) (x1 x5 : Int) : St := [(0, .v false [.sl (.lnt 0) .row x0]), (2, .v false [.int .i64 x1]), (10, .v false [.int .i64 x5])]
theorem p77_2_0 (x0 : List Rowd) (x1 x5 : Int) (r1 : Int × (List Int)) (r2 : Int × (List Org)) : rS 2 I77 (S77_2 x0 x1 x5) [Y] [xCd r1, xBE r2] = st 2 I77 (S77_2 ((fun (z1 : List Rowd) => List.set z1 (tN x5) (Rowd.mk (Rowd.cells (gD z1 (tN x5) rd)) r2.2)) (List.set x0 (tN x5) (Rowd.mk r1.2 (Rowd.frm (gD x0 (tN x5) rd))))) r2.1 (W (x5 + 1))) [(decide ((x5 : Int) < (Ln x0 : Int))) = true, (0 : Int) ≤ x5 ∧ x5 < (Ln x0), AbC 132 (xC1 (Rowd.cells (gD x0 (tN x5) rd)) x1) (xCd r1), (tN x5) = (tN x5), Ln r1.2 = Ln (Rowd.cells (gD x0 (tN x5) rd)), (0 : Int) ≤ x5 ∧ x5 < (Ln (List.set x0 (tN x5) (Rowd.mk r1.2 (Rowd.frm (gD x0 (tN x5) rd))))), AbC 133 (xCy (Rowd.frm (gD (List.set x0 (tN x5) (Rowd.mk r1.2 (Rowd.frm (gD x0 (tN x5) rd)))) (tN x5) rd)) r1.1) (xBE r2), (tN x5) = (tN x5), Ln r2.2 = Ln (Rowd.frm (gD (List.set x0 (tN x5) (Rowd.mk r1.2 (Rowd.frm (gD x0 (tN x5) rd)))) (tN x5) rd))] := by kernel_rfl
theorem p77_2_1 (x0 : List Rowd) (x1 x5 : Int) : rS 2 I77 (S77_2 x0 x1 x5) [F] [] = dn (xBd (x1, x0)) [(decide ((x5 : Int) < (Ln x0 : Int))) = false] := by kernel_rfl
theorem p77_e_2 (a0 : List Rowd) (a1 : Int) : rE I77 (xCe a0 a1) [] [] = st 2 I77 (S77_2 a0 a1 0) [] := by kernel_rfl
theorem c77_2 {N : Nat} : ∀ n x0 x1 x5 r, xCf N n x0 x1 x5 = some r → RS Try.f77 I77 2 (S77_2 x0 x1 x5) (xBd r) := by
 intro n
 induction n with
 | zero => exact fun _ _ _ _ h => nE h
 | succ n ih =>
  exact fun x0 x1 x5 r h =>
   cE h (fun h0 h => iE h fun h1 h => bE h fun r1 h2 h => iE h fun h4 h => iE h fun h5 h => bE h fun r2 h6 h => iE h fun h8 h => tS fk77 (p77_2_0 x0 x1 x5 r1 r2) (oc h0 (oc h1 (oc (laws_markIntS_ok h2) (oc rfl (oc h4 (oc h5 (oc (xEy h6) (oc rfl (oc h8 on))))))))) (ih _ _ _ _ h)) fun h0 h =>
   dS h fk77 (p77_2_1 x0 x1 x5) (oc h0 on)
theorem c77_e {N : Nat} : ∀ a0 a1 r, xCN N a0 a1 = some r → RE Try.f77 I77 (xCe a0 a1) (xBd r) := fun a0 a1 r h =>
 tE fk77 (p77_e_2 a0 a1) on (c77_2 _ _ _ _ _ h)
theorem xDB {N : Nat} {a0 : List Rowd} {a1 : Int} {r : Int × (List Rowd)} (h : xCN N  a0 a1 = some r) : AbC 77 (xCe a0 a1) (xBd r) :=
 AbsCalls.of_reach fk77 rfl rfl (Nat.le_of_ble_eq_true rfl) (c77_e a0 a1 r h)
def G75 (q : (List Val) → Int → Option (Int × (List Val))) : Prop := ∀ a0 a1 r, q a0 a1 = some r → AbC 75 (xBg a0 a1) (xAO r)
noncomputable def I75 : Info := { body := (Try.f75.body).getD .skip, nt := 63, results := [.tmp 4], keep := [0, 2, 8, 10, 18], live := [(2, [0, 2, 10])], modes := [(4, [(0, .ref, false)]), (6, [(0, .ref, false)]), (8, [(0, .ref, false)]), (10, [(0, .ref, false)]), (12, [(0, .ref, false), (4, .ref, false), (6, .ref, false)]), (13, [(0, .ref, false), (4, .ref, false), (6, .ref, false)]), (14, [(0, .ref, false), (4, .ref, false), (6, .ref, false)])], lnt := [(0, 0)] }
theorem fk75 : FnOk Try.prog 75 Try.f75 I75 := ⟨Try.func75, by kernel_rfl, by kernel_rfl, by kernel_rfl, by kernel_rfl⟩
def S75_2 (x0 : List Val) (x1 x5 : Int) : St := [(0, .v false [.sl (.lnt 0) .val x0]), (2, .v false [.int .i64 x1]), (10, .v false [.int .i64 x5])]
theorem p75_2_0 (x0 : List Val) (x1 x5 : Int) (r1 : Str) (r2 : Int × (List Val)) (r3 : Int × (List Str)) (r4 : Int × (List Rowd)) : rS 2 I75 (S75_2 x0 x1 x5) [Y] [xAo r1, xAO r2, xAX r3, xBd r4] = st 2 I75 (S75_2 ((fun (z45 : List Val) => List.set z45 (tN x5) (Val.mk (Val.kind (gD z45 (tN x5) vd)) (Val.n (gD z45 (tN x5) vd)) (Val.step (gD z45 (tN x5) vd)) (Val.text (gD z45 (tN x5) vd)) (Val.list (gD z45 (tN x5) vd)) (Val.columns (gD z45 (tN x5) vd)) r4.2)) ((fun (z44 : List Val) => List.set z44 (tN x5) (Val.mk (Val.kind (gD z44 (tN x5) vd)) (Val.n (gD z44 (tN x5) vd)) (Val.step (gD z44 (tN x5) vd)) (Val.text (gD z44 (tN x5) vd)) (Val.list (gD z44 (tN x5) vd)) r3.2 (Val.rows (gD z44 (tN x5) vd)))) ((fun (z43 : List Val) => List.set z43 (tN x5) (Val.mk (Val.kind (gD z43 (tN x5) vd)) (Val.n (gD z43 (tN x5) vd)) (Val.step (gD z43 (tN x5) vd)) (Val.text (gD z43 (tN x5) vd)) r2.2 (Val.columns (gD z43 (tN x5) vd)) (Val.rows (gD z43 (tN x5) vd)))) ((fun (z42 : List Val) => List.set z42 (tN x5) (Val.mk (Val.kind (gD z42 (tN x5) vd)) (Val.n (gD z42 (tN x5) vd)) (Val.step (gD z42 (tN x5) vd)) r1 (Val.list (gD z42 (tN x5) vd)) (Val.columns (gD z42 (tN x5) vd)) (Val.rows (gD z42 (tN x5) vd)))) ((fun (z41 : List Val) => List.set z41 (tN x5) (Val.mk (Val.kind (gD z41 (tN x5) vd)) (Val.n (gD z41 (tN x5) vd)) (W ((W (x1 + 1)) + 1)) (Val.text (gD z41 (tN x5) vd)) (Val.list (gD z41 (tN x5) vd)) (Val.columns (gD z41 (tN x5) vd)) (Val.rows (gD z41 (tN x5) vd)))) ((fun (z40 : List Val) => List.set z40 (tN x5) (Val.mk (Val.kind (gD z40 (tN x5) vd)) (W (x1 + 1)) (Val.step (gD z40 (tN x5) vd)) (Val.text (gD z40 (tN x5) vd)) (Val.list (gD z40 (tN x5) vd)) (Val.columns (gD z40 (tN x5) vd)) (Val.rows (gD z40 (tN x5) vd)))) (List.set x0 (tN x5) (Val.mk x1 (Val.n (gD x0 (tN x5) vd)) (Val.step (gD x0 (tN x5) vd)) (Val.text (gD x0 (tN x5) vd)) (Val.list (gD x0 (tN x5) vd)) (Val.columns (gD x0 (tN x5) vd)) (Val.rows (gD x0 (tN x5) vd)))))))))) r4.1 (W (x5 + 1))) [(decide ((x5 : Int) < (Ln x0 : Int))) = true, (0 : Int) ≤ x5 ∧ x5 < (Ln x0), (0 : Int) ≤ x5 ∧ x5 < (Ln (List.set x0 (tN x5) (Val.mk x1 (Val.n (gD x0 (tN x5) vd)) (Val.step (gD x0 (tN x5) vd)) (Val.text (gD x0 (tN x5) vd)) (Val.list (gD x0 (tN x5) vd)) (Val.columns (gD x0 (tN x5) vd)) (Val.rows (gD x0 (tN x5) vd))))), (0 : Int) ≤ x5 ∧ x5 < (Ln ((fun (z40 : List Val) => List.set z40 (tN x5) (Val.mk (Val.kind (gD z40 (tN x5) vd)) (W (x1 + 1)) (Val.step (gD z40 (tN x5) vd)) (Val.text (gD z40 (tN x5) vd)) (Val.list (gD z40 (tN x5) vd)) (Val.columns (gD z40 (tN x5) vd)) (Val.rows (gD z40 (tN x5) vd)))) (List.set x0 (tN x5) (Val.mk x1 (Val.n (gD x0 (tN x5) vd)) (Val.step (gD x0 (tN x5) vd)) (Val.text (gD x0 (tN x5) vd)) (Val.list (gD x0 (tN x5) vd)) (Val.columns (gD x0 (tN x5) vd)) (Val.rows (gD x0 (tN x5) vd)))))), AbC 93 (xAL (W ((W ((W (x1 + 1)) + 1)) + 1))) (xAo r1), (0 : Int) ≤ x5 ∧ x5 < (Ln ((fun (z41 : List Val) => List.set z41 (tN x5) (Val.mk (Val.kind (gD z41 (tN x5) vd)) (Val.n (gD z41 (tN x5) vd)) (W ((W (x1 + 1)) + 1)) (Val.text (gD z41 (tN x5) vd)) (Val.list (gD z41 (tN x5) vd)) (Val.columns (gD z41 (tN x5) vd)) (Val.rows (gD z41 (tN x5) vd)))) ((fun (z40 : List Val) => List.set z40 (tN x5) (Val.mk (Val.kind (gD z40 (tN x5) vd)) (W (x1 + 1)) (Val.step (gD z40 (tN x5) vd)) (Val.text (gD z40 (tN x5) vd)) (Val.list (gD z40 (tN x5) vd)) (Val.columns (gD z40 (tN x5) vd)) (Val.rows (gD z40 (tN x5) vd)))) (List.set x0 (tN x5) (Val.mk x1 (Val.n (gD x0 (tN x5) vd)) (Val.step (gD x0 (tN x5) vd)) (Val.text (gD x0 (tN x5) vd)) (Val.list (gD x0 (tN x5) vd)) (Val.columns (gD x0 (tN x5) vd)) (Val.rows (gD x0 (tN x5) vd))))))), (0 : Int) ≤ x5 ∧ x5 < (Ln ((fun (z42 : List Val) => List.set z42 (tN x5) (Val.mk (Val.kind (gD z42 (tN x5) vd)) (Val.n (gD z42 (tN x5) vd)) (Val.step (gD z42 (tN x5) vd)) r1 (Val.list (gD z42 (tN x5) vd)) (Val.columns (gD z42 (tN x5) vd)) (Val.rows (gD z42 (tN x5) vd)))) ((fun (z41 : List Val) => List.set z41 (tN x5) (Val.mk (Val.kind (gD z41 (tN x5) vd)) (Val.n (gD z41 (tN x5) vd)) (W ((W (x1 + 1)) + 1)) (Val.text (gD z41 (tN x5) vd)) (Val.list (gD z41 (tN x5) vd)) (Val.columns (gD z41 (tN x5) vd)) (Val.rows (gD z41 (tN x5) vd)))) ((fun (z40 : List Val) => List.set z40 (tN x5) (Val.mk (Val.kind (gD z40 (tN x5) vd)) (W (x1 + 1)) (Val.step (gD z40 (tN x5) vd)) (Val.text (gD z40 (tN x5) vd)) (Val.list (gD z40 (tN x5) vd)) (Val.columns (gD z40 (tN x5) vd)) (Val.rows (gD z40 (tN x5) vd)))) (List.set x0 (tN x5) (Val.mk x1 (Val.n (gD x0 (tN x5) vd)) (Val.step (gD x0 (tN x5) vd)) (Val.text (gD x0 (tN x5) vd)) (Val.list (gD x0 (tN x5) vd)) (Val.columns (gD x0 (tN x5) vd)) (Val.rows (gD x0 (tN x5) vd)))))))), AbC 75 (xBg (Val.list (gD ((fun (z42 : List Val) => List.set z42 (tN x5) (Val.mk (Val.kind (gD z42 (tN x5) vd)) (Val.n (gD z42 (tN x5) vd)) (Val.step (gD z42 (tN x5) vd)) r1 (Val.list (gD z42 (tN x5) vd)) (Val.columns (gD z42 (tN x5) vd)) (Val.rows (gD z42 (tN x5) vd)))) ((fun (z41 : List Val) => List.set z41 (tN x5) (Val.mk (Val.kind (gD z41 (tN x5) vd)) (Val.n (gD z41 (tN x5) vd)) (W ((W (x1 + 1)) + 1)) (Val.text (gD z41 (tN x5) vd)) (Val.list (gD z41 (tN x5) vd)) (Val.columns (gD z41 (tN x5) vd)) (Val.rows (gD z41 (tN x5) vd)))) ((fun (z40 : List Val) => List.set z40 (tN x5) (Val.mk (Val.kind (gD z40 (tN x5) vd)) (W (x1 + 1)) (Val.step (gD z40 (tN x5) vd)) (Val.text (gD z40 (tN x5) vd)) (Val.list (gD z40 (tN x5) vd)) (Val.columns (gD z40 (tN x5) vd)) (Val.rows (gD z40 (tN x5) vd)))) (List.set x0 (tN x5) (Val.mk x1 (Val.n (gD x0 (tN x5) vd)) (Val.step (gD x0 (tN x5) vd)) (Val.text (gD x0 (tN x5) vd)) (Val.list (gD x0 (tN x5) vd)) (Val.columns (gD x0 (tN x5) vd)) (Val.rows (gD x0 (tN x5) vd))))))) (tN x5) vd)) (W ((W ((W ((W (x1 + 1)) + 1)) + 1)) + 1))) (xAO r2), (tN x5) = (tN x5), Ln r2.2 = Ln (Val.list (gD ((fun (z42 : List Val) => List.set z42 (tN x5) (Val.mk (Val.kind (gD z42 (tN x5) vd)) (Val.n (gD z42 (tN x5) vd)) (Val.step (gD z42 (tN x5) vd)) r1 (Val.list (gD z42 (tN x5) vd)) (Val.columns (gD z42 (tN x5) vd)) (Val.rows (gD z42 (tN x5) vd)))) ((fun (z41 : List Val) => List.set z41 (tN x5) (Val.mk (Val.kind (gD z41 (tN x5) vd)) (Val.n (gD z41 (tN x5) vd)) (W ((W (x1 + 1)) + 1)) (Val.text (gD z41 (tN x5) vd)) (Val.list (gD z41 (tN x5) vd)) (Val.columns (gD z41 (tN x5) vd)) (Val.rows (gD z41 (tN x5) vd)))) ((fun (z40 : List Val) => List.set z40 (tN x5) (Val.mk (Val.kind (gD z40 (tN x5) vd)) (W (x1 + 1)) (Val.step (gD z40 (tN x5) vd)) (Val.text (gD z40 (tN x5) vd)) (Val.list (gD z40 (tN x5) vd)) (Val.columns (gD z40 (tN x5) vd)) (Val.rows (gD z40 (tN x5) vd)))) (List.set x0 (tN x5) (Val.mk x1 (Val.n (gD x0 (tN x5) vd)) (Val.step (gD x0 (tN x5) vd)) (Val.text (gD x0 (tN x5) vd)) (Val.list (gD x0 (tN x5) vd)) (Val.columns (gD x0 (tN x5) vd)) (Val.rows (gD x0 (tN x5) vd))))))) (tN x5) vd)), (0 : Int) ≤ x5 ∧ x5 < (Ln ((fun (z43 : List Val) => List.set z43 (tN x5) (Val.mk (Val.kind (gD z43 (tN x5) vd)) (Val.n (gD z43 (tN x5) vd)) (Val.step (gD z43 (tN x5) vd)) (Val.text (gD z43 (tN x5) vd)) r2.2 (Val.columns (gD z43 (tN x5) vd)) (Val.rows (gD z43 (tN x5) vd)))) ((fun (z42 : List Val) => List.set z42 (tN x5) (Val.mk (Val.kind (gD z42 (tN x5) vd)) (Val.n (gD z42 (tN x5) vd)) (Val.step (gD z42 (tN x5) vd)) r1 (Val.list (gD z42 (tN x5) vd)) (Val.columns (gD z42 (tN x5) vd)) (Val.rows (gD z42 (tN x5) vd)))) ((fun (z41 : List Val) => List.set z41 (tN x5) (Val.mk (Val.kind (gD z41 (tN x5) vd)) (Val.n (gD z41 (tN x5) vd)) (W ((W (x1 + 1)) + 1)) (Val.text (gD z41 (tN x5) vd)) (Val.list (gD z41 (tN x5) vd)) (Val.columns (gD z41 (tN x5) vd)) (Val.rows (gD z41 (tN x5) vd)))) ((fun (z40 : List Val) => List.set z40 (tN x5) (Val.mk (Val.kind (gD z40 (tN x5) vd)) (W (x1 + 1)) (Val.step (gD z40 (tN x5) vd)) (Val.text (gD z40 (tN x5) vd)) (Val.list (gD z40 (tN x5) vd)) (Val.columns (gD z40 (tN x5) vd)) (Val.rows (gD z40 (tN x5) vd)))) (List.set x0 (tN x5) (Val.mk x1 (Val.n (gD x0 (tN x5) vd)) (Val.step (gD x0 (tN x5) vd)) (Val.text (gD x0 (tN x5) vd)) (Val.list (gD x0 (tN x5) vd)) (Val.columns (gD x0 (tN x5) vd)) (Val.rows (gD x0 (tN x5) vd))))))))), AbC 76 (xBF (Val.columns (gD ((fun (z43 : List Val) => List.set z43 (tN x5) (Val.mk (Val.kind (gD z43 (tN x5) vd)) (Val.n (gD z43 (tN x5) vd)) (Val.step (gD z43 (tN x5) vd)) (Val.text (gD z43 (tN x5) vd)) r2.2 (Val.columns (gD z43 (tN x5) vd)) (Val.rows (gD z43 (tN x5) vd)))) ((fun (z42 : List Val) => List.set z42 (tN x5) (Val.mk (Val.kind (gD z42 (tN x5) vd)) (Val.n (gD z42 (tN x5) vd)) (Val.step (gD z42 (tN x5) vd)) r1 (Val.list (gD z42 (tN x5) vd)) (Val.columns (gD z42 (tN x5) vd)) (Val.rows (gD z42 (tN x5) vd)))) ((fun (z41 : List Val) => List.set z41 (tN x5) (Val.mk (Val.kind (gD z41 (tN x5) vd)) (Val.n (gD z41 (tN x5) vd)) (W ((W (x1 + 1)) + 1)) (Val.text (gD z41 (tN x5) vd)) (Val.list (gD z41 (tN x5) vd)) (Val.columns (gD z41 (tN x5) vd)) (Val.rows (gD z41 (tN x5) vd)))) ((fun (z40 : List Val) => List.set z40 (tN x5) (Val.mk (Val.kind (gD z40 (tN x5) vd)) (W (x1 + 1)) (Val.step (gD z40 (tN x5) vd)) (Val.text (gD z40 (tN x5) vd)) (Val.list (gD z40 (tN x5) vd)) (Val.columns (gD z40 (tN x5) vd)) (Val.rows (gD z40 (tN x5) vd)))) (List.set x0 (tN x5) (Val.mk x1 (Val.n (gD x0 (tN x5) vd)) (Val.step (gD x0 (tN x5) vd)) (Val.text (gD x0 (tN x5) vd)) (Val.list (gD x0 (tN x5) vd)) (Val.columns (gD x0 (tN x5) vd)) (Val.rows (gD x0 (tN x5) vd)))))))) (tN x5) vd)) r2.1) (xAX r3), (tN x5) = (tN x5), Ln r3.2 = Ln (Val.columns (gD ((fun (z43 : List Val) => List.set z43 (tN x5) (Val.mk (Val.kind (gD z43 (tN x5) vd)) (Val.n (gD z43 (tN x5) vd)) (Val.step (gD z43 (tN x5) vd)) (Val.text (gD z43 (tN x5) vd)) r2.2 (Val.columns (gD z43 (tN x5) vd)) (Val.rows (gD z43 (tN x5) vd)))) ((fun (z42 : List Val) => List.set z42 (tN x5) (Val.mk (Val.kind (gD z42 (tN x5) vd)) (Val.n (gD z42 (tN x5) vd)) (Val.step (gD z42 (tN x5) vd)) r1 (Val.list (gD z42 (tN x5) vd)) (Val.columns (gD z42 (tN x5) vd)) (Val.rows (gD z42 (tN x5) vd)))) ((fun (z41 : List Val) => List.set z41 (tN x5) (Val.mk (Val.kind (gD z41 (tN x5) vd)) (Val.n (gD z41 (tN x5) vd)) (W ((W (x1 + 1)) + 1)) (Val.text (gD z41 (tN x5) vd)) (Val.list (gD z41 (tN x5) vd)) (Val.columns (gD z41 (tN x5) vd)) (Val.rows (gD z41 (tN x5) vd)))) ((fun (z40 : List Val) => List.set z40 (tN x5) (Val.mk (Val.kind (gD z40 (tN x5) vd)) (W (x1 + 1)) (Val.step (gD z40 (tN x5) vd)) (Val.text (gD z40 (tN x5) vd)) (Val.list (gD z40 (tN x5) vd)) (Val.columns (gD z40 (tN x5) vd)) (Val.rows (gD z40 (tN x5) vd)))) (List.set x0 (tN x5) (Val.mk x1 (Val.n (gD x0 (tN x5) vd)) (Val.step (gD x0 (tN x5) vd)) (Val.text (gD x0 (tN x5) vd)) (Val.list (gD x0 (tN x5) vd)) (Val.columns (gD x0 (tN x5) vd)) (Val.rows (gD x0 (tN x5) vd)))))))) (tN x5) vd)), (0 : Int) ≤ x5 ∧ x5 < (Ln ((fun (z44 : List Val) => List.set z44 (tN x5) (Val.mk (Val.kind (gD z44 (tN x5) vd)) (Val.n (gD z44 (tN x5) vd)) (Val.step (gD z44 (tN x5) vd)) (Val.text (gD z44 (tN x5) vd)) (Val.list (gD z44 (tN x5) vd)) r3.2 (Val.rows (gD z44 (tN x5) vd)))) ((fun (z43 : List Val) => List.set z43 (tN x5) (Val.mk (Val.kind (gD z43 (tN x5) vd)) (Val.n (gD z43 (tN x5) vd)) (Val.step (gD z43 (tN x5) vd)) (Val.text (gD z43 (tN x5) vd)) r2.2 (Val.columns (gD z43 (tN x5) vd)) (Val.rows (gD z43 (tN x5) vd)))) ((fun (z42 : List Val) => List.set z42 (tN x5) (Val.mk (Val.kind (gD z42 (tN x5) vd)) (Val.n (gD z42 (tN x5) vd)) (Val.step (gD z42 (tN x5) vd)) r1 (Val.list (gD z42 (tN x5) vd)) (Val.columns (gD z42 (tN x5) vd)) (Val.rows (gD z42 (tN x5) vd)))) ((fun (z41 : List Val) => List.set z41 (tN x5) (Val.mk (Val.kind (gD z41 (tN x5) vd)) (Val.n (gD z41 (tN x5) vd)) (W ((W (x1 + 1)) + 1)) (Val.text (gD z41 (tN x5) vd)) (Val.list (gD z41 (tN x5) vd)) (Val.columns (gD z41 (tN x5) vd)) (Val.rows (gD z41 (tN x5) vd)))) ((fun (z40 : List Val) => List.set z40 (tN x5) (Val.mk (Val.kind (gD z40 (tN x5) vd)) (W (x1 + 1)) (Val.step (gD z40 (tN x5) vd)) (Val.text (gD z40 (tN x5) vd)) (Val.list (gD z40 (tN x5) vd)) (Val.columns (gD z40 (tN x5) vd)) (Val.rows (gD z40 (tN x5) vd)))) (List.set x0 (tN x5) (Val.mk x1 (Val.n (gD x0 (tN x5) vd)) (Val.step (gD x0 (tN x5) vd)) (Val.text (gD x0 (tN x5) vd)) (Val.list (gD x0 (tN x5) vd)) (Val.columns (gD x0 (tN x5) vd)) (Val.rows (gD x0 (tN x5) vd)))))))))), AbC 77 (xCe (Val.rows (gD ((fun (z44 : List Val) => List.set z44 (tN x5) (Val.mk (Val.kind (gD z44 (tN x5) vd)) (Val.n (gD z44 (tN x5) vd)) (Val.step (gD z44 (tN x5) vd)) (Val.text (gD z44 (tN x5) vd)) (Val.list (gD z44 (tN x5) vd)) r3.2 (Val.rows (gD z44 (tN x5) vd)))) ((fun (z43 : List Val) => List.set z43 (tN x5) (Val.mk (Val.kind (gD z43 (tN x5) vd)) (Val.n (gD z43 (tN x5) vd)) (Val.step (gD z43 (tN x5) vd)) (Val.text (gD z43 (tN x5) vd)) r2.2 (Val.columns (gD z43 (tN x5) vd)) (Val.rows (gD z43 (tN x5) vd)))) ((fun (z42 : List Val) => List.set z42 (tN x5) (Val.mk (Val.kind (gD z42 (tN x5) vd)) (Val.n (gD z42 (tN x5) vd)) (Val.step (gD z42 (tN x5) vd)) r1 (Val.list (gD z42 (tN x5) vd)) (Val.columns (gD z42 (tN x5) vd)) (Val.rows (gD z42 (tN x5) vd)))) ((fun (z41 : List Val) => List.set z41 (tN x5) (Val.mk (Val.kind (gD z41 (tN x5) vd)) (Val.n (gD z41 (tN x5) vd)) (W ((W (x1 + 1)) + 1)) (Val.text (gD z41 (tN x5) vd)) (Val.list (gD z41 (tN x5) vd)) (Val.columns (gD z41 (tN x5) vd)) (Val.rows (gD z41 (tN x5) vd)))) ((fun (z40 : List Val) => List.set z40 (tN x5) (Val.mk (Val.kind (gD z40 (tN x5) vd)) (W (x1 + 1)) (Val.step (gD z40 (tN x5) vd)) (Val.text (gD z40 (tN x5) vd)) (Val.list (gD z40 (tN x5) vd)) (Val.columns (gD z40 (tN x5) vd)) (Val.rows (gD z40 (tN x5) vd)))) (List.set x0 (tN x5) (Val.mk x1 (Val.n (gD x0 (tN x5) vd)) (Val.step (gD x0 (tN x5) vd)) (Val.text (gD x0 (tN x5) vd)) (Val.list (gD x0 (tN x5) vd)) (Val.columns (gD x0 (tN x5) vd)) (Val.rows (gD x0 (tN x5) vd))))))))) (tN x5) vd)) r3.1) (xBd r4), (tN x5) = (tN x5), Ln r4.2 = Ln (Val.rows (gD ((fun (z44 : List Val) => List.set z44 (tN x5) (Val.mk (Val.kind (gD z44 (tN x5) vd)) (Val.n (gD z44 (tN x5) vd)) (Val.step (gD z44 (tN x5) vd)) (Val.text (gD z44 (tN x5) vd)) (Val.list (gD z44 (tN x5) vd)) r3.2 (Val.rows (gD z44 (tN x5) vd)))) ((fun (z43 : List Val) => List.set z43 (tN x5) (Val.mk (Val.kind (gD z43 (tN x5) vd)) (Val.n (gD z43 (tN x5) vd)) (Val.step (gD z43 (tN x5) vd)) (Val.text (gD z43 (tN x5) vd)) r2.2 (Val.columns (gD z43 (tN x5) vd)) (Val.rows (gD z43 (tN x5) vd)))) ((fun (z42 : List Val) => List.set z42 (tN x5) (Val.mk (Val.kind (gD z42 (tN x5) vd)) (Val.n (gD z42 (tN x5) vd)) (Val.step (gD z42 (tN x5) vd)) r1 (Val.list (gD z42 (tN x5) vd)) (Val.columns (gD z42 (tN x5) vd)) (Val.rows (gD z42 (tN x5) vd)))) ((fun (z41 : List Val) => List.set z41 (tN x5) (Val.mk (Val.kind (gD z41 (tN x5) vd)) (Val.n (gD z41 (tN x5) vd)) (W ((W (x1 + 1)) + 1)) (Val.text (gD z41 (tN x5) vd)) (Val.list (gD z41 (tN x5) vd)) (Val.columns (gD z41 (tN x5) vd)) (Val.rows (gD z41 (tN x5) vd)))) ((fun (z40 : List Val) => List.set z40 (tN x5) (Val.mk (Val.kind (gD z40 (tN x5) vd)) (W (x1 + 1)) (Val.step (gD z40 (tN x5) vd)) (Val.text (gD z40 (tN x5) vd)) (Val.list (gD z40 (tN x5) vd)) (Val.columns (gD z40 (tN x5) vd)) (Val.rows (gD z40 (tN x5) vd)))) (List.set x0 (tN x5) (Val.mk x1 (Val.n (gD x0 (tN x5) vd)) (Val.step (gD x0 (tN x5) vd)) (Val.text (gD x0 (tN x5) vd)) (Val.list (gD x0 (tN x5) vd)) (Val.columns (gD x0 (tN x5) vd)) (Val.rows (gD x0 (tN x5) vd))))))))) (tN x5) vd))] := by kernel_rfl
theorem p75_2_1 (x0 : List Val) (x1 x5 : Int) : rS 2 I75 (S75_2 x0 x1 x5) [F] [] = dn (xAO (x1, x0)) [(decide ((x5 : Int) < (Ln x0 : Int))) = false] := by kernel_rfl
theorem p75_e_2 (a0 : List Val) (a1 : Int) : rE I75 (xBg a0 a1) [] [] = st 2 I75 (S75_2 a0 a1 0) [] := by kernel_rfl
theorem c75_2 {N : Nat} {q0 : (List Val) → Int → Option (Int × (List Val))} (g0 : G75 q0) : ∀ n x0 x1 x5 r, xBM N q0 n x0 x1 x5 = some r → RS Try.f75 I75 2 (S75_2 x0 x1 x5) (xAO r) := by
 intro n
 induction n with
 | zero => exact fun _ _ _ _ h => nE h
 | succ n ih =>
  exact fun x0 x1 x5 r h =>
   cE h (fun h0 h => iE h fun h1 h => iE h fun h2 h => iE h fun h3 h => bE h fun r1 h4 h => iE h fun h5 h => iE h fun h6 h => bE h fun r2 h7 h => iE h fun h9 h => iE h fun h10 h => bE h fun r3 h11 h => iE h fun h13 h => iE h fun h14 h => bE h fun r4 h15 h => iE h fun h17 h => tS fk75 (p75_2_0 x0 x1 x5 r1 r2 r3 r4) (oc h0 (oc h1 (oc h2 (oc h3 (oc (xA4 h4) (oc h5 (oc h6 (oc (g0 _ _ _ h7) (oc rfl (oc h9 (oc h10 (oc (xC6 h11) (oc rfl (oc h13 (oc h14 (oc (xDB h15) (oc rfl (oc h17 on)))))))))))))))))) (ih _ _ _ _ h)) fun h0 h =>
   dS h fk75 (p75_2_1 x0 x1 x5) (oc h0 on)
theorem c75_e {N : Nat} {q0 : (List Val) → Int → Option (Int × (List Val))} (g0 : G75 q0) : ∀ a0 a1 r, xCU N q0 a0 a1 = some r → RE Try.f75 I75 (xBg a0 a1) (xAO r) := fun a0 a1 r h =>
 tE fk75 (p75_e_2 a0 a1) on (c75_2 g0 _ _ _ _ _ h)
theorem xEa {N : Nat} {q0 : (List Val) → Int → Option (Int × (List Val))} (g0 : G75 q0) {a0 : List Val} {a1 : Int} {r : Int × (List Val)} (h : xCU N q0 a0 a1 = some r) : AbC 75 (xBg a0 a1) (xAO r) :=
 AbsCalls.of_reach fk75 rfl rfl (Nat.le_of_ble_eq_true rfl) (c75_e g0 a0 a1 r h)
theorem xDj {N : Nat} : ∀ d, G75 (xB5 N d)
 | 0 => fun _ _ _ h => nE h
 | d + 1 => fun _ _ _ h => xEa (N := N) (xDj d) h
theorem xDW {N : Nat} {a0 : List Val} {a1 : Int} {r : Int × (List Val)} (h : xCu N a0 a1 = some r) : AbC 75 (xBg a0 a1) (xAO r) := xDj N _ _ r h
end Go.Ab.T
end
