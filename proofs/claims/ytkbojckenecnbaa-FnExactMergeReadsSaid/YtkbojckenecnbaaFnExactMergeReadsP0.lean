/- The statement FnExactMergeReads holds: plain functions, certificates, laws. Conditions: none. -/
import Derived.Test.YtkbojckenecnbaaChecked
import Derived.Test.YtkbojckenecnbaaProg
import Derived.Test.YtkbojckenecnbaaRows
import Derived.Test.YtkbojckenecnbaaL2
set_option linter.all false
section
namespace Go.Ab
set_option linter.unusedVariables false
def xBR (a0 : List Str) (a1 : Int) : List Arg := [.val (.v false [.sl .ro .str a0]), .val (.v false [.int .i64 a1])]
def xAU (r : Int) : CallO := ⟨.v false [.int .i64 r], [], []⟩
def xCF (N : Nat) : Nat → (List Str) → Int → Int → Option (Int)
  | 0, _, _, _ => none
  | n + 1, x0, x1, x5 =>
    bif (decide ((x5 : Int) < (List.length x0 : Int))) then (
      if (0 : Int) ≤ x5 ∧ x5 < (List.length x0) then
      bif (decide (((IntKind.i64.wrap (x1 - (List.length (List.getD x0 (Int.toNat x5) Ty.str.dflt) : Int))) : Int) < 0)) then (
        some (-1)
      ) else (
        (xCF N n x0 (IntKind.i64.wrap (x1 - (List.length (List.getD x0 (Int.toNat x5) Ty.str.dflt) : Int))) (IntKind.i64.wrap (x5 + 1)))
      )
      else none
    ) else (
      some x1
    )
def xDj (N : Nat) (a0 : List Str) (a1 : Int) : Option (Int) :=
  bif (decide (((IntKind.i64.wrap (a1 - (List.length a0 : Int))) : Int) < 0)) then (
    some (-1)
  ) else (
    (xCF N N a0 (IntKind.i64.wrap (a1 - (List.length a0 : Int))) 0)
  )
def xCy (a0 : List Int) (a1 : Int) : List Arg := [.val (.v false [.sl .ro .int a0]), .val (.v false [.int .i64 a1])]
def xBy (r : Int) : CallO := ⟨.v false [.int .i64 r], [], []⟩
def xD5 (N : Nat) (a0 : List Int) (a1 : Int) : Option (Int) :=
  bif (decide (((IntKind.i64.wrap (a1 - (List.length a0 : Int))) : Int) < 0)) then (
    some (-1)
  ) else (
    some (IntKind.i64.wrap (a1 - (List.length a0 : Int)))
  )
def xCb (a0 : List Org) (a1 : Int) : List Arg := [.val (.v false [.sl .ro .org a0]), .val (.v false [.int .i64 a1])]
def xBt (r : Int) : CallO := ⟨.v false [.int .i64 r], [], []⟩
def xDh (N : Nat) (a0 : List Org) (a1 : Int) : Option (Int) :=
  bif (decide (((IntKind.i64.wrap (a1 - (List.length a0 : Int))) : Int) < 0)) then (
    some (-1)
  ) else (
    some (IntKind.i64.wrap (a1 - (List.length a0 : Int)))
  )
def xCL (a0 : Rowd) (a1 : Int) : List Arg := [.val (.v true [.sl .ro .int (Rowd.cells a0), .sl .ro .org (Rowd.frm a0)]), .val (.v false [.int .i64 a1])]
def xB6 (r : Int) : CallO := ⟨.v false [.int .i64 r], [], []⟩
def xDY (N : Nat) (a0 : Rowd) (a1 : Int) : Option (Int) :=
  Option.bind (xD5 N (Rowd.cells a0) a1) fun r1 =>
  bif (decide ((r1 : Int) < 0)) then (
    some (-1)
  ) else (
    Option.bind (xDh N (Rowd.frm a0) r1) fun r2 =>
    bif (decide ((r2 : Int) < 0)) then (
      some (-1)
    ) else (
      some r2
    )
  )
def xCY (a0 : List Rowd) (a1 : Int) : List Arg := [.val (.v false [.sl .ro .row a0]), .val (.v false [.int .i64 a1])]
def xBz (r : Int) : CallO := ⟨.v false [.int .i64 r], [], []⟩
def xDi (N : Nat) : Nat → (List Rowd) → Int → Int → Option (Int)
  | 0, _, _, _ => none
  | n + 1, x0, x1, x5 =>
    bif (decide ((x5 : Int) < (List.length x0 : Int))) then (
      if (0 : Int) ≤ x5 ∧ x5 < (List.length x0) then
      Option.bind (xDY N (List.getD x0 (Int.toNat x5) Ty.row.dflt) x1) fun r1 =>
      bif (decide ((r1 : Int) < 0)) then (
        some (-1)
      ) else (
        (xDi N n x0 r1 (IntKind.i64.wrap (x5 + 1)))
      )
      else none
    ) else (
      some x1
    )
def xD6 (N : Nat) (a0 : List Rowd) (a1 : Int) : Option (Int) :=
  bif (decide (((IntKind.i64.wrap (a1 - (List.length a0 : Int))) : Int) < 0)) then (
    some (-1)
  ) else (
    (xDi N N a0 (IntKind.i64.wrap (a1 - (List.length a0 : Int))) 0)
  )
def xAH (a0 : Val) (a1 : Int) : List Arg := [.val (.v true [.int .i64 (Val.kind a0), .int .i64 (Val.n a0), .int .i64 (Val.step a0), .str (Val.text a0), .sl .ro .val (Val.list a0), .sl .ro .str (Val.columns a0), .sl .ro .row (Val.rows a0)]), .val (.v false [.int .i64 a1])]
def xAz (r : Int) : CallO := ⟨.v false [.int .i64 r], [], []⟩
def xDe (N : Nat) (rc_laws_szValue : Val → Int → Option (Int)) (rc_laws_szValueS : (List Val) → Int → Option (Int)) (a0 : Val) (a1 : Int) : Option (Int) :=
  bif (decide (((IntKind.i64.wrap (a1 - (List.length (Val.text a0) : Int))) : Int) < 0)) then (
    some (-1)
  ) else (
    Option.bind (rc_laws_szValueS (Val.list a0) (IntKind.i64.wrap (a1 - (List.length (Val.text a0) : Int)))) fun r1 =>
    bif (decide ((r1 : Int) < 0)) then (
      some (-1)
    ) else (
      Option.bind (xDj N (Val.columns a0) r1) fun r2 =>
      bif (decide ((r2 : Int) < 0)) then (
        some (-1)
      ) else (
        Option.bind (xD6 N (Val.rows a0) r2) fun r3 =>
        bif (decide ((r3 : Int) < 0)) then (
          some (-1)
        ) else (
          some r3
        )
      )
    )
  )
def xAQ (a0 : List Val) (a1 : Int) : List Arg := [.val (.v false [.sl .ro .val a0]), .val (.v false [.int .i64 a1])]
def xAB (r : Int) : CallO := ⟨.v false [.int .i64 r], [], []⟩
def xCQ (N : Nat) (rc_laws_szValue : Val → Int → Option (Int)) (rc_laws_szValueS : (List Val) → Int → Option (Int)) : Nat → (List Val) → Int → Int → Option (Int)
  | 0, _, _, _ => none
  | n + 1, x0, x1, x5 =>
    bif (decide ((x5 : Int) < (List.length x0 : Int))) then (
      if (0 : Int) ≤ x5 ∧ x5 < (List.length x0) then
      Option.bind (rc_laws_szValue (List.getD x0 (Int.toNat x5) Ty.val.dflt) x1) fun r1 =>
      bif (decide ((r1 : Int) < 0)) then (
        some (-1)
      ) else (
        (xCQ N rc_laws_szValue rc_laws_szValueS n x0 r1 (IntKind.i64.wrap (x5 + 1)))
      )
      else none
    ) else (
      some x1
    )
def xC4 (N : Nat) (rc_laws_szValue : Val → Int → Option (Int)) (rc_laws_szValueS : (List Val) → Int → Option (Int)) (a0 : List Val) (a1 : Int) : Option (Int) :=
  bif (decide (((IntKind.i64.wrap (a1 - (List.length a0 : Int))) : Int) < 0)) then (
    some (-1)
  ) else (
    (xCQ N rc_laws_szValue rc_laws_szValueS N a0 (IntKind.i64.wrap (a1 - (List.length a0 : Int))) 0)
  )
structure laws_szValue_rec where
  c_laws_szValue : Val → Int → Option (Int)
  c_laws_szValueS : (List Val) → Int → Option (Int)
def xA3 (N : Nat) : Nat → laws_szValue_rec
  | 0 => ⟨fun _ _ => none, fun _ _ => none⟩
  | d + 1 => ⟨xDe N (xA3 N d).c_laws_szValue (xA3 N d).c_laws_szValueS, xC4 N (xA3 N d).c_laws_szValue (xA3 N d).c_laws_szValueS⟩
def xEx (N : Nat) (a0 : Val) (a1 : Int) : Option (Int) := (xA3 N N).c_laws_szValue a0 a1
def xDg (a0 : List Str) : List Arg := [.val (.v false [.sl .ro .str a0])]
def xCd (r : (List Str)) : CallO := ⟨.v false [.sl .own .str r], [], []⟩
def xCH (N : Nat) : Nat → (List Str) → (List Str) → Int → Option ((List Str))
  | 0, _, _, _ => none
  | n + 1, x0, x3, x4 =>
    bif (decide ((x4 : Int) < (List.length x0 : Int))) then (
      if (0 : Int) ≤ x4 ∧ x4 < (List.length x0) then
      if (0 : Int) ≤ x4 ∧ x4 < (List.length x3) then
      (xCH N n x0 (List.set x3 (Int.toNat x4) (List.getD x0 (Int.toNat x4) Ty.str.dflt)) (IntKind.i64.wrap (x4 + 1)))
      else none
      else none
    ) else (
      some x3
    )
def xC2 (N : Nat) (a0 : List Str) : Option ((List Str)) :=
  if (0 : Int) ≤ (List.length a0 : Int) ∧ (List.length a0 : Int) = (List.length a0 : Int) ∧ (List.length a0 : Int) ≤ Lim then
  (xCH N N a0 (List.replicate (Int.toNat (List.length a0 : Int)) Ty.str.dflt) 0)
  else none
def xDO (a0 : List Int) : List Arg := [.val (.v false [.sl .ro .int a0])]
def xCZ (r : (List Int)) : CallO := ⟨.v false [.sl .own .int r], [], []⟩
def xDk (N : Nat) : Nat → (List Int) → (List Int) → Int → Option ((List Int))
  | 0, _, _, _ => none
  | n + 1, x0, x3, x4 =>
    bif (decide ((x4 : Int) < (List.length x0 : Int))) then (
      if (0 : Int) ≤ x4 ∧ x4 < (List.length x0) then
      if (0 : Int) ≤ x4 ∧ x4 < (List.length x3) then
      (xDk N n x0 (List.set x3 (Int.toNat x4) (List.getD x0 (Int.toNat x4) Ty.int.dflt)) (IntKind.i64.wrap (x4 + 1)))
      else none
      else none
    ) else (
      some x3
    )
def xDL (N : Nat) (a0 : List Int) : Option ((List Int)) :=
  if (0 : Int) ≤ (List.length a0 : Int) ∧ (List.length a0 : Int) = (List.length a0 : Int) ∧ (List.length a0 : Int) ≤ Lim then
  (xDk N N a0 (List.replicate (Int.toNat (List.length a0 : Int)) Ty.int.dflt) 0)
  else none
def xDp (a0 : Org) : List Arg := [.val (.v true [.int .i64 (Org.cell a0), .int .i64 (Org.row a0)])]
def xCR (r : Org) : CallO := ⟨.v true [.int .i64 (Org.cell r), .int .i64 (Org.row r)], [], []⟩
def xDz (N : Nat) (a0 : Org) : Option (Org) :=
  some a0
def xDf (a0 : List Org) : List Arg := [.val (.v false [.sl .ro .org a0])]
def xCc (r : (List Org)) : CallO := ⟨.v false [.sl .own .org r], [], []⟩
def xCG (N : Nat) : Nat → (List Org) → (List Org) → Int → Option ((List Org))
  | 0, _, _, _ => none
  | n + 1, x0, x3, x4 =>
    bif (decide ((x4 : Int) < (List.length x0 : Int))) then (
      if (0 : Int) ≤ x4 ∧ x4 < (List.length x0) then
      Option.bind (xDz N (List.getD x0 (Int.toNat x4) Ty.org.dflt)) fun r1 =>
      if (0 : Int) ≤ x4 ∧ x4 < (List.length x3) then
      (xCG N n x0 (List.set x3 (Int.toNat x4) r1) (IntKind.i64.wrap (x4 + 1)))
      else none
      else none
    ) else (
      some x3
    )
def xC0 (N : Nat) (a0 : List Org) : Option ((List Org)) :=
  if (0 : Int) ≤ (List.length a0 : Int) ∧ (List.length a0 : Int) = (List.length a0 : Int) ∧ (List.length a0 : Int) ≤ Lim then
  (xCG N N a0 (List.replicate (Int.toNat (List.length a0 : Int)) Ty.org.dflt) 0)
  else none
def xDU (a0 : Rowd) : List Arg := [.val (.v true [.sl .ro .int (Rowd.cells a0), .sl .ro .org (Rowd.frm a0)])]
def xDA (r : Rowd) : CallO := ⟨.v true [.sl .own .int (Rowd.cells r), .sl .own .org (Rowd.frm r)], [], []⟩
def xDM (N : Nat) (a0 : Rowd) : Option (Rowd) :=
  Option.bind (xDL N (Rowd.cells a0)) fun r1 =>
  Option.bind (xC0 N (Rowd.frm a0)) fun r2 =>
  some (Rowd.mk r1 r2)
def xDQ (a0 : List Rowd) : List Arg := [.val (.v false [.sl .ro .row a0])]
def xC1 (r : (List Rowd)) : CallO := ⟨.v false [.sl .own .row r], [], []⟩
def xDm (N : Nat) : Nat → (List Rowd) → (List Rowd) → Int → Option ((List Rowd))
  | 0, _, _, _ => none
  | n + 1, x0, x3, x4 =>
    bif (decide ((x4 : Int) < (List.length x0 : Int))) then (
      if (0 : Int) ≤ x4 ∧ x4 < (List.length x0) then
      Option.bind (xDM N (List.getD x0 (Int.toNat x4) Ty.row.dflt)) fun r1 =>
      if (0 : Int) ≤ x4 ∧ x4 < (List.length x3) then
      (xDm N n x0 (List.set x3 (Int.toNat x4) r1) (IntKind.i64.wrap (x4 + 1)))
      else none
      else none
    ) else (
      some x3
    )
def xDN (N : Nat) (a0 : List Rowd) : Option ((List Rowd)) :=
  if (0 : Int) ≤ (List.length a0 : Int) ∧ (List.length a0 : Int) = (List.length a0 : Int) ∧ (List.length a0 : Int) ≤ Lim then
  (xDm N N a0 (List.replicate (Int.toNat (List.length a0 : Int)) Ty.row.dflt) 0)
  else none
def xA4 (a0 : Val) : List Arg := [.val (.v true [.int .i64 (Val.kind a0), .int .i64 (Val.n a0), .int .i64 (Val.step a0), .str (Val.text a0), .sl .ro .val (Val.list a0), .sl .ro .str (Val.columns a0), .sl .ro .row (Val.rows a0)])]
def xAW (r : Val) : CallO := ⟨.v true [.int .i64 (Val.kind r), .int .i64 (Val.n r), .int .i64 (Val.step r), .str (Val.text r), .sl .own .val (Val.list r), .sl .own .str (Val.columns r), .sl .own .row (Val.rows r)], [], []⟩
def xCe (N : Nat) (rc_laws_toValue : Val → Option (Val)) (rc_laws_toValueS : (List Val) → Option ((List Val))) (a0 : Val) : Option (Val) :=
  Option.bind (rc_laws_toValueS (Val.list a0)) fun r1 =>
  Option.bind (xC2 N (Val.columns a0)) fun r2 =>
  Option.bind (xDN N (Val.rows a0)) fun r3 =>
  some (Val.mk (Val.kind a0) (Val.n a0) (Val.step a0) (Val.text a0) r1 r2 r3)
def xBb (a0 : List Val) : List Arg := [.val (.v false [.sl .ro .val a0])]
def xAZ (r : (List Val)) : CallO := ⟨.v false [.sl .own .val r], [], []⟩
def xCS (N : Nat) (rc_laws_toValue : Val → Option (Val)) (rc_laws_toValueS : (List Val) → Option ((List Val))) : Nat → (List Val) → (List Val) → Int → Option ((List Val))
  | 0, _, _, _ => none
  | n + 1, x0, x3, x4 =>
    bif (decide ((x4 : Int) < (List.length x0 : Int))) then (
      if (0 : Int) ≤ x4 ∧ x4 < (List.length x0) then
      Option.bind (rc_laws_toValue (List.getD x0 (Int.toNat x4) Ty.val.dflt)) fun r1 =>
      if (0 : Int) ≤ x4 ∧ x4 < (List.length x3) then
      (xCS N rc_laws_toValue rc_laws_toValueS n x0 (List.set x3 (Int.toNat x4) (Val.re r1)) (IntKind.i64.wrap (x4 + 1)))
      else none
      else none
    ) else (
      some x3
    )
def xBV (N : Nat) (rc_laws_toValue : Val → Option (Val)) (rc_laws_toValueS : (List Val) → Option ((List Val))) (a0 : List Val) : Option ((List Val)) :=
  if (0 : Int) ≤ (List.length a0 : Int) ∧ (List.length a0 : Int) = (List.length a0 : Int) ∧ (List.length a0 : Int) ≤ Lim then
  (xCS N rc_laws_toValue rc_laws_toValueS N a0 (List.replicate (Int.toNat (List.length a0 : Int)) Ty.val.dflt) 0)
  else none
structure laws_toValue_rec where
  c_laws_toValue : Val → Option (Val)
  c_laws_toValueS : (List Val) → Option ((List Val))
def xAG (N : Nat) : Nat → laws_toValue_rec
  | 0 => ⟨fun _ => none, fun _ => none⟩
  | d + 1 => ⟨xCe N (xAG N d).c_laws_toValue (xAG N d).c_laws_toValueS, xBV N (xAG N d).c_laws_toValue (xAG N d).c_laws_toValueS⟩
def xEA (N : Nat) (a0 : Val) : Option (Val) := (xAG N N).c_laws_toValue a0
def xDW (a0 : Rowd) : List Arg := [.val (.v true [.sl .ro .int (Rowd.cells a0), .sl .ro .org (Rowd.frm a0)])]
def xDD (r : Rowd) : CallO := ⟨.v true [.sl .own .int (Rowd.cells r), .sl .own .org (Rowd.frm r)], [], []⟩
def xDZ (N : Nat) (a0 : Rowd) : Option (Rowd) :=
  if 0 + List.length (Rowd.cells a0) ≤ Lim then
  if 0 + List.length (Rowd.frm a0) ≤ Lim then
  some (Rowd.mk ([] ++ (Rowd.cells a0)) ([] ++ (Rowd.frm a0)))
  else none
  else none
def xBc (a0 : Val) : List Arg := [.val (.v true [.int .i64 (Val.kind a0), .int .i64 (Val.n a0), .int .i64 (Val.step a0), .str (Val.text a0), .sl .ro .val (Val.list a0), .sl .ro .str (Val.columns a0), .sl .ro .row (Val.rows a0)])]
def xAN (r : Val) : CallO := ⟨.v true [.int .i64 (Val.kind r), .int .i64 (Val.n r), .int .i64 (Val.step r), .str (Val.text r), .sl .own .val (Val.list r), .sl .own .str (Val.columns r), .sl .own .row (Val.rows r)], [], []⟩
def xB8 (N : Nat) (rc_spec_l3Copy : Val → Option (Val)) : Nat → Int → Val → Val → Val → Option (Val)
  | 0, _, _, _, _ => none
  | n + 1, x5, b1, b2, b3 =>
    bif (decide ((x5 : Int) < (List.length (Val.rows b1) : Int))) then (
      if (0 : Int) ≤ x5 ∧ x5 < (List.length (Val.rows b1)) then
      Option.bind (xDZ N (List.getD (Val.rows b1) (Int.toNat x5) Ty.row.dflt)) fun r1 =>
      if List.length (Val.rows b3) + List.length [r1] ≤ Lim then
      (xB8 N rc_spec_l3Copy n (IntKind.i64.wrap (x5 + 1)) b1 b2 (Val.mk (Val.kind b3) (Val.n b3) (Val.step b3) (Val.text b3) (Val.list b3) (Val.columns b3) ((Val.rows b3) ++ [r1])))
      else none
      else none
    ) else (
      some b3
    )
def xCB (N : Nat) (rc_spec_l3Copy : Val → Option (Val)) : Nat → Int → Val → Val → Val → Option (Val)
  | 0, _, _, _, _ => none
  | n + 1, x4, b1, b2, b3 =>
    bif (decide ((x4 : Int) < (List.length (Val.list b1) : Int))) then (
      if (0 : Int) ≤ x4 ∧ x4 < (List.length (Val.list b1)) then
      Option.bind (rc_spec_l3Copy (List.getD (Val.list b1) (Int.toNat x4) Ty.val.dflt)) fun r1 =>
      if List.length (Val.list b3) + List.length [(Val.re r1)] ≤ Lim then
      (xCB N rc_spec_l3Copy n (IntKind.i64.wrap (x4 + 1)) b1 b2 (Val.mk (Val.kind b3) (Val.n b3) (Val.step b3) (Val.text b3) ((Val.list b3) ++ [(Val.re r1)]) (Val.columns b3) (Val.rows b3)))
      else none
      else none
    ) else (
      (xB8 N rc_spec_l3Copy N 0 b1 b2 b3)
    )
def xCs (N : Nat) (rc_spec_l3Copy : Val → Option (Val)) (a0 : Val) : Option (Val) :=
  if 0 + List.length (Val.columns a0) ≤ Lim then
  (xCB N rc_spec_l3Copy N 0 a0 (Val.mk 0 0 0 [] [] [] []) (Val.mk (Val.kind a0) (Val.n a0) (Val.step a0) (Val.text a0) [] ([] ++ (Val.columns a0)) []))
  else none
def xCm (N : Nat) : Nat → Val → Option (Val)
  | 0, _ => none
  | d + 1, a0 => xCs N (xCm N d) a0
def xCA (N : Nat) (a0 : Val) : Option (Val) := xCm N N a0
def xDw (a0 : Rowd) : List Arg := [.val (.v true [.sl .ro .int (Rowd.cells a0), .sl .ro .org (Rowd.frm a0)])]
def xC5 (r : Rowd) : CallO := ⟨.v true [.sl .own .int (Rowd.cells r), .sl .own .org (Rowd.frm r)], [], []⟩
def xDR (N : Nat) (a0 : Rowd) : Option (Rowd) :=
  if 0 + List.length (Rowd.cells a0) ≤ Lim then
  if 0 + List.length (Rowd.frm a0) ≤ Lim then
  some (Rowd.mk ([] ++ (Rowd.cells a0)) ([] ++ (Rowd.frm a0)))
  else none
  else none
def xAK (a0 : Val) : List Arg := [.val (.v true [.int .i64 (Val.kind a0), .int .i64 (Val.n a0), .int .i64 (Val.step a0), .str (Val.text a0), .sl .ro .val (Val.list a0), .sl .ro .str (Val.columns a0), .sl .ro .row (Val.rows a0)])]
def xAC (r : Val) : CallO := ⟨.v true [.int .i64 (Val.kind r), .int .i64 (Val.n r), .int .i64 (Val.step r), .str (Val.text r), .sl .own .val (Val.list r), .sl .own .str (Val.columns r), .sl .own .row (Val.rows r)], [], []⟩
def xBs (N : Nat) (rc_impl_copyValue : Val → Option (Val)) (rc_impl_copyValues : (List Val) → Option ((List Val))) : Nat → (List Rowd) → Int → Int → Val → Val → Option (Val)
  | 0, _, _, _, _, _ => none
  | n + 1, x18, x19, x20, b2, b3 =>
    bif (decide ((x20 : Int) < x19)) then (
      if (0 : Int) ≤ x20 ∧ x20 < (List.length x18) then
      Option.bind (xDR N (List.getD x18 (Int.toNat x20) Ty.row.dflt)) fun r1 =>
      if List.length (Val.rows b3) + List.length [r1] ≤ Lim then
      (xBs N rc_impl_copyValue rc_impl_copyValues n x18 x19 (IntKind.i64.wrap (x20 + 1)) b2 (Val.mk (Val.kind b3) (Val.n b3) (Val.step b3) (Val.text b3) (Val.list b3) (Val.columns b3) ((Val.rows b3) ++ [r1])))
      else none
      else none
    ) else (
      some b3
    )
def xBJ (N : Nat) (rc_impl_copyValue : Val → Option (Val)) (rc_impl_copyValues : (List Val) → Option ((List Val))) (a0 : Val) : Option (Val) :=
  Option.bind (rc_impl_copyValues (Val.list a0)) fun r1 =>
  if 0 + List.length (Val.columns a0) ≤ Lim then
  (xBs N rc_impl_copyValue rc_impl_copyValues N (Val.rows a0) (List.length (Val.rows a0) : Int) 0 (Val.mk 0 0 0 [] [] [] []) (Val.mk (Val.kind a0) (Val.n a0) (Val.step a0) (Val.text a0) r1 ([] ++ (Val.columns a0)) []))
  else none
def xAV (a0 : List Val) : List Arg := [.val (.v false [.sl .ro .val a0])]
def xAL (r : (List Val)) : CallO := ⟨.v false [.sl .own .val r], [], []⟩
def xBA (N : Nat) (rc_impl_copyValue : Val → Option (Val)) (rc_impl_copyValues : (List Val) → Option ((List Val))) : Nat → (List Val) → (List Val) → Int → Int → Option ((List Val))
  | 0, _, _, _, _ => none
  | n + 1, x3, x7, x8, x9 =>
    bif (decide ((x9 : Int) < x8)) then (
      if (0 : Int) ≤ x9 ∧ x9 < (List.length x7) then
      Option.bind (rc_impl_copyValue (List.getD x7 (Int.toNat x9) Ty.val.dflt)) fun r1 =>
      if List.length x3 + List.length [(Val.re r1)] ≤ Lim then
      (xBA N rc_impl_copyValue rc_impl_copyValues n (x3 ++ [(Val.re r1)]) x7 x8 (IntKind.i64.wrap (x9 + 1)))
      else none
      else none
    ) else (
      some x3
    )
def xBD (N : Nat) (rc_impl_copyValue : Val → Option (Val)) (rc_impl_copyValues : (List Val) → Option ((List Val))) (a0 : List Val) : Option ((List Val)) :=
  (xBA N rc_impl_copyValue rc_impl_copyValues N [] a0 (List.length a0 : Int) 0)
structure impl_copyValue_rec where
  c_impl_copyValue : Val → Option (Val)
  c_impl_copyValues : (List Val) → Option ((List Val))
def xAy (N : Nat) : Nat → impl_copyValue_rec
  | 0 => ⟨fun _ => none, fun _ => none⟩
  | d + 1 => ⟨xBJ N (xAy N d).c_impl_copyValue (xAy N d).c_impl_copyValues, xBD N (xAy N d).c_impl_copyValue (xAy N d).c_impl_copyValues⟩
def xBv (N : Nat) (a0 : Val) : Option (Val) := (xAy N N).c_impl_copyValue a0
def xBL (a0 : List Str) (a1 : List Str) : List Arg := [.val (.v false [.sl .ro .str a0]), .val (.v false [.sl .ro .str a1])]
def xAS (r : Bool) : CallO := ⟨.v false [.bool r], [], []⟩
def xBM (N : Nat) : Nat → (List Str) → (List Str) → Int → Option (Bool)
  | 0, _, _, _ => none
  | n + 1, x0, x1, x5 =>
    bif (decide ((x5 : Int) < (List.length x0 : Int))) then (
      if (0 : Int) ≤ x5 ∧ x5 < (List.length x0) then
      if (0 : Int) ≤ x5 ∧ x5 < (List.length x1) then
      bif (!(((List.getD x0 (Int.toNat x5) Ty.str.dflt) : Str) == (List.getD x1 (Int.toNat x5) Ty.str.dflt))) then (
        some false
      ) else (
        (xBM N n x0 x1 (IntKind.i64.wrap (x5 + 1)))
      )
      else none
      else none
    ) else (
      some true
    )
def xCW (N : Nat) (a0 : List Str) (a1 : List Str) : Option (Bool) :=
  bif (((List.length a0 : Int) : Int) != (List.length a1 : Int)) then (
    some false
  ) else (
    (xBM N N a0 a1 0)
  )
def xCu (a0 : List Int) (a1 : List Int) : List Arg := [.val (.v false [.sl .ro .int a0]), .val (.v false [.sl .ro .int a1])]
def xA9 (r : Bool) : CallO := ⟨.v false [.bool r], [], []⟩
def xCv (N : Nat) : Nat → (List Int) → (List Int) → Int → Option (Bool)
  | 0, _, _, _ => none
  | n + 1, x0, x1, x5 =>
    bif (decide ((x5 : Int) < (List.length x0 : Int))) then (
      if (0 : Int) ≤ x5 ∧ x5 < (List.length x0) then
      if (0 : Int) ≤ x5 ∧ x5 < (List.length x1) then
      bif (((List.getD x0 (Int.toNat x5) Ty.int.dflt) : Int) != (List.getD x1 (Int.toNat x5) Ty.int.dflt)) then (
        some false
      ) else (
        (xCv N n x0 x1 (IntKind.i64.wrap (x5 + 1)))
      )
      else none
      else none
    ) else (
      some true
    )
def xDF (N : Nat) (a0 : List Int) (a1 : List Int) : Option (Bool) :=
  bif (((List.length a0 : Int) : Int) != (List.length a1 : Int)) then (
    some false
  ) else (
    (xCv N N a0 a1 0)
  )
def xBW (a0 : Org) (a1 : Org) : List Arg := [.val (.v true [.int .i64 (Org.cell a0), .int .i64 (Org.row a0)]), .val (.v true [.int .i64 (Org.cell a1), .int .i64 (Org.row a1)])]
def xBl (r : Bool) : CallO := ⟨.v false [.bool r], [], []⟩
def xDb (N : Nat) (a0 : Org) (a1 : Org) : Option (Bool) :=
  bif (((Org.cell a0) : Int) != (Org.cell a1)) then (
    some false
  ) else (
    bif (((Org.row a0) : Int) != (Org.row a1)) then (
      some false
    ) else (
      some true
    )
  )
def xB9 (a0 : List Org) (a1 : List Org) : List Arg := [.val (.v false [.sl .ro .org a0]), .val (.v false [.sl .ro .org a1])]
def xA5 (r : Bool) : CallO := ⟨.v false [.bool r], [], []⟩
def xBK (N : Nat) : Nat → (List Org) → (List Org) → Int → Option (Bool)
  | 0, _, _, _ => none
  | n + 1, x0, x1, x5 =>
    bif (decide ((x5 : Int) < (List.length x0 : Int))) then (
      if (0 : Int) ≤ x5 ∧ x5 < (List.length x0) then
      if (0 : Int) ≤ x5 ∧ x5 < (List.length x1) then
      Option.bind (xDb N (List.getD x0 (Int.toNat x5) Ty.org.dflt) (List.getD x1 (Int.toNat x5) Ty.org.dflt)) fun r1 =>
      bif (!r1) then (
        some false
      ) else (
        (xBK N n x0 x1 (IntKind.i64.wrap (x5 + 1)))
      )
      else none
      else none
    ) else (
      some true
    )
def xCU (N : Nat) (a0 : List Org) (a1 : List Org) : Option (Bool) :=
  bif (((List.length a0 : Int) : Int) != (List.length a1 : Int)) then (
    some false
  ) else (
    (xBK N N a0 a1 0)
  )
def xCJ (a0 : Rowd) (a1 : Rowd) : List Arg := [.val (.v true [.sl .ro .int (Rowd.cells a0), .sl .ro .org (Rowd.frm a0)]), .val (.v true [.sl .ro .int (Rowd.cells a1), .sl .ro .org (Rowd.frm a1)])]
def xB5 (r : Bool) : CallO := ⟨.v false [.bool r], [], []⟩
def xDX (N : Nat) (a0 : Rowd) (a1 : Rowd) : Option (Bool) :=
  Option.bind (xDF N (Rowd.cells a0) (Rowd.cells a1)) fun r1 =>
  bif (!r1) then (
    some false
  ) else (
    Option.bind (xCU N (Rowd.frm a0) (Rowd.frm a1)) fun r2 =>
    bif (!r2) then (
      some false
    ) else (
      some true
    )
  )
def xCV (a0 : List Rowd) (a1 : List Rowd) : List Arg := [.val (.v false [.sl .ro .row a0]), .val (.v false [.sl .ro .row a1])]
def xBx (r : Bool) : CallO := ⟨.v false [.bool r], [], []⟩
def xCw (N : Nat) : Nat → (List Rowd) → (List Rowd) → Int → Option (Bool)
  | 0, _, _, _ => none
  | n + 1, x0, x1, x5 =>
    bif (decide ((x5 : Int) < (List.length x0 : Int))) then (
      if (0 : Int) ≤ x5 ∧ x5 < (List.length x0) then
      if (0 : Int) ≤ x5 ∧ x5 < (List.length x1) then
      Option.bind (xDX N (List.getD x0 (Int.toNat x5) Ty.row.dflt) (List.getD x1 (Int.toNat x5) Ty.row.dflt)) fun r1 =>
      bif (!r1) then (
        some false
      ) else (
        (xCw N n x0 x1 (IntKind.i64.wrap (x5 + 1)))
      )
      else none
      else none
    ) else (
      some true
    )
def xDH (N : Nat) (a0 : List Rowd) (a1 : List Rowd) : Option (Bool) :=
  bif (((List.length a0 : Int) : Int) != (List.length a1 : Int)) then (
    some false
  ) else (
    (xCw N N a0 a1 0)
  )
def xAD (a0 : Val) (a1 : Val) : List Arg := [.val (.v true [.int .i64 (Val.kind a0), .int .i64 (Val.n a0), .int .i64 (Val.step a0), .str (Val.text a0), .sl .ro .val (Val.list a0), .sl .ro .str (Val.columns a0), .sl .ro .row (Val.rows a0)]), .val (.v true [.int .i64 (Val.kind a1), .int .i64 (Val.n a1), .int .i64 (Val.step a1), .str (Val.text a1), .sl .ro .val (Val.list a1), .sl .ro .str (Val.columns a1), .sl .ro .row (Val.rows a1)])]
def xAu (r : Bool) : CallO := ⟨.v false [.bool r], [], []⟩
def xCa (N : Nat) (rc_laws_eqValue : Val → Val → Option (Bool)) (rc_laws_eqValueS : (List Val) → (List Val) → Option (Bool)) (a0 : Val) (a1 : Val) : Option (Bool) :=
  bif (((Val.kind a0) : Int) != (Val.kind a1)) then (
    some false
  ) else (
    bif (((Val.n a0) : Int) != (Val.n a1)) then (
      some false
    ) else (
      bif (((Val.step a0) : Int) != (Val.step a1)) then (
        some false
      ) else (
        bif (!(((Val.text a0) : Str) == (Val.text a1))) then (
          some false
        ) else (
          Option.bind (rc_laws_eqValueS (Val.list a0) (Val.list a1)) fun r1 =>
          bif (!r1) then (
            some false
          ) else (
            Option.bind (xCW N (Val.columns a0) (Val.columns a1)) fun r2 =>
            bif (!r2) then (
              some false
            ) else (
              Option.bind (xDH N (Val.rows a0) (Val.rows a1)) fun r3 =>
              bif (!r3) then (
                some false
              ) else (
                some true
              )
            )
          )
        )
      )
    )
  )
def xAO (a0 : List Val) (a1 : List Val) : List Arg := [.val (.v false [.sl .ro .val a0]), .val (.v false [.sl .ro .val a1])]
def xAA (r : Bool) : CallO := ⟨.v false [.bool r], [], []⟩
def xBX (N : Nat) (rc_laws_eqValue : Val → Val → Option (Bool)) (rc_laws_eqValueS : (List Val) → (List Val) → Option (Bool)) : Nat → (List Val) → (List Val) → Int → Option (Bool)
  | 0, _, _, _ => none
  | n + 1, x0, x1, x5 =>
    bif (decide ((x5 : Int) < (List.length x0 : Int))) then (
      if (0 : Int) ≤ x5 ∧ x5 < (List.length x0) then
      if (0 : Int) ≤ x5 ∧ x5 < (List.length x1) then
      Option.bind (rc_laws_eqValue (List.getD x0 (Int.toNat x5) Ty.val.dflt) (List.getD x1 (Int.toNat x5) Ty.val.dflt)) fun r1 =>
      bif (!r1) then (
        some false
      ) else (
        (xBX N rc_laws_eqValue rc_laws_eqValueS n x0 x1 (IntKind.i64.wrap (x5 + 1)))
      )
      else none
      else none
    ) else (
      some true
    )
def xBU (N : Nat) (rc_laws_eqValue : Val → Val → Option (Bool)) (rc_laws_eqValueS : (List Val) → (List Val) → Option (Bool)) (a0 : List Val) (a1 : List Val) : Option (Bool) :=
  bif (((List.length a0 : Int) : Int) != (List.length a1 : Int)) then (
    some false
  ) else (
    (xBX N rc_laws_eqValue rc_laws_eqValueS N a0 a1 0)
  )
structure laws_eqValue_rec where
  c_laws_eqValue : Val → Val → Option (Bool)
  c_laws_eqValueS : (List Val) → (List Val) → Option (Bool)
def xAJ (N : Nat) : Nat → laws_eqValue_rec
  | 0 => ⟨fun _ _ => none, fun _ _ => none⟩
  | d + 1 => ⟨xCa N (xAJ N d).c_laws_eqValue (xAJ N d).c_laws_eqValueS, xBU N (xAJ N d).c_laws_eqValue (xAJ N d).c_laws_eqValueS⟩
def xEu (N : Nat) (a0 : Val) (a1 : Val) : Option (Bool) := (xAJ N N).c_laws_eqValue a0 a1
def xAn (a0 : Int) : List Arg := [.val (.v false [.int .i64 a0])]
def xAe (r : Str) : CallO := ⟨.v false [.str r], [], []⟩
def xB3 (N : Nat) : Nat → Int → Str → Option (Str)
  | 0, _, _ => none
  | n + 1, x0, x3 =>
    bif (decide ((x0 : Int) > 0)) then (
      if List.length (List.map (fun n => UInt8.ofNat (Int.toNat n)) [(IntKind.u8.wrap ((IntKind.i64.wrap (48 + (Int.tmod x0 10)))))]) + List.length x3 ≤ Lim then
      (xB3 N n (IntKind.i64.wrap (Int.tdiv x0 10)) ((List.map (fun n => UInt8.ofNat (Int.toNat n)) [(IntKind.u8.wrap ((IntKind.i64.wrap (48 + (Int.tmod x0 10)))))]) ++ x3))
      else none
    ) else (
      if List.length [109] + List.length x3 ≤ Lim then
      some ([109] ++ x3)
      else none
    )
def xBe (N : Nat) (a0 : Int) : Option (Str) :=
  bif (decide ((a0 : Int) ≤ 0)) then (
    some [109, 48]
  ) else (
    (xB3 N N a0 [])
  )
def xCj (a0 : List Str) (a1 : Int) : List Arg := [.val (.v false [.sl (.lnt 0) .str a0]), .val (.v false [.int .i64 a1])]
def xA7 (r : Int × (List Str)) : CallO := ⟨.v false [.int .i64 r.1], [], [.sl (.lnt 0) .str r.2]⟩
def xBq (N : Nat) : Nat → (List Str) → Int → Int → Option (Int × (List Str))
  | 0, _, _, _ => none
  | n + 1, x0, x1, x5 =>
    bif (decide ((x5 : Int) < (List.length x0 : Int))) then (
      Option.bind (xBe N x1) fun r1 =>
      if (0 : Int) ≤ x5 ∧ x5 < (List.length x0) then
      (xBq N n (List.set x0 (Int.toNat x5) r1) (IntKind.i64.wrap (x1 + 1)) (IntKind.i64.wrap (x5 + 1)))
      else none
    ) else (
      some (x1, x0)
    )
def xCq (N : Nat) (a0 : List Str) (a1 : Int) : Option (Int × (List Str)) :=
  (xBq N N a0 a1 0)
def xDo (a0 : List Int) (a1 : Int) : List Arg := [.val (.v false [.sl (.lnt 0) .int a0]), .val (.v false [.int .i64 a1])]
def xCp (r : Int × (List Int)) : CallO := ⟨.v false [.int .i64 r.1], [], [.sl (.lnt 0) .int r.2]⟩
def xB1 (N : Nat) : Nat → (List Int) → Int → Int → Option (Int × (List Int))
  | 0, _, _, _ => none
  | n + 1, x0, x1, x5 =>
    bif (decide ((x5 : Int) < (List.length x0 : Int))) then (
      if (0 : Int) ≤ x5 ∧ x5 < (List.length x0) then
      (xB1 N n (List.set x0 (Int.toNat x5) x1) (IntKind.i64.wrap (x1 + 1)) (IntKind.i64.wrap (x5 + 1)))
      else none
    ) else (
      some (x1, x0)
    )
def xDy (N : Nat) (a0 : List Int) (a1 : Int) : Option (Int × (List Int)) :=
  (xB1 N N a0 a1 0)
def xCK (a0 : List Org) (a1 : Int) : List Arg := [.val (.v false [.sl (.lnt 0) .org a0]), .val (.v false [.int .i64 a1])]
def xBP (r : Int × (List Org)) : CallO := ⟨.v false [.int .i64 r.1], [], [.sl (.lnt 0) .org r.2]⟩
def xBp (N : Nat) : Nat → (List Org) → Int → Int → Option (Int × (List Org))
  | 0, _, _, _ => none
  | n + 1, x0, x1, x5 =>
    bif (decide ((x5 : Int) < (List.length x0 : Int))) then (
      if (0 : Int) ≤ x5 ∧ x5 < (List.length x0) then
      if (0 : Int) ≤ x5 ∧ x5 < (List.length (List.set x0 (Int.toNat x5) (Org.mk x1 (Org.row (List.getD x0 (Int.toNat x5) Ty.org.dflt))))) then
      (xBp N n ((fun (z1 : List Org) => List.set z1 (Int.toNat x5) (Org.mk (Org.cell (List.getD z1 (Int.toNat x5) Ty.org.dflt)) (IntKind.i64.wrap (x1 + 1)))) (List.set x0 (Int.toNat x5) (Org.mk x1 (Org.row (List.getD x0 (Int.toNat x5) Ty.org.dflt))))) (IntKind.i64.wrap ((IntKind.i64.wrap (x1 + 1)) + 1)) (IntKind.i64.wrap (x5 + 1)))
      else none
      else none
    ) else (
      some (x1, x0)
    )
def xCO (N : Nat) (a0 : List Org) (a1 : Int) : Option (Int × (List Org)) :=
  (xBp N N a0 a1 0)
def xCP (a0 : List Rowd) (a1 : Int) : List Arg := [.val (.v false [.sl (.lnt 0) .row a0]), .val (.v false [.int .i64 a1])]
def xBG (r : Int × (List Rowd)) : CallO := ⟨.v false [.int .i64 r.1], [], [.sl (.lnt 0) .row r.2]⟩
def xB2 (N : Nat) : Nat → (List Rowd) → Int → Int → Option (Int × (List Rowd))
  | 0, _, _, _ => none
  | n + 1, x0, x1, x5 =>
    bif (decide ((x5 : Int) < (List.length x0 : Int))) then (
      if (0 : Int) ≤ x5 ∧ x5 < (List.length x0) then
      Option.bind (xDy N (Rowd.cells (List.getD x0 (Int.toNat x5) Ty.row.dflt)) x1) fun r1 =>
      if List.length r1.2 = List.length (Rowd.cells (List.getD x0 (Int.toNat x5) Ty.row.dflt)) then
      if (0 : Int) ≤ x5 ∧ x5 < (List.length (List.set x0 (Int.toNat x5) (Rowd.mk r1.2 (Rowd.frm (List.getD x0 (Int.toNat x5) Ty.row.dflt))))) then
      Option.bind (xCO N (Rowd.frm (List.getD (List.set x0 (Int.toNat x5) (Rowd.mk r1.2 (Rowd.frm (List.getD x0 (Int.toNat x5) Ty.row.dflt)))) (Int.toNat x5) Ty.row.dflt)) r1.1) fun r2 =>
      if List.length r2.2 = List.length (Rowd.frm (List.getD (List.set x0 (Int.toNat x5) (Rowd.mk r1.2 (Rowd.frm (List.getD x0 (Int.toNat x5) Ty.row.dflt)))) (Int.toNat x5) Ty.row.dflt)) then
      (xB2 N n ((fun (z1 : List Rowd) => List.set z1 (Int.toNat x5) (Rowd.mk (Rowd.cells (List.getD z1 (Int.toNat x5) Ty.row.dflt)) r2.2)) (List.set x0 (Int.toNat x5) (Rowd.mk r1.2 (Rowd.frm (List.getD x0 (Int.toNat x5) Ty.row.dflt))))) r2.1 (IntKind.i64.wrap (x5 + 1)))
      else none
      else none
      else none
      else none
    ) else (
      some (x1, x0)
    )
def xDd (N : Nat) (a0 : List Rowd) (a1 : Int) : Option (Int × (List Rowd)) :=
  (xB2 N N a0 a1 0)
def xA0 (a0 : List Val) (a1 : Int) : List Arg := [.val (.v false [.sl (.lnt 0) .val a0]), .val (.v false [.int .i64 a1])]
def xAM (r : Int × (List Val)) : CallO := ⟨.v false [.int .i64 r.1], [], [.sl (.lnt 0) .val r.2]⟩
def xBC (N : Nat) (rc_laws_markValueS : (List Val) → Int → Option (Int × (List Val))) : Nat → (List Val) → Int → Int → Option (Int × (List Val))
  | 0, _, _, _ => none
  | n + 1, x0, x1, x5 =>
    bif (decide ((x5 : Int) < (List.length x0 : Int))) then (
      if (0 : Int) ≤ x5 ∧ x5 < (List.length x0) then
      if (0 : Int) ≤ x5 ∧ x5 < (List.length (List.set x0 (Int.toNat x5) (Val.mk x1 (Val.n (List.getD x0 (Int.toNat x5) Ty.val.dflt)) (Val.step (List.getD x0 (Int.toNat x5) Ty.val.dflt)) (Val.text (List.getD x0 (Int.toNat x5) Ty.val.dflt)) (Val.list (List.getD x0 (Int.toNat x5) Ty.val.dflt)) (Val.columns (List.getD x0 (Int.toNat x5) Ty.val.dflt)) (Val.rows (List.getD x0 (Int.toNat x5) Ty.val.dflt))))) then
      if (0 : Int) ≤ x5 ∧ x5 < (List.length ((fun (z40 : List Val) => List.set z40 (Int.toNat x5) (Val.mk (Val.kind (List.getD z40 (Int.toNat x5) Ty.val.dflt)) (IntKind.i64.wrap (x1 + 1)) (Val.step (List.getD z40 (Int.toNat x5) Ty.val.dflt)) (Val.text (List.getD z40 (Int.toNat x5) Ty.val.dflt)) (Val.list (List.getD z40 (Int.toNat x5) Ty.val.dflt)) (Val.columns (List.getD z40 (Int.toNat x5) Ty.val.dflt)) (Val.rows (List.getD z40 (Int.toNat x5) Ty.val.dflt)))) (List.set x0 (Int.toNat x5) (Val.mk x1 (Val.n (List.getD x0 (Int.toNat x5) Ty.val.dflt)) (Val.step (List.getD x0 (Int.toNat x5) Ty.val.dflt)) (Val.text (List.getD x0 (Int.toNat x5) Ty.val.dflt)) (Val.list (List.getD x0 (Int.toNat x5) Ty.val.dflt)) (Val.columns (List.getD x0 (Int.toNat x5) Ty.val.dflt)) (Val.rows (List.getD x0 (Int.toNat x5) Ty.val.dflt)))))) then
      Option.bind (xBe N (IntKind.i64.wrap ((IntKind.i64.wrap ((IntKind.i64.wrap (x1 + 1)) + 1)) + 1))) fun r1 =>
      if (0 : Int) ≤ x5 ∧ x5 < (List.length ((fun (z41 : List Val) => List.set z41 (Int.toNat x5) (Val.mk (Val.kind (List.getD z41 (Int.toNat x5) Ty.val.dflt)) (Val.n (List.getD z41 (Int.toNat x5) Ty.val.dflt)) (IntKind.i64.wrap ((IntKind.i64.wrap (x1 + 1)) + 1)) (Val.text (List.getD z41 (Int.toNat x5) Ty.val.dflt)) (Val.list (List.getD z41 (Int.toNat x5) Ty.val.dflt)) (Val.columns (List.getD z41 (Int.toNat x5) Ty.val.dflt)) (Val.rows (List.getD z41 (Int.toNat x5) Ty.val.dflt)))) ((fun (z40 : List Val) => List.set z40 (Int.toNat x5) (Val.mk (Val.kind (List.getD z40 (Int.toNat x5) Ty.val.dflt)) (IntKind.i64.wrap (x1 + 1)) (Val.step (List.getD z40 (Int.toNat x5) Ty.val.dflt)) (Val.text (List.getD z40 (Int.toNat x5) Ty.val.dflt)) (Val.list (List.getD z40 (Int.toNat x5) Ty.val.dflt)) (Val.columns (List.getD z40 (Int.toNat x5) Ty.val.dflt)) (Val.rows (List.getD z40 (Int.toNat x5) Ty.val.dflt)))) (List.set x0 (Int.toNat x5) (Val.mk x1 (Val.n (List.getD x0 (Int.toNat x5) Ty.val.dflt)) (Val.step (List.getD x0 (Int.toNat x5) Ty.val.dflt)) (Val.text (List.getD x0 (Int.toNat x5) Ty.val.dflt)) (Val.list (List.getD x0 (Int.toNat x5) Ty.val.dflt)) (Val.columns (List.getD x0 (Int.toNat x5) Ty.val.dflt)) (Val.rows (List.getD x0 (Int.toNat x5) Ty.val.dflt))))))) then
      if (0 : Int) ≤ x5 ∧ x5 < (List.length ((fun (z42 : List Val) => List.set z42 (Int.toNat x5) (Val.mk (Val.kind (List.getD z42 (Int.toNat x5) Ty.val.dflt)) (Val.n (List.getD z42 (Int.toNat x5) Ty.val.dflt)) (Val.step (List.getD z42 (Int.toNat x5) Ty.val.dflt)) r1 (Val.list (List.getD z42 (Int.toNat x5) Ty.val.dflt)) (Val.columns (List.getD z42 (Int.toNat x5) Ty.val.dflt)) (Val.rows (List.getD z42 (Int.toNat x5) Ty.val.dflt)))) ((fun (z41 : List Val) => List.set z41 (Int.toNat x5) (Val.mk (Val.kind (List.getD z41 (Int.toNat x5) Ty.val.dflt)) (Val.n (List.getD z41 (Int.toNat x5) Ty.val.dflt)) (IntKind.i64.wrap ((IntKind.i64.wrap (x1 + 1)) + 1)) (Val.text (List.getD z41 (Int.toNat x5) Ty.val.dflt)) (Val.list (List.getD z41 (Int.toNat x5) Ty.val.dflt)) (Val.columns (List.getD z41 (Int.toNat x5) Ty.val.dflt)) (Val.rows (List.getD z41 (Int.toNat x5) Ty.val.dflt)))) ((fun (z40 : List Val) => List.set z40 (Int.toNat x5) (Val.mk (Val.kind (List.getD z40 (Int.toNat x5) Ty.val.dflt)) (IntKind.i64.wrap (x1 + 1)) (Val.step (List.getD z40 (Int.toNat x5) Ty.val.dflt)) (Val.text (List.getD z40 (Int.toNat x5) Ty.val.dflt)) (Val.list (List.getD z40 (Int.toNat x5) Ty.val.dflt)) (Val.columns (List.getD z40 (Int.toNat x5) Ty.val.dflt)) (Val.rows (List.getD z40 (Int.toNat x5) Ty.val.dflt)))) (List.set x0 (Int.toNat x5) (Val.mk x1 (Val.n (List.getD x0 (Int.toNat x5) Ty.val.dflt)) (Val.step (List.getD x0 (Int.toNat x5) Ty.val.dflt)) (Val.text (List.getD x0 (Int.toNat x5) Ty.val.dflt)) (Val.list (List.getD x0 (Int.toNat x5) Ty.val.dflt)) (Val.columns (List.getD x0 (Int.toNat x5) Ty.val.dflt)) (Val.rows (List.getD x0 (Int.toNat x5) Ty.val.dflt)))))))) then
      Option.bind (rc_laws_markValueS (Val.list (List.getD ((fun (z42 : List Val) => List.set z42 (Int.toNat x5) (Val.mk (Val.kind (List.getD z42 (Int.toNat x5) Ty.val.dflt)) (Val.n (List.getD z42 (Int.toNat x5) Ty.val.dflt)) (Val.step (List.getD z42 (Int.toNat x5) Ty.val.dflt)) r1 (Val.list (List.getD z42 (Int.toNat x5) Ty.val.dflt)) (Val.columns (List.getD z42 (Int.toNat x5) Ty.val.dflt)) (Val.rows (List.getD z42 (Int.toNat x5) Ty.val.dflt)))) ((fun (z41 : List Val) => List.set z41 (Int.toNat x5) (Val.mk (Val.kind (List.getD z41 (Int.toNat x5) Ty.val.dflt)) (Val.n (List.getD z41 (Int.toNat x5) Ty.val.dflt)) (IntKind.i64.wrap ((IntKind.i64.wrap (x1 + 1)) + 1)) (Val.text (List.getD z41 (Int.toNat x5) Ty.val.dflt)) (Val.list (List.getD z41 (Int.toNat x5) Ty.val.dflt)) (Val.columns (List.getD z41 (Int.toNat x5) Ty.val.dflt)) (Val.rows (List.getD z41 (Int.toNat x5) Ty.val.dflt)))) ((fun (z40 : List Val) => List.set z40 (Int.toNat x5) (Val.mk (Val.kind (List.getD z40 (Int.toNat x5) Ty.val.dflt)) (IntKind.i64.wrap (x1 + 1)) (Val.step (List.getD z40 (Int.toNat x5) Ty.val.dflt)) (Val.text (List.getD z40 (Int.toNat x5) Ty.val.dflt)) (Val.list (List.getD z40 (Int.toNat x5) Ty.val.dflt)) (Val.columns (List.getD z40 (Int.toNat x5) Ty.val.dflt)) (Val.rows (List.getD z40 (Int.toNat x5) Ty.val.dflt)))) (List.set x0 (Int.toNat x5) (Val.mk x1 (Val.n (List.getD x0 (Int.toNat x5) Ty.val.dflt)) (Val.step (List.getD x0 (Int.toNat x5) Ty.val.dflt)) (Val.text (List.getD x0 (Int.toNat x5) Ty.val.dflt)) (Val.list (List.getD x0 (Int.toNat x5) Ty.val.dflt)) (Val.columns (List.getD x0 (Int.toNat x5) Ty.val.dflt)) (Val.rows (List.getD x0 (Int.toNat x5) Ty.val.dflt))))))) (Int.toNat x5) Ty.val.dflt)) (IntKind.i64.wrap ((IntKind.i64.wrap ((IntKind.i64.wrap ((IntKind.i64.wrap (x1 + 1)) + 1)) + 1)) + 1))) fun r2 =>
      if List.length r2.2 = List.length (Val.list (List.getD ((fun (z42 : List Val) => List.set z42 (Int.toNat x5) (Val.mk (Val.kind (List.getD z42 (Int.toNat x5) Ty.val.dflt)) (Val.n (List.getD z42 (Int.toNat x5) Ty.val.dflt)) (Val.step (List.getD z42 (Int.toNat x5) Ty.val.dflt)) r1 (Val.list (List.getD z42 (Int.toNat x5) Ty.val.dflt)) (Val.columns (List.getD z42 (Int.toNat x5) Ty.val.dflt)) (Val.rows (List.getD z42 (Int.toNat x5) Ty.val.dflt)))) ((fun (z41 : List Val) => List.set z41 (Int.toNat x5) (Val.mk (Val.kind (List.getD z41 (Int.toNat x5) Ty.val.dflt)) (Val.n (List.getD z41 (Int.toNat x5) Ty.val.dflt)) (IntKind.i64.wrap ((IntKind.i64.wrap (x1 + 1)) + 1)) (Val.text (List.getD z41 (Int.toNat x5) Ty.val.dflt)) (Val.list (List.getD z41 (Int.toNat x5) Ty.val.dflt)) (Val.columns (List.getD z41 (Int.toNat x5) Ty.val.dflt)) (Val.rows (List.getD z41 (Int.toNat x5) Ty.val.dflt)))) ((fun (z40 : List Val) => List.set z40 (Int.toNat x5) (Val.mk (Val.kind (List.getD z40 (Int.toNat x5) Ty.val.dflt)) (IntKind.i64.wrap (x1 + 1)) (Val.step (List.getD z40 (Int.toNat x5) Ty.val.dflt)) (Val.text (List.getD z40 (Int.toNat x5) Ty.val.dflt)) (Val.list (List.getD z40 (Int.toNat x5) Ty.val.dflt)) (Val.columns (List.getD z40 (Int.toNat x5) Ty.val.dflt)) (Val.rows (List.getD z40 (Int.toNat x5) Ty.val.dflt)))) (List.set x0 (Int.toNat x5) (Val.mk x1 (Val.n (List.getD x0 (Int.toNat x5) Ty.val.dflt)) (Val.step (List.getD x0 (Int.toNat x5) Ty.val.dflt)) (Val.text (List.getD x0 (Int.toNat x5) Ty.val.dflt)) (Val.list (List.getD x0 (Int.toNat x5) Ty.val.dflt)) (Val.columns (List.getD x0 (Int.toNat x5) Ty.val.dflt)) (Val.rows (List.getD x0 (Int.toNat x5) Ty.val.dflt))))))) (Int.toNat x5) Ty.val.dflt)) then
      if (0 : Int) ≤ x5 ∧ x5 < (List.length ((fun (z43 : List Val) => List.set z43 (Int.toNat x5) (Val.mk (Val.kind (List.getD z43 (Int.toNat x5) Ty.val.dflt)) (Val.n (List.getD z43 (Int.toNat x5) Ty.val.dflt)) (Val.step (List.getD z43 (Int.toNat x5) Ty.val.dflt)) (Val.text (List.getD z43 (Int.toNat x5) Ty.val.dflt)) r2.2 (Val.columns (List.getD z43 (Int.toNat x5) Ty.val.dflt)) (Val.rows (List.getD z43 (Int.toNat x5) Ty.val.dflt)))) ((fun (z42 : List Val) => List.set z42 (Int.toNat x5) (Val.mk (Val.kind (List.getD z42 (Int.toNat x5) Ty.val.dflt)) (Val.n (List.getD z42 (Int.toNat x5) Ty.val.dflt)) (Val.step (List.getD z42 (Int.toNat x5) Ty.val.dflt)) r1 (Val.list (List.getD z42 (Int.toNat x5) Ty.val.dflt)) (Val.columns (List.getD z42 (Int.toNat x5) Ty.val.dflt)) (Val.rows (List.getD z42 (Int.toNat x5) Ty.val.dflt)))) ((fun (z41 : List Val) => List.set z41 (Int.toNat x5) (Val.mk (Val.kind (List.getD z41 (Int.toNat x5) Ty.val.dflt)) (Val.n (List.getD z41 (Int.toNat x5) Ty.val.dflt)) (IntKind.i64.wrap ((IntKind.i64.wrap (x1 + 1)) + 1)) (Val.text (List.getD z41 (Int.toNat x5) Ty.val.dflt)) (Val.list (List.getD z41 (Int.toNat x5) Ty.val.dflt)) (Val.columns (List.getD z41 (Int.toNat x5) Ty.val.dflt)) (Val.rows (List.getD z41 (Int.toNat x5) Ty.val.dflt)))) ((fun (z40 : List Val) => List.set z40 (Int.toNat x5) (Val.mk (Val.kind (List.getD z40 (Int.toNat x5) Ty.val.dflt)) (IntKind.i64.wrap (x1 + 1)) (Val.step (List.getD z40 (Int.toNat x5) Ty.val.dflt)) (Val.text (List.getD z40 (Int.toNat x5) Ty.val.dflt)) (Val.list (List.getD z40 (Int.toNat x5) Ty.val.dflt)) (Val.columns (List.getD z40 (Int.toNat x5) Ty.val.dflt)) (Val.rows (List.getD z40 (Int.toNat x5) Ty.val.dflt)))) (List.set x0 (Int.toNat x5) (Val.mk x1 (Val.n (List.getD x0 (Int.toNat x5) Ty.val.dflt)) (Val.step (List.getD x0 (Int.toNat x5) Ty.val.dflt)) (Val.text (List.getD x0 (Int.toNat x5) Ty.val.dflt)) (Val.list (List.getD x0 (Int.toNat x5) Ty.val.dflt)) (Val.columns (List.getD x0 (Int.toNat x5) Ty.val.dflt)) (Val.rows (List.getD x0 (Int.toNat x5) Ty.val.dflt))))))))) then
      Option.bind (xCq N (Val.columns (List.getD ((fun (z43 : List Val) => List.set z43 (Int.toNat x5) (Val.mk (Val.kind (List.getD z43 (Int.toNat x5) Ty.val.dflt)) (Val.n (List.getD z43 (Int.toNat x5) Ty.val.dflt)) (Val.step (List.getD z43 (Int.toNat x5) Ty.val.dflt)) (Val.text (List.getD z43 (Int.toNat x5) Ty.val.dflt)) r2.2 (Val.columns (List.getD z43 (Int.toNat x5) Ty.val.dflt)) (Val.rows (List.getD z43 (Int.toNat x5) Ty.val.dflt)))) ((fun (z42 : List Val) => List.set z42 (Int.toNat x5) (Val.mk (Val.kind (List.getD z42 (Int.toNat x5) Ty.val.dflt)) (Val.n (List.getD z42 (Int.toNat x5) Ty.val.dflt)) (Val.step (List.getD z42 (Int.toNat x5) Ty.val.dflt)) r1 (Val.list (List.getD z42 (Int.toNat x5) Ty.val.dflt)) (Val.columns (List.getD z42 (Int.toNat x5) Ty.val.dflt)) (Val.rows (List.getD z42 (Int.toNat x5) Ty.val.dflt)))) ((fun (z41 : List Val) => List.set z41 (Int.toNat x5) (Val.mk (Val.kind (List.getD z41 (Int.toNat x5) Ty.val.dflt)) (Val.n (List.getD z41 (Int.toNat x5) Ty.val.dflt)) (IntKind.i64.wrap ((IntKind.i64.wrap (x1 + 1)) + 1)) (Val.text (List.getD z41 (Int.toNat x5) Ty.val.dflt)) (Val.list (List.getD z41 (Int.toNat x5) Ty.val.dflt)) (Val.columns (List.getD z41 (Int.toNat x5) Ty.val.dflt)) (Val.rows (List.getD z41 (Int.toNat x5) Ty.val.dflt)))) ((fun (z40 : List Val) => List.set z40 (Int.toNat x5) (Val.mk (Val.kind (List.getD z40 (Int.toNat x5) Ty.val.dflt)) (IntKind.i64.wrap (x1 + 1)) (Val.step (List.getD z40 (Int.toNat x5) Ty.val.dflt)) (Val.text (List.getD z40 (Int.toNat x5) Ty.val.dflt)) (Val.list (List.getD z40 (Int.toNat x5) Ty.val.dflt)) (Val.columns (List.getD z40 (Int.toNat x5) Ty.val.dflt)) (Val.rows (List.getD z40 (Int.toNat x5) Ty.val.dflt)))) (List.set x0 (Int.toNat x5) (Val.mk x1 (Val.n (List.getD x0 (Int.toNat x5) Ty.val.dflt)) (Val.step (List.getD x0 (Int.toNat x5) Ty.val.dflt)) (Val.text (List.getD x0 (Int.toNat x5) Ty.val.dflt)) (Val.list (List.getD x0 (Int.toNat x5) Ty.val.dflt)) (Val.columns (List.getD x0 (Int.toNat x5) Ty.val.dflt)) (Val.rows (List.getD x0 (Int.toNat x5) Ty.val.dflt)))))))) (Int.toNat x5) Ty.val.dflt)) r2.1) fun r3 =>
      if List.length r3.2 = List.length (Val.columns (List.getD ((fun (z43 : List Val) => List.set z43 (Int.toNat x5) (Val.mk (Val.kind (List.getD z43 (Int.toNat x5) Ty.val.dflt)) (Val.n (List.getD z43 (Int.toNat x5) Ty.val.dflt)) (Val.step (List.getD z43 (Int.toNat x5) Ty.val.dflt)) (Val.text (List.getD z43 (Int.toNat x5) Ty.val.dflt)) r2.2 (Val.columns (List.getD z43 (Int.toNat x5) Ty.val.dflt)) (Val.rows (List.getD z43 (Int.toNat x5) Ty.val.dflt)))) ((fun (z42 : List Val) => List.set z42 (Int.toNat x5) (Val.mk (Val.kind (List.getD z42 (Int.toNat x5) Ty.val.dflt)) (Val.n (List.getD z42 (Int.toNat x5) Ty.val.dflt)) (Val.step (List.getD z42 (Int.toNat x5) Ty.val.dflt)) r1 (Val.list (List.getD z42 (Int.toNat x5) Ty.val.dflt)) (Val.columns (List.getD z42 (Int.toNat x5) Ty.val.dflt)) (Val.rows (List.getD z42 (Int.toNat x5) Ty.val.dflt)))) ((fun (z41 : List Val) => List.set z41 (Int.toNat x5) (Val.mk (Val.kind (List.getD z41 (Int.toNat x5) Ty.val.dflt)) (Val.n (List.getD z41 (Int.toNat x5) Ty.val.dflt)) (IntKind.i64.wrap ((IntKind.i64.wrap (x1 + 1)) + 1)) (Val.text (List.getD z41 (Int.toNat x5) Ty.val.dflt)) (Val.list (List.getD z41 (Int.toNat x5) Ty.val.dflt)) (Val.columns (List.getD z41 (Int.toNat x5) Ty.val.dflt)) (Val.rows (List.getD z41 (Int.toNat x5) Ty.val.dflt)))) ((fun (z40 : List Val) => List.set z40 (Int.toNat x5) (Val.mk (Val.kind (List.getD z40 (Int.toNat x5) Ty.val.dflt)) (IntKind.i64.wrap (x1 + 1)) (Val.step (List.getD z40 (Int.toNat x5) Ty.val.dflt)) (Val.text (List.getD z40 (Int.toNat x5) Ty.val.dflt)) (Val.list (List.getD z40 (Int.toNat x5) Ty.val.dflt)) (Val.columns (List.getD z40 (Int.toNat x5) Ty.val.dflt)) (Val.rows (List.getD z40 (Int.toNat x5) Ty.val.dflt)))) (List.set x0 (Int.toNat x5) (Val.mk x1 (Val.n (List.getD x0 (Int.toNat x5) Ty.val.dflt)) (Val.step (List.getD x0 (Int.toNat x5) Ty.val.dflt)) (Val.text (List.getD x0 (Int.toNat x5) Ty.val.dflt)) (Val.list (List.getD x0 (Int.toNat x5) Ty.val.dflt)) (Val.columns (List.getD x0 (Int.toNat x5) Ty.val.dflt)) (Val.rows (List.getD x0 (Int.toNat x5) Ty.val.dflt)))))))) (Int.toNat x5) Ty.val.dflt)) then
      if (0 : Int) ≤ x5 ∧ x5 < (List.length ((fun (z44 : List Val) => List.set z44 (Int.toNat x5) (Val.mk (Val.kind (List.getD z44 (Int.toNat x5) Ty.val.dflt)) (Val.n (List.getD z44 (Int.toNat x5) Ty.val.dflt)) (Val.step (List.getD z44 (Int.toNat x5) Ty.val.dflt)) (Val.text (List.getD z44 (Int.toNat x5) Ty.val.dflt)) (Val.list (List.getD z44 (Int.toNat x5) Ty.val.dflt)) r3.2 (Val.rows (List.getD z44 (Int.toNat x5) Ty.val.dflt)))) ((fun (z43 : List Val) => List.set z43 (Int.toNat x5) (Val.mk (Val.kind (List.getD z43 (Int.toNat x5) Ty.val.dflt)) (Val.n (List.getD z43 (Int.toNat x5) Ty.val.dflt)) (Val.step (List.getD z43 (Int.toNat x5) Ty.val.dflt)) (Val.text (List.getD z43 (Int.toNat x5) Ty.val.dflt)) r2.2 (Val.columns (List.getD z43 (Int.toNat x5) Ty.val.dflt)) (Val.rows (List.getD z43 (Int.toNat x5) Ty.val.dflt)))) ((fun (z42 : List Val) => List.set z42 (Int.toNat x5) (Val.mk (Val.kind (List.getD z42 (Int.toNat x5) Ty.val.dflt)) (Val.n (List.getD z42 (Int.toNat x5) Ty.val.dflt)) (Val.step (List.getD z42 (Int.toNat x5) Ty.val.dflt)) r1 (Val.list (List.getD z42 (Int.toNat x5) Ty.val.dflt)) (Val.columns (List.getD z42 (Int.toNat x5) Ty.val.dflt)) (Val.rows (List.getD z42 (Int.toNat x5) Ty.val.dflt)))) ((fun (z41 : List Val) => List.set z41 (Int.toNat x5) (Val.mk (Val.kind (List.getD z41 (Int.toNat x5) Ty.val.dflt)) (Val.n (List.getD z41 (Int.toNat x5) Ty.val.dflt)) (IntKind.i64.wrap ((IntKind.i64.wrap (x1 + 1)) + 1)) (Val.text (List.getD z41 (Int.toNat x5) Ty.val.dflt)) (Val.list (List.getD z41 (Int.toNat x5) Ty.val.dflt)) (Val.columns (List.getD z41 (Int.toNat x5) Ty.val.dflt)) (Val.rows (List.getD z41 (Int.toNat x5) Ty.val.dflt)))) ((fun (z40 : List Val) => List.set z40 (Int.toNat x5) (Val.mk (Val.kind (List.getD z40 (Int.toNat x5) Ty.val.dflt)) (IntKind.i64.wrap (x1 + 1)) (Val.step (List.getD z40 (Int.toNat x5) Ty.val.dflt)) (Val.text (List.getD z40 (Int.toNat x5) Ty.val.dflt)) (Val.list (List.getD z40 (Int.toNat x5) Ty.val.dflt)) (Val.columns (List.getD z40 (Int.toNat x5) Ty.val.dflt)) (Val.rows (List.getD z40 (Int.toNat x5) Ty.val.dflt)))) (List.set x0 (Int.toNat x5) (Val.mk x1 (Val.n (List.getD x0 (Int.toNat x5) Ty.val.dflt)) (Val.step (List.getD x0 (Int.toNat x5) Ty.val.dflt)) (Val.text (List.getD x0 (Int.toNat x5) Ty.val.dflt)) (Val.list (List.getD x0 (Int.toNat x5) Ty.val.dflt)) (Val.columns (List.getD x0 (Int.toNat x5) Ty.val.dflt)) (Val.rows (List.getD x0 (Int.toNat x5) Ty.val.dflt)))))))))) then
      Option.bind (xDd N (Val.rows (List.getD ((fun (z44 : List Val) => List.set z44 (Int.toNat x5) (Val.mk (Val.kind (List.getD z44 (Int.toNat x5) Ty.val.dflt)) (Val.n (List.getD z44 (Int.toNat x5) Ty.val.dflt)) (Val.step (List.getD z44 (Int.toNat x5) Ty.val.dflt)) (Val.text (List.getD z44 (Int.toNat x5) Ty.val.dflt)) (Val.list (List.getD z44 (Int.toNat x5) Ty.val.dflt)) r3.2 (Val.rows (List.getD z44 (Int.toNat x5) Ty.val.dflt)))) ((fun (z43 : List Val) => List.set z43 (Int.toNat x5) (Val.mk (Val.kind (List.getD z43 (Int.toNat x5) Ty.val.dflt)) (Val.n (List.getD z43 (Int.toNat x5) Ty.val.dflt)) (Val.step (List.getD z43 (Int.toNat x5) Ty.val.dflt)) (Val.text (List.getD z43 (Int.toNat x5) Ty.val.dflt)) r2.2 (Val.columns (List.getD z43 (Int.toNat x5) Ty.val.dflt)) (Val.rows (List.getD z43 (Int.toNat x5) Ty.val.dflt)))) ((fun (z42 : List Val) => List.set z42 (Int.toNat x5) (Val.mk (Val.kind (List.getD z42 (Int.toNat x5) Ty.val.dflt)) (Val.n (List.getD z42 (Int.toNat x5) Ty.val.dflt)) (Val.step (List.getD z42 (Int.toNat x5) Ty.val.dflt)) r1 (Val.list (List.getD z42 (Int.toNat x5) Ty.val.dflt)) (Val.columns (List.getD z42 (Int.toNat x5) Ty.val.dflt)) (Val.rows (List.getD z42 (Int.toNat x5) Ty.val.dflt)))) ((fun (z41 : List Val) => List.set z41 (Int.toNat x5) (Val.mk (Val.kind (List.getD z41 (Int.toNat x5) Ty.val.dflt)) (Val.n (List.getD z41 (Int.toNat x5) Ty.val.dflt)) (IntKind.i64.wrap ((IntKind.i64.wrap (x1 + 1)) + 1)) (Val.text (List.getD z41 (Int.toNat x5) Ty.val.dflt)) (Val.list (List.getD z41 (Int.toNat x5) Ty.val.dflt)) (Val.columns (List.getD z41 (Int.toNat x5) Ty.val.dflt)) (Val.rows (List.getD z41 (Int.toNat x5) Ty.val.dflt)))) ((fun (z40 : List Val) => List.set z40 (Int.toNat x5) (Val.mk (Val.kind (List.getD z40 (Int.toNat x5) Ty.val.dflt)) (IntKind.i64.wrap (x1 + 1)) (Val.step (List.getD z40 (Int.toNat x5) Ty.val.dflt)) (Val.text (List.getD z40 (Int.toNat x5) Ty.val.dflt)) (Val.list (List.getD z40 (Int.toNat x5) Ty.val.dflt)) (Val.columns (List.getD z40 (Int.toNat x5) Ty.val.dflt)) (Val.rows (List.getD z40 (Int.toNat x5) Ty.val.dflt)))) (List.set x0 (Int.toNat x5) (Val.mk x1 (Val.n (List.getD x0 (Int.toNat x5) Ty.val.dflt)) (Val.step (List.getD x0 (Int.toNat x5) Ty.val.dflt)) (Val.text (List.getD x0 (Int.toNat x5) Ty.val.dflt)) (Val.list (List.getD x0 (Int.toNat x5) Ty.val.dflt)) (Val.columns (List.getD x0 (Int.toNat x5) Ty.val.dflt)) (Val.rows (List.getD x0 (Int.toNat x5) Ty.val.dflt))))))))) (Int.toNat x5) Ty.val.dflt)) r3.1) fun r4 =>
      if List.length r4.2 = List.length (Val.rows (List.getD ((fun (z44 : List Val) => List.set z44 (Int.toNat x5) (Val.mk (Val.kind (List.getD z44 (Int.toNat x5) Ty.val.dflt)) (Val.n (List.getD z44 (Int.toNat x5) Ty.val.dflt)) (Val.step (List.getD z44 (Int.toNat x5) Ty.val.dflt)) (Val.text (List.getD z44 (Int.toNat x5) Ty.val.dflt)) (Val.list (List.getD z44 (Int.toNat x5) Ty.val.dflt)) r3.2 (Val.rows (List.getD z44 (Int.toNat x5) Ty.val.dflt)))) ((fun (z43 : List Val) => List.set z43 (Int.toNat x5) (Val.mk (Val.kind (List.getD z43 (Int.toNat x5) Ty.val.dflt)) (Val.n (List.getD z43 (Int.toNat x5) Ty.val.dflt)) (Val.step (List.getD z43 (Int.toNat x5) Ty.val.dflt)) (Val.text (List.getD z43 (Int.toNat x5) Ty.val.dflt)) r2.2 (Val.columns (List.getD z43 (Int.toNat x5) Ty.val.dflt)) (Val.rows (List.getD z43 (Int.toNat x5) Ty.val.dflt)))) ((fun (z42 : List Val) => List.set z42 (Int.toNat x5) (Val.mk (Val.kind (List.getD z42 (Int.toNat x5) Ty.val.dflt)) (Val.n (List.getD z42 (Int.toNat x5) Ty.val.dflt)) (Val.step (List.getD z42 (Int.toNat x5) Ty.val.dflt)) r1 (Val.list (List.getD z42 (Int.toNat x5) Ty.val.dflt)) (Val.columns (List.getD z42 (Int.toNat x5) Ty.val.dflt)) (Val.rows (List.getD z42 (Int.toNat x5) Ty.val.dflt)))) ((fun (z41 : List Val) => List.set z41 (Int.toNat x5) (Val.mk (Val.kind (List.getD z41 (Int.toNat x5) Ty.val.dflt)) (Val.n (List.getD z41 (Int.toNat x5) Ty.val.dflt)) (IntKind.i64.wrap ((IntKind.i64.wrap (x1 + 1)) + 1)) (Val.text (List.getD z41 (Int.toNat x5) Ty.val.dflt)) (Val.list (List.getD z41 (Int.toNat x5) Ty.val.dflt)) (Val.columns (List.getD z41 (Int.toNat x5) Ty.val.dflt)) (Val.rows (List.getD z41 (Int.toNat x5) Ty.val.dflt)))) ((fun (z40 : List Val) => List.set z40 (Int.toNat x5) (Val.mk (Val.kind (List.getD z40 (Int.toNat x5) Ty.val.dflt)) (IntKind.i64.wrap (x1 + 1)) (Val.step (List.getD z40 (Int.toNat x5) Ty.val.dflt)) (Val.text (List.getD z40 (Int.toNat x5) Ty.val.dflt)) (Val.list (List.getD z40 (Int.toNat x5) Ty.val.dflt)) (Val.columns (List.getD z40 (Int.toNat x5) Ty.val.dflt)) (Val.rows (List.getD z40 (Int.toNat x5) Ty.val.dflt)))) (List.set x0 (Int.toNat x5) (Val.mk x1 (Val.n (List.getD x0 (Int.toNat x5) Ty.val.dflt)) (Val.step (List.getD x0 (Int.toNat x5) Ty.val.dflt)) (Val.text (List.getD x0 (Int.toNat x5) Ty.val.dflt)) (Val.list (List.getD x0 (Int.toNat x5) Ty.val.dflt)) (Val.columns (List.getD x0 (Int.toNat x5) Ty.val.dflt)) (Val.rows (List.getD x0 (Int.toNat x5) Ty.val.dflt))))))))) (Int.toNat x5) Ty.val.dflt)) then
      (xBC N rc_laws_markValueS n ((fun (z45 : List Val) => List.set z45 (Int.toNat x5) (Val.mk (Val.kind (List.getD z45 (Int.toNat x5) Ty.val.dflt)) (Val.n (List.getD z45 (Int.toNat x5) Ty.val.dflt)) (Val.step (List.getD z45 (Int.toNat x5) Ty.val.dflt)) (Val.text (List.getD z45 (Int.toNat x5) Ty.val.dflt)) (Val.list (List.getD z45 (Int.toNat x5) Ty.val.dflt)) (Val.columns (List.getD z45 (Int.toNat x5) Ty.val.dflt)) r4.2)) ((fun (z44 : List Val) => List.set z44 (Int.toNat x5) (Val.mk (Val.kind (List.getD z44 (Int.toNat x5) Ty.val.dflt)) (Val.n (List.getD z44 (Int.toNat x5) Ty.val.dflt)) (Val.step (List.getD z44 (Int.toNat x5) Ty.val.dflt)) (Val.text (List.getD z44 (Int.toNat x5) Ty.val.dflt)) (Val.list (List.getD z44 (Int.toNat x5) Ty.val.dflt)) r3.2 (Val.rows (List.getD z44 (Int.toNat x5) Ty.val.dflt)))) ((fun (z43 : List Val) => List.set z43 (Int.toNat x5) (Val.mk (Val.kind (List.getD z43 (Int.toNat x5) Ty.val.dflt)) (Val.n (List.getD z43 (Int.toNat x5) Ty.val.dflt)) (Val.step (List.getD z43 (Int.toNat x5) Ty.val.dflt)) (Val.text (List.getD z43 (Int.toNat x5) Ty.val.dflt)) r2.2 (Val.columns (List.getD z43 (Int.toNat x5) Ty.val.dflt)) (Val.rows (List.getD z43 (Int.toNat x5) Ty.val.dflt)))) ((fun (z42 : List Val) => List.set z42 (Int.toNat x5) (Val.mk (Val.kind (List.getD z42 (Int.toNat x5) Ty.val.dflt)) (Val.n (List.getD z42 (Int.toNat x5) Ty.val.dflt)) (Val.step (List.getD z42 (Int.toNat x5) Ty.val.dflt)) r1 (Val.list (List.getD z42 (Int.toNat x5) Ty.val.dflt)) (Val.columns (List.getD z42 (Int.toNat x5) Ty.val.dflt)) (Val.rows (List.getD z42 (Int.toNat x5) Ty.val.dflt)))) ((fun (z41 : List Val) => List.set z41 (Int.toNat x5) (Val.mk (Val.kind (List.getD z41 (Int.toNat x5) Ty.val.dflt)) (Val.n (List.getD z41 (Int.toNat x5) Ty.val.dflt)) (IntKind.i64.wrap ((IntKind.i64.wrap (x1 + 1)) + 1)) (Val.text (List.getD z41 (Int.toNat x5) Ty.val.dflt)) (Val.list (List.getD z41 (Int.toNat x5) Ty.val.dflt)) (Val.columns (List.getD z41 (Int.toNat x5) Ty.val.dflt)) (Val.rows (List.getD z41 (Int.toNat x5) Ty.val.dflt)))) ((fun (z40 : List Val) => List.set z40 (Int.toNat x5) (Val.mk (Val.kind (List.getD z40 (Int.toNat x5) Ty.val.dflt)) (IntKind.i64.wrap (x1 + 1)) (Val.step (List.getD z40 (Int.toNat x5) Ty.val.dflt)) (Val.text (List.getD z40 (Int.toNat x5) Ty.val.dflt)) (Val.list (List.getD z40 (Int.toNat x5) Ty.val.dflt)) (Val.columns (List.getD z40 (Int.toNat x5) Ty.val.dflt)) (Val.rows (List.getD z40 (Int.toNat x5) Ty.val.dflt)))) (List.set x0 (Int.toNat x5) (Val.mk x1 (Val.n (List.getD x0 (Int.toNat x5) Ty.val.dflt)) (Val.step (List.getD x0 (Int.toNat x5) Ty.val.dflt)) (Val.text (List.getD x0 (Int.toNat x5) Ty.val.dflt)) (Val.list (List.getD x0 (Int.toNat x5) Ty.val.dflt)) (Val.columns (List.getD x0 (Int.toNat x5) Ty.val.dflt)) (Val.rows (List.getD x0 (Int.toNat x5) Ty.val.dflt)))))))))) r4.1 (IntKind.i64.wrap (x5 + 1)))
      else none
      else none
      else none
      else none
      else none
      else none
      else none
      else none
      else none
      else none
    ) else (
      some (x1, x0)
    )
def xCD (N : Nat) (rc_laws_markValueS : (List Val) → Int → Option (Int × (List Val))) (a0 : List Val) (a1 : Int) : Option (Int × (List Val)) :=
  (xBC N rc_laws_markValueS N a0 a1 0)
def xCk (N : Nat) : Nat → (List Val) → Int → Option (Int × (List Val))
  | 0, _, _ => none
  | d + 1, a0, a1 => xCD N (xCk N d) a0 a1
def xD4 (N : Nat) (a0 : List Val) (a1 : Int) : Option (Int × (List Val)) := xCk N N a0 a1
def xA1 (a0 : List Str) (a1 : Int) : List Arg := [.val (.v false [.sl .ro .str a0]), .val (.v false [.int .i64 a1])]
def xAw (r : Int) : CallO := ⟨.v false [.int .i64 r], [], []⟩
def xBo (N : Nat) : Nat → (List Str) → Int → Int → Option (Int)
  | 0, _, _, _ => none
  | n + 1, x0, x1, x5 =>
    bif (decide ((x5 : Int) < (List.length x0 : Int))) then (
      if (0 : Int) ≤ x5 ∧ x5 < (List.length x0) then
      Option.bind (xBe N x1) fun r1 =>
      bif (!(((List.getD x0 (Int.toNat x5) Ty.str.dflt) : Str) == r1)) then (
        some (-1)
      ) else (
        (xBo N n x0 (IntKind.i64.wrap (x1 + 1)) (IntKind.i64.wrap (x5 + 1)))
      )
      else none
    ) else (
      some x1
    )
def xCo (N : Nat) (a0 : List Str) (a1 : Int) : Option (Int) :=
  (xBo N N a0 a1 0)
def xCn (a0 : List Int) (a1 : Int) : List Arg := [.val (.v false [.sl .ro .int a0]), .val (.v false [.int .i64 a1])]
def xA2 (r : Int) : CallO := ⟨.v false [.int .i64 r], [], []⟩
def xBY (N : Nat) : Nat → (List Int) → Int → Int → Option (Int)
  | 0, _, _, _ => none
  | n + 1, x0, x1, x5 =>
    bif (decide ((x5 : Int) < (List.length x0 : Int))) then (
      if (0 : Int) ≤ x5 ∧ x5 < (List.length x0) then
      bif (((List.getD x0 (Int.toNat x5) Ty.int.dflt) : Int) != x1) then (
        some (-1)
      ) else (
        (xBY N n x0 (IntKind.i64.wrap (x1 + 1)) (IntKind.i64.wrap (x5 + 1)))
      )
      else none
    ) else (
      some x1
    )
def xDx (N : Nat) (a0 : List Int) (a1 : Int) : Option (Int) :=
  (xBY N N a0 a1 0)
def xCh (a0 : List Org) (a1 : Int) : List Arg := [.val (.v false [.sl .ro .org a0]), .val (.v false [.int .i64 a1])]
def xAY (r : Int) : CallO := ⟨.v false [.int .i64 r], [], []⟩
def xBn (N : Nat) : Nat → (List Org) → Int → Int → Option (Int)
  | 0, _, _, _ => none
  | n + 1, x0, x1, x5 =>
    bif (decide ((x5 : Int) < (List.length x0 : Int))) then (
      if (0 : Int) ≤ x5 ∧ x5 < (List.length x0) then
      bif (((Org.cell (List.getD x0 (Int.toNat x5) Ty.org.dflt)) : Int) != x1) then (
        some (-1)
      ) else (
        bif (((Org.row (List.getD x0 (Int.toNat x5) Ty.org.dflt)) : Int) != (IntKind.i64.wrap (x1 + 1))) then (
          some (-1)
        ) else (
          (xBn N n x0 (IntKind.i64.wrap ((IntKind.i64.wrap (x1 + 1)) + 1)) (IntKind.i64.wrap (x5 + 1)))
        )
      )
      else none
    ) else (
      some x1
    )
def xCN (N : Nat) (a0 : List Org) (a1 : Int) : Option (Int) :=
  (xBn N N a0 a1 0)
def xBZ (a0 : List Rowd) (a1 : Int) : List Arg := [.val (.v false [.sl .ro .row a0]), .val (.v false [.int .i64 a1])]
def xAP (r : Int) : CallO := ⟨.v false [.int .i64 r], [], []⟩
def xB0 (N : Nat) : Nat → (List Rowd) → Int → Int → Option (Int)
  | 0, _, _, _ => none
  | n + 1, x0, x1, x5 =>
    bif (decide ((x5 : Int) < (List.length x0 : Int))) then (
      if (0 : Int) ≤ x5 ∧ x5 < (List.length x0) then
      Option.bind (xDx N (Rowd.cells (List.getD x0 (Int.toNat x5) Ty.row.dflt)) x1) fun r1 =>
      bif (decide ((r1 : Int) < 0)) then (
        some (-1)
      ) else (
        Option.bind (xCN N (Rowd.frm (List.getD x0 (Int.toNat x5) Ty.row.dflt)) r1) fun r2 =>
        bif (decide ((r2 : Int) < 0)) then (
          some (-1)
        ) else (
          (xB0 N n x0 r2 (IntKind.i64.wrap (x5 + 1)))
        )
      )
      else none
    ) else (
      some x1
    )
def xDc (N : Nat) (a0 : List Rowd) (a1 : Int) : Option (Int) :=
  (xB0 N N a0 a1 0)
def xAE (a0 : List Val) (a1 : Int) : List Arg := [.val (.v false [.sl .ro .val a0]), .val (.v false [.int .i64 a1])]
def xAk (r : Int) : CallO := ⟨.v false [.int .i64 r], [], []⟩
def xBB (N : Nat) (rc_laws_heldValueS : (List Val) → Int → Option (Int)) : Nat → (List Val) → Int → Int → Option (Int)
  | 0, _, _, _ => none
  | n + 1, x0, x1, x5 =>
    bif (decide ((x5 : Int) < (List.length x0 : Int))) then (
      if (0 : Int) ≤ x5 ∧ x5 < (List.length x0) then
      bif (((Val.kind (List.getD x0 (Int.toNat x5) Ty.val.dflt)) : Int) != x1) then (
        some (-1)
      ) else (
        bif (((Val.n (List.getD x0 (Int.toNat x5) Ty.val.dflt)) : Int) != (IntKind.i64.wrap (x1 + 1))) then (
          some (-1)
        ) else (
          bif (((Val.step (List.getD x0 (Int.toNat x5) Ty.val.dflt)) : Int) != (IntKind.i64.wrap ((IntKind.i64.wrap (x1 + 1)) + 1))) then (
            some (-1)
          ) else (
            Option.bind (xBe N (IntKind.i64.wrap ((IntKind.i64.wrap ((IntKind.i64.wrap (x1 + 1)) + 1)) + 1))) fun r1 =>
            bif (!(((Val.text (List.getD x0 (Int.toNat x5) Ty.val.dflt)) : Str) == r1)) then (
              some (-1)
            ) else (
              Option.bind (rc_laws_heldValueS (Val.list (List.getD x0 (Int.toNat x5) Ty.val.dflt)) (IntKind.i64.wrap ((IntKind.i64.wrap ((IntKind.i64.wrap ((IntKind.i64.wrap (x1 + 1)) + 1)) + 1)) + 1))) fun r2 =>
              bif (decide ((r2 : Int) < 0)) then (
                some (-1)
              ) else (
                Option.bind (xCo N (Val.columns (List.getD x0 (Int.toNat x5) Ty.val.dflt)) r2) fun r3 =>
                bif (decide ((r3 : Int) < 0)) then (
                  some (-1)
                ) else (
                  Option.bind (xDc N (Val.rows (List.getD x0 (Int.toNat x5) Ty.val.dflt)) r3) fun r4 =>
                  bif (decide ((r4 : Int) < 0)) then (
                    some (-1)
                  ) else (
                    (xBB N rc_laws_heldValueS n x0 r4 (IntKind.i64.wrap (x5 + 1)))
                  )
                )
              )
            )
          )
        )
      )
      else none
    ) else (
      some x1
    )
def xCC (N : Nat) (rc_laws_heldValueS : (List Val) → Int → Option (Int)) (a0 : List Val) (a1 : Int) : Option (Int) :=
  (xBB N rc_laws_heldValueS N a0 a1 0)
def xCi (N : Nat) : Nat → (List Val) → Int → Option (Int)
  | 0, _, _ => none
  | d + 1, a0, a1 => xCC N (xCi N d) a0 a1
def xD2 (N : Nat) (a0 : List Val) (a1 : Int) : Option (Int) := xCi N N a0 a1
def xCz (a0 : Rea) (a1 : Int) : List Arg := [.val (.v true [.int .i64 (Rea.kind a0), .int .i64 (Rea.n a0), .int .i64 (Rea.time a0), .str (Rea.text a0), .int .i64 (Val.kind (Rea.result a0)), .int .i64 (Val.n (Rea.result a0)), .int .i64 (Val.step (Rea.result a0)), .str (Val.text (Rea.result a0)), .sl .ro .val (Val.list (Rea.result a0)), .sl .ro .str (Val.columns (Rea.result a0)), .sl .ro .row (Val.rows (Rea.result a0))]), .val (.v false [.int .i64 a1])]
def xBS (r : Int) : CallO := ⟨.v false [.int .i64 r], [], []⟩
def xDJ (N : Nat) (a0 : Rea) (a1 : Int) : Option (Int) :=
  bif (decide (((IntKind.i64.wrap (a1 - (List.length (Rea.text a0) : Int))) : Int) < 0)) then (
    some (-1)
  ) else (
    Option.bind (xEx N (Rea.result a0) (IntKind.i64.wrap (a1 - (List.length (Rea.text a0) : Int)))) fun r1 =>
    bif (decide ((r1 : Int) < 0)) then (
      some (-1)
    ) else (
      some r1
    )
  )
def xAp (a0 : List Rea) (a1 : Int) : List Arg := [.val (.v false [.sl .ro .rea a0]), .val (.v false [.int .i64 a1])]
def xAg (r : Int) : CallO := ⟨.v false [.int .i64 r], [], []⟩
def xC6 (N : Nat) : Nat → (List Rea) → Int → Int → Option (Int)
  | 0, _, _, _ => none
  | n + 1, x0, x1, x5 =>
    bif (decide ((x5 : Int) < (List.length x0 : Int))) then (
      if (0 : Int) ≤ x5 ∧ x5 < (List.length x0) then
      Option.bind (xDJ N (List.getD x0 (Int.toNat x5) Ty.rea.dflt) x1) fun r1 =>
      bif (decide ((r1 : Int) < 0)) then (
        some (-1)
      ) else (
        (xC6 N n x0 r1 (IntKind.i64.wrap (x5 + 1)))
      )
      else none
    ) else (
      some x1
    )
def xDs (N : Nat) (a0 : List Rea) (a1 : Int) : Option (Int) :=
  bif (decide (((IntKind.i64.wrap (a1 - (List.length a0 : Int))) : Int) < 0)) then (
    some (-1)
  ) else (
    (xC6 N N a0 (IntKind.i64.wrap (a1 - (List.length a0 : Int))) 0)
  )
def xDP (a0 : Rea) : List Arg := [.val (.v true [.int .i64 (Rea.kind a0), .int .i64 (Rea.n a0), .int .i64 (Rea.time a0), .str (Rea.text a0), .int .i64 (Val.kind (Rea.result a0)), .int .i64 (Val.n (Rea.result a0)), .int .i64 (Val.step (Rea.result a0)), .str (Val.text (Rea.result a0)), .sl .ro .val (Val.list (Rea.result a0)), .sl .ro .str (Val.columns (Rea.result a0)), .sl .ro .row (Val.rows (Rea.result a0))])]
def xDl (r : Rea) : CallO := ⟨.v true [.int .i64 (Rea.kind r), .int .i64 (Rea.n r), .int .i64 (Rea.time r), .str (Rea.text r), .int .i64 (Val.kind (Rea.result r)), .int .i64 (Val.n (Rea.result r)), .int .i64 (Val.step (Rea.result r)), .str (Val.text (Rea.result r)), .sl .own .val (Val.list (Rea.result r)), .sl .own .str (Val.columns (Rea.result r)), .sl .own .row (Val.rows (Rea.result r))], [], []⟩
def xDr (N : Nat) (a0 : Rea) : Option (Rea) :=
  Option.bind (xEA N (Rea.result a0)) fun r1 =>
  some (Rea.mk (Rea.kind a0) (Rea.n a0) (Rea.time a0) (Rea.text a0) r1)
def xAc (a0 : List Rea) : List Arg := [.val (.v false [.sl .ro .rea a0])]
def xAa (r : (List Rea)) : CallO := ⟨.v false [.sl .own .rea r], [], []⟩
def xC7 (N : Nat) : Nat → (List Rea) → (List Rea) → Int → Option ((List Rea))
  | 0, _, _, _ => none
  | n + 1, x0, x3, x4 =>
    bif (decide ((x4 : Int) < (List.length x0 : Int))) then (
      if (0 : Int) ≤ x4 ∧ x4 < (List.length x0) then
      Option.bind (xDr N (List.getD x0 (Int.toNat x4) Ty.rea.dflt)) fun r1 =>
      if (0 : Int) ≤ x4 ∧ x4 < (List.length x3) then
      (xC7 N n x0 (List.set x3 (Int.toNat x4) (Rea.mk (Rea.kind r1) (Rea.n r1) (Rea.time r1) (Rea.text r1) (Val.re (Rea.result r1)))) (IntKind.i64.wrap (x4 + 1)))
      else none
      else none
    ) else (
      some x3
    )
def xBu (N : Nat) (a0 : List Rea) : Option ((List Rea)) :=
  if (0 : Int) ≤ (List.length a0 : Int) ∧ (List.length a0 : Int) = (List.length a0 : Int) ∧ (List.length a0 : Int) ≤ Lim then
  (xC7 N N a0 (List.replicate (Int.toNat (List.length a0 : Int)) Ty.rea.dflt) 0)
  else none
def xC9 (a0 : Rea) : List Arg := [.val (.v true [.int .i64 (Rea.kind a0), .int .i64 (Rea.n a0), .int .i64 (Rea.time a0), .str (Rea.text a0), .int .i64 (Val.kind (Rea.result a0)), .int .i64 (Val.n (Rea.result a0)), .int .i64 (Val.step (Rea.result a0)), .str (Val.text (Rea.result a0)), .sl .ro .val (Val.list (Rea.result a0)), .sl .ro .str (Val.columns (Rea.result a0)), .sl .ro .row (Val.rows (Rea.result a0))])]
def xCl (r : Rea) : CallO := ⟨.v true [.int .i64 (Rea.kind r), .int .i64 (Rea.n r), .int .i64 (Rea.time r), .str (Rea.text r), .int .i64 (Val.kind (Rea.result r)), .int .i64 (Val.n (Rea.result r)), .int .i64 (Val.step (Rea.result r)), .str (Val.text (Rea.result r)), .sl .own .val (Val.list (Rea.result r)), .sl .own .str (Val.columns (Rea.result r)), .sl .own .row (Val.rows (Rea.result r))], [], []⟩
def xC8 (N : Nat) (a0 : Rea) : Option (Rea) :=
  Option.bind (xCA N (Rea.result a0)) fun r1 =>
  some (Rea.mk (Rea.kind a0) (Rea.n a0) (Rea.time a0) (Rea.text a0) r1)
def xDq (a0 : List Rea) : List Arg := [.val (.v false [.sl .ro .rea a0])]
def xCr (r : (List Rea)) : CallO := ⟨.v false [.sl .own .rea r], [], []⟩
def xB4 (N : Nat) : Nat → (List Rea) → (List Rea) → Int → Option ((List Rea))
  | 0, _, _, _ => none
  | n + 1, x0, x3, x4 =>
    bif (decide ((x4 : Int) < (List.length x0 : Int))) then (
      if (0 : Int) ≤ x4 ∧ x4 < (List.length x0) then
      Option.bind (xC8 N (List.getD x0 (Int.toNat x4) Ty.rea.dflt)) fun r1 =>
      if List.length x3 + List.length [(Rea.mk (Rea.kind r1) (Rea.n r1) (Rea.time r1) (Rea.text r1) (Val.re (Rea.result r1)))] ≤ Lim then
      (xB4 N n x0 (x3 ++ [(Rea.mk (Rea.kind r1) (Rea.n r1) (Rea.time r1) (Rea.text r1) (Val.re (Rea.result r1)))]) (IntKind.i64.wrap (x4 + 1)))
      else none
      else none
    ) else (
      some x3
    )
def xDC (N : Nat) (a0 : List Rea) : Option ((List Rea)) :=
  (xB4 N N a0 [] 0)
def xBT (a0 : Rea) (a1 : Rea) : List Arg := [.val (.v true [.int .i64 (Rea.kind a0), .int .i64 (Rea.n a0), .int .i64 (Rea.time a0), .str (Rea.text a0), .int .i64 (Val.kind (Rea.result a0)), .int .i64 (Val.n (Rea.result a0)), .int .i64 (Val.step (Rea.result a0)), .str (Val.text (Rea.result a0)), .sl .ro .val (Val.list (Rea.result a0)), .sl .ro .str (Val.columns (Rea.result a0)), .sl .ro .row (Val.rows (Rea.result a0))]), .val (.v true [.int .i64 (Rea.kind a1), .int .i64 (Rea.n a1), .int .i64 (Rea.time a1), .str (Rea.text a1), .int .i64 (Val.kind (Rea.result a1)), .int .i64 (Val.n (Rea.result a1)), .int .i64 (Val.step (Rea.result a1)), .str (Val.text (Rea.result a1)), .sl .ro .val (Val.list (Rea.result a1)), .sl .ro .str (Val.columns (Rea.result a1)), .sl .ro .row (Val.rows (Rea.result a1))])]
def xBj (r : Bool) : CallO := ⟨.v false [.bool r], [], []⟩
def xDt (N : Nat) (a0 : Rea) (a1 : Rea) : Option (Bool) :=
  bif (((Rea.kind a0) : Int) == (Rea.kind a1)) then (
    bif (((Rea.n a0) : Int) == (Rea.n a1)) then (
      bif (((Rea.text a0) : Str) == (Rea.text a1)) then (
        some (((Rea.time a0) : Int) == (Rea.time a1))
      ) else (
        some false
      )
    ) else (
      some false
    )
  ) else (
    some false
  )
def xCT (a0 : List Rea) (a1 : Rea) : List Arg := [.val (.v false [.sl .ro .rea a0]), .val (.v true [.int .i64 (Rea.kind a1), .int .i64 (Rea.n a1), .int .i64 (Rea.time a1), .str (Rea.text a1), .int .i64 (Val.kind (Rea.result a1)), .int .i64 (Val.n (Rea.result a1)), .int .i64 (Val.step (Rea.result a1)), .str (Val.text (Rea.result a1)), .sl .ro .val (Val.list (Rea.result a1)), .sl .ro .str (Val.columns (Rea.result a1)), .sl .ro .row (Val.rows (Rea.result a1))])]
def xBm (r : Val × Bool) : CallO := ⟨.tup [(true, [.int .i64 (Val.kind r.1), .int .i64 (Val.n r.1), .int .i64 (Val.step r.1), .str (Val.text r.1), .sl .own .val (Val.list r.1), .sl .own .str (Val.columns r.1), .sl .own .row (Val.rows r.1)]), (false, [.bool r.2])], [], []⟩
def xBH (N : Nat) : Nat → (List Rea) → Int → Rea → Val → Option (Val × Bool)
  | 0, _, _, _, _ => none
  | n + 1, x0, x6, b3, b4 =>
    bif (decide ((x6 : Int) < (List.length x0 : Int))) then (
      if (0 : Int) ≤ x6 ∧ x6 < (List.length x0) then
      Option.bind (xDt N (List.getD x0 (Int.toNat x6) Ty.rea.dflt) b3) fun r1 =>
      bif r1 then (
        Option.bind (xCA N (Rea.result (List.getD x0 (Int.toNat x6) Ty.rea.dflt))) fun r2 =>
        some (r2, true)
      ) else (
        (xBH N n x0 (IntKind.i64.wrap (x6 + 1)) b3 b4)
      )
      else none
    ) else (
      some ((Val.mk 0 0 0 [] [] [] []), false)
    )
def xDB (N : Nat) (a0 : List Rea) (a1 : Rea) : Option (Val × Bool) :=
  (xBH N N a0 0 a1 (Val.mk 0 0 0 [] [] [] []))
def xAI (a0 : List Rea) (a1 : List Rea) : List Arg := [.val (.v false [.sl .ro .rea a0]), .val (.v false [.sl .ro .rea a1])]
def xAm (r : (List Rea)) : CallO := ⟨.v false [.sl .own .rea r], [], []⟩
def xBi (N : Nat) : Nat → (List Rea) → (List Rea) → Int → Option ((List Rea))
  | 0, _, _, _ => none
  | n + 1, x1, x5, x6 =>
    bif (decide ((x6 : Int) < (List.length x1 : Int))) then (
      if (0 : Int) ≤ x6 ∧ x6 < (List.length x1) then
      Option.bind (xDB N x5 (List.getD x1 (Int.toNat x6) Ty.rea.dflt)) fun r1 =>
      bif (!r1.2) then (
        Option.bind (xC8 N (List.getD x1 (Int.toNat x6) Ty.rea.dflt)) fun r2 =>
        if List.length x5 + List.length [(Rea.mk (Rea.kind r2) (Rea.n r2) (Rea.time r2) (Rea.text r2) (Val.re (Rea.result r2)))] ≤ Lim then
        (xBi N n x1 (x5 ++ [(Rea.mk (Rea.kind r2) (Rea.n r2) (Rea.time r2) (Rea.text r2) (Val.re (Rea.result r2)))]) (IntKind.i64.wrap (x6 + 1)))
        else none
      ) else (
        (xBi N n x1 x5 (IntKind.i64.wrap (x6 + 1)))
      )
      else none
    ) else (
      some x5
    )
def xCI (N : Nat) (a0 : List Rea) (a1 : List Rea) : Option ((List Rea)) :=
  Option.bind (xDC N a0) fun r1 =>
  (xBi N N a1 r1 0)
def xCE (a0 : List Rea) : List Arg := [.val (.v false [.sl .ro .rea a0])]
def xBr (r : (List Rea)) : CallO := ⟨.v false [.sl .own .rea r], [], []⟩
def xBI (N : Nat) : Nat → (List Rea) → (List Rea) → Int → Int → Option ((List Rea))
  | 0, _, _, _, _ => none
  | n + 1, x3, x7, x8, x9 =>
    bif (decide ((x9 : Int) < x8)) then (
      if (0 : Int) ≤ x9 ∧ x9 < (List.length x7) then
      Option.bind (xBv N (Rea.result (List.getD x7 (Int.toNat x9) Ty.rea.dflt))) fun r1 =>
      if List.length x3 + List.length [(Rea.mk (Rea.kind (List.getD x7 (Int.toNat x9) Ty.rea.dflt)) (Rea.n (List.getD x7 (Int.toNat x9) Ty.rea.dflt)) (Rea.time (List.getD x7 (Int.toNat x9) Ty.rea.dflt)) (Rea.text (List.getD x7 (Int.toNat x9) Ty.rea.dflt)) (Val.re r1))] ≤ Lim then
      (xBI N n (x3 ++ [(Rea.mk (Rea.kind (List.getD x7 (Int.toNat x9) Ty.rea.dflt)) (Rea.n (List.getD x7 (Int.toNat x9) Ty.rea.dflt)) (Rea.time (List.getD x7 (Int.toNat x9) Ty.rea.dflt)) (Rea.text (List.getD x7 (Int.toNat x9) Ty.rea.dflt)) (Val.re r1))]) x7 x8 (IntKind.i64.wrap (x9 + 1)))
      else none
      else none
    ) else (
      some x3
    )
def xCt (N : Nat) (a0 : List Rea) : Option ((List Rea)) :=
  (xBI N N [] a0 (List.length a0 : Int) 0)
def xBF (a0 : Rea) (a1 : Rea) : List Arg := [.val (.v true [.int .i64 (Rea.kind a0), .int .i64 (Rea.n a0), .int .i64 (Rea.time a0), .str (Rea.text a0), .int .i64 (Val.kind (Rea.result a0)), .int .i64 (Val.n (Rea.result a0)), .int .i64 (Val.step (Rea.result a0)), .str (Val.text (Rea.result a0)), .sl .ro .val (Val.list (Rea.result a0)), .sl .ro .str (Val.columns (Rea.result a0)), .sl .ro .row (Val.rows (Rea.result a0))]), .val (.v true [.int .i64 (Rea.kind a1), .int .i64 (Rea.n a1), .int .i64 (Rea.time a1), .str (Rea.text a1), .int .i64 (Val.kind (Rea.result a1)), .int .i64 (Val.n (Rea.result a1)), .int .i64 (Val.step (Rea.result a1)), .str (Val.text (Rea.result a1)), .sl .ro .val (Val.list (Rea.result a1)), .sl .ro .str (Val.columns (Rea.result a1)), .sl .ro .row (Val.rows (Rea.result a1))])]
def xA8 (r : Bool) : CallO := ⟨.v false [.bool r], [], []⟩
def xDa (N : Nat) (a0 : Rea) (a1 : Rea) : Option (Bool) :=
  bif (((Rea.kind a0) : Int) == (Rea.kind a1)) then (
    bif (((Rea.n a0) : Int) == (Rea.n a1)) then (
      bif (((Rea.text a0) : Str) == (Rea.text a1)) then (
        some (((Rea.time a0) : Int) == (Rea.time a1))
      ) else (
        some false
      )
    ) else (
      some false
    )
  ) else (
    some false
  )
def xCM (a0 : List Rea) (a1 : Rea) : List Arg := [.val (.v false [.sl .ro .rea a0]), .val (.v true [.int .i64 (Rea.kind a1), .int .i64 (Rea.n a1), .int .i64 (Rea.time a1), .str (Rea.text a1), .int .i64 (Val.kind (Rea.result a1)), .int .i64 (Val.n (Rea.result a1)), .int .i64 (Val.step (Rea.result a1)), .str (Val.text (Rea.result a1)), .sl .ro .val (Val.list (Rea.result a1)), .sl .ro .str (Val.columns (Rea.result a1)), .sl .ro .row (Val.rows (Rea.result a1))])]
def xBk (r : Val × Bool) : CallO := ⟨.tup [(true, [.int .i64 (Val.kind r.1), .int .i64 (Val.n r.1), .int .i64 (Val.step r.1), .str (Val.text r.1), .sl .own .val (Val.list r.1), .sl .own .str (Val.columns r.1), .sl .own .row (Val.rows r.1)]), (false, [.bool r.2])], [], []⟩
def xBE (N : Nat) : Nat → (List Rea) → Int → Int → Rea → Val → Option (Val × Bool)
  | 0, _, _, _, _, _ => none
  | n + 1, x8, x9, x10, b3, b4 =>
    bif (decide ((x10 : Int) < x9)) then (
      if (0 : Int) ≤ x10 ∧ x10 < (List.length x8) then
      Option.bind (xDa N (List.getD x8 (Int.toNat x10) Ty.rea.dflt) b3) fun r1 =>
      bif r1 then (
        Option.bind (xBv N (Rea.result (List.getD x8 (Int.toNat x10) Ty.rea.dflt))) fun r2 =>
        some (r2, true)
      ) else (
        (xBE N n x8 x9 (IntKind.i64.wrap (x10 + 1)) b3 b4)
      )
      else none
    ) else (
      some ((Val.mk 0 0 0 [] [] [] []), false)
    )
def xDv (N : Nat) (a0 : List Rea) (a1 : Rea) : Option (Val × Bool) :=
  (xBE N N a0 (List.length a0 : Int) 0 a1 (Val.mk 0 0 0 [] [] [] []))
def xAx (a0 : List Rea) (a1 : List Rea) : List Arg := [.val (.v false [.sl .ro .rea a0]), .val (.v false [.sl .ro .rea a1])]
def xAi (r : (List Rea)) : CallO := ⟨.v false [.sl .own .rea r], [], []⟩
def xBh (N : Nat) : Nat → (List Rea) → (List Rea) → Int → Int → Option ((List Rea))
  | 0, _, _, _, _ => none
  | n + 1, x5, x12, x13, x14 =>
    bif (decide ((x14 : Int) < x13)) then (
      if (0 : Int) ≤ x14 ∧ x14 < (List.length x12) then
      Option.bind (xDv N x5 (List.getD x12 (Int.toNat x14) Ty.rea.dflt)) fun r1 =>
      bif (!r1.2) then (
        Option.bind (xCt N [(Rea.mk (Rea.kind (List.getD x12 (Int.toNat x14) Ty.rea.dflt)) (Rea.n (List.getD x12 (Int.toNat x14) Ty.rea.dflt)) (Rea.time (List.getD x12 (Int.toNat x14) Ty.rea.dflt)) (Rea.text (List.getD x12 (Int.toNat x14) Ty.rea.dflt)) (Val.re (Rea.result (List.getD x12 (Int.toNat x14) Ty.rea.dflt))))]) fun r2 =>
        if List.length x5 + List.length r2 ≤ Lim then
        (xBh N n (x5 ++ r2) x12 x13 (IntKind.i64.wrap (x14 + 1)))
        else none
      ) else (
        (xBh N n x5 x12 x13 (IntKind.i64.wrap (x14 + 1)))
      )
      else none
    ) else (
      some x5
    )
def xCf (N : Nat) (a0 : List Rea) (a1 : List Rea) : Option ((List Rea)) :=
  Option.bind (xCt N a0) fun r1 =>
  (xBh N N r1 a1 (List.length a1 : Int) 0)
def xBw (a0 : Rea) (a1 : Rea) : List Arg := [.val (.v true [.int .i64 (Rea.kind a0), .int .i64 (Rea.n a0), .int .i64 (Rea.time a0), .str (Rea.text a0), .int .i64 (Val.kind (Rea.result a0)), .int .i64 (Val.n (Rea.result a0)), .int .i64 (Val.step (Rea.result a0)), .str (Val.text (Rea.result a0)), .sl .ro .val (Val.list (Rea.result a0)), .sl .ro .str (Val.columns (Rea.result a0)), .sl .ro .row (Val.rows (Rea.result a0))]), .val (.v true [.int .i64 (Rea.kind a1), .int .i64 (Rea.n a1), .int .i64 (Rea.time a1), .str (Rea.text a1), .int .i64 (Val.kind (Rea.result a1)), .int .i64 (Val.n (Rea.result a1)), .int .i64 (Val.step (Rea.result a1)), .str (Val.text (Rea.result a1)), .sl .ro .val (Val.list (Rea.result a1)), .sl .ro .str (Val.columns (Rea.result a1)), .sl .ro .row (Val.rows (Rea.result a1))])]
def xBa (r : Bool) : CallO := ⟨.v false [.bool r], [], []⟩
def xDG (N : Nat) (a0 : Rea) (a1 : Rea) : Option (Bool) :=
  bif (((Rea.kind a0) : Int) != (Rea.kind a1)) then (
    some false
  ) else (
    bif (((Rea.n a0) : Int) != (Rea.n a1)) then (
      some false
    ) else (
      bif (((Rea.time a0) : Int) != (Rea.time a1)) then (
        some false
      ) else (
        bif (!(((Rea.text a0) : Str) == (Rea.text a1))) then (
          some false
        ) else (
          Option.bind (xEu N (Rea.result a0) (Rea.result a1)) fun r1 =>
          bif (!r1) then (
            some false
          ) else (
            some true
          )
        )
      )
    )
  )
def xAh (a0 : List Rea) (a1 : List Rea) : List Arg := [.val (.v false [.sl .ro .rea a0]), .val (.v false [.sl .ro .rea a1])]
def xAb (r : Bool) : CallO := ⟨.v false [.bool r], [], []⟩
def xCg (N : Nat) : Nat → (List Rea) → (List Rea) → Int → Option (Bool)
  | 0, _, _, _ => none
  | n + 1, x0, x1, x5 =>
    bif (decide ((x5 : Int) < (List.length x0 : Int))) then (
      if (0 : Int) ≤ x5 ∧ x5 < (List.length x0) then
      if (0 : Int) ≤ x5 ∧ x5 < (List.length x1) then
      Option.bind (xDG N (List.getD x0 (Int.toNat x5) Ty.rea.dflt) (List.getD x1 (Int.toNat x5) Ty.rea.dflt)) fun r1 =>
      bif (!r1) then (
        some false
      ) else (
        (xCg N n x0 x1 (IntKind.i64.wrap (x5 + 1)))
      )
      else none
      else none
    ) else (
      some true
    )
def xB7 (N : Nat) (a0 : List Rea) (a1 : List Rea) : Option (Bool) :=
  bif (((List.length a0 : Int) : Int) != (List.length a1 : Int)) then (
    some false
  ) else (
    (xCg N N a0 a1 0)
  )
def xAo (a0 : List Rea) (a1 : Int) : List Arg := [.val (.v false [.sl (.lnt 0) .rea a0]), .val (.v false [.int .i64 a1])]
def xAf (r : Int × (List Rea)) : CallO := ⟨.v false [.int .i64 r.1], [], [.sl (.lnt 0) .rea r.2]⟩
def xBQ (N : Nat) : Nat → (List Rea) → Int → Int → Option (Int × (List Rea))
  | 0, _, _, _ => none
  | n + 1, x0, x1, x5 =>
    bif (decide ((x5 : Int) < (List.length x0 : Int))) then (
      if (0 : Int) ≤ x5 ∧ x5 < (List.length x0) then
      if (0 : Int) ≤ x5 ∧ x5 < (List.length (List.set x0 (Int.toNat x5) (Rea.mk x1 (Rea.n (List.getD x0 (Int.toNat x5) Ty.rea.dflt)) (Rea.time (List.getD x0 (Int.toNat x5) Ty.rea.dflt)) (Rea.text (List.getD x0 (Int.toNat x5) Ty.rea.dflt)) (Val.re (Rea.result (List.getD x0 (Int.toNat x5) Ty.rea.dflt)))))) then
      if (0 : Int) ≤ x5 ∧ x5 < (List.length ((fun (z94 : List Rea) => List.set z94 (Int.toNat x5) (Rea.mk (Rea.kind (List.getD z94 (Int.toNat x5) Ty.rea.dflt)) (IntKind.i64.wrap (x1 + 1)) (Rea.time (List.getD z94 (Int.toNat x5) Ty.rea.dflt)) (Rea.text (List.getD z94 (Int.toNat x5) Ty.rea.dflt)) (Val.re (Rea.result (List.getD z94 (Int.toNat x5) Ty.rea.dflt))))) (List.set x0 (Int.toNat x5) (Rea.mk x1 (Rea.n (List.getD x0 (Int.toNat x5) Ty.rea.dflt)) (Rea.time (List.getD x0 (Int.toNat x5) Ty.rea.dflt)) (Rea.text (List.getD x0 (Int.toNat x5) Ty.rea.dflt)) (Val.re (Rea.result (List.getD x0 (Int.toNat x5) Ty.rea.dflt))))))) then
      Option.bind (xBe N (IntKind.i64.wrap ((IntKind.i64.wrap ((IntKind.i64.wrap (x1 + 1)) + 1)) + 1))) fun r1 =>
      if (0 : Int) ≤ x5 ∧ x5 < (List.length ((fun (z95 : List Rea) => List.set z95 (Int.toNat x5) (Rea.mk (Rea.kind (List.getD z95 (Int.toNat x5) Ty.rea.dflt)) (Rea.n (List.getD z95 (Int.toNat x5) Ty.rea.dflt)) (IntKind.i64.wrap ((IntKind.i64.wrap (x1 + 1)) + 1)) (Rea.text (List.getD z95 (Int.toNat x5) Ty.rea.dflt)) (Val.re (Rea.result (List.getD z95 (Int.toNat x5) Ty.rea.dflt))))) ((fun (z94 : List Rea) => List.set z94 (Int.toNat x5) (Rea.mk (Rea.kind (List.getD z94 (Int.toNat x5) Ty.rea.dflt)) (IntKind.i64.wrap (x1 + 1)) (Rea.time (List.getD z94 (Int.toNat x5) Ty.rea.dflt)) (Rea.text (List.getD z94 (Int.toNat x5) Ty.rea.dflt)) (Val.re (Rea.result (List.getD z94 (Int.toNat x5) Ty.rea.dflt))))) (List.set x0 (Int.toNat x5) (Rea.mk x1 (Rea.n (List.getD x0 (Int.toNat x5) Ty.rea.dflt)) (Rea.time (List.getD x0 (Int.toNat x5) Ty.rea.dflt)) (Rea.text (List.getD x0 (Int.toNat x5) Ty.rea.dflt)) (Val.re (Rea.result (List.getD x0 (Int.toNat x5) Ty.rea.dflt)))))))) then
      if (0 : Int) ≤ x5 ∧ x5 < (List.length ((fun (z96 : List Rea) => List.set z96 (Int.toNat x5) (Rea.mk (Rea.kind (List.getD z96 (Int.toNat x5) Ty.rea.dflt)) (Rea.n (List.getD z96 (Int.toNat x5) Ty.rea.dflt)) (Rea.time (List.getD z96 (Int.toNat x5) Ty.rea.dflt)) r1 (Val.re (Rea.result (List.getD z96 (Int.toNat x5) Ty.rea.dflt))))) ((fun (z95 : List Rea) => List.set z95 (Int.toNat x5) (Rea.mk (Rea.kind (List.getD z95 (Int.toNat x5) Ty.rea.dflt)) (Rea.n (List.getD z95 (Int.toNat x5) Ty.rea.dflt)) (IntKind.i64.wrap ((IntKind.i64.wrap (x1 + 1)) + 1)) (Rea.text (List.getD z95 (Int.toNat x5) Ty.rea.dflt)) (Val.re (Rea.result (List.getD z95 (Int.toNat x5) Ty.rea.dflt))))) ((fun (z94 : List Rea) => List.set z94 (Int.toNat x5) (Rea.mk (Rea.kind (List.getD z94 (Int.toNat x5) Ty.rea.dflt)) (IntKind.i64.wrap (x1 + 1)) (Rea.time (List.getD z94 (Int.toNat x5) Ty.rea.dflt)) (Rea.text (List.getD z94 (Int.toNat x5) Ty.rea.dflt)) (Val.re (Rea.result (List.getD z94 (Int.toNat x5) Ty.rea.dflt))))) (List.set x0 (Int.toNat x5) (Rea.mk x1 (Rea.n (List.getD x0 (Int.toNat x5) Ty.rea.dflt)) (Rea.time (List.getD x0 (Int.toNat x5) Ty.rea.dflt)) (Rea.text (List.getD x0 (Int.toNat x5) Ty.rea.dflt)) (Val.re (Rea.result (List.getD x0 (Int.toNat x5) Ty.rea.dflt))))))))) then
      if (0 : Int) ≤ x5 ∧ x5 < (List.length ((fun (z97 : List Rea) => List.set z97 (Int.toNat x5) (Rea.mk (Rea.kind (List.getD z97 (Int.toNat x5) Ty.rea.dflt)) (Rea.n (List.getD z97 (Int.toNat x5) Ty.rea.dflt)) (Rea.time (List.getD z97 (Int.toNat x5) Ty.rea.dflt)) (Rea.text (List.getD z97 (Int.toNat x5) Ty.rea.dflt)) (Val.mk (IntKind.i64.wrap ((IntKind.i64.wrap ((IntKind.i64.wrap ((IntKind.i64.wrap (x1 + 1)) + 1)) + 1)) + 1)) (Val.n (Rea.result (List.getD z97 (Int.toNat x5) Ty.rea.dflt))) (Val.step (Rea.result (List.getD z97 (Int.toNat x5) Ty.rea.dflt))) (Val.text (Rea.result (List.getD z97 (Int.toNat x5) Ty.rea.dflt))) (Val.list (Rea.result (List.getD z97 (Int.toNat x5) Ty.rea.dflt))) (Val.columns (Rea.result (List.getD z97 (Int.toNat x5) Ty.rea.dflt))) (Val.rows (Rea.result (List.getD z97 (Int.toNat x5) Ty.rea.dflt)))))) ((fun (z96 : List Rea) => List.set z96 (Int.toNat x5) (Rea.mk (Rea.kind (List.getD z96 (Int.toNat x5) Ty.rea.dflt)) (Rea.n (List.getD z96 (Int.toNat x5) Ty.rea.dflt)) (Rea.time (List.getD z96 (Int.toNat x5) Ty.rea.dflt)) r1 (Val.re (Rea.result (List.getD z96 (Int.toNat x5) Ty.rea.dflt))))) ((fun (z95 : List Rea) => List.set z95 (Int.toNat x5) (Rea.mk (Rea.kind (List.getD z95 (Int.toNat x5) Ty.rea.dflt)) (Rea.n (List.getD z95 (Int.toNat x5) Ty.rea.dflt)) (IntKind.i64.wrap ((IntKind.i64.wrap (x1 + 1)) + 1)) (Rea.text (List.getD z95 (Int.toNat x5) Ty.rea.dflt)) (Val.re (Rea.result (List.getD z95 (Int.toNat x5) Ty.rea.dflt))))) ((fun (z94 : List Rea) => List.set z94 (Int.toNat x5) (Rea.mk (Rea.kind (List.getD z94 (Int.toNat x5) Ty.rea.dflt)) (IntKind.i64.wrap (x1 + 1)) (Rea.time (List.getD z94 (Int.toNat x5) Ty.rea.dflt)) (Rea.text (List.getD z94 (Int.toNat x5) Ty.rea.dflt)) (Val.re (Rea.result (List.getD z94 (Int.toNat x5) Ty.rea.dflt))))) (List.set x0 (Int.toNat x5) (Rea.mk x1 (Rea.n (List.getD x0 (Int.toNat x5) Ty.rea.dflt)) (Rea.time (List.getD x0 (Int.toNat x5) Ty.rea.dflt)) (Rea.text (List.getD x0 (Int.toNat x5) Ty.rea.dflt)) (Val.re (Rea.result (List.getD x0 (Int.toNat x5) Ty.rea.dflt)))))))))) then
      if (0 : Int) ≤ x5 ∧ x5 < (List.length ((fun (z98 : List Rea) => List.set z98 (Int.toNat x5) (Rea.mk (Rea.kind (List.getD z98 (Int.toNat x5) Ty.rea.dflt)) (Rea.n (List.getD z98 (Int.toNat x5) Ty.rea.dflt)) (Rea.time (List.getD z98 (Int.toNat x5) Ty.rea.dflt)) (Rea.text (List.getD z98 (Int.toNat x5) Ty.rea.dflt)) (Val.mk (Val.kind (Rea.result (List.getD z98 (Int.toNat x5) Ty.rea.dflt))) (IntKind.i64.wrap ((IntKind.i64.wrap ((IntKind.i64.wrap ((IntKind.i64.wrap ((IntKind.i64.wrap (x1 + 1)) + 1)) + 1)) + 1)) + 1)) (Val.step (Rea.result (List.getD z98 (Int.toNat x5) Ty.rea.dflt))) (Val.text (Rea.result (List.getD z98 (Int.toNat x5) Ty.rea.dflt))) (Val.list (Rea.result (List.getD z98 (Int.toNat x5) Ty.rea.dflt))) (Val.columns (Rea.result (List.getD z98 (Int.toNat x5) Ty.rea.dflt))) (Val.rows (Rea.result (List.getD z98 (Int.toNat x5) Ty.rea.dflt)))))) ((fun (z97 : List Rea) => List.set z97 (Int.toNat x5) (Rea.mk (Rea.kind (List.getD z97 (Int.toNat x5) Ty.rea.dflt)) (Rea.n (List.getD z97 (Int.toNat x5) Ty.rea.dflt)) (Rea.time (List.getD z97 (Int.toNat x5) Ty.rea.dflt)) (Rea.text (List.getD z97 (Int.toNat x5) Ty.rea.dflt)) (Val.mk (IntKind.i64.wrap ((IntKind.i64.wrap ((IntKind.i64.wrap ((IntKind.i64.wrap (x1 + 1)) + 1)) + 1)) + 1)) (Val.n (Rea.result (List.getD z97 (Int.toNat x5) Ty.rea.dflt))) (Val.step (Rea.result (List.getD z97 (Int.toNat x5) Ty.rea.dflt))) (Val.text (Rea.result (List.getD z97 (Int.toNat x5) Ty.rea.dflt))) (Val.list (Rea.result (List.getD z97 (Int.toNat x5) Ty.rea.dflt))) (Val.columns (Rea.result (List.getD z97 (Int.toNat x5) Ty.rea.dflt))) (Val.rows (Rea.result (List.getD z97 (Int.toNat x5) Ty.rea.dflt)))))) ((fun (z96 : List Rea) => List.set z96 (Int.toNat x5) (Rea.mk (Rea.kind (List.getD z96 (Int.toNat x5) Ty.rea.dflt)) (Rea.n (List.getD z96 (Int.toNat x5) Ty.rea.dflt)) (Rea.time (List.getD z96 (Int.toNat x5) Ty.rea.dflt)) r1 (Val.re (Rea.result (List.getD z96 (Int.toNat x5) Ty.rea.dflt))))) ((fun (z95 : List Rea) => List.set z95 (Int.toNat x5) (Rea.mk (Rea.kind (List.getD z95 (Int.toNat x5) Ty.rea.dflt)) (Rea.n (List.getD z95 (Int.toNat x5) Ty.rea.dflt)) (IntKind.i64.wrap ((IntKind.i64.wrap (x1 + 1)) + 1)) (Rea.text (List.getD z95 (Int.toNat x5) Ty.rea.dflt)) (Val.re (Rea.result (List.getD z95 (Int.toNat x5) Ty.rea.dflt))))) ((fun (z94 : List Rea) => List.set z94 (Int.toNat x5) (Rea.mk (Rea.kind (List.getD z94 (Int.toNat x5) Ty.rea.dflt)) (IntKind.i64.wrap (x1 + 1)) (Rea.time (List.getD z94 (Int.toNat x5) Ty.rea.dflt)) (Rea.text (List.getD z94 (Int.toNat x5) Ty.rea.dflt)) (Val.re (Rea.result (List.getD z94 (Int.toNat x5) Ty.rea.dflt))))) (List.set x0 (Int.toNat x5) (Rea.mk x1 (Rea.n (List.getD x0 (Int.toNat x5) Ty.rea.dflt)) (Rea.time (List.getD x0 (Int.toNat x5) Ty.rea.dflt)) (Rea.text (List.getD x0 (Int.toNat x5) Ty.rea.dflt)) (Val.re (Rea.result (List.getD x0 (Int.toNat x5) Ty.rea.dflt))))))))))) then
      Option.bind (xBe N (IntKind.i64.wrap ((IntKind.i64.wrap ((IntKind.i64.wrap ((IntKind.i64.wrap ((IntKind.i64.wrap ((IntKind.i64.wrap ((IntKind.i64.wrap (x1 + 1)) + 1)) + 1)) + 1)) + 1)) + 1)) + 1))) fun r2 =>
      if (0 : Int) ≤ x5 ∧ x5 < (List.length ((fun (z99 : List Rea) => List.set z99 (Int.toNat x5) (Rea.mk (Rea.kind (List.getD z99 (Int.toNat x5) Ty.rea.dflt)) (Rea.n (List.getD z99 (Int.toNat x5) Ty.rea.dflt)) (Rea.time (List.getD z99 (Int.toNat x5) Ty.rea.dflt)) (Rea.text (List.getD z99 (Int.toNat x5) Ty.rea.dflt)) (Val.mk (Val.kind (Rea.result (List.getD z99 (Int.toNat x5) Ty.rea.dflt))) (Val.n (Rea.result (List.getD z99 (Int.toNat x5) Ty.rea.dflt))) (IntKind.i64.wrap ((IntKind.i64.wrap ((IntKind.i64.wrap ((IntKind.i64.wrap ((IntKind.i64.wrap ((IntKind.i64.wrap (x1 + 1)) + 1)) + 1)) + 1)) + 1)) + 1)) (Val.text (Rea.result (List.getD z99 (Int.toNat x5) Ty.rea.dflt))) (Val.list (Rea.result (List.getD z99 (Int.toNat x5) Ty.rea.dflt))) (Val.columns (Rea.result (List.getD z99 (Int.toNat x5) Ty.rea.dflt))) (Val.rows (Rea.result (List.getD z99 (Int.toNat x5) Ty.rea.dflt)))))) ((fun (z98 : List Rea) => List.set z98 (Int.toNat x5) (Rea.mk (Rea.kind (List.getD z98 (Int.toNat x5) Ty.rea.dflt)) (Rea.n (List.getD z98 (Int.toNat x5) Ty.rea.dflt)) (Rea.time (List.getD z98 (Int.toNat x5) Ty.rea.dflt)) (Rea.text (List.getD z98 (Int.toNat x5) Ty.rea.dflt)) (Val.mk (Val.kind (Rea.result (List.getD z98 (Int.toNat x5) Ty.rea.dflt))) (IntKind.i64.wrap ((IntKind.i64.wrap ((IntKind.i64.wrap ((IntKind.i64.wrap ((IntKind.i64.wrap (x1 + 1)) + 1)) + 1)) + 1)) + 1)) (Val.step (Rea.result (List.getD z98 (Int.toNat x5) Ty.rea.dflt))) (Val.text (Rea.result (List.getD z98 (Int.toNat x5) Ty.rea.dflt))) (Val.list (Rea.result (List.getD z98 (Int.toNat x5) Ty.rea.dflt))) (Val.columns (Rea.result (List.getD z98 (Int.toNat x5) Ty.rea.dflt))) (Val.rows (Rea.result (List.getD z98 (Int.toNat x5) Ty.rea.dflt)))))) ((fun (z97 : List Rea) => List.set z97 (Int.toNat x5) (Rea.mk (Rea.kind (List.getD z97 (Int.toNat x5) Ty.rea.dflt)) (Rea.n (List.getD z97 (Int.toNat x5) Ty.rea.dflt)) (Rea.time (List.getD z97 (Int.toNat x5) Ty.rea.dflt)) (Rea.text (List.getD z97 (Int.toNat x5) Ty.rea.dflt)) (Val.mk (IntKind.i64.wrap ((IntKind.i64.wrap ((IntKind.i64.wrap ((IntKind.i64.wrap (x1 + 1)) + 1)) + 1)) + 1)) (Val.n (Rea.result (List.getD z97 (Int.toNat x5) Ty.rea.dflt))) (Val.step (Rea.result (List.getD z97 (Int.toNat x5) Ty.rea.dflt))) (Val.text (Rea.result (List.getD z97 (Int.toNat x5) Ty.rea.dflt))) (Val.list (Rea.result (List.getD z97 (Int.toNat x5) Ty.rea.dflt))) (Val.columns (Rea.result (List.getD z97 (Int.toNat x5) Ty.rea.dflt))) (Val.rows (Rea.result (List.getD z97 (Int.toNat x5) Ty.rea.dflt)))))) ((fun (z96 : List Rea) => List.set z96 (Int.toNat x5) (Rea.mk (Rea.kind (List.getD z96 (Int.toNat x5) Ty.rea.dflt)) (Rea.n (List.getD z96 (Int.toNat x5) Ty.rea.dflt)) (Rea.time (List.getD z96 (Int.toNat x5) Ty.rea.dflt)) r1 (Val.re (Rea.result (List.getD z96 (Int.toNat x5) Ty.rea.dflt))))) ((fun (z95 : List Rea) => List.set z95 (Int.toNat x5) (Rea.mk (Rea.kind (List.getD z95 (Int.toNat x5) Ty.rea.dflt)) (Rea.n (List.getD z95 (Int.toNat x5) Ty.rea.dflt)) (IntKind.i64.wrap ((IntKind.i64.wrap (x1 + 1)) + 1)) (Rea.text (List.getD z95 (Int.toNat x5) Ty.rea.dflt)) (Val.re (Rea.result (List.getD z95 (Int.toNat x5) Ty.rea.dflt))))) ((fun (z94 : List Rea) => List.set z94 (Int.toNat x5) (Rea.mk (Rea.kind (List.getD z94 (Int.toNat x5) Ty.rea.dflt)) (IntKind.i64.wrap (x1 + 1)) (Rea.time (List.getD z94 (Int.toNat x5) Ty.rea.dflt)) (Rea.text (List.getD z94 (Int.toNat x5) Ty.rea.dflt)) (Val.re (Rea.result (List.getD z94 (Int.toNat x5) Ty.rea.dflt))))) (List.set x0 (Int.toNat x5) (Rea.mk x1 (Rea.n (List.getD x0 (Int.toNat x5) Ty.rea.dflt)) (Rea.time (List.getD x0 (Int.toNat x5) Ty.rea.dflt)) (Rea.text (List.getD x0 (Int.toNat x5) Ty.rea.dflt)) (Val.re (Rea.result (List.getD x0 (Int.toNat x5) Ty.rea.dflt)))))))))))) then
      if (0 : Int) ≤ x5 ∧ x5 < (List.length ((fun (z100 : List Rea) => List.set z100 (Int.toNat x5) (Rea.mk (Rea.kind (List.getD z100 (Int.toNat x5) Ty.rea.dflt)) (Rea.n (List.getD z100 (Int.toNat x5) Ty.rea.dflt)) (Rea.time (List.getD z100 (Int.toNat x5) Ty.rea.dflt)) (Rea.text (List.getD z100 (Int.toNat x5) Ty.rea.dflt)) (Val.mk (Val.kind (Rea.result (List.getD z100 (Int.toNat x5) Ty.rea.dflt))) (Val.n (Rea.result (List.getD z100 (Int.toNat x5) Ty.rea.dflt))) (Val.step (Rea.result (List.getD z100 (Int.toNat x5) Ty.rea.dflt))) r2 (Val.list (Rea.result (List.getD z100 (Int.toNat x5) Ty.rea.dflt))) (Val.columns (Rea.result (List.getD z100 (Int.toNat x5) Ty.rea.dflt))) (Val.rows (Rea.result (List.getD z100 (Int.toNat x5) Ty.rea.dflt)))))) ((fun (z99 : List Rea) => List.set z99 (Int.toNat x5) (Rea.mk (Rea.kind (List.getD z99 (Int.toNat x5) Ty.rea.dflt)) (Rea.n (List.getD z99 (Int.toNat x5) Ty.rea.dflt)) (Rea.time (List.getD z99 (Int.toNat x5) Ty.rea.dflt)) (Rea.text (List.getD z99 (Int.toNat x5) Ty.rea.dflt)) (Val.mk (Val.kind (Rea.result (List.getD z99 (Int.toNat x5) Ty.rea.dflt))) (Val.n (Rea.result (List.getD z99 (Int.toNat x5) Ty.rea.dflt))) (IntKind.i64.wrap ((IntKind.i64.wrap ((IntKind.i64.wrap ((IntKind.i64.wrap ((IntKind.i64.wrap ((IntKind.i64.wrap (x1 + 1)) + 1)) + 1)) + 1)) + 1)) + 1)) (Val.text (Rea.result (List.getD z99 (Int.toNat x5) Ty.rea.dflt))) (Val.list (Rea.result (List.getD z99 (Int.toNat x5) Ty.rea.dflt))) (Val.columns (Rea.result (List.getD z99 (Int.toNat x5) Ty.rea.dflt))) (Val.rows (Rea.result (List.getD z99 (Int.toNat x5) Ty.rea.dflt)))))) ((fun (z98 : List Rea) => List.set z98 (Int.toNat x5) (Rea.mk (Rea.kind (List.getD z98 (Int.toNat x5) Ty.rea.dflt)) (Rea.n (List.getD z98 (Int.toNat x5) Ty.rea.dflt)) (Rea.time (List.getD z98 (Int.toNat x5) Ty.rea.dflt)) (Rea.text (List.getD z98 (Int.toNat x5) Ty.rea.dflt)) (Val.mk (Val.kind (Rea.result (List.getD z98 (Int.toNat x5) Ty.rea.dflt))) (IntKind.i64.wrap ((IntKind.i64.wrap ((IntKind.i64.wrap ((IntKind.i64.wrap ((IntKind.i64.wrap (x1 + 1)) + 1)) + 1)) + 1)) + 1)) (Val.step (Rea.result (List.getD z98 (Int.toNat x5) Ty.rea.dflt))) (Val.text (Rea.result (List.getD z98 (Int.toNat x5) Ty.rea.dflt))) (Val.list (Rea.result (List.getD z98 (Int.toNat x5) Ty.rea.dflt))) (Val.columns (Rea.result (List.getD z98 (Int.toNat x5) Ty.rea.dflt))) (Val.rows (Rea.result (List.getD z98 (Int.toNat x5) Ty.rea.dflt)))))) ((fun (z97 : List Rea) => List.set z97 (Int.toNat x5) (Rea.mk (Rea.kind (List.getD z97 (Int.toNat x5) Ty.rea.dflt)) (Rea.n (List.getD z97 (Int.toNat x5) Ty.rea.dflt)) (Rea.time (List.getD z97 (Int.toNat x5) Ty.rea.dflt)) (Rea.text (List.getD z97 (Int.toNat x5) Ty.rea.dflt)) (Val.mk (IntKind.i64.wrap ((IntKind.i64.wrap ((IntKind.i64.wrap ((IntKind.i64.wrap (x1 + 1)) + 1)) + 1)) + 1)) (Val.n (Rea.result (List.getD z97 (Int.toNat x5) Ty.rea.dflt))) (Val.step (Rea.result (List.getD z97 (Int.toNat x5) Ty.rea.dflt))) (Val.text (Rea.result (List.getD z97 (Int.toNat x5) Ty.rea.dflt))) (Val.list (Rea.result (List.getD z97 (Int.toNat x5) Ty.rea.dflt))) (Val.columns (Rea.result (List.getD z97 (Int.toNat x5) Ty.rea.dflt))) (Val.rows (Rea.result (List.getD z97 (Int.toNat x5) Ty.rea.dflt)))))) ((fun (z96 : List Rea) => List.set z96 (Int.toNat x5) (Rea.mk (Rea.kind (List.getD z96 (Int.toNat x5) Ty.rea.dflt)) (Rea.n (List.getD z96 (Int.toNat x5) Ty.rea.dflt)) (Rea.time (List.getD z96 (Int.toNat x5) Ty.rea.dflt)) r1 (Val.re (Rea.result (List.getD z96 (Int.toNat x5) Ty.rea.dflt))))) ((fun (z95 : List Rea) => List.set z95 (Int.toNat x5) (Rea.mk (Rea.kind (List.getD z95 (Int.toNat x5) Ty.rea.dflt)) (Rea.n (List.getD z95 (Int.toNat x5) Ty.rea.dflt)) (IntKind.i64.wrap ((IntKind.i64.wrap (x1 + 1)) + 1)) (Rea.text (List.getD z95 (Int.toNat x5) Ty.rea.dflt)) (Val.re (Rea.result (List.getD z95 (Int.toNat x5) Ty.rea.dflt))))) ((fun (z94 : List Rea) => List.set z94 (Int.toNat x5) (Rea.mk (Rea.kind (List.getD z94 (Int.toNat x5) Ty.rea.dflt)) (IntKind.i64.wrap (x1 + 1)) (Rea.time (List.getD z94 (Int.toNat x5) Ty.rea.dflt)) (Rea.text (List.getD z94 (Int.toNat x5) Ty.rea.dflt)) (Val.re (Rea.result (List.getD z94 (Int.toNat x5) Ty.rea.dflt))))) (List.set x0 (Int.toNat x5) (Rea.mk x1 (Rea.n (List.getD x0 (Int.toNat x5) Ty.rea.dflt)) (Rea.time (List.getD x0 (Int.toNat x5) Ty.rea.dflt)) (Rea.text (List.getD x0 (Int.toNat x5) Ty.rea.dflt)) (Val.re (Rea.result (List.getD x0 (Int.toNat x5) Ty.rea.dflt))))))))))))) then
      Option.bind (xD4 N (Val.list (Rea.result (List.getD ((fun (z100 : List Rea) => List.set z100 (Int.toNat x5) (Rea.mk (Rea.kind (List.getD z100 (Int.toNat x5) Ty.rea.dflt)) (Rea.n (List.getD z100 (Int.toNat x5) Ty.rea.dflt)) (Rea.time (List.getD z100 (Int.toNat x5) Ty.rea.dflt)) (Rea.text (List.getD z100 (Int.toNat x5) Ty.rea.dflt)) (Val.mk (Val.kind (Rea.result (List.getD z100 (Int.toNat x5) Ty.rea.dflt))) (Val.n (Rea.result (List.getD z100 (Int.toNat x5) Ty.rea.dflt))) (Val.step (Rea.result (List.getD z100 (Int.toNat x5) Ty.rea.dflt))) r2 (Val.list (Rea.result (List.getD z100 (Int.toNat x5) Ty.rea.dflt))) (Val.columns (Rea.result (List.getD z100 (Int.toNat x5) Ty.rea.dflt))) (Val.rows (Rea.result (List.getD z100 (Int.toNat x5) Ty.rea.dflt)))))) ((fun (z99 : List Rea) => List.set z99 (Int.toNat x5) (Rea.mk (Rea.kind (List.getD z99 (Int.toNat x5) Ty.rea.dflt)) (Rea.n (List.getD z99 (Int.toNat x5) Ty.rea.dflt)) (Rea.time (List.getD z99 (Int.toNat x5) Ty.rea.dflt)) (Rea.text (List.getD z99 (Int.toNat x5) Ty.rea.dflt)) (Val.mk (Val.kind (Rea.result (List.getD z99 (Int.toNat x5) Ty.rea.dflt))) (Val.n (Rea.result (List.getD z99 (Int.toNat x5) Ty.rea.dflt))) (IntKind.i64.wrap ((IntKind.i64.wrap ((IntKind.i64.wrap ((IntKind.i64.wrap ((IntKind.i64.wrap ((IntKind.i64.wrap (x1 + 1)) + 1)) + 1)) + 1)) + 1)) + 1)) (Val.text (Rea.result (List.getD z99 (Int.toNat x5) Ty.rea.dflt))) (Val.list (Rea.result (List.getD z99 (Int.toNat x5) Ty.rea.dflt))) (Val.columns (Rea.result (List.getD z99 (Int.toNat x5) Ty.rea.dflt))) (Val.rows (Rea.result (List.getD z99 (Int.toNat x5) Ty.rea.dflt)))))) ((fun (z98 : List Rea) => List.set z98 (Int.toNat x5) (Rea.mk (Rea.kind (List.getD z98 (Int.toNat x5) Ty.rea.dflt)) (Rea.n (List.getD z98 (Int.toNat x5) Ty.rea.dflt)) (Rea.time (List.getD z98 (Int.toNat x5) Ty.rea.dflt)) (Rea.text (List.getD z98 (Int.toNat x5) Ty.rea.dflt)) (Val.mk (Val.kind (Rea.result (List.getD z98 (Int.toNat x5) Ty.rea.dflt))) (IntKind.i64.wrap ((IntKind.i64.wrap ((IntKind.i64.wrap ((IntKind.i64.wrap ((IntKind.i64.wrap (x1 + 1)) + 1)) + 1)) + 1)) + 1)) (Val.step (Rea.result (List.getD z98 (Int.toNat x5) Ty.rea.dflt))) (Val.text (Rea.result (List.getD z98 (Int.toNat x5) Ty.rea.dflt))) (Val.list (Rea.result (List.getD z98 (Int.toNat x5) Ty.rea.dflt))) (Val.columns (Rea.result (List.getD z98 (Int.toNat x5) Ty.rea.dflt))) (Val.rows (Rea.result (List.getD z98 (Int.toNat x5) Ty.rea.dflt)))))) ((fun (z97 : List Rea) => List.set z97 (Int.toNat x5) (Rea.mk (Rea.kind (List.getD z97 (Int.toNat x5) Ty.rea.dflt)) (Rea.n (List.getD z97 (Int.toNat x5) Ty.rea.dflt)) (Rea.time (List.getD z97 (Int.toNat x5) Ty.rea.dflt)) (Rea.text (List.getD z97 (Int.toNat x5) Ty.rea.dflt)) (Val.mk (IntKind.i64.wrap ((IntKind.i64.wrap ((IntKind.i64.wrap ((IntKind.i64.wrap (x1 + 1)) + 1)) + 1)) + 1)) (Val.n (Rea.result (List.getD z97 (Int.toNat x5) Ty.rea.dflt))) (Val.step (Rea.result (List.getD z97 (Int.toNat x5) Ty.rea.dflt))) (Val.text (Rea.result (List.getD z97 (Int.toNat x5) Ty.rea.dflt))) (Val.list (Rea.result (List.getD z97 (Int.toNat x5) Ty.rea.dflt))) (Val.columns (Rea.result (List.getD z97 (Int.toNat x5) Ty.rea.dflt))) (Val.rows (Rea.result (List.getD z97 (Int.toNat x5) Ty.rea.dflt)))))) ((fun (z96 : List Rea) => List.set z96 (Int.toNat x5) (Rea.mk (Rea.kind (List.getD z96 (Int.toNat x5) Ty.rea.dflt)) (Rea.n (List.getD z96 (Int.toNat x5) Ty.rea.dflt)) (Rea.time (List.getD z96 (Int.toNat x5) Ty.rea.dflt)) r1 (Val.re (Rea.result (List.getD z96 (Int.toNat x5) Ty.rea.dflt))))) ((fun (z95 : List Rea) => List.set z95 (Int.toNat x5) (Rea.mk (Rea.kind (List.getD z95 (Int.toNat x5) Ty.rea.dflt)) (Rea.n (List.getD z95 (Int.toNat x5) Ty.rea.dflt)) (IntKind.i64.wrap ((IntKind.i64.wrap (x1 + 1)) + 1)) (Rea.text (List.getD z95 (Int.toNat x5) Ty.rea.dflt)) (Val.re (Rea.result (List.getD z95 (Int.toNat x5) Ty.rea.dflt))))) ((fun (z94 : List Rea) => List.set z94 (Int.toNat x5) (Rea.mk (Rea.kind (List.getD z94 (Int.toNat x5) Ty.rea.dflt)) (IntKind.i64.wrap (x1 + 1)) (Rea.time (List.getD z94 (Int.toNat x5) Ty.rea.dflt)) (Rea.text (List.getD z94 (Int.toNat x5) Ty.rea.dflt)) (Val.re (Rea.result (List.getD z94 (Int.toNat x5) Ty.rea.dflt))))) (List.set x0 (Int.toNat x5) (Rea.mk x1 (Rea.n (List.getD x0 (Int.toNat x5) Ty.rea.dflt)) (Rea.time (List.getD x0 (Int.toNat x5) Ty.rea.dflt)) (Rea.text (List.getD x0 (Int.toNat x5) Ty.rea.dflt)) (Val.re (Rea.result (List.getD x0 (Int.toNat x5) Ty.rea.dflt)))))))))))) (Int.toNat x5) Ty.rea.dflt))) (IntKind.i64.wrap ((IntKind.i64.wrap ((IntKind.i64.wrap ((IntKind.i64.wrap ((IntKind.i64.wrap ((IntKind.i64.wrap ((IntKind.i64.wrap ((IntKind.i64.wrap (x1 + 1)) + 1)) + 1)) + 1)) + 1)) + 1)) + 1)) + 1))) fun r3 =>
      if List.length r3.2 = List.length (Val.list (Rea.result (List.getD ((fun (z100 : List Rea) => List.set z100 (Int.toNat x5) (Rea.mk (Rea.kind (List.getD z100 (Int.toNat x5) Ty.rea.dflt)) (Rea.n (List.getD z100 (Int.toNat x5) Ty.rea.dflt)) (Rea.time (List.getD z100 (Int.toNat x5) Ty.rea.dflt)) (Rea.text (List.getD z100 (Int.toNat x5) Ty.rea.dflt)) (Val.mk (Val.kind (Rea.result (List.getD z100 (Int.toNat x5) Ty.rea.dflt))) (Val.n (Rea.result (List.getD z100 (Int.toNat x5) Ty.rea.dflt))) (Val.step (Rea.result (List.getD z100 (Int.toNat x5) Ty.rea.dflt))) r2 (Val.list (Rea.result (List.getD z100 (Int.toNat x5) Ty.rea.dflt))) (Val.columns (Rea.result (List.getD z100 (Int.toNat x5) Ty.rea.dflt))) (Val.rows (Rea.result (List.getD z100 (Int.toNat x5) Ty.rea.dflt)))))) ((fun (z99 : List Rea) => List.set z99 (Int.toNat x5) (Rea.mk (Rea.kind (List.getD z99 (Int.toNat x5) Ty.rea.dflt)) (Rea.n (List.getD z99 (Int.toNat x5) Ty.rea.dflt)) (Rea.time (List.getD z99 (Int.toNat x5) Ty.rea.dflt)) (Rea.text (List.getD z99 (Int.toNat x5) Ty.rea.dflt)) (Val.mk (Val.kind (Rea.result (List.getD z99 (Int.toNat x5) Ty.rea.dflt))) (Val.n (Rea.result (List.getD z99 (Int.toNat x5) Ty.rea.dflt))) (IntKind.i64.wrap ((IntKind.i64.wrap ((IntKind.i64.wrap ((IntKind.i64.wrap ((IntKind.i64.wrap ((IntKind.i64.wrap (x1 + 1)) + 1)) + 1)) + 1)) + 1)) + 1)) (Val.text (Rea.result (List.getD z99 (Int.toNat x5) Ty.rea.dflt))) (Val.list (Rea.result (List.getD z99 (Int.toNat x5) Ty.rea.dflt))) (Val.columns (Rea.result (List.getD z99 (Int.toNat x5) Ty.rea.dflt))) (Val.rows (Rea.result (List.getD z99 (Int.toNat x5) Ty.rea.dflt)))))) ((fun (z98 : List Rea) => List.set z98 (Int.toNat x5) (Rea.mk (Rea.kind (List.getD z98 (Int.toNat x5) Ty.rea.dflt)) (Rea.n (List.getD z98 (Int.toNat x5) Ty.rea.dflt)) (Rea.time (List.getD z98 (Int.toNat x5) Ty.rea.dflt)) (Rea.text (List.getD z98 (Int.toNat x5) Ty.rea.dflt)) (Val.mk (Val.kind (Rea.result (List.getD z98 (Int.toNat x5) Ty.rea.dflt))) (IntKind.i64.wrap ((IntKind.i64.wrap ((IntKind.i64.wrap ((IntKind.i64.wrap ((IntKind.i64.wrap (x1 + 1)) + 1)) + 1)) + 1)) + 1)) (Val.step (Rea.result (List.getD z98 (Int.toNat x5) Ty.rea.dflt))) (Val.text (Rea.result (List.getD z98 (Int.toNat x5) Ty.rea.dflt))) (Val.list (Rea.result (List.getD z98 (Int.toNat x5) Ty.rea.dflt))) (Val.columns (Rea.result (List.getD z98 (Int.toNat x5) Ty.rea.dflt))) (Val.rows (Rea.result (List.getD z98 (Int.toNat x5) Ty.rea.dflt)))))) ((fun (z97 : List Rea) => List.set z97 (Int.toNat x5) (Rea.mk (Rea.kind (List.getD z97 (Int.toNat x5) Ty.rea.dflt)) (Rea.n (List.getD z97 (Int.toNat x5) Ty.rea.dflt)) (Rea.time (List.getD z97 (Int.toNat x5) Ty.rea.dflt)) (Rea.text (List.getD z97 (Int.toNat x5) Ty.rea.dflt)) (Val.mk (IntKind.i64.wrap ((IntKind.i64.wrap ((IntKind.i64.wrap ((IntKind.i64.wrap (x1 + 1)) + 1)) + 1)) + 1)) (Val.n (Rea.result (List.getD z97 (Int.toNat x5) Ty.rea.dflt))) (Val.step (Rea.result (List.getD z97 (Int.toNat x5) Ty.rea.dflt))) (Val.text (Rea.result (List.getD z97 (Int.toNat x5) Ty.rea.dflt))) (Val.list (Rea.result (List.getD z97 (Int.toNat x5) Ty.rea.dflt))) (Val.columns (Rea.result (List.getD z97 (Int.toNat x5) Ty.rea.dflt))) (Val.rows (Rea.result (List.getD z97 (Int.toNat x5) Ty.rea.dflt)))))) ((fun (z96 : List Rea) => List.set z96 (Int.toNat x5) (Rea.mk (Rea.kind (List.getD z96 (Int.toNat x5) Ty.rea.dflt)) (Rea.n (List.getD z96 (Int.toNat x5) Ty.rea.dflt)) (Rea.time (List.getD z96 (Int.toNat x5) Ty.rea.dflt)) r1 (Val.re (Rea.result (List.getD z96 (Int.toNat x5) Ty.rea.dflt))))) ((fun (z95 : List Rea) => List.set z95 (Int.toNat x5) (Rea.mk (Rea.kind (List.getD z95 (Int.toNat x5) Ty.rea.dflt)) (Rea.n (List.getD z95 (Int.toNat x5) Ty.rea.dflt)) (IntKind.i64.wrap ((IntKind.i64.wrap (x1 + 1)) + 1)) (Rea.text (List.getD z95 (Int.toNat x5) Ty.rea.dflt)) (Val.re (Rea.result (List.getD z95 (Int.toNat x5) Ty.rea.dflt))))) ((fun (z94 : List Rea) => List.set z94 (Int.toNat x5) (Rea.mk (Rea.kind (List.getD z94 (Int.toNat x5) Ty.rea.dflt)) (IntKind.i64.wrap (x1 + 1)) (Rea.time (List.getD z94 (Int.toNat x5) Ty.rea.dflt)) (Rea.text (List.getD z94 (Int.toNat x5) Ty.rea.dflt)) (Val.re (Rea.result (List.getD z94 (Int.toNat x5) Ty.rea.dflt))))) (List.set x0 (Int.toNat x5) (Rea.mk x1 (Rea.n (List.getD x0 (Int.toNat x5) Ty.rea.dflt)) (Rea.time (List.getD x0 (Int.toNat x5) Ty.rea.dflt)) (Rea.text (List.getD x0 (Int.toNat x5) Ty.rea.dflt)) (Val.re (Rea.result (List.getD x0 (Int.toNat x5) Ty.rea.dflt)))))))))))) (Int.toNat x5) Ty.rea.dflt))) then
      if (0 : Int) ≤ x5 ∧ x5 < (List.length ((fun (z101 : List Rea) => List.set z101 (Int.toNat x5) (Rea.mk (Rea.kind (List.getD z101 (Int.toNat x5) Ty.rea.dflt)) (Rea.n (List.getD z101 (Int.toNat x5) Ty.rea.dflt)) (Rea.time (List.getD z101 (Int.toNat x5) Ty.rea.dflt)) (Rea.text (List.getD z101 (Int.toNat x5) Ty.rea.dflt)) (Val.mk (Val.kind (Rea.result (List.getD z101 (Int.toNat x5) Ty.rea.dflt))) (Val.n (Rea.result (List.getD z101 (Int.toNat x5) Ty.rea.dflt))) (Val.step (Rea.result (List.getD z101 (Int.toNat x5) Ty.rea.dflt))) (Val.text (Rea.result (List.getD z101 (Int.toNat x5) Ty.rea.dflt))) r3.2 (Val.columns (Rea.result (List.getD z101 (Int.toNat x5) Ty.rea.dflt))) (Val.rows (Rea.result (List.getD z101 (Int.toNat x5) Ty.rea.dflt)))))) ((fun (z100 : List Rea) => List.set z100 (Int.toNat x5) (Rea.mk (Rea.kind (List.getD z100 (Int.toNat x5) Ty.rea.dflt)) (Rea.n (List.getD z100 (Int.toNat x5) Ty.rea.dflt)) (Rea.time (List.getD z100 (Int.toNat x5) Ty.rea.dflt)) (Rea.text (List.getD z100 (Int.toNat x5) Ty.rea.dflt)) (Val.mk (Val.kind (Rea.result (List.getD z100 (Int.toNat x5) Ty.rea.dflt))) (Val.n (Rea.result (List.getD z100 (Int.toNat x5) Ty.rea.dflt))) (Val.step (Rea.result (List.getD z100 (Int.toNat x5) Ty.rea.dflt))) r2 (Val.list (Rea.result (List.getD z100 (Int.toNat x5) Ty.rea.dflt))) (Val.columns (Rea.result (List.getD z100 (Int.toNat x5) Ty.rea.dflt))) (Val.rows (Rea.result (List.getD z100 (Int.toNat x5) Ty.rea.dflt)))))) ((fun (z99 : List Rea) => List.set z99 (Int.toNat x5) (Rea.mk (Rea.kind (List.getD z99 (Int.toNat x5) Ty.rea.dflt)) (Rea.n (List.getD z99 (Int.toNat x5) Ty.rea.dflt)) (Rea.time (List.getD z99 (Int.toNat x5) Ty.rea.dflt)) (Rea.text (List.getD z99 (Int.toNat x5) Ty.rea.dflt)) (Val.mk (Val.kind (Rea.result (List.getD z99 (Int.toNat x5) Ty.rea.dflt))) (Val.n (Rea.result (List.getD z99 (Int.toNat x5) Ty.rea.dflt))) (IntKind.i64.wrap ((IntKind.i64.wrap ((IntKind.i64.wrap ((IntKind.i64.wrap ((IntKind.i64.wrap ((IntKind.i64.wrap (x1 + 1)) + 1)) + 1)) + 1)) + 1)) + 1)) (Val.text (Rea.result (List.getD z99 (Int.toNat x5) Ty.rea.dflt))) (Val.list (Rea.result (List.getD z99 (Int.toNat x5) Ty.rea.dflt))) (Val.columns (Rea.result (List.getD z99 (Int.toNat x5) Ty.rea.dflt))) (Val.rows (Rea.result (List.getD z99 (Int.toNat x5) Ty.rea.dflt)))))) ((fun (z98 : List Rea) => List.set z98 (Int.toNat x5) (Rea.mk (Rea.kind (List.getD z98 (Int.toNat x5) Ty.rea.dflt)) (Rea.n (List.getD z98 (Int.toNat x5) Ty.rea.dflt)) (Rea.time (List.getD z98 (Int.toNat x5) Ty.rea.dflt)) (Rea.text (List.getD z98 (Int.toNat x5) Ty.rea.dflt)) (Val.mk (Val.kind (Rea.result (List.getD z98 (Int.toNat x5) Ty.rea.dflt))) (IntKind.i64.wrap ((IntKind.i64.wrap ((IntKind.i64.wrap ((IntKind.i64.wrap ((IntKind.i64.wrap (x1 + 1)) + 1)) + 1)) + 1)) + 1)) (Val.step (Rea.result (List.getD z98 (Int.toNat x5) Ty.rea.dflt))) (Val.text (Rea.result (List.getD z98 (Int.toNat x5) Ty.rea.dflt))) (Val.list (Rea.result (List.getD z98 (Int.toNat x5) Ty.rea.dflt))) (Val.columns (Rea.result (List.getD z98 (Int.toNat x5) Ty.rea.dflt))) (Val.rows (Rea.result (List.getD z98 (Int.toNat x5) Ty.rea.dflt)))))) ((fun (z97 : List Rea) => List.set z97 (Int.toNat x5) (Rea.mk (Rea.kind (List.getD z97 (Int.toNat x5) Ty.rea.dflt)) (Rea.n (List.getD z97 (Int.toNat x5) Ty.rea.dflt)) (Rea.time (List.getD z97 (Int.toNat x5) Ty.rea.dflt)) (Rea.text (List.getD z97 (Int.toNat x5) Ty.rea.dflt)) (Val.mk (IntKind.i64.wrap ((IntKind.i64.wrap ((IntKind.i64.wrap ((IntKind.i64.wrap (x1 + 1)) + 1)) + 1)) + 1)) (Val.n (Rea.result (List.getD z97 (Int.toNat x5) Ty.rea.dflt))) (Val.step (Rea.result (List.getD z97 (Int.toNat x5) Ty.rea.dflt))) (Val.text (Rea.result (List.getD z97 (Int.toNat x5) Ty.rea.dflt))) (Val.list (Rea.result (List.getD z97 (Int.toNat x5) Ty.rea.dflt))) (Val.columns (Rea.result (List.getD z97 (Int.toNat x5) Ty.rea.dflt))) (Val.rows (Rea.result (List.getD z97 (Int.toNat x5) Ty.rea.dflt)))))) ((fun (z96 : List Rea) => List.set z96 (Int.toNat x5) (Rea.mk (Rea.kind (List.getD z96 (Int.toNat x5) Ty.rea.dflt)) (Rea.n (List.getD z96 (Int.toNat x5) Ty.rea.dflt)) (Rea.time (List.getD z96 (Int.toNat x5) Ty.rea.dflt)) r1 (Val.re (Rea.result (List.getD z96 (Int.toNat x5) Ty.rea.dflt))))) ((fun (z95 : List Rea) => List.set z95 (Int.toNat x5) (Rea.mk (Rea.kind (List.getD z95 (Int.toNat x5) Ty.rea.dflt)) (Rea.n (List.getD z95 (Int.toNat x5) Ty.rea.dflt)) (IntKind.i64.wrap ((IntKind.i64.wrap (x1 + 1)) + 1)) (Rea.text (List.getD z95 (Int.toNat x5) Ty.rea.dflt)) (Val.re (Rea.result (List.getD z95 (Int.toNat x5) Ty.rea.dflt))))) ((fun (z94 : List Rea) => List.set z94 (Int.toNat x5) (Rea.mk (Rea.kind (List.getD z94 (Int.toNat x5) Ty.rea.dflt)) (IntKind.i64.wrap (x1 + 1)) (Rea.time (List.getD z94 (Int.toNat x5) Ty.rea.dflt)) (Rea.text (List.getD z94 (Int.toNat x5) Ty.rea.dflt)) (Val.re (Rea.result (List.getD z94 (Int.toNat x5) Ty.rea.dflt))))) (List.set x0 (Int.toNat x5) (Rea.mk x1 (Rea.n (List.getD x0 (Int.toNat x5) Ty.rea.dflt)) (Rea.time (List.getD x0 (Int.toNat x5) Ty.rea.dflt)) (Rea.text (List.getD x0 (Int.toNat x5) Ty.rea.dflt)) (Val.re (Rea.result (List.getD x0 (Int.toNat x5) Ty.rea.dflt)))))))))))))) then
      Option.bind (xCq N (Val.columns (Rea.result (List.getD ((fun (z101 : List Rea) => List.set z101 (Int.toNat x5) (Rea.mk (Rea.kind (List.getD z101 (Int.toNat x5) Ty.rea.dflt)) (Rea.n (List.getD z101 (Int.toNat x5) Ty.rea.dflt)) (Rea.time (List.getD z101 (Int.toNat x5) Ty.rea.dflt)) (Rea.text (List.getD z101 (Int.toNat x5) Ty.rea.dflt)) (Val.mk (Val.kind (Rea.result (List.getD z101 (Int.toNat x5) Ty.rea.dflt))) (Val.n (Rea.result (List.getD z101 (Int.toNat x5) Ty.rea.dflt))) (Val.step (Rea.result (List.getD z101 (Int.toNat x5) Ty.rea.dflt))) (Val.text (Rea.result (List.getD z101 (Int.toNat x5) Ty.rea.dflt))) r3.2 (Val.columns (Rea.result (List.getD z101 (Int.toNat x5) Ty.rea.dflt))) (Val.rows (Rea.result (List.getD z101 (Int.toNat x5) Ty.rea.dflt)))))) ((fun (z100 : List Rea) => List.set z100 (Int.toNat x5) (Rea.mk (Rea.kind (List.getD z100 (Int.toNat x5) Ty.rea.dflt)) (Rea.n (List.getD z100 (Int.toNat x5) Ty.rea.dflt)) (Rea.time (List.getD z100 (Int.toNat x5) Ty.rea.dflt)) (Rea.text (List.getD z100 (Int.toNat x5) Ty.rea.dflt)) (Val.mk (Val.kind (Rea.result (List.getD z100 (Int.toNat x5) Ty.rea.dflt))) (Val.n (Rea.result (List.getD z100 (Int.toNat x5) Ty.rea.dflt))) (Val.step (Rea.result (List.getD z100 (Int.toNat x5) Ty.rea.dflt))) r2 (Val.list (Rea.result (List.getD z100 (Int.toNat x5) Ty.rea.dflt))) (Val.columns (Rea.result (List.getD z100 (Int.toNat x5) Ty.rea.dflt))) (Val.rows (Rea.result (List.getD z100 (Int.toNat x5) Ty.rea.dflt)))))) ((fun (z99 : List Rea) => List.set z99 (Int.toNat x5) (Rea.mk (Rea.kind (List.getD z99 (Int.toNat x5) Ty.rea.dflt)) (Rea.n (List.getD z99 (Int.toNat x5) Ty.rea.dflt)) (Rea.time (List.getD z99 (Int.toNat x5) Ty.rea.dflt)) (Rea.text (List.getD z99 (Int.toNat x5) Ty.rea.dflt)) (Val.mk (Val.kind (Rea.result (List.getD z99 (Int.toNat x5) Ty.rea.dflt))) (Val.n (Rea.result (List.getD z99 (Int.toNat x5) Ty.rea.dflt))) (IntKind.i64.wrap ((IntKind.i64.wrap ((IntKind.i64.wrap ((IntKind.i64.wrap ((IntKind.i64.wrap ((IntKind.i64.wrap (x1 + 1)) + 1)) + 1)) + 1)) + 1)) + 1)) (Val.text (Rea.result (List.getD z99 (Int.toNat x5) Ty.rea.dflt))) (Val.list (Rea.result (List.getD z99 (Int.toNat x5) Ty.rea.dflt))) (Val.columns (Rea.result (List.getD z99 (Int.toNat x5) Ty.rea.dflt))) (Val.rows (Rea.result (List.getD z99 (Int.toNat x5) Ty.rea.dflt)))))) ((fun (z98 : List Rea) => List.set z98 (Int.toNat x5) (Rea.mk (Rea.kind (List.getD z98 (Int.toNat x5) Ty.rea.dflt)) (Rea.n (List.getD z98 (Int.toNat x5) Ty.rea.dflt)) (Rea.time (List.getD z98 (Int.toNat x5) Ty.rea.dflt)) (Rea.text (List.getD z98 (Int.toNat x5) Ty.rea.dflt)) (Val.mk (Val.kind (Rea.result (List.getD z98 (Int.toNat x5) Ty.rea.dflt))) (IntKind.i64.wrap ((IntKind.i64.wrap ((IntKind.i64.wrap ((IntKind.i64.wrap ((IntKind.i64.wrap (x1 + 1)) + 1)) + 1)) + 1)) + 1)) (Val.step (Rea.result (List.getD z98 (Int.toNat x5) Ty.rea.dflt))) (Val.text (Rea.result (List.getD z98 (Int.toNat x5) Ty.rea.dflt))) (Val.list (Rea.result (List.getD z98 (Int.toNat x5) Ty.rea.dflt))) (Val.columns (Rea.result (List.getD z98 (Int.toNat x5) Ty.rea.dflt))) (Val.rows (Rea.result (List.getD z98 (Int.toNat x5) Ty.rea.dflt)))))) ((fun (z97 : List Rea) => List.set z97 (Int.toNat x5) (Rea.mk (Rea.kind (List.getD z97 (Int.toNat x5) Ty.rea.dflt)) (Rea.n (List.getD z97 (Int.toNat x5) Ty.rea.dflt)) (Rea.time (List.getD z97 (Int.toNat x5) Ty.rea.dflt)) (Rea.text (List.getD z97 (Int.toNat x5) Ty.rea.dflt)) (Val.mk (IntKind.i64.wrap ((IntKind.i64.wrap ((IntKind.i64.wrap ((IntKind.i64.wrap (x1 + 1)) + 1)) + 1)) + 1)) (Val.n (Rea.result (List.getD z97 (Int.toNat x5) Ty.rea.dflt))) (Val.step (Rea.result (List.getD z97 (Int.toNat x5) Ty.rea.dflt))) (Val.text (Rea.result (List.getD z97 (Int.toNat x5) Ty.rea.dflt))) (Val.list (Rea.result (List.getD z97 (Int.toNat x5) Ty.rea.dflt))) (Val.columns (Rea.result (List.getD z97 (Int.toNat x5) Ty.rea.dflt))) (Val.rows (Rea.result (List.getD z97 (Int.toNat x5) Ty.rea.dflt)))))) ((fun (z96 : List Rea) => List.set z96 (Int.toNat x5) (Rea.mk (Rea.kind (List.getD z96 (Int.toNat x5) Ty.rea.dflt)) (Rea.n (List.getD z96 (Int.toNat x5) Ty.rea.dflt)) (Rea.time (List.getD z96 (Int.toNat x5) Ty.rea.dflt)) r1 (Val.re (Rea.result (List.getD z96 (Int.toNat x5) Ty.rea.dflt))))) ((fun (z95 : List Rea) => List.set z95 (Int.toNat x5) (Rea.mk (Rea.kind (List.getD z95 (Int.toNat x5) Ty.rea.dflt)) (Rea.n (List.getD z95 (Int.toNat x5) Ty.rea.dflt)) (IntKind.i64.wrap ((IntKind.i64.wrap (x1 + 1)) + 1)) (Rea.text (List.getD z95 (Int.toNat x5) Ty.rea.dflt)) (Val.re (Rea.result (List.getD z95 (Int.toNat x5) Ty.rea.dflt))))) ((fun (z94 : List Rea) => List.set z94 (Int.toNat x5) (Rea.mk (Rea.kind (List.getD z94 (Int.toNat x5) Ty.rea.dflt)) (IntKind.i64.wrap (x1 + 1)) (Rea.time (List.getD z94 (Int.toNat x5) Ty.rea.dflt)) (Rea.text (List.getD z94 (Int.toNat x5) Ty.rea.dflt)) (Val.re (Rea.result (List.getD z94 (Int.toNat x5) Ty.rea.dflt))))) (List.set x0 (Int.toNat x5) (Rea.mk x1 (Rea.n (List.getD x0 (Int.toNat x5) Ty.rea.dflt)) (Rea.time (List.getD x0 (Int.toNat x5) Ty.rea.dflt)) (Rea.text (List.getD x0 (Int.toNat x5) Ty.rea.dflt)) (Val.re (Rea.result (List.getD x0 (Int.toNat x5) Ty.rea.dflt))))))))))))) (Int.toNat x5) Ty.rea.dflt))) r3.1) fun r4 =>
      if List.length r4.2 = List.length (Val.columns (Rea.result (List.getD ((fun (z101 : List Rea) => List.set z101 (Int.toNat x5) (Rea.mk (Rea.kind (List.getD z101 (Int.toNat x5) Ty.rea.dflt)) (Rea.n (List.getD z101 (Int.toNat x5) Ty.rea.dflt)) (Rea.time (List.getD z101 (Int.toNat x5) Ty.rea.dflt)) (Rea.text (List.getD z101 (Int.toNat x5) Ty.rea.dflt)) (Val.mk (Val.kind (Rea.result (List.getD z101 (Int.toNat x5) Ty.rea.dflt))) (Val.n (Rea.result (List.getD z101 (Int.toNat x5) Ty.rea.dflt))) (Val.step (Rea.result (List.getD z101 (Int.toNat x5) Ty.rea.dflt))) (Val.text (Rea.result (List.getD z101 (Int.toNat x5) Ty.rea.dflt))) r3.2 (Val.columns (Rea.result (List.getD z101 (Int.toNat x5) Ty.rea.dflt))) (Val.rows (Rea.result (List.getD z101 (Int.toNat x5) Ty.rea.dflt)))))) ((fun (z100 : List Rea) => List.set z100 (Int.toNat x5) (Rea.mk (Rea.kind (List.getD z100 (Int.toNat x5) Ty.rea.dflt)) (Rea.n (List.getD z100 (Int.toNat x5) Ty.rea.dflt)) (Rea.time (List.getD z100 (Int.toNat x5) Ty.rea.dflt)) (Rea.text (List.getD z100 (Int.toNat x5) Ty.rea.dflt)) (Val.mk (Val.kind (Rea.result (List.getD z100 (Int.toNat x5) Ty.rea.dflt))) (Val.n (Rea.result (List.getD z100 (Int.toNat x5) Ty.rea.dflt))) (Val.step (Rea.result (List.getD z100 (Int.toNat x5) Ty.rea.dflt))) r2 (Val.list (Rea.result (List.getD z100 (Int.toNat x5) Ty.rea.dflt))) (Val.columns (Rea.result (List.getD z100 (Int.toNat x5) Ty.rea.dflt))) (Val.rows (Rea.result (List.getD z100 (Int.toNat x5) Ty.rea.dflt)))))) ((fun (z99 : List Rea) => List.set z99 (Int.toNat x5) (Rea.mk (Rea.kind (List.getD z99 (Int.toNat x5) Ty.rea.dflt)) (Rea.n (List.getD z99 (Int.toNat x5) Ty.rea.dflt)) (Rea.time (List.getD z99 (Int.toNat x5) Ty.rea.dflt)) (Rea.text (List.getD z99 (Int.toNat x5) Ty.rea.dflt)) (Val.mk (Val.kind (Rea.result (List.getD z99 (Int.toNat x5) Ty.rea.dflt))) (Val.n (Rea.result (List.getD z99 (Int.toNat x5) Ty.rea.dflt))) (IntKind.i64.wrap ((IntKind.i64.wrap ((IntKind.i64.wrap ((IntKind.i64.wrap ((IntKind.i64.wrap ((IntKind.i64.wrap (x1 + 1)) + 1)) + 1)) + 1)) + 1)) + 1)) (Val.text (Rea.result (List.getD z99 (Int.toNat x5) Ty.rea.dflt))) (Val.list (Rea.result (List.getD z99 (Int.toNat x5) Ty.rea.dflt))) (Val.columns (Rea.result (List.getD z99 (Int.toNat x5) Ty.rea.dflt))) (Val.rows (Rea.result (List.getD z99 (Int.toNat x5) Ty.rea.dflt)))))) ((fun (z98 : List Rea) => List.set z98 (Int.toNat x5) (Rea.mk (Rea.kind (List.getD z98 (Int.toNat x5) Ty.rea.dflt)) (Rea.n (List.getD z98 (Int.toNat x5) Ty.rea.dflt)) (Rea.time (List.getD z98 (Int.toNat x5) Ty.rea.dflt)) (Rea.text (List.getD z98 (Int.toNat x5) Ty.rea.dflt)) (Val.mk (Val.kind (Rea.result (List.getD z98 (Int.toNat x5) Ty.rea.dflt))) (IntKind.i64.wrap ((IntKind.i64.wrap ((IntKind.i64.wrap ((IntKind.i64.wrap ((IntKind.i64.wrap (x1 + 1)) + 1)) + 1)) + 1)) + 1)) (Val.step (Rea.result (List.getD z98 (Int.toNat x5) Ty.rea.dflt))) (Val.text (Rea.result (List.getD z98 (Int.toNat x5) Ty.rea.dflt))) (Val.list (Rea.result (List.getD z98 (Int.toNat x5) Ty.rea.dflt))) (Val.columns (Rea.result (List.getD z98 (Int.toNat x5) Ty.rea.dflt))) (Val.rows (Rea.result (List.getD z98 (Int.toNat x5) Ty.rea.dflt)))))) ((fun (z97 : List Rea) => List.set z97 (Int.toNat x5) (Rea.mk (Rea.kind (List.getD z97 (Int.toNat x5) Ty.rea.dflt)) (Rea.n (List.getD z97 (Int.toNat x5) Ty.rea.dflt)) (Rea.time (List.getD z97 (Int.toNat x5) Ty.rea.dflt)) (Rea.text (List.getD z97 (Int.toNat x5) Ty.rea.dflt)) (Val.mk (IntKind.i64.wrap ((IntKind.i64.wrap ((IntKind.i64.wrap ((IntKind.i64.wrap (x1 + 1)) + 1)) + 1)) + 1)) (Val.n (Rea.result (List.getD z97 (Int.toNat x5) Ty.rea.dflt))) (Val.step (Rea.result (List.getD z97 (Int.toNat x5) Ty.rea.dflt))) (Val.text (Rea.result (List.getD z97 (Int.toNat x5) Ty.rea.dflt))) (Val.list (Rea.result (List.getD z97 (Int.toNat x5) Ty.rea.dflt))) (Val.columns (Rea.result (List.getD z97 (Int.toNat x5) Ty.rea.dflt))) (Val.rows (Rea.result (List.getD z97 (Int.toNat x5) Ty.rea.dflt)))))) ((fun (z96 : List Rea) => List.set z96 (Int.toNat x5) (Rea.mk (Rea.kind (List.getD z96 (Int.toNat x5) Ty.rea.dflt)) (Rea.n (List.getD z96 (Int.toNat x5) Ty.rea.dflt)) (Rea.time (List.getD z96 (Int.toNat x5) Ty.rea.dflt)) r1 (Val.re (Rea.result (List.getD z96 (Int.toNat x5) Ty.rea.dflt))))) ((fun (z95 : List Rea) => List.set z95 (Int.toNat x5) (Rea.mk (Rea.kind (List.getD z95 (Int.toNat x5) Ty.rea.dflt)) (Rea.n (List.getD z95 (Int.toNat x5) Ty.rea.dflt)) (IntKind.i64.wrap ((IntKind.i64.wrap (x1 + 1)) + 1)) (Rea.text (List.getD z95 (Int.toNat x5) Ty.rea.dflt)) (Val.re (Rea.result (List.getD z95 (Int.toNat x5) Ty.rea.dflt))))) ((fun (z94 : List Rea) => List.set z94 (Int.toNat x5) (Rea.mk (Rea.kind (List.getD z94 (Int.toNat x5) Ty.rea.dflt)) (IntKind.i64.wrap (x1 + 1)) (Rea.time (List.getD z94 (Int.toNat x5) Ty.rea.dflt)) (Rea.text (List.getD z94 (Int.toNat x5) Ty.rea.dflt)) (Val.re (Rea.result (List.getD z94 (Int.toNat x5) Ty.rea.dflt))))) (List.set x0 (Int.toNat x5) (Rea.mk x1 (Rea.n (List.getD x0 (Int.toNat x5) Ty.rea.dflt)) (Rea.time (List.getD x0 (Int.toNat x5) Ty.rea.dflt)) (Rea.text (List.getD x0 (Int.toNat x5) Ty.rea.dflt)) (Val.re (Rea.result (List.getD x0 (Int.toNat x5) Ty.rea.dflt))))))))))))) (Int.toNat x5) Ty.rea.dflt))) then
      if (0 : Int) ≤ x5 ∧ x5 < (List.length ((fun (z102 : List Rea) => List.set z102 (Int.toNat x5) (Rea.mk (Rea.kind (List.getD z102 (Int.toNat x5) Ty.rea.dflt)) (Rea.n (List.getD z102 (Int.toNat x5) Ty.rea.dflt)) (Rea.time (List.getD z102 (Int.toNat x5) Ty.rea.dflt)) (Rea.text (List.getD z102 (Int.toNat x5) Ty.rea.dflt)) (Val.mk (Val.kind (Rea.result (List.getD z102 (Int.toNat x5) Ty.rea.dflt))) (Val.n (Rea.result (List.getD z102 (Int.toNat x5) Ty.rea.dflt))) (Val.step (Rea.result (List.getD z102 (Int.toNat x5) Ty.rea.dflt))) (Val.text (Rea.result (List.getD z102 (Int.toNat x5) Ty.rea.dflt))) (Val.list (Rea.result (List.getD z102 (Int.toNat x5) Ty.rea.dflt))) r4.2 (Val.rows (Rea.result (List.getD z102 (Int.toNat x5) Ty.rea.dflt)))))) ((fun (z101 : List Rea) => List.set z101 (Int.toNat x5) (Rea.mk (Rea.kind (List.getD z101 (Int.toNat x5) Ty.rea.dflt)) (Rea.n (List.getD z101 (Int.toNat x5) Ty.rea.dflt)) (Rea.time (List.getD z101 (Int.toNat x5) Ty.rea.dflt)) (Rea.text (List.getD z101 (Int.toNat x5) Ty.rea.dflt)) (Val.mk (Val.kind (Rea.result (List.getD z101 (Int.toNat x5) Ty.rea.dflt))) (Val.n (Rea.result (List.getD z101 (Int.toNat x5) Ty.rea.dflt))) (Val.step (Rea.result (List.getD z101 (Int.toNat x5) Ty.rea.dflt))) (Val.text (Rea.result (List.getD z101 (Int.toNat x5) Ty.rea.dflt))) r3.2 (Val.columns (Rea.result (List.getD z101 (Int.toNat x5) Ty.rea.dflt))) (Val.rows (Rea.result (List.getD z101 (Int.toNat x5) Ty.rea.dflt)))))) ((fun (z100 : List Rea) => List.set z100 (Int.toNat x5) (Rea.mk (Rea.kind (List.getD z100 (Int.toNat x5) Ty.rea.dflt)) (Rea.n (List.getD z100 (Int.toNat x5) Ty.rea.dflt)) (Rea.time (List.getD z100 (Int.toNat x5) Ty.rea.dflt)) (Rea.text (List.getD z100 (Int.toNat x5) Ty.rea.dflt)) (Val.mk (Val.kind (Rea.result (List.getD z100 (Int.toNat x5) Ty.rea.dflt))) (Val.n (Rea.result (List.getD z100 (Int.toNat x5) Ty.rea.dflt))) (Val.step (Rea.result (List.getD z100 (Int.toNat x5) Ty.rea.dflt))) r2 (Val.list (Rea.result (List.getD z100 (Int.toNat x5) Ty.rea.dflt))) (Val.columns (Rea.result (List.getD z100 (Int.toNat x5) Ty.rea.dflt))) (Val.rows (Rea.result (List.getD z100 (Int.toNat x5) Ty.rea.dflt)))))) ((fun (z99 : List Rea) => List.set z99 (Int.toNat x5) (Rea.mk (Rea.kind (List.getD z99 (Int.toNat x5) Ty.rea.dflt)) (Rea.n (List.getD z99 (Int.toNat x5) Ty.rea.dflt)) (Rea.time (List.getD z99 (Int.toNat x5) Ty.rea.dflt)) (Rea.text (List.getD z99 (Int.toNat x5) Ty.rea.dflt)) (Val.mk (Val.kind (Rea.result (List.getD z99 (Int.toNat x5) Ty.rea.dflt))) (Val.n (Rea.result (List.getD z99 (Int.toNat x5) Ty.rea.dflt))) (IntKind.i64.wrap ((IntKind.i64.wrap ((IntKind.i64.wrap ((IntKind.i64.wrap ((IntKind.i64.wrap ((IntKind.i64.wrap (x1 + 1)) + 1)) + 1)) + 1)) + 1)) + 1)) (Val.text (Rea.result (List.getD z99 (Int.toNat x5) Ty.rea.dflt))) (Val.list (Rea.result (List.getD z99 (Int.toNat x5) Ty.rea.dflt))) (Val.columns (Rea.result (List.getD z99 (Int.toNat x5) Ty.rea.dflt))) (Val.rows (Rea.result (List.getD z99 (Int.toNat x5) Ty.rea.dflt)))))) ((fun (z98 : List Rea) => List.set z98 (Int.toNat x5) (Rea.mk (Rea.kind (List.getD z98 (Int.toNat x5) Ty.rea.dflt)) (Rea.n (List.getD z98 (Int.toNat x5) Ty.rea.dflt)) (Rea.time (List.getD z98 (Int.toNat x5) Ty.rea.dflt)) (Rea.text (List.getD z98 (Int.toNat x5) Ty.rea.dflt)) (Val.mk (Val.kind (Rea.result (List.getD z98 (Int.toNat x5) Ty.rea.dflt))) (IntKind.i64.wrap ((IntKind.i64.wrap ((IntKind.i64.wrap ((IntKind.i64.wrap ((IntKind.i64.wrap (x1 + 1)) + 1)) + 1)) + 1)) + 1)) (Val.step (Rea.result (List.getD z98 (Int.toNat x5) Ty.rea.dflt))) (Val.text (Rea.result (List.getD z98 (Int.toNat x5) Ty.rea.dflt))) (Val.list (Rea.result (List.getD z98 (Int.toNat x5) Ty.rea.dflt))) (Val.columns (Rea.result (List.getD z98 (Int.toNat x5) Ty.rea.dflt))) (Val.rows (Rea.result (List.getD z98 (Int.toNat x5) Ty.rea.dflt)))))) ((fun (z97 : List Rea) => List.set z97 (Int.toNat x5) (Rea.mk (Rea.kind (List.getD z97 (Int.toNat x5) Ty.rea.dflt)) (Rea.n (List.getD z97 (Int.toNat x5) Ty.rea.dflt)) (Rea.time (List.getD z97 (Int.toNat x5) Ty.rea.dflt)) (Rea.text (List.getD z97 (Int.toNat x5) Ty.rea.dflt)) (Val.mk (IntKind.i64.wrap ((IntKind.i64.wrap ((IntKind.i64.wrap ((IntKind.i64.wrap (x1 + 1)) + 1)) + 1)) + 1)) (Val.n (Rea.result (List.getD z97 (Int.toNat x5) Ty.rea.dflt))) (Val.step (Rea.result (List.getD z97 (Int.toNat x5) Ty.rea.dflt))) (Val.text (Rea.result (List.getD z97 (Int.toNat x5) Ty.rea.dflt))) (Val.list (Rea.result (List.getD z97 (Int.toNat x5) Ty.rea.dflt))) (Val.columns (Rea.result (List.getD z97 (Int.toNat x5) Ty.rea.dflt))) (Val.rows (Rea.result (List.getD z97 (Int.toNat x5) Ty.rea.dflt)))))) ((fun (z96 : List Rea) => List.set z96 (Int.toNat x5) (Rea.mk (Rea.kind (List.getD z96 (Int.toNat x5) Ty.rea.dflt)) (Rea.n (List.getD z96 (Int.toNat x5) Ty.rea.dflt)) (Rea.time (List.getD z96 (Int.toNat x5) Ty.rea.dflt)) r1 (Val.re (Rea.result (List.getD z96 (Int.toNat x5) Ty.rea.dflt))))) ((fun (z95 : List Rea) => List.set z95 (Int.toNat x5) (Rea.mk (Rea.kind (List.getD z95 (Int.toNat x5) Ty.rea.dflt)) (Rea.n (List.getD z95 (Int.toNat x5) Ty.rea.dflt)) (IntKind.i64.wrap ((IntKind.i64.wrap (x1 + 1)) + 1)) (Rea.text (List.getD z95 (Int.toNat x5) Ty.rea.dflt)) (Val.re (Rea.result (List.getD z95 (Int.toNat x5) Ty.rea.dflt))))) ((fun (z94 : List Rea) => List.set z94 (Int.toNat x5) (Rea.mk (Rea.kind (List.getD z94 (Int.toNat x5) Ty.rea.dflt)) (IntKind.i64.wrap (x1 + 1)) (Rea.time (List.getD z94 (Int.toNat x5) Ty.rea.dflt)) (Rea.text (List.getD z94 (Int.toNat x5) Ty.rea.dflt)) (Val.re (Rea.result (List.getD z94 (Int.toNat x5) Ty.rea.dflt))))) (List.set x0 (Int.toNat x5) (Rea.mk x1 (Rea.n (List.getD x0 (Int.toNat x5) Ty.rea.dflt)) (Rea.time (List.getD x0 (Int.toNat x5) Ty.rea.dflt)) (Rea.text (List.getD x0 (Int.toNat x5) Ty.rea.dflt)) (Val.re (Rea.result (List.getD x0 (Int.toNat x5) Ty.rea.dflt))))))))))))))) then
      Option.bind (xDd N (Val.rows (Rea.result (List.getD ((fun (z102 : List Rea) => List.set z102 (Int.toNat x5) (Rea.mk (Rea.kind (List.getD z102 (Int.toNat x5) Ty.rea.dflt)) (Rea.n (List.getD z102 (Int.toNat x5) Ty.rea.dflt)) (Rea.time (List.getD z102 (Int.toNat x5) Ty.rea.dflt)) (Rea.text (List.getD z102 (Int.toNat x5) Ty.rea.dflt)) (Val.mk (Val.kind (Rea.result (List.getD z102 (Int.toNat x5) Ty.rea.dflt))) (Val.n (Rea.result (List.getD z102 (Int.toNat x5) Ty.rea.dflt))) (Val.step (Rea.result (List.getD z102 (Int.toNat x5) Ty.rea.dflt))) (Val.text (Rea.result (List.getD z102 (Int.toNat x5) Ty.rea.dflt))) (Val.list (Rea.result (List.getD z102 (Int.toNat x5) Ty.rea.dflt))) r4.2 (Val.rows (Rea.result (List.getD z102 (Int.toNat x5) Ty.rea.dflt)))))) ((fun (z101 : List Rea) => List.set z101 (Int.toNat x5) (Rea.mk (Rea.kind (List.getD z101 (Int.toNat x5) Ty.rea.dflt)) (Rea.n (List.getD z101 (Int.toNat x5) Ty.rea.dflt)) (Rea.time (List.getD z101 (Int.toNat x5) Ty.rea.dflt)) (Rea.text (List.getD z101 (Int.toNat x5) Ty.rea.dflt)) (Val.mk (Val.kind (Rea.result (List.getD z101 (Int.toNat x5) Ty.rea.dflt))) (Val.n (Rea.result (List.getD z101 (Int.toNat x5) Ty.rea.dflt))) (Val.step (Rea.result (List.getD z101 (Int.toNat x5) Ty.rea.dflt))) (Val.text (Rea.result (List.getD z101 (Int.toNat x5) Ty.rea.dflt))) r3.2 (Val.columns (Rea.result (List.getD z101 (Int.toNat x5) Ty.rea.dflt))) (Val.rows (Rea.result (List.getD z101 (Int.toNat x5) Ty.rea.dflt)))))) ((fun (z100 : List Rea) => List.set z100 (Int.toNat x5) (Rea.mk (Rea.kind (List.getD z100 (Int.toNat x5) Ty.rea.dflt)) (Rea.n (List.getD z100 (Int.toNat x5) Ty.rea.dflt)) (Rea.time (List.getD z100 (Int.toNat x5) Ty.rea.dflt)) (Rea.text (List.getD z100 (Int.toNat x5) Ty.rea.dflt)) (Val.mk (Val.kind (Rea.result (List.getD z100 (Int.toNat x5) Ty.rea.dflt))) (Val.n (Rea.result (List.getD z100 (Int.toNat x5) Ty.rea.dflt))) (Val.step (Rea.result (List.getD z100 (Int.toNat x5) Ty.rea.dflt))) r2 (Val.list (Rea.result (List.getD z100 (Int.toNat x5) Ty.rea.dflt))) (Val.columns (Rea.result (List.getD z100 (Int.toNat x5) Ty.rea.dflt))) (Val.rows (Rea.result (List.getD z100 (Int.toNat x5) Ty.rea.dflt)))))) ((fun (z99 : List Rea) => List.set z99 (Int.toNat x5) (Rea.mk (Rea.kind (List.getD z99 (Int.toNat x5) Ty.rea.dflt)) (Rea.n (List.getD z99 (Int.toNat x5) Ty.rea.dflt)) (Rea.time (List.getD z99 (Int.toNat x5) Ty.rea.dflt)) (Rea.text (List.getD z99 (Int.toNat x5) Ty.rea.dflt)) (Val.mk (Val.kind (Rea.result (List.getD z99 (Int.toNat x5) Ty.rea.dflt))) (Val.n (Rea.result (List.getD z99 (Int.toNat x5) Ty.rea.dflt))) (IntKind.i64.wrap ((IntKind.i64.wrap ((IntKind.i64.wrap ((IntKind.i64.wrap ((IntKind.i64.wrap ((IntKind.i64.wrap (x1 + 1)) + 1)) + 1)) + 1)) + 1)) + 1)) (Val.text (Rea.result (List.getD z99 (Int.toNat x5) Ty.rea.dflt))) (Val.list (Rea.result (List.getD z99 (Int.toNat x5) Ty.rea.dflt))) (Val.columns (Rea.result (List.getD z99 (Int.toNat x5) Ty.rea.dflt))) (Val.rows (Rea.result (List.getD z99 (Int.toNat x5) Ty.rea.dflt)))))) ((fun (z98 : List Rea) => List.set z98 (Int.toNat x5) (Rea.mk (Rea.kind (List.getD z98 (Int.toNat x5) Ty.rea.dflt)) (Rea.n (List.getD z98 (Int.toNat x5) Ty.rea.dflt)) (Rea.time (List.getD z98 (Int.toNat x5) Ty.rea.dflt)) (Rea.text (List.getD z98 (Int.toNat x5) Ty.rea.dflt)) (Val.mk (Val.kind (Rea.result (List.getD z98 (Int.toNat x5) Ty.rea.dflt))) (IntKind.i64.wrap ((IntKind.i64.wrap ((IntKind.i64.wrap ((IntKind.i64.wrap ((IntKind.i64.wrap (x1 + 1)) + 1)) + 1)) + 1)) + 1)) (Val.step (Rea.result (List.getD z98 (Int.toNat x5) Ty.rea.dflt))) (Val.text (Rea.result (List.getD z98 (Int.toNat x5) Ty.rea.dflt))) (Val.list (Rea.result (List.getD z98 (Int.toNat x5) Ty.rea.dflt))) (Val.columns (Rea.result (List.getD z98 (Int.toNat x5) Ty.rea.dflt))) (Val.rows (Rea.result (List.getD z98 (Int.toNat x5) Ty.rea.dflt)))))) ((fun (z97 : List Rea) => List.set z97 (Int.toNat x5) (Rea.mk (Rea.kind (List.getD z97 (Int.toNat x5) Ty.rea.dflt)) (Rea.n (List.getD z97 (Int.toNat x5) Ty.rea.dflt)) (Rea.time (List.getD z97 (Int.toNat x5) Ty.rea.dflt)) (Rea.text (List.getD z97 (Int.toNat x5) Ty.rea.dflt)) (Val.mk (IntKind.i64.wrap ((IntKind.i64.wrap ((IntKind.i64.wrap ((IntKind.i64.wrap (x1 + 1)) + 1)) + 1)) + 1)) (Val.n (Rea.result (List.getD z97 (Int.toNat x5) Ty.rea.dflt))) (Val.step (Rea.result (List.getD z97 (Int.toNat x5) Ty.rea.dflt))) (Val.text (Rea.result (List.getD z97 (Int.toNat x5) Ty.rea.dflt))) (Val.list (Rea.result (List.getD z97 (Int.toNat x5) Ty.rea.dflt))) (Val.columns (Rea.result (List.getD z97 (Int.toNat x5) Ty.rea.dflt))) (Val.rows (Rea.result (List.getD z97 (Int.toNat x5) Ty.rea.dflt)))))) ((fun (z96 : List Rea) => List.set z96 (Int.toNat x5) (Rea.mk (Rea.kind (List.getD z96 (Int.toNat x5) Ty.rea.dflt)) (Rea.n (List.getD z96 (Int.toNat x5) Ty.rea.dflt)) (Rea.time (List.getD z96 (Int.toNat x5) Ty.rea.dflt)) r1 (Val.re (Rea.result (List.getD z96 (Int.toNat x5) Ty.rea.dflt))))) ((fun (z95 : List Rea) => List.set z95 (Int.toNat x5) (Rea.mk (Rea.kind (List.getD z95 (Int.toNat x5) Ty.rea.dflt)) (Rea.n (List.getD z95 (Int.toNat x5) Ty.rea.dflt)) (IntKind.i64.wrap ((IntKind.i64.wrap (x1 + 1)) + 1)) (Rea.text (List.getD z95 (Int.toNat x5) Ty.rea.dflt)) (Val.re (Rea.result (List.getD z95 (Int.toNat x5) Ty.rea.dflt))))) ((fun (z94 : List Rea) => List.set z94 (Int.toNat x5) (Rea.mk (Rea.kind (List.getD z94 (Int.toNat x5) Ty.rea.dflt)) (IntKind.i64.wrap (x1 + 1)) (Rea.time (List.getD z94 (Int.toNat x5) Ty.rea.dflt)) (Rea.text (List.getD z94 (Int.toNat x5) Ty.rea.dflt)) (Val.re (Rea.result (List.getD z94 (Int.toNat x5) Ty.rea.dflt))))) (List.set x0 (Int.toNat x5) (Rea.mk x1 (Rea.n (List.getD x0 (Int.toNat x5) Ty.rea.dflt)) (Rea.time (List.getD x0 (Int.toNat x5) Ty.rea.dflt)) (Rea.text (List.getD x0 (Int.toNat x5) Ty.rea.dflt)) (Val.re (Rea.result (List.getD x0 (Int.toNat x5) Ty.rea.dflt)))))))))))))) (Int.toNat x5) Ty.rea.dflt))) r4.1) fun r5 =>
      if List.length r5.2 = List.length (Val.rows (Rea.result (List.getD ((fun (z102 : List Rea) => List.set z102 (Int.toNat x5) (Rea.mk (Rea.kind (List.getD z102 (Int.toNat x5) Ty.rea.dflt)) (Rea.n (List.getD z102 (Int.toNat x5) Ty.rea.dflt)) (Rea.time (List.getD z102 (Int.toNat x5) Ty.rea.dflt)) (Rea.text (List.getD z102 (Int.toNat x5) Ty.rea.dflt)) (Val.mk (Val.kind (Rea.result (List.getD z102 (Int.toNat x5) Ty.rea.dflt))) (Val.n (Rea.result (List.getD z102 (Int.toNat x5) Ty.rea.dflt))) (Val.step (Rea.result (List.getD z102 (Int.toNat x5) Ty.rea.dflt))) (Val.text (Rea.result (List.getD z102 (Int.toNat x5) Ty.rea.dflt))) (Val.list (Rea.result (List.getD z102 (Int.toNat x5) Ty.rea.dflt))) r4.2 (Val.rows (Rea.result (List.getD z102 (Int.toNat x5) Ty.rea.dflt)))))) ((fun (z101 : List Rea) => List.set z101 (Int.toNat x5) (Rea.mk (Rea.kind (List.getD z101 (Int.toNat x5) Ty.rea.dflt)) (Rea.n (List.getD z101 (Int.toNat x5) Ty.rea.dflt)) (Rea.time (List.getD z101 (Int.toNat x5) Ty.rea.dflt)) (Rea.text (List.getD z101 (Int.toNat x5) Ty.rea.dflt)) (Val.mk (Val.kind (Rea.result (List.getD z101 (Int.toNat x5) Ty.rea.dflt))) (Val.n (Rea.result (List.getD z101 (Int.toNat x5) Ty.rea.dflt))) (Val.step (Rea.result (List.getD z101 (Int.toNat x5) Ty.rea.dflt))) (Val.text (Rea.result (List.getD z101 (Int.toNat x5) Ty.rea.dflt))) r3.2 (Val.columns (Rea.result (List.getD z101 (Int.toNat x5) Ty.rea.dflt))) (Val.rows (Rea.result (List.getD z101 (Int.toNat x5) Ty.rea.dflt)))))) ((fun (z100 : List Rea) => List.set z100 (Int.toNat x5) (Rea.mk (Rea.kind (List.getD z100 (Int.toNat x5) Ty.rea.dflt)) (Rea.n (List.getD z100 (Int.toNat x5) Ty.rea.dflt)) (Rea.time (List.getD z100 (Int.toNat x5) Ty.rea.dflt)) (Rea.text (List.getD z100 (Int.toNat x5) Ty.rea.dflt)) (Val.mk (Val.kind (Rea.result (List.getD z100 (Int.toNat x5) Ty.rea.dflt))) (Val.n (Rea.result (List.getD z100 (Int.toNat x5) Ty.rea.dflt))) (Val.step (Rea.result (List.getD z100 (Int.toNat x5) Ty.rea.dflt))) r2 (Val.list (Rea.result (List.getD z100 (Int.toNat x5) Ty.rea.dflt))) (Val.columns (Rea.result (List.getD z100 (Int.toNat x5) Ty.rea.dflt))) (Val.rows (Rea.result (List.getD z100 (Int.toNat x5) Ty.rea.dflt)))))) ((fun (z99 : List Rea) => List.set z99 (Int.toNat x5) (Rea.mk (Rea.kind (List.getD z99 (Int.toNat x5) Ty.rea.dflt)) (Rea.n (List.getD z99 (Int.toNat x5) Ty.rea.dflt)) (Rea.time (List.getD z99 (Int.toNat x5) Ty.rea.dflt)) (Rea.text (List.getD z99 (Int.toNat x5) Ty.rea.dflt)) (Val.mk (Val.kind (Rea.result (List.getD z99 (Int.toNat x5) Ty.rea.dflt))) (Val.n (Rea.result (List.getD z99 (Int.toNat x5) Ty.rea.dflt))) (IntKind.i64.wrap ((IntKind.i64.wrap ((IntKind.i64.wrap ((IntKind.i64.wrap ((IntKind.i64.wrap ((IntKind.i64.wrap (x1 + 1)) + 1)) + 1)) + 1)) + 1)) + 1)) (Val.text (Rea.result (List.getD z99 (Int.toNat x5) Ty.rea.dflt))) (Val.list (Rea.result (List.getD z99 (Int.toNat x5) Ty.rea.dflt))) (Val.columns (Rea.result (List.getD z99 (Int.toNat x5) Ty.rea.dflt))) (Val.rows (Rea.result (List.getD z99 (Int.toNat x5) Ty.rea.dflt)))))) ((fun (z98 : List Rea) => List.set z98 (Int.toNat x5) (Rea.mk (Rea.kind (List.getD z98 (Int.toNat x5) Ty.rea.dflt)) (Rea.n (List.getD z98 (Int.toNat x5) Ty.rea.dflt)) (Rea.time (List.getD z98 (Int.toNat x5) Ty.rea.dflt)) (Rea.text (List.getD z98 (Int.toNat x5) Ty.rea.dflt)) (Val.mk (Val.kind (Rea.result (List.getD z98 (Int.toNat x5) Ty.rea.dflt))) (IntKind.i64.wrap ((IntKind.i64.wrap ((IntKind.i64.wrap ((IntKind.i64.wrap ((IntKind.i64.wrap (x1 + 1)) + 1)) + 1)) + 1)) + 1)) (Val.step (Rea.result (List.getD z98 (Int.toNat x5) Ty.rea.dflt))) (Val.text (Rea.result (List.getD z98 (Int.toNat x5) Ty.rea.dflt))) (Val.list (Rea.result (List.getD z98 (Int.toNat x5) Ty.rea.dflt))) (Val.columns (Rea.result (List.getD z98 (Int.toNat x5) Ty.rea.dflt))) (Val.rows (Rea.result (List.getD z98 (Int.toNat x5) Ty.rea.dflt)))))) ((fun (z97 : List Rea) => List.set z97 (Int.toNat x5) (Rea.mk (Rea.kind (List.getD z97 (Int.toNat x5) Ty.rea.dflt)) (Rea.n (List.getD z97 (Int.toNat x5) Ty.rea.dflt)) (Rea.time (List.getD z97 (Int.toNat x5) Ty.rea.dflt)) (Rea.text (List.getD z97 (Int.toNat x5) Ty.rea.dflt)) (Val.mk (IntKind.i64.wrap ((IntKind.i64.wrap ((IntKind.i64.wrap ((IntKind.i64.wrap (x1 + 1)) + 1)) + 1)) + 1)) (Val.n (Rea.result (List.getD z97 (Int.toNat x5) Ty.rea.dflt))) (Val.step (Rea.result (List.getD z97 (Int.toNat x5) Ty.rea.dflt))) (Val.text (Rea.result (List.getD z97 (Int.toNat x5) Ty.rea.dflt))) (Val.list (Rea.result (List.getD z97 (Int.toNat x5) Ty.rea.dflt))) (Val.columns (Rea.result (List.getD z97 (Int.toNat x5) Ty.rea.dflt))) (Val.rows (Rea.result (List.getD z97 (Int.toNat x5) Ty.rea.dflt)))))) ((fun (z96 : List Rea) => List.set z96 (Int.toNat x5) (Rea.mk (Rea.kind (List.getD z96 (Int.toNat x5) Ty.rea.dflt)) (Rea.n (List.getD z96 (Int.toNat x5) Ty.rea.dflt)) (Rea.time (List.getD z96 (Int.toNat x5) Ty.rea.dflt)) r1 (Val.re (Rea.result (List.getD z96 (Int.toNat x5) Ty.rea.dflt))))) ((fun (z95 : List Rea) => List.set z95 (Int.toNat x5) (Rea.mk (Rea.kind (List.getD z95 (Int.toNat x5) Ty.rea.dflt)) (Rea.n (List.getD z95 (Int.toNat x5) Ty.rea.dflt)) (IntKind.i64.wrap ((IntKind.i64.wrap (x1 + 1)) + 1)) (Rea.text (List.getD z95 (Int.toNat x5) Ty.rea.dflt)) (Val.re (Rea.result (List.getD z95 (Int.toNat x5) Ty.rea.dflt))))) ((fun (z94 : List Rea) => List.set z94 (Int.toNat x5) (Rea.mk (Rea.kind (List.getD z94 (Int.toNat x5) Ty.rea.dflt)) (IntKind.i64.wrap (x1 + 1)) (Rea.time (List.getD z94 (Int.toNat x5) Ty.rea.dflt)) (Rea.text (List.getD z94 (Int.toNat x5) Ty.rea.dflt)) (Val.re (Rea.result (List.getD z94 (Int.toNat x5) Ty.rea.dflt))))) (List.set x0 (Int.toNat x5) (Rea.mk x1 (Rea.n (List.getD x0 (Int.toNat x5) Ty.rea.dflt)) (Rea.time (List.getD x0 (Int.toNat x5) Ty.rea.dflt)) (Rea.text (List.getD x0 (Int.toNat x5) Ty.rea.dflt)) (Val.re (Rea.result (List.getD x0 (Int.toNat x5) Ty.rea.dflt)))))))))))))) (Int.toNat x5) Ty.rea.dflt))) then
      (xBQ N n ((fun (z103 : List Rea) => List.set z103 (Int.toNat x5) (Rea.mk (Rea.kind (List.getD z103 (Int.toNat x5) Ty.rea.dflt)) (Rea.n (List.getD z103 (Int.toNat x5) Ty.rea.dflt)) (Rea.time (List.getD z103 (Int.toNat x5) Ty.rea.dflt)) (Rea.text (List.getD z103 (Int.toNat x5) Ty.rea.dflt)) (Val.mk (Val.kind (Rea.result (List.getD z103 (Int.toNat x5) Ty.rea.dflt))) (Val.n (Rea.result (List.getD z103 (Int.toNat x5) Ty.rea.dflt))) (Val.step (Rea.result (List.getD z103 (Int.toNat x5) Ty.rea.dflt))) (Val.text (Rea.result (List.getD z103 (Int.toNat x5) Ty.rea.dflt))) (Val.list (Rea.result (List.getD z103 (Int.toNat x5) Ty.rea.dflt))) (Val.columns (Rea.result (List.getD z103 (Int.toNat x5) Ty.rea.dflt))) r5.2))) ((fun (z102 : List Rea) => List.set z102 (Int.toNat x5) (Rea.mk (Rea.kind (List.getD z102 (Int.toNat x5) Ty.rea.dflt)) (Rea.n (List.getD z102 (Int.toNat x5) Ty.rea.dflt)) (Rea.time (List.getD z102 (Int.toNat x5) Ty.rea.dflt)) (Rea.text (List.getD z102 (Int.toNat x5) Ty.rea.dflt)) (Val.mk (Val.kind (Rea.result (List.getD z102 (Int.toNat x5) Ty.rea.dflt))) (Val.n (Rea.result (List.getD z102 (Int.toNat x5) Ty.rea.dflt))) (Val.step (Rea.result (List.getD z102 (Int.toNat x5) Ty.rea.dflt))) (Val.text (Rea.result (List.getD z102 (Int.toNat x5) Ty.rea.dflt))) (Val.list (Rea.result (List.getD z102 (Int.toNat x5) Ty.rea.dflt))) r4.2 (Val.rows (Rea.result (List.getD z102 (Int.toNat x5) Ty.rea.dflt)))))) ((fun (z101 : List Rea) => List.set z101 (Int.toNat x5) (Rea.mk (Rea.kind (List.getD z101 (Int.toNat x5) Ty.rea.dflt)) (Rea.n (List.getD z101 (Int.toNat x5) Ty.rea.dflt)) (Rea.time (List.getD z101 (Int.toNat x5) Ty.rea.dflt)) (Rea.text (List.getD z101 (Int.toNat x5) Ty.rea.dflt)) (Val.mk (Val.kind (Rea.result (List.getD z101 (Int.toNat x5) Ty.rea.dflt))) (Val.n (Rea.result (List.getD z101 (Int.toNat x5) Ty.rea.dflt))) (Val.step (Rea.result (List.getD z101 (Int.toNat x5) Ty.rea.dflt))) (Val.text (Rea.result (List.getD z101 (Int.toNat x5) Ty.rea.dflt))) r3.2 (Val.columns (Rea.result (List.getD z101 (Int.toNat x5) Ty.rea.dflt))) (Val.rows (Rea.result (List.getD z101 (Int.toNat x5) Ty.rea.dflt)))))) ((fun (z100 : List Rea) => List.set z100 (Int.toNat x5) (Rea.mk (Rea.kind (List.getD z100 (Int.toNat x5) Ty.rea.dflt)) (Rea.n (List.getD z100 (Int.toNat x5) Ty.rea.dflt)) (Rea.time (List.getD z100 (Int.toNat x5) Ty.rea.dflt)) (Rea.text (List.getD z100 (Int.toNat x5) Ty.rea.dflt)) (Val.mk (Val.kind (Rea.result (List.getD z100 (Int.toNat x5) Ty.rea.dflt))) (Val.n (Rea.result (List.getD z100 (Int.toNat x5) Ty.rea.dflt))) (Val.step (Rea.result (List.getD z100 (Int.toNat x5) Ty.rea.dflt))) r2 (Val.list (Rea.result (List.getD z100 (Int.toNat x5) Ty.rea.dflt))) (Val.columns (Rea.result (List.getD z100 (Int.toNat x5) Ty.rea.dflt))) (Val.rows (Rea.result (List.getD z100 (Int.toNat x5) Ty.rea.dflt)))))) ((fun (z99 : List Rea) => List.set z99 (Int.toNat x5) (Rea.mk (Rea.kind (List.getD z99 (Int.toNat x5) Ty.rea.dflt)) (Rea.n (List.getD z99 (Int.toNat x5) Ty.rea.dflt)) (Rea.time (List.getD z99 (Int.toNat x5) Ty.rea.dflt)) (Rea.text (List.getD z99 (Int.toNat x5) Ty.rea.dflt)) (Val.mk (Val.kind (Rea.result (List.getD z99 (Int.toNat x5) Ty.rea.dflt))) (Val.n (Rea.result (List.getD z99 (Int.toNat x5) Ty.rea.dflt))) (IntKind.i64.wrap ((IntKind.i64.wrap ((IntKind.i64.wrap ((IntKind.i64.wrap ((IntKind.i64.wrap ((IntKind.i64.wrap (x1 + 1)) + 1)) + 1)) + 1)) + 1)) + 1)) (Val.text (Rea.result (List.getD z99 (Int.toNat x5) Ty.rea.dflt))) (Val.list (Rea.result (List.getD z99 (Int.toNat x5) Ty.rea.dflt))) (Val.columns (Rea.result (List.getD z99 (Int.toNat x5) Ty.rea.dflt))) (Val.rows (Rea.result (List.getD z99 (Int.toNat x5) Ty.rea.dflt)))))) ((fun (z98 : List Rea) => List.set z98 (Int.toNat x5) (Rea.mk (Rea.kind (List.getD z98 (Int.toNat x5) Ty.rea.dflt)) (Rea.n (List.getD z98 (Int.toNat x5) Ty.rea.dflt)) (Rea.time (List.getD z98 (Int.toNat x5) Ty.rea.dflt)) (Rea.text (List.getD z98 (Int.toNat x5) Ty.rea.dflt)) (Val.mk (Val.kind (Rea.result (List.getD z98 (Int.toNat x5) Ty.rea.dflt))) (IntKind.i64.wrap ((IntKind.i64.wrap ((IntKind.i64.wrap ((IntKind.i64.wrap ((IntKind.i64.wrap (x1 + 1)) + 1)) + 1)) + 1)) + 1)) (Val.step (Rea.result (List.getD z98 (Int.toNat x5) Ty.rea.dflt))) (Val.text (Rea.result (List.getD z98 (Int.toNat x5) Ty.rea.dflt))) (Val.list (Rea.result (List.getD z98 (Int.toNat x5) Ty.rea.dflt))) (Val.columns (Rea.result (List.getD z98 (Int.toNat x5) Ty.rea.dflt))) (Val.rows (Rea.result (List.getD z98 (Int.toNat x5) Ty.rea.dflt)))))) ((fun (z97 : List Rea) => List.set z97 (Int.toNat x5) (Rea.mk (Rea.kind (List.getD z97 (Int.toNat x5) Ty.rea.dflt)) (Rea.n (List.getD z97 (Int.toNat x5) Ty.rea.dflt)) (Rea.time (List.getD z97 (Int.toNat x5) Ty.rea.dflt)) (Rea.text (List.getD z97 (Int.toNat x5) Ty.rea.dflt)) (Val.mk (IntKind.i64.wrap ((IntKind.i64.wrap ((IntKind.i64.wrap ((IntKind.i64.wrap (x1 + 1)) + 1)) + 1)) + 1)) (Val.n (Rea.result (List.getD z97 (Int.toNat x5) Ty.rea.dflt))) (Val.step (Rea.result (List.getD z97 (Int.toNat x5) Ty.rea.dflt))) (Val.text (Rea.result (List.getD z97 (Int.toNat x5) Ty.rea.dflt))) (Val.list (Rea.result (List.getD z97 (Int.toNat x5) Ty.rea.dflt))) (Val.columns (Rea.result (List.getD z97 (Int.toNat x5) Ty.rea.dflt))) (Val.rows (Rea.result (List.getD z97 (Int.toNat x5) Ty.rea.dflt)))))) ((fun (z96 : List Rea) => List.set z96 (Int.toNat x5) (Rea.mk (Rea.kind (List.getD z96 (Int.toNat x5) Ty.rea.dflt)) (Rea.n (List.getD z96 (Int.toNat x5) Ty.rea.dflt)) (Rea.time (List.getD z96 (Int.toNat x5) Ty.rea.dflt)) r1 (Val.re (Rea.result (List.getD z96 (Int.toNat x5) Ty.rea.dflt))))) ((fun (z95 : List Rea) => List.set z95 (Int.toNat x5) (Rea.mk (Rea.kind (List.getD z95 (Int.toNat x5) Ty.rea.dflt)) (Rea.n (List.getD z95 (Int.toNat x5) Ty.rea.dflt)) (IntKind.i64.wrap ((IntKind.i64.wrap (x1 + 1)) + 1)) (Rea.text (List.getD z95 (Int.toNat x5) Ty.rea.dflt)) (Val.re (Rea.result (List.getD z95 (Int.toNat x5) Ty.rea.dflt))))) ((fun (z94 : List Rea) => List.set z94 (Int.toNat x5) (Rea.mk (Rea.kind (List.getD z94 (Int.toNat x5) Ty.rea.dflt)) (IntKind.i64.wrap (x1 + 1)) (Rea.time (List.getD z94 (Int.toNat x5) Ty.rea.dflt)) (Rea.text (List.getD z94 (Int.toNat x5) Ty.rea.dflt)) (Val.re (Rea.result (List.getD z94 (Int.toNat x5) Ty.rea.dflt))))) (List.set x0 (Int.toNat x5) (Rea.mk x1 (Rea.n (List.getD x0 (Int.toNat x5) Ty.rea.dflt)) (Rea.time (List.getD x0 (Int.toNat x5) Ty.rea.dflt)) (Rea.text (List.getD x0 (Int.toNat x5) Ty.rea.dflt)) (Val.re (Rea.result (List.getD x0 (Int.toNat x5) Ty.rea.dflt))))))))))))))) r5.1 (IntKind.i64.wrap (x5 + 1)))
      else none
      else none
      else none
      else none
      else none
      else none
      else none
      else none
      else none
      else none
      else none
      else none
      else none
      else none
    ) else (
      some (x1, x0)
    )
def xCx (N : Nat) (a0 : List Rea) (a1 : Int) : Option (Int × (List Rea)) :=
  (xBQ N N a0 a1 0)
def xAT (a0 : List Rea) (a1 : Int) : List Arg := [.val (.v false [.sl .ro .rea a0]), .val (.v false [.int .i64 a1])]
def xAl (r : Int) : CallO := ⟨.v false [.int .i64 r], [], []⟩
def xBN (N : Nat) : Nat → (List Rea) → Int → Int → Option (Int)
  | 0, _, _, _ => none
  | n + 1, x0, x1, x5 =>
    bif (decide ((x5 : Int) < (List.length x0 : Int))) then (
      if (0 : Int) ≤ x5 ∧ x5 < (List.length x0) then
      bif (((Rea.kind (List.getD x0 (Int.toNat x5) Ty.rea.dflt)) : Int) != x1) then (
        some (-1)
      ) else (
        bif (((Rea.n (List.getD x0 (Int.toNat x5) Ty.rea.dflt)) : Int) != (IntKind.i64.wrap (x1 + 1))) then (
          some (-1)
        ) else (
          bif (((Rea.time (List.getD x0 (Int.toNat x5) Ty.rea.dflt)) : Int) != (IntKind.i64.wrap ((IntKind.i64.wrap (x1 + 1)) + 1))) then (
            some (-1)
          ) else (
            Option.bind (xBe N (IntKind.i64.wrap ((IntKind.i64.wrap ((IntKind.i64.wrap (x1 + 1)) + 1)) + 1))) fun r1 =>
            bif (!(((Rea.text (List.getD x0 (Int.toNat x5) Ty.rea.dflt)) : Str) == r1)) then (
              some (-1)
            ) else (
              bif (((Val.kind (Rea.result (List.getD x0 (Int.toNat x5) Ty.rea.dflt))) : Int) != (IntKind.i64.wrap ((IntKind.i64.wrap ((IntKind.i64.wrap ((IntKind.i64.wrap (x1 + 1)) + 1)) + 1)) + 1))) then (
                some (-1)
              ) else (
                bif (((Val.n (Rea.result (List.getD x0 (Int.toNat x5) Ty.rea.dflt))) : Int) != (IntKind.i64.wrap ((IntKind.i64.wrap ((IntKind.i64.wrap ((IntKind.i64.wrap ((IntKind.i64.wrap (x1 + 1)) + 1)) + 1)) + 1)) + 1))) then (
                  some (-1)
                ) else (
                  bif (((Val.step (Rea.result (List.getD x0 (Int.toNat x5) Ty.rea.dflt))) : Int) != (IntKind.i64.wrap ((IntKind.i64.wrap ((IntKind.i64.wrap ((IntKind.i64.wrap ((IntKind.i64.wrap ((IntKind.i64.wrap (x1 + 1)) + 1)) + 1)) + 1)) + 1)) + 1))) then (
                    some (-1)
                  ) else (
                    Option.bind (xBe N (IntKind.i64.wrap ((IntKind.i64.wrap ((IntKind.i64.wrap ((IntKind.i64.wrap ((IntKind.i64.wrap ((IntKind.i64.wrap ((IntKind.i64.wrap (x1 + 1)) + 1)) + 1)) + 1)) + 1)) + 1)) + 1))) fun r2 =>
                    bif (!(((Val.text (Rea.result (List.getD x0 (Int.toNat x5) Ty.rea.dflt))) : Str) == r2)) then (
                      some (-1)
                    ) else (
                      Option.bind (xD2 N (Val.list (Rea.result (List.getD x0 (Int.toNat x5) Ty.rea.dflt))) (IntKind.i64.wrap ((IntKind.i64.wrap ((IntKind.i64.wrap ((IntKind.i64.wrap ((IntKind.i64.wrap ((IntKind.i64.wrap ((IntKind.i64.wrap ((IntKind.i64.wrap (x1 + 1)) + 1)) + 1)) + 1)) + 1)) + 1)) + 1)) + 1))) fun r3 =>
                      bif (decide ((r3 : Int) < 0)) then (
                        some (-1)
                      ) else (
                        Option.bind (xCo N (Val.columns (Rea.result (List.getD x0 (Int.toNat x5) Ty.rea.dflt))) r3) fun r4 =>
                        bif (decide ((r4 : Int) < 0)) then (
                          some (-1)
                        ) else (
                          Option.bind (xDc N (Val.rows (Rea.result (List.getD x0 (Int.toNat x5) Ty.rea.dflt))) r4) fun r5 =>
                          bif (decide ((r5 : Int) < 0)) then (
                            some (-1)
                          ) else (
                            (xBN N n x0 r5 (IntKind.i64.wrap (x5 + 1)))
                          )
                        )
                      )
                    )
                  )
                )
              )
            )
          )
        )
      )
      else none
    ) else (
      some x1
    )
def xCX (N : Nat) (a0 : List Rea) (a1 : Int) : Option (Int) :=
  (xBN N N a0 a1 0)
def xAq (a0 : List Rea) (a1 : List Rea) : List Arg := [.val (.v false [.sl .ro .rea a0]), .val (.v false [.sl .ro .rea a1])]
def xAr (r : Bool) : CallO := ⟨.v false [.bool r], [], []⟩
def xA6 (N : Nat) (a0 : List Rea) (a1 : List Rea) : Option (Bool) :=
  Option.bind (xDs N a0 1048576) fun r1 =>
  bif (decide ((r1 : Int) < 0)) then (
    some true
  ) else (
    Option.bind (xDs N a1 r1) fun r2 =>
    bif (decide ((r2 : Int) < 0)) then (
      some true
    ) else (
      Option.bind (xBu N a0) fun r3 =>
      Option.bind (xBu N a1) fun r4 =>
      Option.bind (xCI N r3 r4) fun r5 =>
      Option.bind (xBu N a0) fun r6 =>
      Option.bind (xBu N a1) fun r7 =>
      Option.bind (xCf N r6 r7) fun r8 =>
      Option.bind (xB7 N r8 r5) fun r9 =>
      bif (!r9) then (
        some false
      ) else (
        Option.bind (xBu N a0) fun r10 =>
        Option.bind (xB7 N r6 r10) fun r11 =>
        bif (!r11) then (
          some false
        ) else (
          Option.bind (xBu N a1) fun r12 =>
          Option.bind (xB7 N r7 r12) fun r13 =>
          bif (!r13) then (
            some false
          ) else (
            Option.bind (xCx N r6 1) fun r14 =>
            if List.length r14.2 = List.length r6 then
            Option.bind (xCx N r7 r14.1) fun r15 =>
            if List.length r15.2 = List.length r7 then
            bif (decide ((r15.1 : Int) < 0)) then (
              some false
            ) else (
              Option.bind (xB7 N r8 r5) fun r16 =>
              bif (!r16) then (
                some false
              ) else (
                Option.bind (xCx N r8 1) fun r17 =>
                if List.length r17.2 = List.length r8 then
                Option.bind (xCX N r17.2 1) fun r18 =>
                bif (decide ((r18 : Int) < 0)) then (
                  some false
                ) else (
                  bif ((r18 : Int) != r17.1) then (
                    some false
                  ) else (
                    Option.bind (xBu N a0) fun r19 =>
                    Option.bind (xBu N a1) fun r20 =>
                    Option.bind (xCf N r19 r20) fun r21 =>
                    Option.bind (xB7 N r21 r5) fun r22 =>
                    bif (!r22) then (
                      some false
                    ) else (
                      Option.bind (xCX N r17.2 1) fun r23 =>
                      bif (decide ((r23 : Int) < 0)) then (
                        some false
                      ) else (
                        bif ((r23 : Int) != r17.1) then (
                          some false
                        ) else (
                          some true
                        )
                      )
                    )
                  )
                )
                else none
              )
            )
            else none
            else none
          )
        )
      )
    )
  )
end Go.Ab
end
section
open Go.Proofs
namespace Go.Ab.T
abbrev AbC (f : FuncId) (a : List Arg) (r : CallO) : Prop := AbsCalls Try.prog f a r
end Go.Ab.T
end
section
open Go.Proofs
namespace Go.Ab.T
set_option linter.unusedVariables false
set_option maxRecDepth 100000
def tt : TT := [(3, { zero := some [.int .i64 0], ik := some .i64 }),
 (4, { zero := some [.bool false], isBool := true }),
 (5, { zero := some [.int .u8 0], ik := some .u8 }),
 (9, { zero := some [.str []], isStr := true }),
 (22, { zero := some [.sl .own .bnd []], elem := some (100, .bnd) }),
 (24, { zero := some [.sl .own .val []], elem := some (28, .val) }),
 (25, { zero := some [.sl .own .str []], elem := some (9, .str) }),
 (26, { zero := some [.sl .own .row []], elem := some (130, .row) }),
 (28, { sz := 7, agg := true, zero := some [.int .i64 0, .int .i64 0, .int .i64 0, .str [], .sl .own .val [], .sl .own .str [], .sl .own .row []], offs := [0, 1, 2, 3, 4, 5, 6], fsz := [1, 1, 1, 1, 1, 1, 1] }),
 (30, { zero := some [.sl .own .bnd []], elem := some (102, .bnd) }),
 (37, { zero := some [.sl .own .val []], elem := some (40, .val) }),
 (38, { zero := some [.sl .own .row []], elem := some (148, .row) }),
 (40, { sz := 7, agg := true, zero := some [.int .i64 0, .int .i64 0, .int .i64 0, .str [], .sl .own .val [], .sl .own .str [], .sl .own .row []], offs := [0, 1, 2, 3, 4, 5, 6], fsz := [1, 1, 1, 1, 1, 1, 1] }),
 (45, { zero := some [.sl .own .rea []], elem := some (47, .rea) }),
 (47, { sz := 11, agg := true, zero := some [.int .i64 0, .int .i64 0, .int .i64 0, .str [], .int .i64 0, .int .i64 0, .int .i64 0, .str [], .sl .own .val [], .sl .own .str [], .sl .own .row []], offs := [0, 1, 2, 3, 4], fsz := [1, 1, 1, 1, 7] }),
 (52, { zero := some [.sl .own .rea []], elem := some (55, .rea) }),
 (55, { sz := 11, agg := true, zero := some [.int .i64 0, .int .i64 0, .int .i64 0, .str [], .int .i64 0, .int .i64 0, .int .i64 0, .str [], .sl .own .val [], .sl .own .str [], .sl .own .row []], offs := [0, 1, 2, 3, 4], fsz := [1, 1, 1, 1, 7] }),
 (64, { zero := some [.sl .own .fil []], elem := some (152, .fil) }),
 (66, { sz := 3, agg := true, zero := some [.int .i64 0, .int .i64 0, .sl .own .fil []], offs := [0, 1, 2], fsz := [1, 1, 1] }),
 (69, { zero := some [.sl .own .fil []], elem := some (154, .fil) }),
 (71, { sz := 3, agg := true, zero := some [.int .i64 0, .int .i64 0, .sl .own .fil []], offs := [0, 1, 2], fsz := [1, 1, 1] }),
 (80, { zero := some [.sl .own .org []], elem := some (137, .org) }),
 (83, { zero := some [.sl .own .org []], elem := some (127, .org) }),
 (100, { sz := 8, agg := true, zero := some [.str [], .int .i64 0, .int .i64 0, .int .i64 0, .str [], .sl .own .val [], .sl .own .str [], .sl .own .row []], offs := [0, 1], fsz := [1, 7] }),
 (102, { sz := 8, agg := true, zero := some [.str [], .int .i64 0, .int .i64 0, .int .i64 0, .str [], .sl .own .val [], .sl .own .str [], .sl .own .row []], offs := [0, 1], fsz := [1, 7] }),
 (127, { sz := 2, agg := true, zero := some [.int .i64 0, .int .i64 0], offs := [0, 1], fsz := [1, 1], same := true }),
 (128, { zero := some [.sl .own .int []], elem := some (3, .int) }),
 (130, { sz := 2, agg := true, zero := some [.sl .own .int [], .sl .own .org []], offs := [0, 1], fsz := [1, 1] }),
 (137, { sz := 2, agg := true, zero := some [.int .i64 0, .int .i64 0], offs := [0, 1], fsz := [1, 1], same := true }),
 (144, { zero := some [.sl .own .byte []], elem := some (5, .byte) }),
 (148, { sz := 2, agg := true, zero := some [.sl .own .int [], .sl .own .org []], offs := [0, 1], fsz := [1, 1] }),
 (152, { sz := 2, agg := true, zero := some [.str [], .int .i64 0], offs := [0, 1], fsz := [1, 1] }),
 (154, { sz := 2, agg := true, zero := some [.str [], .int .i64 0], offs := [0, 1], fsz := [1, 1] })]
theorem ttok : TTok Try.prog tt := ttChk_ok (by kernel_rfl)
theorem mix : Try.prog.follows .mixedOrders = true := by kernel_rfl
noncomputable def I85 : Info := { body := (Try.f85.body).getD .skip, nt := 28, results := [.tmp 4], keep := [0, 2, 8, 10, 22, 30, 52], live := [(5, [0, 2, 10])], modes := [], ext := [], lnt := [], casts := [], fcast := [] }
theorem fk85 : FnOk Try.prog 85 Try.f85 I85 := ⟨Try.func85, by kernel_rfl, by kernel_rfl, by kernel_rfl, by kernel_rfl⟩
def S85_5 (x0 : List Str) (x1 x5 : Int) : St := [(0, .v false [.sl .ro .str x0]), (2, .v false [.int .i64 x1]), (10, .v false [.int .i64 x5])]
theorem p85_5_0 (x0 : List Str) (x1 x5 : Int) : run tt (AbsCalls Try.prog) I85 3000 true (stkAt 5 I85.body) ⟨(S85_5 x0 x1 x5), [true, true], [], []⟩ = some (.done (xAU (-1)) [(decide ((x5 : Int) < (List.length x0 : Int))) = true, (0 : Int) ≤ x5 ∧ x5 < (List.length x0), (decide (((IntKind.i64.wrap (x1 - (List.length (List.getD x0 (Int.toNat x5) Ty.str.dflt) : Int))) : Int) < 0)) = true]) := by kernel_rfl
theorem p85_5_1 (x0 : List Str) (x1 x5 : Int) : run tt (AbsCalls Try.prog) I85 3000 true (stkAt 5 I85.body) ⟨(S85_5 x0 x1 x5), [true, false], [], []⟩ = some (.stop (stkAt 5 I85.body) (S85_5 x0 (IntKind.i64.wrap (x1 - (List.length (List.getD x0 (Int.toNat x5) Ty.str.dflt) : Int))) (IntKind.i64.wrap (x5 + 1))) [(decide ((x5 : Int) < (List.length x0 : Int))) = true, (0 : Int) ≤ x5 ∧ x5 < (List.length x0), (decide (((IntKind.i64.wrap (x1 - (List.length (List.getD x0 (Int.toNat x5) Ty.str.dflt) : Int))) : Int) < 0)) = false]) := by kernel_rfl
theorem p85_5_2 (x0 : List Str) (x1 x5 : Int) : run tt (AbsCalls Try.prog) I85 3000 true (stkAt 5 I85.body) ⟨(S85_5 x0 x1 x5), [false], [], []⟩ = some (.done (xAU x1) [(decide ((x5 : Int) < (List.length x0 : Int))) = false]) := by kernel_rfl
theorem p85_e_3 (a0 : List Str) (a1 : Int) : run tt (AbsCalls Try.prog) I85 3000 false [.code I85.body] ⟨(zBg 0 (xBR a0 a1)), [true], [], []⟩ = some (.done (xAU (-1)) [(decide (((IntKind.i64.wrap (a1 - (List.length a0 : Int))) : Int) < 0)) = true]) := by kernel_rfl
theorem p85_e_4 (a0 : List Str) (a1 : Int) : run tt (AbsCalls Try.prog) I85 3000 false [.code I85.body] ⟨(zBg 0 (xBR a0 a1)), [false], [], []⟩ = some (.stop (stkAt 5 I85.body) (S85_5 a0 (IntKind.i64.wrap (a1 - (List.length a0 : Int))) 0) [(decide (((IntKind.i64.wrap (a1 - (List.length a0 : Int))) : Int) < 0)) = false]) := by kernel_rfl
theorem c85_5 {N : Nat} : ∀ n x0 x1 x5 r, xCF N n x0 x1 x5 = some r → Reach Try.prog Try.f85 I85 (stkAt 5 I85.body) (S85_5 x0 x1 x5) (xAU r) := by
 intro n
 induction n with
 | zero => intro x0 x1 x5 r h; have h' : (none : Option (Int)) = some r := h; cases h'
 | succ n ih =>
  intro x0 x1 x5 r h
  rw [xCF] at h
  rcases cond_inv h with ⟨h0, h⟩ | ⟨h0, h⟩
  ·obtain ⟨h1, h⟩ := ite_inv h
   rcases cond_inv h with ⟨h2, h⟩ | ⟨h2, h⟩
   ·obtain rfl := Option.some.inj h
    exact Reach.done ttok mix fk85 (p85_5_0 x0 x1 x5) (obs_cons h0 (obs_cons h1 (obs_cons h2 obs_nil)))
   ·exact Reach.stop ttok mix fk85 (p85_5_1 x0 x1 x5) (obs_cons h0 (obs_cons h1 (obs_cons h2 obs_nil))) (ih _ _ _ _ h)
  ·obtain rfl := Option.some.inj h
   exact Reach.done ttok mix fk85 (p85_5_2 x0 x1 x5) (obs_cons h0 obs_nil)
theorem c85_e {N : Nat} : ∀ a0 a1 r, xDj N a0 a1 = some r → Reach Try.prog Try.f85 I85 [.code I85.body] (zBg 0 (xBR a0 a1)) (xAU r) := by
 intro a0 a1 r h
 unfold xDj at h
 rcases cond_inv h with ⟨h0, h⟩ | ⟨h0, h⟩
 ·obtain rfl := Option.some.inj h
  exact Reach.done ttok mix fk85 (p85_e_3 a0 a1) (obs_cons h0 obs_nil)
 ·exact Reach.stop ttok mix fk85 (p85_e_4 a0 a1) (obs_cons h0 obs_nil) (c85_5   _ _ _ _ _ h)
theorem xDK {N : Nat} {a0 : List Str} {a1 : Int} {r : Int} (h : xDj N  a0 a1 = some r) : AbC 85 (xBR a0 a1) (xAU r) :=
 AbsCalls.of_reach fk85 rfl rfl (Nat.le_of_ble_eq_true rfl) (c85_e a0 a1 r h)
noncomputable def I149 : Info := { body := (Try.f149.body).getD .skip, nt := 12, results := [.tmp 4], keep := [0, 2, 8, 20], live := [], modes := [], ext := [], lnt := [], casts := [], fcast := [] }
theorem fk149 : FnOk Try.prog 149 Try.f149 I149 := ⟨Try.func149, by kernel_rfl, by kernel_rfl, by kernel_rfl, by kernel_rfl⟩
theorem p149_e_0 (a0 : List Int) (a1 : Int) : run tt (AbsCalls Try.prog) I149 3000 false [.code I149.body] ⟨(zBg 0 (xCy a0 a1)), [true], [], []⟩ = some (.done (xBy (-1)) [(decide (((IntKind.i64.wrap (a1 - (List.length a0 : Int))) : Int) < 0)) = true]) := by kernel_rfl
theorem p149_e_1 (a0 : List Int) (a1 : Int) : run tt (AbsCalls Try.prog) I149 3000 false [.code I149.body] ⟨(zBg 0 (xCy a0 a1)), [false], [], []⟩ = some (.done (xBy (IntKind.i64.wrap (a1 - (List.length a0 : Int)))) [(decide (((IntKind.i64.wrap (a1 - (List.length a0 : Int))) : Int) < 0)) = false]) := by kernel_rfl
theorem c149_e {N : Nat} : ∀ a0 a1 r, xD5 N a0 a1 = some r → Reach Try.prog Try.f149 I149 [.code I149.body] (zBg 0 (xCy a0 a1)) (xBy r) := by
 intro a0 a1 r h
 unfold xD5 at h
 rcases cond_inv h with ⟨h0, h⟩ | ⟨h0, h⟩
 ·obtain rfl := Option.some.inj h
  exact Reach.done ttok mix fk149 (p149_e_0 a0 a1) (obs_cons h0 obs_nil)
 ·obtain rfl := Option.some.inj h
  exact Reach.done ttok mix fk149 (p149_e_1 a0 a1) (obs_cons h0 obs_nil)
theorem xEa {N : Nat} {a0 : List Int} {a1 : Int} {r : Int} (h : xD5 N  a0 a1 = some r) : AbC 149 (xCy a0 a1) (xBy r) :=
 AbsCalls.of_reach fk149 rfl rfl (Nat.le_of_ble_eq_true rfl) (c149_e a0 a1 r h)
noncomputable def I54 : Info := { body := (Try.f54.body).getD .skip, nt := 12, results := [.tmp 4], keep := [0, 2, 8, 20], live := [], modes := [], ext := [], lnt := [], casts := [], fcast := [] }
theorem fk54 : FnOk Try.prog 54 Try.f54 I54 := ⟨Try.func54, by kernel_rfl, by kernel_rfl, by kernel_rfl, by kernel_rfl⟩
theorem p54_e_0 (a0 : List Org) (a1 : Int) : run tt (AbsCalls Try.prog) I54 3000 false [.code I54.body] ⟨(zBg 0 (xCb a0 a1)), [true], [], []⟩ = some (.done (xBt (-1)) [(decide (((IntKind.i64.wrap (a1 - (List.length a0 : Int))) : Int) < 0)) = true]) := by kernel_rfl
theorem p54_e_1 (a0 : List Org) (a1 : Int) : run tt (AbsCalls Try.prog) I54 3000 false [.code I54.body] ⟨(zBg 0 (xCb a0 a1)), [false], [], []⟩ = some (.done (xBt (IntKind.i64.wrap (a1 - (List.length a0 : Int)))) [(decide (((IntKind.i64.wrap (a1 - (List.length a0 : Int))) : Int) < 0)) = false]) := by kernel_rfl
theorem c54_e {N : Nat} : ∀ a0 a1 r, xDh N a0 a1 = some r → Reach Try.prog Try.f54 I54 [.code I54.body] (zBg 0 (xCb a0 a1)) (xBt r) := by
 intro a0 a1 r h
 unfold xDh at h
 rcases cond_inv h with ⟨h0, h⟩ | ⟨h0, h⟩
 ·obtain rfl := Option.some.inj h
  exact Reach.done ttok mix fk54 (p54_e_0 a0 a1) (obs_cons h0 obs_nil)
 ·obtain rfl := Option.some.inj h
  exact Reach.done ttok mix fk54 (p54_e_1 a0 a1) (obs_cons h0 obs_nil)
theorem xEe {N : Nat} {a0 : List Org} {a1 : Int} {r : Int} (h : xDh N  a0 a1 = some r) : AbC 54 (xCb a0 a1) (xBt r) :=
 AbsCalls.of_reach fk54 rfl rfl (Nat.le_of_ble_eq_true rfl) (c54_e a0 a1 r h)
noncomputable def I133 : Info := { body := (Try.f133.body).getD .skip, nt := 18, results := [.tmp 4], keep := [0, 2, 4, 8, 20, 32, 5], live := [], modes := [], ext := [], lnt := [], casts := [], fcast := [] }
theorem fk133 : FnOk Try.prog 133 Try.f133 I133 := ⟨Try.func133, by kernel_rfl, by kernel_rfl, by kernel_rfl, by kernel_rfl⟩
theorem p133_e_0 (a0 : Rowd) (a1 r1 : Int) : run tt (AbsCalls Try.prog) I133 3000 false [.code I133.body] ⟨(zBg 0 (xCL a0 a1)), [true], [xBy r1], []⟩ = some (.done (xB6 (-1)) [AbC 149 (xCy (Rowd.cells a0) a1) (xBy r1), (decide ((r1 : Int) < 0)) = true]) := by kernel_rfl
theorem p133_e_1 (a0 : Rowd) (a1 r1 r2 : Int) : run tt (AbsCalls Try.prog) I133 3000 false [.code I133.body] ⟨(zBg 0 (xCL a0 a1)), [false, true], [xBy r1, xBt r2], []⟩ = some (.done (xB6 (-1)) [AbC 149 (xCy (Rowd.cells a0) a1) (xBy r1), (decide ((r1 : Int) < 0)) = false, AbC 54 (xCb (Rowd.frm a0) r1) (xBt r2), (decide ((r2 : Int) < 0)) = true]) := by kernel_rfl
theorem p133_e_2 (a0 : Rowd) (a1 r1 r2 : Int) : run tt (AbsCalls Try.prog) I133 3000 false [.code I133.body] ⟨(zBg 0 (xCL a0 a1)), [false, false], [xBy r1, xBt r2], []⟩ = some (.done (xB6 r2) [AbC 149 (xCy (Rowd.cells a0) a1) (xBy r1), (decide ((r1 : Int) < 0)) = false, AbC 54 (xCb (Rowd.frm a0) r1) (xBt r2), (decide ((r2 : Int) < 0)) = false]) := by kernel_rfl
theorem c133_e {N : Nat} : ∀ a0 a1 r, xDY N a0 a1 = some r → Reach Try.prog Try.f133 I133 [.code I133.body] (zBg 0 (xCL a0 a1)) (xB6 r) := by
 intro a0 a1 r h
 unfold xDY at h
 obtain ⟨r1, h0, h⟩ := bind_inv h
 rcases cond_inv h with ⟨h1, h⟩ | ⟨h1, h⟩
 ·obtain rfl := Option.some.inj h
  exact Reach.done ttok mix fk133 (p133_e_0 a0 a1 r1) (obs_cons (xEa h0) (obs_cons h1 obs_nil))
 ·obtain ⟨r2, h2, h⟩ := bind_inv h
  rcases cond_inv h with ⟨h3, h⟩ | ⟨h3, h⟩
  ·obtain rfl := Option.some.inj h
   exact Reach.done ttok mix fk133 (p133_e_1 a0 a1 r1 r2) (obs_cons (xEa h0) (obs_cons h1 (obs_cons (xEe h2) (obs_cons h3 obs_nil))))
  ·obtain rfl := Option.some.inj h
   exact Reach.done ttok mix fk133 (p133_e_2 a0 a1 r1 r2) (obs_cons (xEa h0) (obs_cons h1 (obs_cons (xEe h2) (obs_cons h3 obs_nil))))
theorem laws_szRow_ok {N : Nat} {a0 : Rowd} {a1 : Int} {r : Int} (h : xDY N  a0 a1 = some r) : AbC 133 (xCL a0 a1) (xB6 r) :=
 AbsCalls.of_reach fk133 rfl rfl (Nat.le_of_ble_eq_true rfl) (c133_e a0 a1 r h)
noncomputable def I86 : Info := { body := (Try.f86.body).getD .skip, nt := 27, results := [.tmp 4], keep := [0, 2, 8, 10, 22, 30, 50], live := [(5, [0, 2, 10])], modes := [], ext := [], lnt := [], casts := [], fcast := [] }
theorem fk86 : FnOk Try.prog 86 Try.f86 I86 := ⟨Try.func86, by kernel_rfl, by kernel_rfl, by kernel_rfl, by kernel_rfl⟩
def S86_5 (x0 : List Rowd) (x1 x5 : Int) : St := [(0, .v false [.sl .ro .row x0]), (2, .v false [.int .i64 x1]), (10, .v false [.int .i64 x5])]
theorem p86_5_0 (x0 : List Rowd) (x1 x5 r1 : Int) : run tt (AbsCalls Try.prog) I86 3000 true (stkAt 5 I86.body) ⟨(S86_5 x0 x1 x5), [true, true], [xB6 r1], []⟩ = some (.done (xBz (-1)) [(decide ((x5 : Int) < (List.length x0 : Int))) = true, (0 : Int) ≤ x5 ∧ x5 < (List.length x0), AbC 133 (xCL (List.getD x0 (Int.toNat x5) Ty.row.dflt) x1) (xB6 r1), (decide ((r1 : Int) < 0)) = true]) := by kernel_rfl
theorem p86_5_1 (x0 : List Rowd) (x1 x5 r1 : Int) : run tt (AbsCalls Try.prog) I86 3000 true (stkAt 5 I86.body) ⟨(S86_5 x0 x1 x5), [true, false], [xB6 r1], []⟩ = some (.stop (stkAt 5 I86.body) (S86_5 x0 r1 (IntKind.i64.wrap (x5 + 1))) [(decide ((x5 : Int) < (List.length x0 : Int))) = true, (0 : Int) ≤ x5 ∧ x5 < (List.length x0), AbC 133 (xCL (List.getD x0 (Int.toNat x5) Ty.row.dflt) x1) (xB6 r1), (decide ((r1 : Int) < 0)) = false]) := by kernel_rfl
theorem p86_5_2 (x0 : List Rowd) (x1 x5 : Int) : run tt (AbsCalls Try.prog) I86 3000 true (stkAt 5 I86.body) ⟨(S86_5 x0 x1 x5), [false], [], []⟩ = some (.done (xBz x1) [(decide ((x5 : Int) < (List.length x0 : Int))) = false]) := by kernel_rfl
theorem p86_e_3 (a0 : List Rowd) (a1 : Int) : run tt (AbsCalls Try.prog) I86 3000 false [.code I86.body] ⟨(zBg 0 (xCY a0 a1)), [true], [], []⟩ = some (.done (xBz (-1)) [(decide (((IntKind.i64.wrap (a1 - (List.length a0 : Int))) : Int) < 0)) = true]) := by kernel_rfl
theorem p86_e_4 (a0 : List Rowd) (a1 : Int) : run tt (AbsCalls Try.prog) I86 3000 false [.code I86.body] ⟨(zBg 0 (xCY a0 a1)), [false], [], []⟩ = some (.stop (stkAt 5 I86.body) (S86_5 a0 (IntKind.i64.wrap (a1 - (List.length a0 : Int))) 0) [(decide (((IntKind.i64.wrap (a1 - (List.length a0 : Int))) : Int) < 0)) = false]) := by kernel_rfl
theorem c86_5 {N : Nat} : ∀ n x0 x1 x5 r, xDi N n x0 x1 x5 = some r → Reach Try.prog Try.f86 I86 (stkAt 5 I86.body) (S86_5 x0 x1 x5) (xBz r) := by
 intro n
 induction n with
 | zero => intro x0 x1 x5 r h; have h' : (none : Option (Int)) = some r := h; cases h'
 | succ n ih =>
  intro x0 x1 x5 r h
  rw [xDi] at h
  rcases cond_inv h with ⟨h0, h⟩ | ⟨h0, h⟩
  ·obtain ⟨h1, h⟩ := ite_inv h
   obtain ⟨r1, h2, h⟩ := bind_inv h
   rcases cond_inv h with ⟨h3, h⟩ | ⟨h3, h⟩
   ·obtain rfl := Option.some.inj h
    exact Reach.done ttok mix fk86 (p86_5_0 x0 x1 x5 r1) (obs_cons h0 (obs_cons h1 (obs_cons (laws_szRow_ok h2) (obs_cons h3 obs_nil))))
   ·exact Reach.stop ttok mix fk86 (p86_5_1 x0 x1 x5 r1) (obs_cons h0 (obs_cons h1 (obs_cons (laws_szRow_ok h2) (obs_cons h3 obs_nil)))) (ih _ _ _ _ h)
  ·obtain rfl := Option.some.inj h
   exact Reach.done ttok mix fk86 (p86_5_2 x0 x1 x5) (obs_cons h0 obs_nil)
theorem c86_e {N : Nat} : ∀ a0 a1 r, xD6 N a0 a1 = some r → Reach Try.prog Try.f86 I86 [.code I86.body] (zBg 0 (xCY a0 a1)) (xBz r) := by
 intro a0 a1 r h
 unfold xD6 at h
 rcases cond_inv h with ⟨h0, h⟩ | ⟨h0, h⟩
 ·obtain rfl := Option.some.inj h
  exact Reach.done ttok mix fk86 (p86_e_3 a0 a1) (obs_cons h0 obs_nil)
 ·exact Reach.stop ttok mix fk86 (p86_e_4 a0 a1) (obs_cons h0 obs_nil) (c86_5   _ _ _ _ _ h)
theorem xEN {N : Nat} {a0 : List Rowd} {a1 : Int} {r : Int} (h : xD6 N  a0 a1 = some r) : AbC 86 (xCY a0 a1) (xBz r) :=
 AbsCalls.of_reach fk86 rfl rfl (Nat.le_of_ble_eq_true rfl) (c86_e a0 a1 r h)
noncomputable def I24 : Info := { body := (Try.f24.body).getD .skip, nt := 31, results := [.tmp 4], keep := [0, 2, 4, 8, 22, 34, 46, 58, 5], live := [], modes := [], ext := [], lnt := [], casts := [], fcast := [] }
theorem fk24 : FnOk Try.prog 24 Try.f24 I24 := ⟨Try.func24, by kernel_rfl, by kernel_rfl, by kernel_rfl, by kernel_rfl⟩
theorem p24_e_0 (a0 : Val) (a1 : Int) : run tt (AbsCalls Try.prog) I24 3000 false [.code I24.body] ⟨(zBg 0 (xAH a0 a1)), [true], [], []⟩ = some (.done (xAz (-1)) [(decide (((IntKind.i64.wrap (a1 - (List.length (Val.text a0) : Int))) : Int) < 0)) = true]) := by kernel_rfl
theorem p24_e_1 (a0 : Val) (a1 r1 : Int) : run tt (AbsCalls Try.prog) I24 3000 false [.code I24.body] ⟨(zBg 0 (xAH a0 a1)), [false, true], [xAB r1], []⟩ = some (.done (xAz (-1)) [(decide (((IntKind.i64.wrap (a1 - (List.length (Val.text a0) : Int))) : Int) < 0)) = false, AbC 62 (xAQ (Val.list a0) (IntKind.i64.wrap (a1 - (List.length (Val.text a0) : Int)))) (xAB r1), (decide ((r1 : Int) < 0)) = true]) := by kernel_rfl
theorem p24_e_2 (a0 : Val) (a1 r1 r2 : Int) : run tt (AbsCalls Try.prog) I24 3000 false [.code I24.body] ⟨(zBg 0 (xAH a0 a1)), [false, false, true], [xAB r1, xAU r2], []⟩ = some (.done (xAz (-1)) [(decide (((IntKind.i64.wrap (a1 - (List.length (Val.text a0) : Int))) : Int) < 0)) = false, AbC 62 (xAQ (Val.list a0) (IntKind.i64.wrap (a1 - (List.length (Val.text a0) : Int)))) (xAB r1), (decide ((r1 : Int) < 0)) = false, AbC 85 (xBR (Val.columns a0) r1) (xAU r2), (decide ((r2 : Int) < 0)) = true]) := by kernel_rfl
theorem p24_e_3 (a0 : Val) (a1 r1 r2 r3 : Int) : run tt (AbsCalls Try.prog) I24 3000 false [.code I24.body] ⟨(zBg 0 (xAH a0 a1)), [false, false, false, true], [xAB r1, xAU r2, xBz r3], []⟩ = some (.done (xAz (-1)) [(decide (((IntKind.i64.wrap (a1 - (List.length (Val.text a0) : Int))) : Int) < 0)) = false, AbC 62 (xAQ (Val.list a0) (IntKind.i64.wrap (a1 - (List.length (Val.text a0) : Int)))) (xAB r1), (decide ((r1 : Int) < 0)) = false, AbC 85 (xBR (Val.columns a0) r1) (xAU r2), (decide ((r2 : Int) < 0)) = false, AbC 86 (xCY (Val.rows a0) r2) (xBz r3), (decide ((r3 : Int) < 0)) = true]) := by kernel_rfl
theorem p24_e_4 (a0 : Val) (a1 r1 r2 r3 : Int) : run tt (AbsCalls Try.prog) I24 3000 false [.code I24.body] ⟨(zBg 0 (xAH a0 a1)), [false, false, false, false], [xAB r1, xAU r2, xBz r3], []⟩ = some (.done (xAz r3) [(decide (((IntKind.i64.wrap (a1 - (List.length (Val.text a0) : Int))) : Int) < 0)) = false, AbC 62 (xAQ (Val.list a0) (IntKind.i64.wrap (a1 - (List.length (Val.text a0) : Int)))) (xAB r1), (decide ((r1 : Int) < 0)) = false, AbC 85 (xBR (Val.columns a0) r1) (xAU r2), (decide ((r2 : Int) < 0)) = false, AbC 86 (xCY (Val.rows a0) r2) (xBz r3), (decide ((r3 : Int) < 0)) = false]) := by kernel_rfl
theorem c24_e {N : Nat} {rc_laws_szValue : Val → Int → Option (Int)} (hrc_laws_szValue : ∀ a0 a1 r, rc_laws_szValue a0 a1 = some r → AbC 24 (xAH a0 a1) (xAz r)) {rc_laws_szValueS : (List Val) → Int → Option (Int)} (hrc_laws_szValueS : ∀ a0 a1 r, rc_laws_szValueS a0 a1 = some r → AbC 62 (xAQ a0 a1) (xAB r)) : ∀ a0 a1 r, xDe N rc_laws_szValue rc_laws_szValueS a0 a1 = some r → Reach Try.prog Try.f24 I24 [.code I24.body] (zBg 0 (xAH a0 a1)) (xAz r) := by
 intro a0 a1 r h
 unfold xDe at h
 rcases cond_inv h with ⟨h0, h⟩ | ⟨h0, h⟩
 ·obtain rfl := Option.some.inj h
  exact Reach.done ttok mix fk24 (p24_e_0 a0 a1) (obs_cons h0 obs_nil)
 ·obtain ⟨r1, h1, h⟩ := bind_inv h
  rcases cond_inv h with ⟨h2, h⟩ | ⟨h2, h⟩
  ·obtain rfl := Option.some.inj h
   exact Reach.done ttok mix fk24 (p24_e_1 a0 a1 r1) (obs_cons h0 (obs_cons (hrc_laws_szValueS _ _ _ h1) (obs_cons h2 obs_nil)))
  ·obtain ⟨r2, h3, h⟩ := bind_inv h
   rcases cond_inv h with ⟨h4, h⟩ | ⟨h4, h⟩
   ·obtain rfl := Option.some.inj h
    exact Reach.done ttok mix fk24 (p24_e_2 a0 a1 r1 r2) (obs_cons h0 (obs_cons (hrc_laws_szValueS _ _ _ h1) (obs_cons h2 (obs_cons (xDK h3) (obs_cons h4 obs_nil)))))
   ·obtain ⟨r3, h5, h⟩ := bind_inv h
    rcases cond_inv h with ⟨h6, h⟩ | ⟨h6, h⟩
    ·obtain rfl := Option.some.inj h
     exact Reach.done ttok mix fk24 (p24_e_3 a0 a1 r1 r2 r3) (obs_cons h0 (obs_cons (hrc_laws_szValueS _ _ _ h1) (obs_cons h2 (obs_cons (xDK h3) (obs_cons h4 (obs_cons (xEN h5) (obs_cons h6 obs_nil)))))))
    ·obtain rfl := Option.some.inj h
     exact Reach.done ttok mix fk24 (p24_e_4 a0 a1 r1 r2 r3) (obs_cons h0 (obs_cons (hrc_laws_szValueS _ _ _ h1) (obs_cons h2 (obs_cons (xDK h3) (obs_cons h4 (obs_cons (xEN h5) (obs_cons h6 obs_nil)))))))
theorem xEI {N : Nat} {rc_laws_szValue : Val → Int → Option (Int)} (hrc_laws_szValue : ∀ a0 a1 r, rc_laws_szValue a0 a1 = some r → AbC 24 (xAH a0 a1) (xAz r)) {rc_laws_szValueS : (List Val) → Int → Option (Int)} (hrc_laws_szValueS : ∀ a0 a1 r, rc_laws_szValueS a0 a1 = some r → AbC 62 (xAQ a0 a1) (xAB r)) {a0 : Val} {a1 : Int} {r : Int} (h : xDe N rc_laws_szValue rc_laws_szValueS a0 a1 = some r) : AbC 24 (xAH a0 a1) (xAz r) :=
 AbsCalls.of_reach fk24 rfl rfl (Nat.le_of_ble_eq_true rfl) (c24_e hrc_laws_szValue hrc_laws_szValueS a0 a1 r h)
noncomputable def I62 : Info := { body := (Try.f62.body).getD .skip, nt := 27, results := [.tmp 4], keep := [0, 2, 8, 10, 22, 30, 50], live := [(5, [0, 2, 10])], modes := [], ext := [], lnt := [], casts := [], fcast := [] }
theorem fk62 : FnOk Try.prog 62 Try.f62 I62 := ⟨Try.func62, by kernel_rfl, by kernel_rfl, by kernel_rfl, by kernel_rfl⟩
def S62_5 (x0 : List Val) (x1 x5 : Int) : St := [(0, .v false [.sl .ro .val x0]), (2, .v false [.int .i64 x1]), (10, .v false [.int .i64 x5])]
theorem p62_5_0 (x0 : List Val) (x1 x5 r1 : Int) : run tt (AbsCalls Try.prog) I62 3000 true (stkAt 5 I62.body) ⟨(S62_5 x0 x1 x5), [true, true], [xAz r1], []⟩ = some (.done (xAB (-1)) [(decide ((x5 : Int) < (List.length x0 : Int))) = true, (0 : Int) ≤ x5 ∧ x5 < (List.length x0), AbC 24 (xAH (List.getD x0 (Int.toNat x5) Ty.val.dflt) x1) (xAz r1), (decide ((r1 : Int) < 0)) = true]) := by kernel_rfl
theorem p62_5_1 (x0 : List Val) (x1 x5 r1 : Int) : run tt (AbsCalls Try.prog) I62 3000 true (stkAt 5 I62.body) ⟨(S62_5 x0 x1 x5), [true, false], [xAz r1], []⟩ = some (.stop (stkAt 5 I62.body) (S62_5 x0 r1 (IntKind.i64.wrap (x5 + 1))) [(decide ((x5 : Int) < (List.length x0 : Int))) = true, (0 : Int) ≤ x5 ∧ x5 < (List.length x0), AbC 24 (xAH (List.getD x0 (Int.toNat x5) Ty.val.dflt) x1) (xAz r1), (decide ((r1 : Int) < 0)) = false]) := by kernel_rfl
theorem p62_5_2 (x0 : List Val) (x1 x5 : Int) : run tt (AbsCalls Try.prog) I62 3000 true (stkAt 5 I62.body) ⟨(S62_5 x0 x1 x5), [false], [], []⟩ = some (.done (xAB x1) [(decide ((x5 : Int) < (List.length x0 : Int))) = false]) := by kernel_rfl
theorem p62_e_3 (a0 : List Val) (a1 : Int) : run tt (AbsCalls Try.prog) I62 3000 false [.code I62.body] ⟨(zBg 0 (xAQ a0 a1)), [true], [], []⟩ = some (.done (xAB (-1)) [(decide (((IntKind.i64.wrap (a1 - (List.length a0 : Int))) : Int) < 0)) = true]) := by kernel_rfl
theorem p62_e_4 (a0 : List Val) (a1 : Int) : run tt (AbsCalls Try.prog) I62 3000 false [.code I62.body] ⟨(zBg 0 (xAQ a0 a1)), [false], [], []⟩ = some (.stop (stkAt 5 I62.body) (S62_5 a0 (IntKind.i64.wrap (a1 - (List.length a0 : Int))) 0) [(decide (((IntKind.i64.wrap (a1 - (List.length a0 : Int))) : Int) < 0)) = false]) := by kernel_rfl
theorem c62_5 {N : Nat} {rc_laws_szValue : Val → Int → Option (Int)} (hrc_laws_szValue : ∀ a0 a1 r, rc_laws_szValue a0 a1 = some r → AbC 24 (xAH a0 a1) (xAz r)) {rc_laws_szValueS : (List Val) → Int → Option (Int)} (hrc_laws_szValueS : ∀ a0 a1 r, rc_laws_szValueS a0 a1 = some r → AbC 62 (xAQ a0 a1) (xAB r)) : ∀ n x0 x1 x5 r, xCQ N rc_laws_szValue rc_laws_szValueS n x0 x1 x5 = some r → Reach Try.prog Try.f62 I62 (stkAt 5 I62.body) (S62_5 x0 x1 x5) (xAB r) := by
 intro n
 induction n with
 | zero => intro x0 x1 x5 r h; have h' : (none : Option (Int)) = some r := h; cases h'
 | succ n ih =>
  intro x0 x1 x5 r h
  rw [xCQ] at h
  rcases cond_inv h with ⟨h0, h⟩ | ⟨h0, h⟩
  ·obtain ⟨h1, h⟩ := ite_inv h
   obtain ⟨r1, h2, h⟩ := bind_inv h
   rcases cond_inv h with ⟨h3, h⟩ | ⟨h3, h⟩
   ·obtain rfl := Option.some.inj h
    exact Reach.done ttok mix fk62 (p62_5_0 x0 x1 x5 r1) (obs_cons h0 (obs_cons h1 (obs_cons (hrc_laws_szValue _ _ _ h2) (obs_cons h3 obs_nil))))
   ·exact Reach.stop ttok mix fk62 (p62_5_1 x0 x1 x5 r1) (obs_cons h0 (obs_cons h1 (obs_cons (hrc_laws_szValue _ _ _ h2) (obs_cons h3 obs_nil)))) (ih _ _ _ _ h)
  ·obtain rfl := Option.some.inj h
   exact Reach.done ttok mix fk62 (p62_5_2 x0 x1 x5) (obs_cons h0 obs_nil)
theorem c62_e {N : Nat} {rc_laws_szValue : Val → Int → Option (Int)} (hrc_laws_szValue : ∀ a0 a1 r, rc_laws_szValue a0 a1 = some r → AbC 24 (xAH a0 a1) (xAz r)) {rc_laws_szValueS : (List Val) → Int → Option (Int)} (hrc_laws_szValueS : ∀ a0 a1 r, rc_laws_szValueS a0 a1 = some r → AbC 62 (xAQ a0 a1) (xAB r)) : ∀ a0 a1 r, xC4 N rc_laws_szValue rc_laws_szValueS a0 a1 = some r → Reach Try.prog Try.f62 I62 [.code I62.body] (zBg 0 (xAQ a0 a1)) (xAB r) := by
 intro a0 a1 r h
 unfold xC4 at h
 rcases cond_inv h with ⟨h0, h⟩ | ⟨h0, h⟩
 ·obtain rfl := Option.some.inj h
  exact Reach.done ttok mix fk62 (p62_e_3 a0 a1) (obs_cons h0 obs_nil)
 ·exact Reach.stop ttok mix fk62 (p62_e_4 a0 a1) (obs_cons h0 obs_nil) (c62_5 hrc_laws_szValue hrc_laws_szValueS  _ _ _ _ _ h)
theorem xEy {N : Nat} {rc_laws_szValue : Val → Int → Option (Int)} (hrc_laws_szValue : ∀ a0 a1 r, rc_laws_szValue a0 a1 = some r → AbC 24 (xAH a0 a1) (xAz r)) {rc_laws_szValueS : (List Val) → Int → Option (Int)} (hrc_laws_szValueS : ∀ a0 a1 r, rc_laws_szValueS a0 a1 = some r → AbC 62 (xAQ a0 a1) (xAB r)) {a0 : List Val} {a1 : Int} {r : Int} (h : xC4 N rc_laws_szValue rc_laws_szValueS a0 a1 = some r) : AbC 62 (xAQ a0 a1) (xAB r) :=
 AbsCalls.of_reach fk62 rfl rfl (Nat.le_of_ble_eq_true rfl) (c62_e hrc_laws_szValue hrc_laws_szValueS a0 a1 r h)
theorem xET {N : Nat} : ∀ d, (∀ a0 a1 r, (xA3 N d).c_laws_szValue a0 a1 = some r → AbC 24 (xAH a0 a1) (xAz r)) ∧ (∀ a0 a1 r, (xA3 N d).c_laws_szValueS a0 a1 = some r → AbC 62 (xAQ a0 a1) (xAB r)) := by
 intro d
 induction d with
 | zero =>
  refine ⟨?_, ?_⟩ <;> (intros; rename_i h; cases h)
 | succ d ih =>
  obtain ⟨ih0, ih1⟩ := ih
  refine ⟨?_, ?_⟩
  ·intro _ _ r h; exact xEI (N := N) ih0 ih1 h
  ·intro _ _ r h; exact xEy (N := N) ih0 ih1 h
theorem xEz {N : Nat} {a0 : Val} {a1 : Int} {r : Int} (h : xEx N a0 a1 = some r) : AbC 24 (xAH a0 a1) (xAz r) := (xET N).1 _ _ r h
noncomputable def I87 : Info := { body := (Try.f87.body).getD .skip, nt := 22, results := [.tmp 2], keep := [0, 4, 6, 8, 22], live := [(3, [0, 6, 8])], modes := [(5, [(0, .ref, false)]), (6, [(0, .take, false)])], ext := [], lnt := [], casts := [], fcast := [] }
theorem fk87 : FnOk Try.prog 87 Try.f87 I87 := ⟨Try.func87, by kernel_rfl, by kernel_rfl, by kernel_rfl, by kernel_rfl⟩
def S87_3 (x0 x3 : List Str) (x4 : Int) : St := [(0, .v false [.sl .ro .str x0]), (6, .v false [.sl .own .str x3]), (8, .v false [.int .i64 x4])]
theorem p87_3_0 (x0 x3 : List Str) (x4 : Int) : run tt (AbsCalls Try.prog) I87 3000 true (stkAt 3 I87.body) ⟨(S87_3 x0 x3 x4), [true], [], []⟩ = some (.stop (stkAt 3 I87.body) (S87_3 x0 (List.set x3 (Int.toNat x4) (List.getD x0 (Int.toNat x4) Ty.str.dflt)) (IntKind.i64.wrap (x4 + 1))) [(decide ((x4 : Int) < (List.length x0 : Int))) = true, (0 : Int) ≤ x4 ∧ x4 < (List.length x0), (0 : Int) ≤ x4 ∧ x4 < (List.length x3)]) := by kernel_rfl
theorem p87_3_1 (x0 x3 : List Str) (x4 : Int) : run tt (AbsCalls Try.prog) I87 3000 true (stkAt 3 I87.body) ⟨(S87_3 x0 x3 x4), [false], [], []⟩ = some (.done (xCd x3) [(decide ((x4 : Int) < (List.length x0 : Int))) = false]) := by kernel_rfl
theorem p87_e_2 (a0 : List Str) : run tt (AbsCalls Try.prog) I87 3000 false [.code I87.body] ⟨(zBg 0 (xDg a0)), [], [], []⟩ = some (.stop (stkAt 3 I87.body) (S87_3 a0 (List.replicate (Int.toNat (List.length a0 : Int)) Ty.str.dflt) 0) [(0 : Int) ≤ (List.length a0 : Int) ∧ (List.length a0 : Int) = (List.length a0 : Int) ∧ (List.length a0 : Int) ≤ Lim]) := by kernel_rfl
theorem c87_3 {N : Nat} : ∀ n x0 x3 x4 r, xCH N n x0 x3 x4 = some r → Reach Try.prog Try.f87 I87 (stkAt 3 I87.body) (S87_3 x0 x3 x4) (xCd r) := by
 intro n
 induction n with
 | zero => intro x0 x3 x4 r h; have h' : (none : Option ((List Str))) = some r := h; cases h'
 | succ n ih =>
  intro x0 x3 x4 r h
  rw [xCH] at h
  rcases cond_inv h with ⟨h0, h⟩ | ⟨h0, h⟩
  ·obtain ⟨h1, h⟩ := ite_inv h
   obtain ⟨h2, h⟩ := ite_inv h
   exact Reach.stop ttok mix fk87 (p87_3_0 x0 x3 x4) (obs_cons h0 (obs_cons h1 (obs_cons h2 obs_nil))) (ih _ _ _ _ h)
  ·obtain rfl := Option.some.inj h
   exact Reach.done ttok mix fk87 (p87_3_1 x0 x3 x4) (obs_cons h0 obs_nil)
theorem c87_e {N : Nat} : ∀ a0 r, xC2 N a0 = some r → Reach Try.prog Try.f87 I87 [.code I87.body] (zBg 0 (xDg a0)) (xCd r) := by
 intro a0 r h
 unfold xC2 at h
 obtain ⟨h0, h⟩ := ite_inv h
 exact Reach.stop ttok mix fk87 (p87_e_2 a0) (obs_cons h0 obs_nil) (c87_3   _ _ _ _ _ h)
theorem laws_toStringS_ok {N : Nat} {a0 : List Str} {r : (List Str)} (h : xC2 N  a0 = some r) : AbC 87 (xDg a0) (xCd r) :=
 AbsCalls.of_reach fk87 rfl rfl (Nat.le_of_ble_eq_true rfl) (c87_e a0 r h)
noncomputable def I150 : Info := { body := (Try.f150.body).getD .skip, nt := 22, results := [.tmp 2], keep := [0, 4, 6, 8, 22], live := [(3, [0, 6, 8])], modes := [(5, [(0, .ref, false)]), (6, [(0, .take, false)])], ext := [], lnt := [], casts := [], fcast := [] }
theorem fk150 : FnOk Try.prog 150 Try.f150 I150 := ⟨Try.func150, by kernel_rfl, by kernel_rfl, by kernel_rfl, by kernel_rfl⟩
def S150_3 (x0 x3 : List Int) (x4 : Int) : St := [(0, .v false [.sl .ro .int x0]), (6, .v false [.sl .own .int x3]), (8, .v false [.int .i64 x4])]
theorem p150_3_0 (x0 x3 : List Int) (x4 : Int) : run tt (AbsCalls Try.prog) I150 3000 true (stkAt 3 I150.body) ⟨(S150_3 x0 x3 x4), [true], [], []⟩ = some (.stop (stkAt 3 I150.body) (S150_3 x0 (List.set x3 (Int.toNat x4) (List.getD x0 (Int.toNat x4) Ty.int.dflt)) (IntKind.i64.wrap (x4 + 1))) [(decide ((x4 : Int) < (List.length x0 : Int))) = true, (0 : Int) ≤ x4 ∧ x4 < (List.length x0), (0 : Int) ≤ x4 ∧ x4 < (List.length x3)]) := by kernel_rfl
theorem p150_3_1 (x0 x3 : List Int) (x4 : Int) : run tt (AbsCalls Try.prog) I150 3000 true (stkAt 3 I150.body) ⟨(S150_3 x0 x3 x4), [false], [], []⟩ = some (.done (xCZ x3) [(decide ((x4 : Int) < (List.length x0 : Int))) = false]) := by kernel_rfl
theorem p150_e_2 (a0 : List Int) : run tt (AbsCalls Try.prog) I150 3000 false [.code I150.body] ⟨(zBg 0 (xDO a0)), [], [], []⟩ = some (.stop (stkAt 3 I150.body) (S150_3 a0 (List.replicate (Int.toNat (List.length a0 : Int)) Ty.int.dflt) 0) [(0 : Int) ≤ (List.length a0 : Int) ∧ (List.length a0 : Int) = (List.length a0 : Int) ∧ (List.length a0 : Int) ≤ Lim]) := by kernel_rfl
theorem c150_3 {N : Nat} : ∀ n x0 x3 x4 r, xDk N n x0 x3 x4 = some r → Reach Try.prog Try.f150 I150 (stkAt 3 I150.body) (S150_3 x0 x3 x4) (xCZ r) := by
 intro n
 induction n with
 | zero => intro x0 x3 x4 r h; have h' : (none : Option ((List Int))) = some r := h; cases h'
 | succ n ih =>
  intro x0 x3 x4 r h
  rw [xDk] at h
  rcases cond_inv h with ⟨h0, h⟩ | ⟨h0, h⟩
  ·obtain ⟨h1, h⟩ := ite_inv h
   obtain ⟨h2, h⟩ := ite_inv h
   exact Reach.stop ttok mix fk150 (p150_3_0 x0 x3 x4) (obs_cons h0 (obs_cons h1 (obs_cons h2 obs_nil))) (ih _ _ _ _ h)
  ·obtain rfl := Option.some.inj h
   exact Reach.done ttok mix fk150 (p150_3_1 x0 x3 x4) (obs_cons h0 obs_nil)
theorem c150_e {N : Nat} : ∀ a0 r, xDL N a0 = some r → Reach Try.prog Try.f150 I150 [.code I150.body] (zBg 0 (xDO a0)) (xCZ r) := by
 intro a0 r h
 unfold xDL at h
 obtain ⟨h0, h⟩ := ite_inv h
 exact Reach.stop ttok mix fk150 (p150_e_2 a0) (obs_cons h0 obs_nil) (c150_3   _ _ _ _ _ h)
theorem laws_toIntS_ok {N : Nat} {a0 : List Int} {r : (List Int)} (h : xDL N  a0 = some r) : AbC 150 (xDO a0) (xCZ r) :=
 AbsCalls.of_reach fk150 rfl rfl (Nat.le_of_ble_eq_true rfl) (c150_e a0 r h)
noncomputable def I117 : Info := { body := (Try.f117.body).getD .skip, nt := 11, results := [.cell 2 127], keep := [0, 2, 4, 6, 3, 5, 7], live := [], modes := [], ext := [], lnt := [], casts := [], fcast := [] }
theorem fk117 : FnOk Try.prog 117 Try.f117 I117 := ⟨Try.func117, by kernel_rfl, by kernel_rfl, by kernel_rfl, by kernel_rfl⟩
theorem p117_e_0 (a0 : Org) : run tt (AbsCalls Try.prog) I117 3000 false [.code I117.body] ⟨(zBg 0 (xDp a0)), [], [], []⟩ = some (.done (xCR a0) []) := by kernel_rfl
theorem c117_e {N : Nat} : ∀ a0 r, xDz N a0 = some r → Reach Try.prog Try.f117 I117 [.code I117.body] (zBg 0 (xDp a0)) (xCR r) := by
 intro a0 r h
 unfold xDz at h
 obtain rfl := Option.some.inj h
 exact Reach.done ttok mix fk117 (p117_e_0 a0) obs_nil
theorem laws_toOrigin_ok {N : Nat} {a0 : Org} {r : Org} (h : xDz N  a0 = some r) : AbC 117 (xDp a0) (xCR r) :=
 AbsCalls.of_reach fk117 rfl rfl (Nat.le_of_ble_eq_true rfl) (c117_e a0 r h)
noncomputable def I56 : Info := { body := (Try.f56.body).getD .skip, nt := 23, results := [.tmp 2], keep := [0, 4, 6, 8, 22], live := [(3, [0, 6, 8])], modes := [(5, [(0, .ref, false)]), (6, [(0, .take, false)])], ext := [], lnt := [], casts := [], fcast := [] }
theorem fk56 : FnOk Try.prog 56 Try.f56 I56 := ⟨Try.func56, by kernel_rfl, by kernel_rfl, by kernel_rfl, by kernel_rfl⟩
def S56_3 (x0 x3 : List Org) (x4 : Int) : St := [(0, .v false [.sl .ro .org x0]), (6, .v false [.sl .own .org x3]), (8, .v false [.int .i64 x4])]
theorem p56_3_0 (x0 x3 : List Org) (x4 : Int) (r1 : Org) : run tt (AbsCalls Try.prog) I56 3000 true (stkAt 3 I56.body) ⟨(S56_3 x0 x3 x4), [true], [xCR r1], []⟩ = some (.stop (stkAt 3 I56.body) (S56_3 x0 (List.set x3 (Int.toNat x4) r1) (IntKind.i64.wrap (x4 + 1))) [(decide ((x4 : Int) < (List.length x0 : Int))) = true, (0 : Int) ≤ x4 ∧ x4 < (List.length x0), AbC 117 (xDp (List.getD x0 (Int.toNat x4) Ty.org.dflt)) (xCR r1), (0 : Int) ≤ x4 ∧ x4 < (List.length x3)]) := by kernel_rfl
theorem p56_3_1 (x0 x3 : List Org) (x4 : Int) : run tt (AbsCalls Try.prog) I56 3000 true (stkAt 3 I56.body) ⟨(S56_3 x0 x3 x4), [false], [], []⟩ = some (.done (xCc x3) [(decide ((x4 : Int) < (List.length x0 : Int))) = false]) := by kernel_rfl
theorem p56_e_2 (a0 : List Org) : run tt (AbsCalls Try.prog) I56 3000 false [.code I56.body] ⟨(zBg 0 (xDf a0)), [], [], []⟩ = some (.stop (stkAt 3 I56.body) (S56_3 a0 (List.replicate (Int.toNat (List.length a0 : Int)) Ty.org.dflt) 0) [(0 : Int) ≤ (List.length a0 : Int) ∧ (List.length a0 : Int) = (List.length a0 : Int) ∧ (List.length a0 : Int) ≤ Lim]) := by kernel_rfl
theorem c56_3 {N : Nat} : ∀ n x0 x3 x4 r, xCG N n x0 x3 x4 = some r → Reach Try.prog Try.f56 I56 (stkAt 3 I56.body) (S56_3 x0 x3 x4) (xCc r) := by
 intro n
 induction n with
 | zero => intro x0 x3 x4 r h; have h' : (none : Option ((List Org))) = some r := h; cases h'
 | succ n ih =>
  intro x0 x3 x4 r h
  rw [xCG] at h
  rcases cond_inv h with ⟨h0, h⟩ | ⟨h0, h⟩
  ·obtain ⟨h1, h⟩ := ite_inv h
   obtain ⟨r1, h2, h⟩ := bind_inv h
   obtain ⟨h3, h⟩ := ite_inv h
   exact Reach.stop ttok mix fk56 (p56_3_0 x0 x3 x4 r1) (obs_cons h0 (obs_cons h1 (obs_cons (laws_toOrigin_ok h2) (obs_cons h3 obs_nil)))) (ih _ _ _ _ h)
  ·obtain rfl := Option.some.inj h
   exact Reach.done ttok mix fk56 (p56_3_1 x0 x3 x4) (obs_cons h0 obs_nil)
theorem c56_e {N : Nat} : ∀ a0 r, xC0 N a0 = some r → Reach Try.prog Try.f56 I56 [.code I56.body] (zBg 0 (xDf a0)) (xCc r) := by
 intro a0 r h
 unfold xC0 at h
 obtain ⟨h0, h⟩ := ite_inv h
 exact Reach.stop ttok mix fk56 (p56_e_2 a0) (obs_cons h0 obs_nil) (c56_3   _ _ _ _ _ h)
theorem laws_toOriginS_ok {N : Nat} {a0 : List Org} {r : (List Org)} (h : xC0 N  a0 = some r) : AbC 56 (xDf a0) (xCc r) :=
 AbsCalls.of_reach fk56 rfl rfl (Nat.le_of_ble_eq_true rfl) (c56_e a0 r h)
noncomputable def I134 : Info := { body := (Try.f134.body).getD .skip, nt := 13, results := [.cell 2 130], keep := [0, 2, 4, 6, 3, 5, 7], live := [], modes := [(4, [(0, .take, false)])], ext := [], lnt := [], casts := [], fcast := [] }
theorem fk134 : FnOk Try.prog 134 Try.f134 I134 := ⟨Try.func134, by kernel_rfl, by kernel_rfl, by kernel_rfl, by kernel_rfl⟩
theorem p134_e_0 (a0 : Rowd) (r1 : (List Int)) (r2 : (List Org)) : run tt (AbsCalls Try.prog) I134 3000 false [.code I134.body] ⟨(zBg 0 (xDU a0)), [], [xCZ r1, xCc r2], []⟩ = some (.done (xDA (Rowd.mk r1 r2)) [AbC 150 (xDO (Rowd.cells a0)) (xCZ r1), AbC 56 (xDf (Rowd.frm a0)) (xCc r2)]) := by kernel_rfl
theorem c134_e {N : Nat} : ∀ a0 r, xDM N a0 = some r → Reach Try.prog Try.f134 I134 [.code I134.body] (zBg 0 (xDU a0)) (xDA r) := by
 intro a0 r h
 unfold xDM at h
 obtain ⟨r1, h0, h⟩ := bind_inv h
 obtain ⟨r2, h1, h⟩ := bind_inv h
 obtain rfl := Option.some.inj h
 exact Reach.done ttok mix fk134 (p134_e_0 a0 r1 r2) (obs_cons (laws_toIntS_ok h0) (obs_cons (laws_toOriginS_ok h1) obs_nil))
theorem laws_toRow_ok {N : Nat} {a0 : Rowd} {r : Rowd} (h : xDM N  a0 = some r) : AbC 134 (xDU a0) (xDA r) :=
 AbsCalls.of_reach fk134 rfl rfl (Nat.le_of_ble_eq_true rfl) (c134_e a0 r h)
noncomputable def I88 : Info := { body := (Try.f88.body).getD .skip, nt := 23, results := [.tmp 2], keep := [0, 4, 6, 8, 22], live := [(3, [0, 6, 8])], modes := [(5, [(0, .ref, false)]), (6, [(0, .take, false)])], ext := [], lnt := [], casts := [], fcast := [] }
theorem fk88 : FnOk Try.prog 88 Try.f88 I88 := ⟨Try.func88, by kernel_rfl, by kernel_rfl, by kernel_rfl, by kernel_rfl⟩
def S88_3 (x0 x3 : List Rowd) (x4 : Int) : St := [(0, .v false [.sl .ro .row x0]), (6, .v false [.sl .own .row x3]), (8, .v false [.int .i64 x4])]
theorem p88_3_0 (x0 x3 : List Rowd) (x4 : Int) (r1 : Rowd) : run tt (AbsCalls Try.prog) I88 3000 true (stkAt 3 I88.body) ⟨(S88_3 x0 x3 x4), [true], [xDA r1], []⟩ = some (.stop (stkAt 3 I88.body) (S88_3 x0 (List.set x3 (Int.toNat x4) r1) (IntKind.i64.wrap (x4 + 1))) [(decide ((x4 : Int) < (List.length x0 : Int))) = true, (0 : Int) ≤ x4 ∧ x4 < (List.length x0), AbC 134 (xDU (List.getD x0 (Int.toNat x4) Ty.row.dflt)) (xDA r1), (0 : Int) ≤ x4 ∧ x4 < (List.length x3)]) := by kernel_rfl
theorem p88_3_1 (x0 x3 : List Rowd) (x4 : Int) : run tt (AbsCalls Try.prog) I88 3000 true (stkAt 3 I88.body) ⟨(S88_3 x0 x3 x4), [false], [], []⟩ = some (.done (xC1 x3) [(decide ((x4 : Int) < (List.length x0 : Int))) = false]) := by kernel_rfl
theorem p88_e_2 (a0 : List Rowd) : run tt (AbsCalls Try.prog) I88 3000 false [.code I88.body] ⟨(zBg 0 (xDQ a0)), [], [], []⟩ = some (.stop (stkAt 3 I88.body) (S88_3 a0 (List.replicate (Int.toNat (List.length a0 : Int)) Ty.row.dflt) 0) [(0 : Int) ≤ (List.length a0 : Int) ∧ (List.length a0 : Int) = (List.length a0 : Int) ∧ (List.length a0 : Int) ≤ Lim]) := by kernel_rfl
theorem c88_3 {N : Nat} : ∀ n x0 x3 x4 r, xDm N n x0 x3 x4 = some r → Reach Try.prog Try.f88 I88 (stkAt 3 I88.body) (S88_3 x0 x3 x4) (xC1 r) := by
 intro n
 induction n with
 | zero => intro x0 x3 x4 r h; have h' : (none : Option ((List Rowd))) = some r := h; cases h'
 | succ n ih =>
  intro x0 x3 x4 r h
  rw [xDm] at h
  rcases cond_inv h with ⟨h0, h⟩ | ⟨h0, h⟩
  ·obtain ⟨h1, h⟩ := ite_inv h
   obtain ⟨r1, h2, h⟩ := bind_inv h
   obtain ⟨h3, h⟩ := ite_inv h
   exact Reach.stop ttok mix fk88 (p88_3_0 x0 x3 x4 r1) (obs_cons h0 (obs_cons h1 (obs_cons (laws_toRow_ok h2) (obs_cons h3 obs_nil)))) (ih _ _ _ _ h)
  ·obtain rfl := Option.some.inj h
   exact Reach.done ttok mix fk88 (p88_3_1 x0 x3 x4) (obs_cons h0 obs_nil)
theorem c88_e {N : Nat} : ∀ a0 r, xDN N a0 = some r → Reach Try.prog Try.f88 I88 [.code I88.body] (zBg 0 (xDQ a0)) (xC1 r) := by
 intro a0 r h
 unfold xDN at h
 obtain ⟨h0, h⟩ := ite_inv h
 exact Reach.stop ttok mix fk88 (p88_e_2 a0) (obs_cons h0 obs_nil) (c88_3   _ _ _ _ _ h)
theorem laws_toRowS_ok {N : Nat} {a0 : List Rowd} {r : (List Rowd)} (h : xDN N  a0 = some r) : AbC 88 (xDQ a0) (xC1 r) :=
 AbsCalls.of_reach fk88 rfl rfl (Nat.le_of_ble_eq_true rfl) (c88_e a0 r h)
noncomputable def I26 : Info := { body := (Try.f26.body).getD .skip, nt := 29, results := [.cell 2 28], keep := [0, 2, 4, 6, 3, 5, 7], live := [], modes := [(9, [(0, .take, false)])], ext := [], lnt := [], casts := [], fcast := [] }
theorem fk26 : FnOk Try.prog 26 Try.f26 I26 := ⟨Try.func26, by kernel_rfl, by kernel_rfl, by kernel_rfl, by kernel_rfl⟩
theorem p26_e_0 (a0 : Val) (r1 : (List Val)) (r2 : (List Str)) (r3 : (List Rowd)) : run tt (AbsCalls Try.prog) I26 3000 false [.code I26.body] ⟨(zBg 0 (xA4 a0)), [], [xAZ r1, xCd r2, xC1 r3], []⟩ = some (.done (xAW (Val.mk (Val.kind a0) (Val.n a0) (Val.step a0) (Val.text a0) r1 r2 r3)) [AbC 64 (xBb (Val.list a0)) (xAZ r1), AbC 87 (xDg (Val.columns a0)) (xCd r2), AbC 88 (xDQ (Val.rows a0)) (xC1 r3)]) := by kernel_rfl
theorem c26_e {N : Nat} {rc_laws_toValue : Val → Option (Val)} (hrc_laws_toValue : ∀ a0 r, rc_laws_toValue a0 = some r → AbC 26 (xA4 a0) (xAW r)) {rc_laws_toValueS : (List Val) → Option ((List Val))} (hrc_laws_toValueS : ∀ a0 r, rc_laws_toValueS a0 = some r → AbC 64 (xBb a0) (xAZ r)) : ∀ a0 r, xCe N rc_laws_toValue rc_laws_toValueS a0 = some r → Reach Try.prog Try.f26 I26 [.code I26.body] (zBg 0 (xA4 a0)) (xAW r) := by
 intro a0 r h
 unfold xCe at h
 obtain ⟨r1, h0, h⟩ := bind_inv h
 obtain ⟨r2, h1, h⟩ := bind_inv h
 obtain ⟨r3, h2, h⟩ := bind_inv h
 obtain rfl := Option.some.inj h
 exact Reach.done ttok mix fk26 (p26_e_0 a0 r1 r2 r3) (obs_cons (hrc_laws_toValueS _ _ h0) (obs_cons (laws_toStringS_ok h1) (obs_cons (laws_toRowS_ok h2) obs_nil)))
theorem xEJ {N : Nat} {rc_laws_toValue : Val → Option (Val)} (hrc_laws_toValue : ∀ a0 r, rc_laws_toValue a0 = some r → AbC 26 (xA4 a0) (xAW r)) {rc_laws_toValueS : (List Val) → Option ((List Val))} (hrc_laws_toValueS : ∀ a0 r, rc_laws_toValueS a0 = some r → AbC 64 (xBb a0) (xAZ r)) {a0 : Val} {r : Val} (h : xCe N rc_laws_toValue rc_laws_toValueS a0 = some r) : AbC 26 (xA4 a0) (xAW r) :=
 AbsCalls.of_reach fk26 rfl rfl (Nat.le_of_ble_eq_true rfl) (c26_e hrc_laws_toValue hrc_laws_toValueS a0 r h)
noncomputable def I64 : Info := { body := (Try.f64.body).getD .skip, nt := 23, results := [.tmp 2], keep := [0, 4, 6, 8, 22], live := [(3, [0, 6, 8])], modes := [(5, [(0, .ref, false)]), (6, [(0, .take, false)])], ext := [], lnt := [], casts := [], fcast := [] }
theorem fk64 : FnOk Try.prog 64 Try.f64 I64 := ⟨Try.func64, by kernel_rfl, by kernel_rfl, by kernel_rfl, by kernel_rfl⟩
def S64_3 (x0 x3 : List Val) (x4 : Int) : St := [(0, .v false [.sl .ro .val x0]), (6, .v false [.sl .own .val x3]), (8, .v false [.int .i64 x4])]
theorem p64_3_0 (x0 x3 : List Val) (x4 : Int) (r1 : Val) : run tt (AbsCalls Try.prog) I64 3000 true (stkAt 3 I64.body) ⟨(S64_3 x0 x3 x4), [true], [xAW r1], []⟩ = some (.stop (stkAt 3 I64.body) (S64_3 x0 (List.set x3 (Int.toNat x4) (Val.re r1)) (IntKind.i64.wrap (x4 + 1))) [(decide ((x4 : Int) < (List.length x0 : Int))) = true, (0 : Int) ≤ x4 ∧ x4 < (List.length x0), AbC 26 (xA4 (List.getD x0 (Int.toNat x4) Ty.val.dflt)) (xAW r1), (0 : Int) ≤ x4 ∧ x4 < (List.length x3)]) := by kernel_rfl
theorem p64_3_1 (x0 x3 : List Val) (x4 : Int) : run tt (AbsCalls Try.prog) I64 3000 true (stkAt 3 I64.body) ⟨(S64_3 x0 x3 x4), [false], [], []⟩ = some (.done (xAZ x3) [(decide ((x4 : Int) < (List.length x0 : Int))) = false]) := by kernel_rfl
theorem p64_e_2 (a0 : List Val) : run tt (AbsCalls Try.prog) I64 3000 false [.code I64.body] ⟨(zBg 0 (xBb a0)), [], [], []⟩ = some (.stop (stkAt 3 I64.body) (S64_3 a0 (List.replicate (Int.toNat (List.length a0 : Int)) Ty.val.dflt) 0) [(0 : Int) ≤ (List.length a0 : Int) ∧ (List.length a0 : Int) = (List.length a0 : Int) ∧ (List.length a0 : Int) ≤ Lim]) := by kernel_rfl
theorem c64_3 {N : Nat} {rc_laws_toValue : Val → Option (Val)} (hrc_laws_toValue : ∀ a0 r, rc_laws_toValue a0 = some r → AbC 26 (xA4 a0) (xAW r)) {rc_laws_toValueS : (List Val) → Option ((List Val))} (hrc_laws_toValueS : ∀ a0 r, rc_laws_toValueS a0 = some r → AbC 64 (xBb a0) (xAZ r)) : ∀ n x0 x3 x4 r, xCS N rc_laws_toValue rc_laws_toValueS n x0 x3 x4 = some r → Reach Try.prog Try.f64 I64 (stkAt 3 I64.body) (S64_3 x0 x3 x4) (xAZ r) := by
 intro n
 induction n with
 | zero => intro x0 x3 x4 r h; have h' : (none : Option ((List Val))) = some r := h; cases h'
 | succ n ih =>
  intro x0 x3 x4 r h
  rw [xCS] at h
  rcases cond_inv h with ⟨h0, h⟩ | ⟨h0, h⟩
  ·obtain ⟨h1, h⟩ := ite_inv h
   obtain ⟨r1, h2, h⟩ := bind_inv h
   obtain ⟨h3, h⟩ := ite_inv h
   exact Reach.stop ttok mix fk64 (p64_3_0 x0 x3 x4 r1) (obs_cons h0 (obs_cons h1 (obs_cons (hrc_laws_toValue _ _ h2) (obs_cons h3 obs_nil)))) (ih _ _ _ _ h)
  ·obtain rfl := Option.some.inj h
   exact Reach.done ttok mix fk64 (p64_3_1 x0 x3 x4) (obs_cons h0 obs_nil)
theorem c64_e {N : Nat} {rc_laws_toValue : Val → Option (Val)} (hrc_laws_toValue : ∀ a0 r, rc_laws_toValue a0 = some r → AbC 26 (xA4 a0) (xAW r)) {rc_laws_toValueS : (List Val) → Option ((List Val))} (hrc_laws_toValueS : ∀ a0 r, rc_laws_toValueS a0 = some r → AbC 64 (xBb a0) (xAZ r)) : ∀ a0 r, xBV N rc_laws_toValue rc_laws_toValueS a0 = some r → Reach Try.prog Try.f64 I64 [.code I64.body] (zBg 0 (xBb a0)) (xAZ r) := by
 intro a0 r h
 unfold xBV at h
 obtain ⟨h0, h⟩ := ite_inv h
 exact Reach.stop ttok mix fk64 (p64_e_2 a0) (obs_cons h0 obs_nil) (c64_3 hrc_laws_toValue hrc_laws_toValueS  _ _ _ _ _ h)
theorem xEB {N : Nat} {rc_laws_toValue : Val → Option (Val)} (hrc_laws_toValue : ∀ a0 r, rc_laws_toValue a0 = some r → AbC 26 (xA4 a0) (xAW r)) {rc_laws_toValueS : (List Val) → Option ((List Val))} (hrc_laws_toValueS : ∀ a0 r, rc_laws_toValueS a0 = some r → AbC 64 (xBb a0) (xAZ r)) {a0 : List Val} {r : (List Val)} (h : xBV N rc_laws_toValue rc_laws_toValueS a0 = some r) : AbC 64 (xBb a0) (xAZ r) :=
 AbsCalls.of_reach fk64 rfl rfl (Nat.le_of_ble_eq_true rfl) (c64_e hrc_laws_toValue hrc_laws_toValueS a0 r h)
theorem xEU {N : Nat} : ∀ d, (∀ a0 r, (xAG N d).c_laws_toValue a0 = some r → AbC 26 (xA4 a0) (xAW r)) ∧ (∀ a0 r, (xAG N d).c_laws_toValueS a0 = some r → AbC 64 (xBb a0) (xAZ r)) := by
 intro d
 induction d with
 | zero =>
  refine ⟨?_, ?_⟩ <;> (intros; rename_i h; cases h)
 | succ d ih =>
  obtain ⟨ih0, ih1⟩ := ih
  refine ⟨?_, ?_⟩
  ·intro _ r h; exact xEJ (N := N) ih0 ih1 h
  ·intro _ r h; exact xEB (N := N) ih0 ih1 h
theorem laws_toValue_ok {N : Nat} {a0 : Val} {r : Val} (h : xEA N a0 = some r) : AbC 26 (xA4 a0) (xAW r) := (xEU N).1 _ r h
noncomputable def I116 : Info := { body := (Try.f116.body).getD .skip, nt := 12, results := [.cell 2 130], keep := [0, 2, 4, 3, 5], live := [], modes := [], ext := [], lnt := [], casts := [], fcast := [] }
theorem fk116 : FnOk Try.prog 116 Try.f116 I116 := ⟨Try.func116, by kernel_rfl, by kernel_rfl, by kernel_rfl, by kernel_rfl⟩
theorem p116_e_0 (a0 : Rowd) : run tt (AbsCalls Try.prog) I116 3000 false [.code I116.body] ⟨(zBg 0 (xDW a0)), [], [], []⟩ = some (.done (xDD (Rowd.mk ([] ++ (Rowd.cells a0)) ([] ++ (Rowd.frm a0)))) [0 + List.length (Rowd.cells a0) ≤ Lim, 0 + List.length (Rowd.frm a0) ≤ Lim]) := by kernel_rfl
theorem c116_e {N : Nat} : ∀ a0 r, xDZ N a0 = some r → Reach Try.prog Try.f116 I116 [.code I116.body] (zBg 0 (xDW a0)) (xDD r) := by
 intro a0 r h
 unfold xDZ at h
 obtain ⟨h0, h⟩ := ite_inv h
 obtain ⟨h1, h⟩ := ite_inv h
 obtain rfl := Option.some.inj h
 exact Reach.done ttok mix fk116 (p116_e_0 a0) (obs_cons h0 (obs_cons h1 obs_nil))
theorem spec_l3Row_ok {N : Nat} {a0 : Rowd} {r : Rowd} (h : xDZ N  a0 = some r) : AbC 116 (xDW a0) (xDD r) :=
 AbsCalls.of_reach fk116 rfl rfl (Nat.le_of_ble_eq_true rfl) (c116_e a0 r h)
noncomputable def I71 : Info := { body := (Try.f71.body).getD .skip, nt := 56, results := [.cell 2 28], keep := [0, 2, 4, 6, 8, 10, 46, 82, 3, 5, 7], live := [(3, [2, 4, 6, 8, 3, 5, 7]), (7, [2, 4, 6, 10, 3, 5, 7])], modes := [(5, [(1, .take, false), (9, .take, false)]), (9, [(1, .take, false), (9, .take, false)]), (10, [(0, .take, false)])], ext := [], lnt := [], casts := [], fcast := [] }
theorem fk71 : FnOk Try.prog 71 Try.f71 I71 := ⟨Try.func71, by kernel_rfl, by kernel_rfl, by kernel_rfl, by kernel_rfl⟩
def S71_3 (x4 : Int) (b1 b2 b3 : Val) : St := [(2, .v false [.ptr 1 0]), (4, .v false [.ptr 2 0]), (6, .v false [.ptr 3 0]), (8, .v false [.int .i64 x4]), (3, .v true [.int .i64 (Val.kind b1), .int .i64 (Val.n b1), .int .i64 (Val.step b1), .str (Val.text b1), .sl .ro .val (Val.list b1), .sl .ro .str (Val.columns b1), .sl .ro .row (Val.rows b1)]), (5, .v true [.int .i64 (Val.kind b2), .int .i64 (Val.n b2), .int .i64 (Val.step b2), .str (Val.text b2), .sl .own .val (Val.list b2), .sl .own .str (Val.columns b2), .sl .own .row (Val.rows b2)]), (7, .v true [.int .i64 (Val.kind b3), .int .i64 (Val.n b3), .int .i64 (Val.step b3), .str (Val.text b3), .sl .own .val (Val.list b3), .sl .own .str (Val.columns b3), .sl .own .row (Val.rows b3)])]
def S71_7 (x5 : Int) (b1 b2 b3 : Val) : St := [(2, .v false [.ptr 1 0]), (4, .v false [.ptr 2 0]), (6, .v false [.ptr 3 0]), (10, .v false [.int .i64 x5]), (3, .v true [.int .i64 (Val.kind b1), .int .i64 (Val.n b1), .int .i64 (Val.step b1), .str (Val.text b1), .sl .ro .val (Val.list b1), .sl .ro .str (Val.columns b1), .sl .ro .row (Val.rows b1)]), (5, .v true [.int .i64 (Val.kind b2), .int .i64 (Val.n b2), .int .i64 (Val.step b2), .str (Val.text b2), .sl .own .val (Val.list b2), .sl .own .str (Val.columns b2), .sl .own .row (Val.rows b2)]), (7, .v true [.int .i64 (Val.kind b3), .int .i64 (Val.n b3), .int .i64 (Val.step b3), .str (Val.text b3), .sl .own .val (Val.list b3), .sl .own .str (Val.columns b3), .sl .own .row (Val.rows b3)])]
theorem p71_7_0 (x5 : Int) (b1 b2 b3 : Val) (r1 : Rowd) : run tt (AbsCalls Try.prog) I71 3000 true (stkAt 7 I71.body) ⟨(S71_7 x5 b1 b2 b3), [true], [xDD r1], []⟩ = some (.stop (stkAt 7 I71.body) (S71_7 (IntKind.i64.wrap (x5 + 1)) b1 b2 (Val.mk (Val.kind b3) (Val.n b3) (Val.step b3) (Val.text b3) (Val.list b3) (Val.columns b3) ((Val.rows b3) ++ [r1]))) [(decide ((x5 : Int) < (List.length (Val.rows b1) : Int))) = true, (0 : Int) ≤ x5 ∧ x5 < (List.length (Val.rows b1)), AbC 116 (xDW (List.getD (Val.rows b1) (Int.toNat x5) Ty.row.dflt)) (xDD r1), List.length (Val.rows b3) + List.length [r1] ≤ Lim]) := by kernel_rfl
theorem p71_7_1 (x5 : Int) (b1 b2 b3 : Val) : run tt (AbsCalls Try.prog) I71 3000 true (stkAt 7 I71.body) ⟨(S71_7 x5 b1 b2 b3), [false], [], []⟩ = some (.done (xAN b3) [(decide ((x5 : Int) < (List.length (Val.rows b1) : Int))) = false]) := by kernel_rfl
theorem p71_3_2 (x4 : Int) (b1 b2 b3 r1 : Val) : run tt (AbsCalls Try.prog) I71 3000 true (stkAt 3 I71.body) ⟨(S71_3 x4 b1 b2 b3), [true], [xAN r1], []⟩ = some (.stop (stkAt 3 I71.body) (S71_3 (IntKind.i64.wrap (x4 + 1)) b1 b2 (Val.mk (Val.kind b3) (Val.n b3) (Val.step b3) (Val.text b3) ((Val.list b3) ++ [(Val.re r1)]) (Val.columns b3) (Val.rows b3))) [(decide ((x4 : Int) < (List.length (Val.list b1) : Int))) = true, (0 : Int) ≤ x4 ∧ x4 < (List.length (Val.list b1)), AbC 71 (xBc (List.getD (Val.list b1) (Int.toNat x4) Ty.val.dflt)) (xAN r1), List.length (Val.list b3) + List.length [(Val.re r1)] ≤ Lim]) := by kernel_rfl
theorem p71_3_3 (x4 : Int) (b1 b2 b3 : Val) : run tt (AbsCalls Try.prog) I71 3000 true (stkAt 3 I71.body) ⟨(S71_3 x4 b1 b2 b3), [false], [], []⟩ = some (.stop (stkAt 7 I71.body) (S71_7 0 b1 b2 b3) [(decide ((x4 : Int) < (List.length (Val.list b1) : Int))) = false]) := by kernel_rfl
theorem p71_e_4 (a0 : Val) : run tt (AbsCalls Try.prog) I71 3000 false [.code I71.body] ⟨(zBg 0 (xBc a0)), [], [], []⟩ = some (.stop (stkAt 3 I71.body) (S71_3 0 a0 (Val.mk 0 0 0 [] [] [] []) (Val.mk (Val.kind a0) (Val.n a0) (Val.step a0) (Val.text a0) [] ([] ++ (Val.columns a0)) [])) [0 + List.length (Val.columns a0) ≤ Lim]) := by kernel_rfl
theorem c71_7 {N : Nat} {rc_spec_l3Copy : Val → Option (Val)} (hrc_spec_l3Copy : ∀ a0 r, rc_spec_l3Copy a0 = some r → AbC 71 (xBc a0) (xAN r)) : ∀ n x5 b1 b2 b3 r, xB8 N rc_spec_l3Copy n x5 b1 b2 b3 = some r → Reach Try.prog Try.f71 I71 (stkAt 7 I71.body) (S71_7 x5 b1 b2 b3) (xAN r) := by
 intro n
 induction n with
 | zero => intro x5 b1 b2 b3 r h; have h' : (none : Option (Val)) = some r := h; cases h'
 | succ n ih =>
  intro x5 b1 b2 b3 r h
  rw [xB8] at h
  rcases cond_inv h with ⟨h0, h⟩ | ⟨h0, h⟩
  ·obtain ⟨h1, h⟩ := ite_inv h
   obtain ⟨r1, h2, h⟩ := bind_inv h
   obtain ⟨h3, h⟩ := ite_inv h
   exact Reach.stop ttok mix fk71 (p71_7_0 x5 b1 b2 b3 r1) (obs_cons h0 (obs_cons h1 (obs_cons (spec_l3Row_ok h2) (obs_cons h3 obs_nil)))) (ih _ _ _ _ _ h)
  ·obtain rfl := Option.some.inj h
   exact Reach.done ttok mix fk71 (p71_7_1 x5 b1 b2 b3) (obs_cons h0 obs_nil)
theorem c71_3 {N : Nat} {rc_spec_l3Copy : Val → Option (Val)} (hrc_spec_l3Copy : ∀ a0 r, rc_spec_l3Copy a0 = some r → AbC 71 (xBc a0) (xAN r)) : ∀ n x4 b1 b2 b3 r, xCB N rc_spec_l3Copy n x4 b1 b2 b3 = some r → Reach Try.prog Try.f71 I71 (stkAt 3 I71.body) (S71_3 x4 b1 b2 b3) (xAN r) := by
 intro n
 induction n with
 | zero => intro x4 b1 b2 b3 r h; have h' : (none : Option (Val)) = some r := h; cases h'
 | succ n ih =>
  intro x4 b1 b2 b3 r h
  rw [xCB] at h
  rcases cond_inv h with ⟨h0, h⟩ | ⟨h0, h⟩
  ·obtain ⟨h1, h⟩ := ite_inv h
   obtain ⟨r1, h2, h⟩ := bind_inv h
   obtain ⟨h3, h⟩ := ite_inv h
   exact Reach.stop ttok mix fk71 (p71_3_2 x4 b1 b2 b3 r1) (obs_cons h0 (obs_cons h1 (obs_cons (hrc_spec_l3Copy _ _ h2) (obs_cons h3 obs_nil)))) (ih _ _ _ _ _ h)
  ·exact Reach.stop ttok mix fk71 (p71_3_3 x4 b1 b2 b3) (obs_cons h0 obs_nil) (c71_7 hrc_spec_l3Copy  _ _ _ _ _ _ h)
theorem c71_e {N : Nat} {rc_spec_l3Copy : Val → Option (Val)} (hrc_spec_l3Copy : ∀ a0 r, rc_spec_l3Copy a0 = some r → AbC 71 (xBc a0) (xAN r)) : ∀ a0 r, xCs N rc_spec_l3Copy a0 = some r → Reach Try.prog Try.f71 I71 [.code I71.body] (zBg 0 (xBc a0)) (xAN r) := by
 intro a0 r h
 unfold xCs at h
 obtain ⟨h0, h⟩ := ite_inv h
 exact Reach.stop ttok mix fk71 (p71_e_4 a0) (obs_cons h0 obs_nil) (c71_3 hrc_spec_l3Copy  _ _ _ _ _ _ h)
theorem xEW {N : Nat} {rc_spec_l3Copy : Val → Option (Val)} (hrc_spec_l3Copy : ∀ a0 r, rc_spec_l3Copy a0 = some r → AbC 71 (xBc a0) (xAN r)) {a0 : Val} {r : Val} (h : xCs N rc_spec_l3Copy a0 = some r) : AbC 71 (xBc a0) (xAN r) :=
 AbsCalls.of_reach fk71 rfl rfl (Nat.le_of_ble_eq_true rfl) (c71_e hrc_spec_l3Copy a0 r h)
theorem spec_l3Copy_fix_ok {N : Nat} : ∀ d, (∀ a0 r, xCm N d a0 = some r → AbC 71 (xBc a0) (xAN r)) := by
 intro d
 induction d with
 | zero => intro _ r h; have h' : (none : Option (Val)) = some r := h; cases h'
 | succ d ih => intro _ r h; exact xEW (N := N) ih h
theorem xEP {N : Nat} {a0 : Val} {r : Val} (h : xCA N a0 = some r) : AbC 71 (xBc a0) (xAN r) := spec_l3Copy_fix_ok N _ r h
noncomputable def I119 : Info := { body := (Try.f119.body).getD .skip, nt := 12, results := [.cell 2 130], keep := [0, 2, 4, 3, 5], live := [], modes := [], ext := [], lnt := [], casts := [], fcast := [] }
theorem fk119 : FnOk Try.prog 119 Try.f119 I119 := ⟨Try.func119, by kernel_rfl, by kernel_rfl, by kernel_rfl, by kernel_rfl⟩
theorem p119_e_0 (a0 : Rowd) : run tt (AbsCalls Try.prog) I119 3000 false [.code I119.body] ⟨(zBg 0 (xDw a0)), [], [], []⟩ = some (.done (xC5 (Rowd.mk ([] ++ (Rowd.cells a0)) ([] ++ (Rowd.frm a0)))) [0 + List.length (Rowd.cells a0) ≤ Lim, 0 + List.length (Rowd.frm a0) ≤ Lim]) := by kernel_rfl
theorem c119_e {N : Nat} : ∀ a0 r, xDR N a0 = some r → Reach Try.prog Try.f119 I119 [.code I119.body] (zBg 0 (xDw a0)) (xC5 r) := by
 intro a0 r h
 unfold xDR at h
 obtain ⟨h0, h⟩ := ite_inv h
 obtain ⟨h1, h⟩ := ite_inv h
 obtain rfl := Option.some.inj h
 exact Reach.done ttok mix fk119 (p119_e_0 a0) (obs_cons h0 (obs_cons h1 obs_nil))
theorem impl_copyRow_ok {N : Nat} {a0 : Rowd} {r : Rowd} (h : xDR N  a0 = some r) : AbC 119 (xDw a0) (xC5 r) :=
 AbsCalls.of_reach fk119 rfl rfl (Nat.le_of_ble_eq_true rfl) (c119_e a0 r h)
noncomputable def I74 : Info := { body := (Try.f74.body).getD .skip, nt := 33, results := [.cell 2 28], keep := [0, 2, 4, 6, 10, 36, 38, 40, 42, 3, 5, 7, 11], live := [(6, [4, 6, 36, 38, 40, 5, 7])], modes := [(8, [(1, .take, false), (5, .take, false)]), (9, [(1, .take, false)]), (10, [(0, .take, false)])], ext := [], lnt := [], casts := [], fcast := [] }
theorem fk74 : FnOk Try.prog 74 Try.f74 I74 := ⟨Try.func74, by kernel_rfl, by kernel_rfl, by kernel_rfl, by kernel_rfl⟩
def S74_6 (x18 : List Rowd) (x19 x20 : Int) (b2 b3 : Val) : St := [(4, .v false [.ptr 2 0]), (6, .v false [.ptr 3 0]), (36, .v false [.sl .ro .row x18]), (38, .v false [.int .i64 x19]), (40, .v false [.int .i64 x20]), (5, .v true [.int .i64 (Val.kind b2), .int .i64 (Val.n b2), .int .i64 (Val.step b2), .str (Val.text b2), .sl .own .val (Val.list b2), .sl .own .str (Val.columns b2), .sl .own .row (Val.rows b2)]), (7, .v true [.int .i64 (Val.kind b3), .int .i64 (Val.n b3), .int .i64 (Val.step b3), .str (Val.text b3), .sl .own .val (Val.list b3), .sl .own .str (Val.columns b3), .sl .own .row (Val.rows b3)])]
theorem p74_6_0 (x18 : List Rowd) (x19 x20 : Int) (b2 b3 : Val) (r1 : Rowd) : run tt (AbsCalls Try.prog) I74 3000 true (stkAt 6 I74.body) ⟨(S74_6 x18 x19 x20 b2 b3), [true], [xC5 r1], []⟩ = some (.stop (stkAt 6 I74.body) (S74_6 x18 x19 (IntKind.i64.wrap (x20 + 1)) b2 (Val.mk (Val.kind b3) (Val.n b3) (Val.step b3) (Val.text b3) (Val.list b3) (Val.columns b3) ((Val.rows b3) ++ [r1]))) [(decide ((x20 : Int) < x19)) = true, (0 : Int) ≤ x20 ∧ x20 < (List.length x18), AbC 119 (xDw (List.getD x18 (Int.toNat x20) Ty.row.dflt)) (xC5 r1), List.length (Val.rows b3) + List.length [r1] ≤ Lim]) := by kernel_rfl
theorem p74_6_1 (x18 : List Rowd) (x19 x20 : Int) (b2 b3 : Val) : run tt (AbsCalls Try.prog) I74 3000 true (stkAt 6 I74.body) ⟨(S74_6 x18 x19 x20 b2 b3), [false], [], []⟩ = some (.done (xAC b3) [(decide ((x20 : Int) < x19)) = false]) := by kernel_rfl
theorem p74_e_2 (a0 : Val) (r1 : (List Val)) : run tt (AbsCalls Try.prog) I74 3000 false [.code I74.body] ⟨(zBg 0 (xAK a0)), [], [xAL r1], []⟩ = some (.stop (stkAt 6 I74.body) (S74_6 (Val.rows a0) (List.length (Val.rows a0) : Int) 0 (Val.mk 0 0 0 [] [] [] []) (Val.mk (Val.kind a0) (Val.n a0) (Val.step a0) (Val.text a0) r1 ([] ++ (Val.columns a0)) [])) [AbC 128 (xAV (Val.list a0)) (xAL r1), 0 + List.length (Val.columns a0) ≤ Lim]) := by kernel_rfl
theorem c74_6 {N : Nat} {rc_impl_copyValue : Val → Option (Val)} (hrc_impl_copyValue : ∀ a0 r, rc_impl_copyValue a0 = some r → AbC 74 (xAK a0) (xAC r)) {rc_impl_copyValues : (List Val) → Option ((List Val))} (hrc_impl_copyValues : ∀ a0 r, rc_impl_copyValues a0 = some r → AbC 128 (xAV a0) (xAL r)) : ∀ n x18 x19 x20 b2 b3 r, xBs N rc_impl_copyValue rc_impl_copyValues n x18 x19 x20 b2 b3 = some r → Reach Try.prog Try.f74 I74 (stkAt 6 I74.body) (S74_6 x18 x19 x20 b2 b3) (xAC r) := by
 intro n
 induction n with
 | zero => intro x18 x19 x20 b2 b3 r h; have h' : (none : Option (Val)) = some r := h; cases h'
 | succ n ih =>
  intro x18 x19 x20 b2 b3 r h
  rw [xBs] at h
  rcases cond_inv h with ⟨h0, h⟩ | ⟨h0, h⟩
  ·obtain ⟨h1, h⟩ := ite_inv h
   obtain ⟨r1, h2, h⟩ := bind_inv h
   obtain ⟨h3, h⟩ := ite_inv h
   exact Reach.stop ttok mix fk74 (p74_6_0 x18 x19 x20 b2 b3 r1) (obs_cons h0 (obs_cons h1 (obs_cons (impl_copyRow_ok h2) (obs_cons h3 obs_nil)))) (ih _ _ _ _ _ _ h)
  ·obtain rfl := Option.some.inj h
   exact Reach.done ttok mix fk74 (p74_6_1 x18 x19 x20 b2 b3) (obs_cons h0 obs_nil)
theorem c74_e {N : Nat} {rc_impl_copyValue : Val → Option (Val)} (hrc_impl_copyValue : ∀ a0 r, rc_impl_copyValue a0 = some r → AbC 74 (xAK a0) (xAC r)) {rc_impl_copyValues : (List Val) → Option ((List Val))} (hrc_impl_copyValues : ∀ a0 r, rc_impl_copyValues a0 = some r → AbC 128 (xAV a0) (xAL r)) : ∀ a0 r, xBJ N rc_impl_copyValue rc_impl_copyValues a0 = some r → Reach Try.prog Try.f74 I74 [.code I74.body] (zBg 0 (xAK a0)) (xAC r) := by
 intro a0 r h
 unfold xBJ at h
 obtain ⟨r1, h0, h⟩ := bind_inv h
 obtain ⟨h1, h⟩ := ite_inv h
 exact Reach.stop ttok mix fk74 (p74_e_2 a0 r1) (obs_cons (hrc_impl_copyValues _ _ h0) (obs_cons h1 obs_nil)) (c74_6 hrc_impl_copyValue hrc_impl_copyValues  _ _ _ _ _ _ _ h)
theorem xEq {N : Nat} {rc_impl_copyValue : Val → Option (Val)} (hrc_impl_copyValue : ∀ a0 r, rc_impl_copyValue a0 = some r → AbC 74 (xAK a0) (xAC r)) {rc_impl_copyValues : (List Val) → Option ((List Val))} (hrc_impl_copyValues : ∀ a0 r, rc_impl_copyValues a0 = some r → AbC 128 (xAV a0) (xAL r)) {a0 : Val} {r : Val} (h : xBJ N rc_impl_copyValue rc_impl_copyValues a0 = some r) : AbC 74 (xAK a0) (xAC r) :=
 AbsCalls.of_reach fk74 rfl rfl (Nat.le_of_ble_eq_true rfl) (c74_e hrc_impl_copyValue hrc_impl_copyValues a0 r h)
noncomputable def I128 : Info := { body := (Try.f128.body).getD .skip, nt := 20, results := [.tmp 2], keep := [0, 4, 6, 10, 14, 16, 18, 20, 11], live := [(3, [6, 14, 16, 18])], modes := [(5, [(0, .take, false), (4, .take, false)]), (6, [(1, .take, false)]), (7, [(0, .take, false)])], ext := [], lnt := [], casts := [], fcast := [] }
theorem fk128 : FnOk Try.prog 128 Try.f128 I128 := ⟨Try.func128, by kernel_rfl, by kernel_rfl, by kernel_rfl, by kernel_rfl⟩
def S128_3 (x3 x7 : List Val) (x8 x9 : Int) : St := [(6, .v false [.sl .own .val x3]), (14, .v false [.sl .ro .val x7]), (16, .v false [.int .i64 x8]), (18, .v false [.int .i64 x9])]
theorem p128_3_0 (x3 x7 : List Val) (x8 x9 : Int) (r1 : Val) : run tt (AbsCalls Try.prog) I128 3000 true (stkAt 3 I128.body) ⟨(S128_3 x3 x7 x8 x9), [true], [xAC r1], []⟩ = some (.stop (stkAt 3 I128.body) (S128_3 (x3 ++ [(Val.re r1)]) x7 x8 (IntKind.i64.wrap (x9 + 1))) [(decide ((x9 : Int) < x8)) = true, (0 : Int) ≤ x9 ∧ x9 < (List.length x7), AbC 74 (xAK (List.getD x7 (Int.toNat x9) Ty.val.dflt)) (xAC r1), List.length x3 + List.length [(Val.re r1)] ≤ Lim]) := by kernel_rfl
theorem p128_3_1 (x3 x7 : List Val) (x8 x9 : Int) : run tt (AbsCalls Try.prog) I128 3000 true (stkAt 3 I128.body) ⟨(S128_3 x3 x7 x8 x9), [false], [], []⟩ = some (.done (xAL x3) [(decide ((x9 : Int) < x8)) = false]) := by kernel_rfl
theorem p128_e_2 (a0 : List Val) : run tt (AbsCalls Try.prog) I128 3000 false [.code I128.body] ⟨(zBg 0 (xAV a0)), [], [], []⟩ = some (.stop (stkAt 3 I128.body) (S128_3 [] a0 (List.length a0 : Int) 0) []) := by kernel_rfl
theorem c128_3 {N : Nat} {rc_impl_copyValue : Val → Option (Val)} (hrc_impl_copyValue : ∀ a0 r, rc_impl_copyValue a0 = some r → AbC 74 (xAK a0) (xAC r)) {rc_impl_copyValues : (List Val) → Option ((List Val))} (hrc_impl_copyValues : ∀ a0 r, rc_impl_copyValues a0 = some r → AbC 128 (xAV a0) (xAL r)) : ∀ n x3 x7 x8 x9 r, xBA N rc_impl_copyValue rc_impl_copyValues n x3 x7 x8 x9 = some r → Reach Try.prog Try.f128 I128 (stkAt 3 I128.body) (S128_3 x3 x7 x8 x9) (xAL r) := by
 intro n
 induction n with
 | zero => intro x3 x7 x8 x9 r h; have h' : (none : Option ((List Val))) = some r := h; cases h'
 | succ n ih =>
  intro x3 x7 x8 x9 r h
  rw [xBA] at h
  rcases cond_inv h with ⟨h0, h⟩ | ⟨h0, h⟩
  ·obtain ⟨h1, h⟩ := ite_inv h
   obtain ⟨r1, h2, h⟩ := bind_inv h
   obtain ⟨h3, h⟩ := ite_inv h
   exact Reach.stop ttok mix fk128 (p128_3_0 x3 x7 x8 x9 r1) (obs_cons h0 (obs_cons h1 (obs_cons (hrc_impl_copyValue _ _ h2) (obs_cons h3 obs_nil)))) (ih _ _ _ _ _ h)
  ·obtain rfl := Option.some.inj h
   exact Reach.done ttok mix fk128 (p128_3_1 x3 x7 x8 x9) (obs_cons h0 obs_nil)
theorem c128_e {N : Nat} {rc_impl_copyValue : Val → Option (Val)} (hrc_impl_copyValue : ∀ a0 r, rc_impl_copyValue a0 = some r → AbC 74 (xAK a0) (xAC r)) {rc_impl_copyValues : (List Val) → Option ((List Val))} (hrc_impl_copyValues : ∀ a0 r, rc_impl_copyValues a0 = some r → AbC 128 (xAV a0) (xAL r)) : ∀ a0 r, xBD N rc_impl_copyValue rc_impl_copyValues a0 = some r → Reach Try.prog Try.f128 I128 [.code I128.body] (zBg 0 (xAV a0)) (xAL r) := by
 intro a0 r h
 unfold xBD at h
 exact Reach.stop ttok mix fk128 (p128_e_2 a0) obs_nil (c128_3 hrc_impl_copyValue hrc_impl_copyValues  _ _ _ _ _ _ h)
theorem xEg {N : Nat} {rc_impl_copyValue : Val → Option (Val)} (hrc_impl_copyValue : ∀ a0 r, rc_impl_copyValue a0 = some r → AbC 74 (xAK a0) (xAC r)) {rc_impl_copyValues : (List Val) → Option ((List Val))} (hrc_impl_copyValues : ∀ a0 r, rc_impl_copyValues a0 = some r → AbC 128 (xAV a0) (xAL r)) {a0 : List Val} {r : (List Val)} (h : xBD N rc_impl_copyValue rc_impl_copyValues a0 = some r) : AbC 128 (xAV a0) (xAL r) :=
 AbsCalls.of_reach fk128 rfl rfl (Nat.le_of_ble_eq_true rfl) (c128_e hrc_impl_copyValue hrc_impl_copyValues a0 r h)
theorem xEt {N : Nat} : ∀ d, (∀ a0 r, (xAy N d).c_impl_copyValue a0 = some r → AbC 74 (xAK a0) (xAC r)) ∧ (∀ a0 r, (xAy N d).c_impl_copyValues a0 = some r → AbC 128 (xAV a0) (xAL r)) := by
 intro d
 induction d with
 | zero =>
  refine ⟨?_, ?_⟩ <;> (intros; rename_i h; cases h)
 | succ d ih =>
  obtain ⟨ih0, ih1⟩ := ih
  refine ⟨?_, ?_⟩
  ·intro _ r h; exact xEq (N := N) ih0 ih1 h
  ·intro _ r h; exact xEg (N := N) ih0 ih1 h
theorem xEc {N : Nat} {a0 : Val} {r : Val} (h : xBv N a0 = some r) : AbC 74 (xAK a0) (xAC r) := (xEt N).1 _ r h
noncomputable def I76 : Info := { body := (Try.f76.body).getD .skip, nt := 26, results := [.tmp 4], keep := [0, 2, 8, 10, 20, 28, 50], live := [(4, [0, 2, 10])], modes := [], ext := [], lnt := [], casts := [], fcast := [] }
theorem fk76 : FnOk Try.prog 76 Try.f76 I76 := ⟨Try.func76, by kernel_rfl, by kernel_rfl, by kernel_rfl, by kernel_rfl⟩
def S76_4 (x0 x1 : List Str) (x5 : Int) : St := [(0, .v false [.sl .ro .str x0]), (2, .v false [.sl .ro .str x1]), (10, .v false [.int .i64 x5])]
theorem p76_4_0 (x0 x1 : List Str) (x5 : Int) : run tt (AbsCalls Try.prog) I76 3000 true (stkAt 4 I76.body) ⟨(S76_4 x0 x1 x5), [true, true], [], []⟩ = some (.done (xAS false) [(decide ((x5 : Int) < (List.length x0 : Int))) = true, (0 : Int) ≤ x5 ∧ x5 < (List.length x0), (0 : Int) ≤ x5 ∧ x5 < (List.length x1), (!(((List.getD x0 (Int.toNat x5) Ty.str.dflt) : Str) == (List.getD x1 (Int.toNat x5) Ty.str.dflt))) = true]) := by kernel_rfl
theorem p76_4_1 (x0 x1 : List Str) (x5 : Int) : run tt (AbsCalls Try.prog) I76 3000 true (stkAt 4 I76.body) ⟨(S76_4 x0 x1 x5), [true, false], [], []⟩ = some (.stop (stkAt 4 I76.body) (S76_4 x0 x1 (IntKind.i64.wrap (x5 + 1))) [(decide ((x5 : Int) < (List.length x0 : Int))) = true, (0 : Int) ≤ x5 ∧ x5 < (List.length x0), (0 : Int) ≤ x5 ∧ x5 < (List.length x1), (!(((List.getD x0 (Int.toNat x5) Ty.str.dflt) : Str) == (List.getD x1 (Int.toNat x5) Ty.str.dflt))) = false]) := by kernel_rfl
theorem p76_4_2 (x0 x1 : List Str) (x5 : Int) : run tt (AbsCalls Try.prog) I76 3000 true (stkAt 4 I76.body) ⟨(S76_4 x0 x1 x5), [false], [], []⟩ = some (.done (xAS true) [(decide ((x5 : Int) < (List.length x0 : Int))) = false]) := by kernel_rfl
theorem p76_e_3 (a0 a1 : List Str) : run tt (AbsCalls Try.prog) I76 3000 false [.code I76.body] ⟨(zBg 0 (xBL a0 a1)), [true], [], []⟩ = some (.done (xAS false) [(((List.length a0 : Int) : Int) != (List.length a1 : Int)) = true]) := by kernel_rfl
theorem p76_e_4 (a0 a1 : List Str) : run tt (AbsCalls Try.prog) I76 3000 false [.code I76.body] ⟨(zBg 0 (xBL a0 a1)), [false], [], []⟩ = some (.stop (stkAt 4 I76.body) (S76_4 a0 a1 0) [(((List.length a0 : Int) : Int) != (List.length a1 : Int)) = false]) := by kernel_rfl
theorem c76_4 {N : Nat} : ∀ n x0 x1 x5 r, xBM N n x0 x1 x5 = some r → Reach Try.prog Try.f76 I76 (stkAt 4 I76.body) (S76_4 x0 x1 x5) (xAS r) := by
 intro n
 induction n with
 | zero => intro x0 x1 x5 r h; have h' : (none : Option (Bool)) = some r := h; cases h'
 | succ n ih =>
  intro x0 x1 x5 r h
  rw [xBM] at h
  rcases cond_inv h with ⟨h0, h⟩ | ⟨h0, h⟩
  ·obtain ⟨h1, h⟩ := ite_inv h
   obtain ⟨h2, h⟩ := ite_inv h
   rcases cond_inv h with ⟨h3, h⟩ | ⟨h3, h⟩
   ·obtain rfl := Option.some.inj h
    exact Reach.done ttok mix fk76 (p76_4_0 x0 x1 x5) (obs_cons h0 (obs_cons h1 (obs_cons h2 (obs_cons h3 obs_nil))))
   ·exact Reach.stop ttok mix fk76 (p76_4_1 x0 x1 x5) (obs_cons h0 (obs_cons h1 (obs_cons h2 (obs_cons h3 obs_nil)))) (ih _ _ _ _ h)
  ·obtain rfl := Option.some.inj h
   exact Reach.done ttok mix fk76 (p76_4_2 x0 x1 x5) (obs_cons h0 obs_nil)
theorem c76_e {N : Nat} : ∀ a0 a1 r, xCW N a0 a1 = some r → Reach Try.prog Try.f76 I76 [.code I76.body] (zBg 0 (xBL a0 a1)) (xAS r) := by
 intro a0 a1 r h
 unfold xCW at h
 rcases cond_inv h with ⟨h0, h⟩ | ⟨h0, h⟩
 ·obtain rfl := Option.some.inj h
  exact Reach.done ttok mix fk76 (p76_e_3 a0 a1) (obs_cons h0 obs_nil)
 ·exact Reach.stop ttok mix fk76 (p76_e_4 a0 a1) (obs_cons h0 obs_nil) (c76_4   _ _ _ _ _ h)
theorem xDI {N : Nat} {a0 : List Str} {a1 : List Str} {r : Bool} (h : xCW N  a0 a1 = some r) : AbC 76 (xBL a0 a1) (xAS r) :=
 AbsCalls.of_reach fk76 rfl rfl (Nat.le_of_ble_eq_true rfl) (c76_e a0 a1 r h)
noncomputable def I148 : Info := { body := (Try.f148.body).getD .skip, nt := 26, results := [.tmp 4], keep := [0, 2, 8, 10, 20, 28, 50], live := [(4, [0, 2, 10])], modes := [], ext := [], lnt := [], casts := [], fcast := [] }
theorem fk148 : FnOk Try.prog 148 Try.f148 I148 := ⟨Try.func148, by kernel_rfl, by kernel_rfl, by kernel_rfl, by kernel_rfl⟩
def S148_4 (x0 x1 : List Int) (x5 : Int) : St := [(0, .v false [.sl .ro .int x0]), (2, .v false [.sl .ro .int x1]), (10, .v false [.int .i64 x5])]
theorem p148_4_0 (x0 x1 : List Int) (x5 : Int) : run tt (AbsCalls Try.prog) I148 3000 true (stkAt 4 I148.body) ⟨(S148_4 x0 x1 x5), [true, true], [], []⟩ = some (.done (xA9 false) [(decide ((x5 : Int) < (List.length x0 : Int))) = true, (0 : Int) ≤ x5 ∧ x5 < (List.length x0), (0 : Int) ≤ x5 ∧ x5 < (List.length x1), (((List.getD x0 (Int.toNat x5) Ty.int.dflt) : Int) != (List.getD x1 (Int.toNat x5) Ty.int.dflt)) = true]) := by kernel_rfl
theorem p148_4_1 (x0 x1 : List Int) (x5 : Int) : run tt (AbsCalls Try.prog) I148 3000 true (stkAt 4 I148.body) ⟨(S148_4 x0 x1 x5), [true, false], [], []⟩ = some (.stop (stkAt 4 I148.body) (S148_4 x0 x1 (IntKind.i64.wrap (x5 + 1))) [(decide ((x5 : Int) < (List.length x0 : Int))) = true, (0 : Int) ≤ x5 ∧ x5 < (List.length x0), (0 : Int) ≤ x5 ∧ x5 < (List.length x1), (((List.getD x0 (Int.toNat x5) Ty.int.dflt) : Int) != (List.getD x1 (Int.toNat x5) Ty.int.dflt)) = false]) := by kernel_rfl
theorem p148_4_2 (x0 x1 : List Int) (x5 : Int) : run tt (AbsCalls Try.prog) I148 3000 true (stkAt 4 I148.body) ⟨(S148_4 x0 x1 x5), [false], [], []⟩ = some (.done (xA9 true) [(decide ((x5 : Int) < (List.length x0 : Int))) = false]) := by kernel_rfl
theorem p148_e_3 (a0 a1 : List Int) : run tt (AbsCalls Try.prog) I148 3000 false [.code I148.body] ⟨(zBg 0 (xCu a0 a1)), [true], [], []⟩ = some (.done (xA9 false) [(((List.length a0 : Int) : Int) != (List.length a1 : Int)) = true]) := by kernel_rfl
theorem p148_e_4 (a0 a1 : List Int) : run tt (AbsCalls Try.prog) I148 3000 false [.code I148.body] ⟨(zBg 0 (xCu a0 a1)), [false], [], []⟩ = some (.stop (stkAt 4 I148.body) (S148_4 a0 a1 0) [(((List.length a0 : Int) : Int) != (List.length a1 : Int)) = false]) := by kernel_rfl
theorem c148_4 {N : Nat} : ∀ n x0 x1 x5 r, xCv N n x0 x1 x5 = some r → Reach Try.prog Try.f148 I148 (stkAt 4 I148.body) (S148_4 x0 x1 x5) (xA9 r) := by
 intro n
 induction n with
 | zero => intro x0 x1 x5 r h; have h' : (none : Option (Bool)) = some r := h; cases h'
 | succ n ih =>
  intro x0 x1 x5 r h
  rw [xCv] at h
  rcases cond_inv h with ⟨h0, h⟩ | ⟨h0, h⟩
  ·obtain ⟨h1, h⟩ := ite_inv h
   obtain ⟨h2, h⟩ := ite_inv h
   rcases cond_inv h with ⟨h3, h⟩ | ⟨h3, h⟩
   ·obtain rfl := Option.some.inj h
    exact Reach.done ttok mix fk148 (p148_4_0 x0 x1 x5) (obs_cons h0 (obs_cons h1 (obs_cons h2 (obs_cons h3 obs_nil))))
   ·exact Reach.stop ttok mix fk148 (p148_4_1 x0 x1 x5) (obs_cons h0 (obs_cons h1 (obs_cons h2 (obs_cons h3 obs_nil)))) (ih _ _ _ _ h)
  ·obtain rfl := Option.some.inj h
   exact Reach.done ttok mix fk148 (p148_4_2 x0 x1 x5) (obs_cons h0 obs_nil)
theorem c148_e {N : Nat} : ∀ a0 a1 r, xDF N a0 a1 = some r → Reach Try.prog Try.f148 I148 [.code I148.body] (zBg 0 (xCu a0 a1)) (xA9 r) := by
 intro a0 a1 r h
 unfold xDF at h
 rcases cond_inv h with ⟨h0, h⟩ | ⟨h0, h⟩
 ·obtain rfl := Option.some.inj h
  exact Reach.done ttok mix fk148 (p148_e_3 a0 a1) (obs_cons h0 obs_nil)
 ·exact Reach.stop ttok mix fk148 (p148_e_4 a0 a1) (obs_cons h0 obs_nil) (c148_4   _ _ _ _ _ h)
theorem xD9 {N : Nat} {a0 : List Int} {a1 : List Int} {r : Bool} (h : xDF N  a0 a1 = some r) : AbC 148 (xCu a0 a1) (xA9 r) :=
 AbsCalls.of_reach fk148 rfl rfl (Nat.le_of_ble_eq_true rfl) (c148_e a0 a1 r h)
noncomputable def I120 : Info := { body := (Try.f120.body).getD .skip, nt := 15, results := [.tmp 4], keep := [0, 2, 4, 6, 8, 18, 28, 5, 7], live := [], modes := [], ext := [], lnt := [], casts := [], fcast := [] }
theorem fk120 : FnOk Try.prog 120 Try.f120 I120 := ⟨Try.func120, by kernel_rfl, by kernel_rfl, by kernel_rfl, by kernel_rfl⟩
theorem p120_e_0 (a0 a1 : Org) : run tt (AbsCalls Try.prog) I120 3000 false [.code I120.body] ⟨(zBg 0 (xBW a0 a1)), [true], [], []⟩ = some (.done (xBl false) [(((Org.cell a0) : Int) != (Org.cell a1)) = true]) := by kernel_rfl
theorem p120_e_1 (a0 a1 : Org) : run tt (AbsCalls Try.prog) I120 3000 false [.code I120.body] ⟨(zBg 0 (xBW a0 a1)), [false, true], [], []⟩ = some (.done (xBl false) [(((Org.cell a0) : Int) != (Org.cell a1)) = false, (((Org.row a0) : Int) != (Org.row a1)) = true]) := by kernel_rfl
theorem p120_e_2 (a0 a1 : Org) : run tt (AbsCalls Try.prog) I120 3000 false [.code I120.body] ⟨(zBg 0 (xBW a0 a1)), [false, false], [], []⟩ = some (.done (xBl true) [(((Org.cell a0) : Int) != (Org.cell a1)) = false, (((Org.row a0) : Int) != (Org.row a1)) = false]) := by kernel_rfl
theorem c120_e {N : Nat} : ∀ a0 a1 r, xDb N a0 a1 = some r → Reach Try.prog Try.f120 I120 [.code I120.body] (zBg 0 (xBW a0 a1)) (xBl r) := by
 intro a0 a1 r h
 unfold xDb at h
 rcases cond_inv h with ⟨h0, h⟩ | ⟨h0, h⟩
 ·obtain rfl := Option.some.inj h
  exact Reach.done ttok mix fk120 (p120_e_0 a0 a1) (obs_cons h0 obs_nil)
 ·rcases cond_inv h with ⟨h1, h⟩ | ⟨h1, h⟩
  ·obtain rfl := Option.some.inj h
   exact Reach.done ttok mix fk120 (p120_e_1 a0 a1) (obs_cons h0 (obs_cons h1 obs_nil))
  ·obtain rfl := Option.some.inj h
   exact Reach.done ttok mix fk120 (p120_e_2 a0 a1) (obs_cons h0 (obs_cons h1 obs_nil))
theorem xEm {N : Nat} {a0 : Org} {a1 : Org} {r : Bool} (h : xDb N  a0 a1 = some r) : AbC 120 (xBW a0 a1) (xBl r) :=
 AbsCalls.of_reach fk120 rfl rfl (Nat.le_of_ble_eq_true rfl) (c120_e a0 a1 r h)
noncomputable def I58 : Info := { body := (Try.f58.body).getD .skip, nt := 27, results := [.tmp 4], keep := [0, 2, 8, 10, 20, 28, 52], live := [(4, [0, 2, 10])], modes := [], ext := [], lnt := [], casts := [], fcast := [] }
theorem fk58 : FnOk Try.prog 58 Try.f58 I58 := ⟨Try.func58, by kernel_rfl, by kernel_rfl, by kernel_rfl, by kernel_rfl⟩
def S58_4 (x0 x1 : List Org) (x5 : Int) : St := [(0, .v false [.sl .ro .org x0]), (2, .v false [.sl .ro .org x1]), (10, .v false [.int .i64 x5])]
theorem p58_4_0 (x0 x1 : List Org) (x5 : Int) (r1 : Bool) : run tt (AbsCalls Try.prog) I58 3000 true (stkAt 4 I58.body) ⟨(S58_4 x0 x1 x5), [true, true], [xBl r1], []⟩ = some (.done (xA5 false) [(decide ((x5 : Int) < (List.length x0 : Int))) = true, (0 : Int) ≤ x5 ∧ x5 < (List.length x0), (0 : Int) ≤ x5 ∧ x5 < (List.length x1), AbC 120 (xBW (List.getD x0 (Int.toNat x5) Ty.org.dflt) (List.getD x1 (Int.toNat x5) Ty.org.dflt)) (xBl r1), (!r1) = true]) := by kernel_rfl
theorem p58_4_1 (x0 x1 : List Org) (x5 : Int) (r1 : Bool) : run tt (AbsCalls Try.prog) I58 3000 true (stkAt 4 I58.body) ⟨(S58_4 x0 x1 x5), [true, false], [xBl r1], []⟩ = some (.stop (stkAt 4 I58.body) (S58_4 x0 x1 (IntKind.i64.wrap (x5 + 1))) [(decide ((x5 : Int) < (List.length x0 : Int))) = true, (0 : Int) ≤ x5 ∧ x5 < (List.length x0), (0 : Int) ≤ x5 ∧ x5 < (List.length x1), AbC 120 (xBW (List.getD x0 (Int.toNat x5) Ty.org.dflt) (List.getD x1 (Int.toNat x5) Ty.org.dflt)) (xBl r1), (!r1) = false]) := by kernel_rfl
theorem p58_4_2 (x0 x1 : List Org) (x5 : Int) : run tt (AbsCalls Try.prog) I58 3000 true (stkAt 4 I58.body) ⟨(S58_4 x0 x1 x5), [false], [], []⟩ = some (.done (xA5 true) [(decide ((x5 : Int) < (List.length x0 : Int))) = false]) := by kernel_rfl
theorem p58_e_3 (a0 a1 : List Org) : run tt (AbsCalls Try.prog) I58 3000 false [.code I58.body] ⟨(zBg 0 (xB9 a0 a1)), [true], [], []⟩ = some (.done (xA5 false) [(((List.length a0 : Int) : Int) != (List.length a1 : Int)) = true]) := by kernel_rfl
theorem p58_e_4 (a0 a1 : List Org) : run tt (AbsCalls Try.prog) I58 3000 false [.code I58.body] ⟨(zBg 0 (xB9 a0 a1)), [false], [], []⟩ = some (.stop (stkAt 4 I58.body) (S58_4 a0 a1 0) [(((List.length a0 : Int) : Int) != (List.length a1 : Int)) = false]) := by kernel_rfl
theorem c58_4 {N : Nat} : ∀ n x0 x1 x5 r, xBK N n x0 x1 x5 = some r → Reach Try.prog Try.f58 I58 (stkAt 4 I58.body) (S58_4 x0 x1 x5) (xA5 r) := by
 intro n
 induction n with
 | zero => intro x0 x1 x5 r h; have h' : (none : Option (Bool)) = some r := h; cases h'
 | succ n ih =>
  intro x0 x1 x5 r h
  rw [xBK] at h
  rcases cond_inv h with ⟨h0, h⟩ | ⟨h0, h⟩
  ·obtain ⟨h1, h⟩ := ite_inv h
   obtain ⟨h2, h⟩ := ite_inv h
   obtain ⟨r1, h3, h⟩ := bind_inv h
   rcases cond_inv h with ⟨h4, h⟩ | ⟨h4, h⟩
   ·obtain rfl := Option.some.inj h
    exact Reach.done ttok mix fk58 (p58_4_0 x0 x1 x5 r1) (obs_cons h0 (obs_cons h1 (obs_cons h2 (obs_cons (xEm h3) (obs_cons h4 obs_nil)))))
   ·exact Reach.stop ttok mix fk58 (p58_4_1 x0 x1 x5 r1) (obs_cons h0 (obs_cons h1 (obs_cons h2 (obs_cons (xEm h3) (obs_cons h4 obs_nil))))) (ih _ _ _ _ h)
  ·obtain rfl := Option.some.inj h
   exact Reach.done ttok mix fk58 (p58_4_2 x0 x1 x5) (obs_cons h0 obs_nil)
theorem c58_e {N : Nat} : ∀ a0 a1 r, xCU N a0 a1 = some r → Reach Try.prog Try.f58 I58 [.code I58.body] (zBg 0 (xB9 a0 a1)) (xA5 r) := by
 intro a0 a1 r h
 unfold xCU at h
 rcases cond_inv h with ⟨h0, h⟩ | ⟨h0, h⟩
 ·obtain rfl := Option.some.inj h
  exact Reach.done ttok mix fk58 (p58_e_3 a0 a1) (obs_cons h0 obs_nil)
 ·exact Reach.stop ttok mix fk58 (p58_e_4 a0 a1) (obs_cons h0 obs_nil) (c58_4   _ _ _ _ _ h)
theorem xEd {N : Nat} {a0 : List Org} {a1 : List Org} {r : Bool} (h : xCU N  a0 a1 = some r) : AbC 58 (xB9 a0 a1) (xA5 r) :=
 AbsCalls.of_reach fk58 rfl rfl (Nat.le_of_ble_eq_true rfl) (c58_e a0 a1 r h)
noncomputable def I129 : Info := { body := (Try.f129.body).getD .skip, nt := 17, results := [.tmp 4], keep := [0, 2, 4, 6, 8, 20, 32, 5, 7], live := [], modes := [], ext := [], lnt := [], casts := [], fcast := [] }
theorem fk129 : FnOk Try.prog 129 Try.f129 I129 := ⟨Try.func129, by kernel_rfl, by kernel_rfl, by kernel_rfl, by kernel_rfl⟩
theorem p129_e_0 (a0 a1 : Rowd) (r1 : Bool) : run tt (AbsCalls Try.prog) I129 3000 false [.code I129.body] ⟨(zBg 0 (xCJ a0 a1)), [true], [xA9 r1], []⟩ = some (.done (xB5 false) [AbC 148 (xCu (Rowd.cells a0) (Rowd.cells a1)) (xA9 r1), (!r1) = true]) := by kernel_rfl
theorem p129_e_1 (a0 a1 : Rowd) (r1 r2 : Bool) : run tt (AbsCalls Try.prog) I129 3000 false [.code I129.body] ⟨(zBg 0 (xCJ a0 a1)), [false, true], [xA9 r1, xA5 r2], []⟩ = some (.done (xB5 false) [AbC 148 (xCu (Rowd.cells a0) (Rowd.cells a1)) (xA9 r1), (!r1) = false, AbC 58 (xB9 (Rowd.frm a0) (Rowd.frm a1)) (xA5 r2), (!r2) = true]) := by kernel_rfl
theorem p129_e_2 (a0 a1 : Rowd) (r1 r2 : Bool) : run tt (AbsCalls Try.prog) I129 3000 false [.code I129.body] ⟨(zBg 0 (xCJ a0 a1)), [false, false], [xA9 r1, xA5 r2], []⟩ = some (.done (xB5 true) [AbC 148 (xCu (Rowd.cells a0) (Rowd.cells a1)) (xA9 r1), (!r1) = false, AbC 58 (xB9 (Rowd.frm a0) (Rowd.frm a1)) (xA5 r2), (!r2) = false]) := by kernel_rfl
theorem c129_e {N : Nat} : ∀ a0 a1 r, xDX N a0 a1 = some r → Reach Try.prog Try.f129 I129 [.code I129.body] (zBg 0 (xCJ a0 a1)) (xB5 r) := by
 intro a0 a1 r h
 unfold xDX at h
 obtain ⟨r1, h0, h⟩ := bind_inv h
 rcases cond_inv h with ⟨h1, h⟩ | ⟨h1, h⟩
 ·obtain rfl := Option.some.inj h
  exact Reach.done ttok mix fk129 (p129_e_0 a0 a1 r1) (obs_cons (xD9 h0) (obs_cons h1 obs_nil))
 ·obtain ⟨r2, h2, h⟩ := bind_inv h
  rcases cond_inv h with ⟨h3, h⟩ | ⟨h3, h⟩
  ·obtain rfl := Option.some.inj h
   exact Reach.done ttok mix fk129 (p129_e_1 a0 a1 r1 r2) (obs_cons (xD9 h0) (obs_cons h1 (obs_cons (xEd h2) (obs_cons h3 obs_nil))))
  ·obtain rfl := Option.some.inj h
   exact Reach.done ttok mix fk129 (p129_e_2 a0 a1 r1 r2) (obs_cons (xD9 h0) (obs_cons h1 (obs_cons (xEd h2) (obs_cons h3 obs_nil))))
theorem laws_eqRow_ok {N : Nat} {a0 : Rowd} {a1 : Rowd} {r : Bool} (h : xDX N  a0 a1 = some r) : AbC 129 (xCJ a0 a1) (xB5 r) :=
 AbsCalls.of_reach fk129 rfl rfl (Nat.le_of_ble_eq_true rfl) (c129_e a0 a1 r h)
noncomputable def I77 : Info := { body := (Try.f77.body).getD .skip, nt := 27, results := [.tmp 4], keep := [0, 2, 8, 10, 20, 28, 52], live := [(4, [0, 2, 10])], modes := [], ext := [], lnt := [], casts := [], fcast := [] }
theorem fk77 : FnOk Try.prog 77 Try.f77 I77 := ⟨Try.func77, by kernel_rfl, by kernel_rfl, by kernel_rfl, by kernel_rfl⟩
def S77_4 (x0 x1 : List Rowd) (x5 : Int) : St := [(0, .v false [.sl .ro .row x0]), (2, .v false [.sl .ro .row x1]), (10, .v false [.int .i64 x5])]
theorem p77_4_0 (x0 x1 : List Rowd) (x5 : Int) (r1 : Bool) : run tt (AbsCalls Try.prog) I77 3000 true (stkAt 4 I77.body) ⟨(S77_4 x0 x1 x5), [true, true], [xB5 r1], []⟩ = some (.done (xBx false) [(decide ((x5 : Int) < (List.length x0 : Int))) = true, (0 : Int) ≤ x5 ∧ x5 < (List.length x0), (0 : Int) ≤ x5 ∧ x5 < (List.length x1), AbC 129 (xCJ (List.getD x0 (Int.toNat x5) Ty.row.dflt) (List.getD x1 (Int.toNat x5) Ty.row.dflt)) (xB5 r1), (!r1) = true]) := by kernel_rfl
theorem p77_4_1 (x0 x1 : List Rowd) (x5 : Int) (r1 : Bool) : run tt (AbsCalls Try.prog) I77 3000 true (stkAt 4 I77.body) ⟨(S77_4 x0 x1 x5), [true, false], [xB5 r1], []⟩ = some (.stop (stkAt 4 I77.body) (S77_4 x0 x1 (IntKind.i64.wrap (x5 + 1))) [(decide ((x5 : Int) < (List.length x0 : Int))) = true, (0 : Int) ≤ x5 ∧ x5 < (List.length x0), (0 : Int) ≤ x5 ∧ x5 < (List.length x1), AbC 129 (xCJ (List.getD x0 (Int.toNat x5) Ty.row.dflt) (List.getD x1 (Int.toNat x5) Ty.row.dflt)) (xB5 r1), (!r1) = false]) := by kernel_rfl
theorem p77_4_2 (x0 x1 : List Rowd) (x5 : Int) : run tt (AbsCalls Try.prog) I77 3000 true (stkAt 4 I77.body) ⟨(S77_4 x0 x1 x5), [false], [], []⟩ = some (.done (xBx true) [(decide ((x5 : Int) < (List.length x0 : Int))) = false]) := by kernel_rfl
theorem p77_e_3 (a0 a1 : List Rowd) : run tt (AbsCalls Try.prog) I77 3000 false [.code I77.body] ⟨(zBg 0 (xCV a0 a1)), [true], [], []⟩ = some (.done (xBx false) [(((List.length a0 : Int) : Int) != (List.length a1 : Int)) = true]) := by kernel_rfl
theorem p77_e_4 (a0 a1 : List Rowd) : run tt (AbsCalls Try.prog) I77 3000 false [.code I77.body] ⟨(zBg 0 (xCV a0 a1)), [false], [], []⟩ = some (.stop (stkAt 4 I77.body) (S77_4 a0 a1 0) [(((List.length a0 : Int) : Int) != (List.length a1 : Int)) = false]) := by kernel_rfl
theorem c77_4 {N : Nat} : ∀ n x0 x1 x5 r, xCw N n x0 x1 x5 = some r → Reach Try.prog Try.f77 I77 (stkAt 4 I77.body) (S77_4 x0 x1 x5) (xBx r) := by
 intro n
 induction n with
 | zero => intro x0 x1 x5 r h; have h' : (none : Option (Bool)) = some r := h; cases h'
 | succ n ih =>
  intro x0 x1 x5 r h
  rw [xCw] at h
  rcases cond_inv h with ⟨h0, h⟩ | ⟨h0, h⟩
  ·obtain ⟨h1, h⟩ := ite_inv h
   obtain ⟨h2, h⟩ := ite_inv h
   obtain ⟨r1, h3, h⟩ := bind_inv h
   rcases cond_inv h with ⟨h4, h⟩ | ⟨h4, h⟩
   ·obtain rfl := Option.some.inj h
    exact Reach.done ttok mix fk77 (p77_4_0 x0 x1 x5 r1) (obs_cons h0 (obs_cons h1 (obs_cons h2 (obs_cons (laws_eqRow_ok h3) (obs_cons h4 obs_nil)))))
   ·exact Reach.stop ttok mix fk77 (p77_4_1 x0 x1 x5 r1) (obs_cons h0 (obs_cons h1 (obs_cons h2 (obs_cons (laws_eqRow_ok h3) (obs_cons h4 obs_nil))))) (ih _ _ _ _ h)
  ·obtain rfl := Option.some.inj h
   exact Reach.done ttok mix fk77 (p77_4_2 x0 x1 x5) (obs_cons h0 obs_nil)
theorem c77_e {N : Nat} : ∀ a0 a1 r, xDH N a0 a1 = some r → Reach Try.prog Try.f77 I77 [.code I77.body] (zBg 0 (xCV a0 a1)) (xBx r) := by
 intro a0 a1 r h
 unfold xDH at h
 rcases cond_inv h with ⟨h0, h⟩ | ⟨h0, h⟩
 ·obtain rfl := Option.some.inj h
  exact Reach.done ttok mix fk77 (p77_e_3 a0 a1) (obs_cons h0 obs_nil)
 ·exact Reach.stop ttok mix fk77 (p77_e_4 a0 a1) (obs_cons h0 obs_nil) (c77_4   _ _ _ _ _ h)
theorem xEL {N : Nat} {a0 : List Rowd} {a1 : List Rowd} {r : Bool} (h : xDH N  a0 a1 = some r) : AbC 77 (xCV a0 a1) (xBx r) :=
 AbsCalls.of_reach fk77 rfl rfl (Nat.le_of_ble_eq_true rfl) (c77_e a0 a1 r h)
noncomputable def I19 : Info := { body := (Try.f19.body).getD .skip, nt := 43, results := [.tmp 4], keep := [0, 2, 4, 6, 8, 18, 28, 38, 48, 60, 72, 84, 5, 7], live := [], modes := [], ext := [], lnt := [], casts := [], fcast := [] }
theorem fk19 : FnOk Try.prog 19 Try.f19 I19 := ⟨Try.func19, by kernel_rfl, by kernel_rfl, by kernel_rfl, by kernel_rfl⟩
theorem p19_e_0 (a0 a1 : Val) : run tt (AbsCalls Try.prog) I19 3000 false [.code I19.body] ⟨(zBg 0 (xAD a0 a1)), [true], [], []⟩ = some (.done (xAu false) [(((Val.kind a0) : Int) != (Val.kind a1)) = true]) := by kernel_rfl
theorem p19_e_1 (a0 a1 : Val) : run tt (AbsCalls Try.prog) I19 3000 false [.code I19.body] ⟨(zBg 0 (xAD a0 a1)), [false, true], [], []⟩ = some (.done (xAu false) [(((Val.kind a0) : Int) != (Val.kind a1)) = false, (((Val.n a0) : Int) != (Val.n a1)) = true]) := by kernel_rfl
theorem p19_e_2 (a0 a1 : Val) : run tt (AbsCalls Try.prog) I19 3000 false [.code I19.body] ⟨(zBg 0 (xAD a0 a1)), [false, false, true], [], []⟩ = some (.done (xAu false) [(((Val.kind a0) : Int) != (Val.kind a1)) = false, (((Val.n a0) : Int) != (Val.n a1)) = false, (((Val.step a0) : Int) != (Val.step a1)) = true]) := by kernel_rfl
theorem p19_e_3 (a0 a1 : Val) : run tt (AbsCalls Try.prog) I19 3000 false [.code I19.body] ⟨(zBg 0 (xAD a0 a1)), [false, false, false, true], [], []⟩ = some (.done (xAu false) [(((Val.kind a0) : Int) != (Val.kind a1)) = false, (((Val.n a0) : Int) != (Val.n a1)) = false, (((Val.step a0) : Int) != (Val.step a1)) = false, (!(((Val.text a0) : Str) == (Val.text a1))) = true]) := by kernel_rfl
theorem p19_e_4 (a0 a1 : Val) (r1 : Bool) : run tt (AbsCalls Try.prog) I19 3000 false [.code I19.body] ⟨(zBg 0 (xAD a0 a1)), [false, false, false, false, true], [xAA r1], []⟩ = some (.done (xAu false) [(((Val.kind a0) : Int) != (Val.kind a1)) = false, (((Val.n a0) : Int) != (Val.n a1)) = false, (((Val.step a0) : Int) != (Val.step a1)) = false, (!(((Val.text a0) : Str) == (Val.text a1))) = false, AbC 66 (xAO (Val.list a0) (Val.list a1)) (xAA r1), (!r1) = true]) := by kernel_rfl
theorem p19_e_5 (a0 a1 : Val) (r1 r2 : Bool) : run tt (AbsCalls Try.prog) I19 3000 false [.code I19.body] ⟨(zBg 0 (xAD a0 a1)), [false, false, false, false, false, true], [xAA r1, xAS r2], []⟩ = some (.done (xAu false) [(((Val.kind a0) : Int) != (Val.kind a1)) = false, (((Val.n a0) : Int) != (Val.n a1)) = false, (((Val.step a0) : Int) != (Val.step a1)) = false, (!(((Val.text a0) : Str) == (Val.text a1))) = false, AbC 66 (xAO (Val.list a0) (Val.list a1)) (xAA r1), (!r1) = false, AbC 76 (xBL (Val.columns a0) (Val.columns a1)) (xAS r2), (!r2) = true]) := by kernel_rfl
theorem p19_e_6 (a0 a1 : Val) (r1 r2 r3 : Bool) : run tt (AbsCalls Try.prog) I19 3000 false [.code I19.body] ⟨(zBg 0 (xAD a0 a1)), [false, false, false, false, false, false, true], [xAA r1, xAS r2, xBx r3], []⟩ = some (.done (xAu false) [(((Val.kind a0) : Int) != (Val.kind a1)) = false, (((Val.n a0) : Int) != (Val.n a1)) = false, (((Val.step a0) : Int) != (Val.step a1)) = false, (!(((Val.text a0) : Str) == (Val.text a1))) = false, AbC 66 (xAO (Val.list a0) (Val.list a1)) (xAA r1), (!r1) = false, AbC 76 (xBL (Val.columns a0) (Val.columns a1)) (xAS r2), (!r2) = false, AbC 77 (xCV (Val.rows a0) (Val.rows a1)) (xBx r3), (!r3) = true]) := by kernel_rfl
theorem p19_e_7 (a0 a1 : Val) (r1 r2 r3 : Bool) : run tt (AbsCalls Try.prog) I19 3000 false [.code I19.body] ⟨(zBg 0 (xAD a0 a1)), [false, false, false, false, false, false, false], [xAA r1, xAS r2, xBx r3], []⟩ = some (.done (xAu true) [(((Val.kind a0) : Int) != (Val.kind a1)) = false, (((Val.n a0) : Int) != (Val.n a1)) = false, (((Val.step a0) : Int) != (Val.step a1)) = false, (!(((Val.text a0) : Str) == (Val.text a1))) = false, AbC 66 (xAO (Val.list a0) (Val.list a1)) (xAA r1), (!r1) = false, AbC 76 (xBL (Val.columns a0) (Val.columns a1)) (xAS r2), (!r2) = false, AbC 77 (xCV (Val.rows a0) (Val.rows a1)) (xBx r3), (!r3) = false]) := by kernel_rfl
theorem c19_e {N : Nat} {rc_laws_eqValue : Val → Val → Option (Bool)} (hrc_laws_eqValue : ∀ a0 a1 r, rc_laws_eqValue a0 a1 = some r → AbC 19 (xAD a0 a1) (xAu r)) {rc_laws_eqValueS : (List Val) → (List Val) → Option (Bool)} (hrc_laws_eqValueS : ∀ a0 a1 r, rc_laws_eqValueS a0 a1 = some r → AbC 66 (xAO a0 a1) (xAA r)) : ∀ a0 a1 r, xCa N rc_laws_eqValue rc_laws_eqValueS a0 a1 = some r → Reach Try.prog Try.f19 I19 [.code I19.body] (zBg 0 (xAD a0 a1)) (xAu r) := by
 intro a0 a1 r h
 unfold xCa at h
 rcases cond_inv h with ⟨h0, h⟩ | ⟨h0, h⟩
 ·obtain rfl := Option.some.inj h
  exact Reach.done ttok mix fk19 (p19_e_0 a0 a1) (obs_cons h0 obs_nil)
 ·rcases cond_inv h with ⟨h1, h⟩ | ⟨h1, h⟩
  ·obtain rfl := Option.some.inj h
   exact Reach.done ttok mix fk19 (p19_e_1 a0 a1) (obs_cons h0 (obs_cons h1 obs_nil))
  ·rcases cond_inv h with ⟨h2, h⟩ | ⟨h2, h⟩
   ·obtain rfl := Option.some.inj h
    exact Reach.done ttok mix fk19 (p19_e_2 a0 a1) (obs_cons h0 (obs_cons h1 (obs_cons h2 obs_nil)))
   ·rcases cond_inv h with ⟨h3, h⟩ | ⟨h3, h⟩
    ·obtain rfl := Option.some.inj h
     exact Reach.done ttok mix fk19 (p19_e_3 a0 a1) (obs_cons h0 (obs_cons h1 (obs_cons h2 (obs_cons h3 obs_nil))))
    ·obtain ⟨r1, h4, h⟩ := bind_inv h
     rcases cond_inv h with ⟨h5, h⟩ | ⟨h5, h⟩
     ·obtain rfl := Option.some.inj h
      exact Reach.done ttok mix fk19 (p19_e_4 a0 a1 r1) (obs_cons h0 (obs_cons h1 (obs_cons h2 (obs_cons h3 (obs_cons (hrc_laws_eqValueS _ _ _ h4) (obs_cons h5 obs_nil))))))
     ·obtain ⟨r2, h6, h⟩ := bind_inv h
      rcases cond_inv h with ⟨h7, h⟩ | ⟨h7, h⟩
      ·obtain rfl := Option.some.inj h
       exact Reach.done ttok mix fk19 (p19_e_5 a0 a1 r1 r2) (obs_cons h0 (obs_cons h1 (obs_cons h2 (obs_cons h3 (obs_cons (hrc_laws_eqValueS _ _ _ h4) (obs_cons h5 (obs_cons (xDI h6) (obs_cons h7 obs_nil))))))))
      ·obtain ⟨r3, h8, h⟩ := bind_inv h
       rcases cond_inv h with ⟨h9, h⟩ | ⟨h9, h⟩
       ·obtain rfl := Option.some.inj h
        exact Reach.done ttok mix fk19 (p19_e_6 a0 a1 r1 r2 r3) (obs_cons h0 (obs_cons h1 (obs_cons h2 (obs_cons h3 (obs_cons (hrc_laws_eqValueS _ _ _ h4) (obs_cons h5 (obs_cons (xDI h6) (obs_cons h7 (obs_cons (xEL h8) (obs_cons h9 obs_nil))))))))))
       ·obtain rfl := Option.some.inj h
        exact Reach.done ttok mix fk19 (p19_e_7 a0 a1 r1 r2 r3) (obs_cons h0 (obs_cons h1 (obs_cons h2 (obs_cons h3 (obs_cons (hrc_laws_eqValueS _ _ _ h4) (obs_cons h5 (obs_cons (xDI h6) (obs_cons h7 (obs_cons (xEL h8) (obs_cons h9 obs_nil))))))))))
theorem xEH {N : Nat} {rc_laws_eqValue : Val → Val → Option (Bool)} (hrc_laws_eqValue : ∀ a0 a1 r, rc_laws_eqValue a0 a1 = some r → AbC 19 (xAD a0 a1) (xAu r)) {rc_laws_eqValueS : (List Val) → (List Val) → Option (Bool)} (hrc_laws_eqValueS : ∀ a0 a1 r, rc_laws_eqValueS a0 a1 = some r → AbC 66 (xAO a0 a1) (xAA r)) {a0 : Val} {a1 : Val} {r : Bool} (h : xCa N rc_laws_eqValue rc_laws_eqValueS a0 a1 = some r) : AbC 19 (xAD a0 a1) (xAu r) :=
 AbsCalls.of_reach fk19 rfl rfl (Nat.le_of_ble_eq_true rfl) (c19_e hrc_laws_eqValue hrc_laws_eqValueS a0 a1 r h)
noncomputable def I66 : Info := { body := (Try.f66.body).getD .skip, nt := 27, results := [.tmp 4], keep := [0, 2, 8, 10, 20, 28, 52], live := [(4, [0, 2, 10])], modes := [], ext := [], lnt := [], casts := [], fcast := [] }
theorem fk66 : FnOk Try.prog 66 Try.f66 I66 := ⟨Try.func66, by kernel_rfl, by kernel_rfl, by kernel_rfl, by kernel_rfl⟩
def S66_4 (x0 x1 : List Val) (x5 : Int) : St := [(0, .v false [.sl .ro .val x0]), (2, .v false [.sl .ro .val x1]), (10, .v false [.int .i64 x5])]
theorem p66_4_0 (x0 x1 : List Val) (x5 : Int) (r1 : Bool) : run tt (AbsCalls Try.prog) I66 3000 true (stkAt 4 I66.body) ⟨(S66_4 x0 x1 x5), [true, true], [xAu r1], []⟩ = some (.done (xAA false) [(decide ((x5 : Int) < (List.length x0 : Int))) = true, (0 : Int) ≤ x5 ∧ x5 < (List.length x0), (0 : Int) ≤ x5 ∧ x5 < (List.length x1), AbC 19 (xAD (List.getD x0 (Int.toNat x5) Ty.val.dflt) (List.getD x1 (Int.toNat x5) Ty.val.dflt)) (xAu r1), (!r1) = true]) := by kernel_rfl
theorem p66_4_1 (x0 x1 : List Val) (x5 : Int) (r1 : Bool) : run tt (AbsCalls Try.prog) I66 3000 true (stkAt 4 I66.body) ⟨(S66_4 x0 x1 x5), [true, false], [xAu r1], []⟩ = some (.stop (stkAt 4 I66.body) (S66_4 x0 x1 (IntKind.i64.wrap (x5 + 1))) [(decide ((x5 : Int) < (List.length x0 : Int))) = true, (0 : Int) ≤ x5 ∧ x5 < (List.length x0), (0 : Int) ≤ x5 ∧ x5 < (List.length x1), AbC 19 (xAD (List.getD x0 (Int.toNat x5) Ty.val.dflt) (List.getD x1 (Int.toNat x5) Ty.val.dflt)) (xAu r1), (!r1) = false]) := by kernel_rfl
theorem p66_4_2 (x0 x1 : List Val) (x5 : Int) : run tt (AbsCalls Try.prog) I66 3000 true (stkAt 4 I66.body) ⟨(S66_4 x0 x1 x5), [false], [], []⟩ = some (.done (xAA true) [(decide ((x5 : Int) < (List.length x0 : Int))) = false]) := by kernel_rfl
theorem p66_e_3 (a0 a1 : List Val) : run tt (AbsCalls Try.prog) I66 3000 false [.code I66.body] ⟨(zBg 0 (xAO a0 a1)), [true], [], []⟩ = some (.done (xAA false) [(((List.length a0 : Int) : Int) != (List.length a1 : Int)) = true]) := by kernel_rfl
theorem p66_e_4 (a0 a1 : List Val) : run tt (AbsCalls Try.prog) I66 3000 false [.code I66.body] ⟨(zBg 0 (xAO a0 a1)), [false], [], []⟩ = some (.stop (stkAt 4 I66.body) (S66_4 a0 a1 0) [(((List.length a0 : Int) : Int) != (List.length a1 : Int)) = false]) := by kernel_rfl
theorem c66_4 {N : Nat} {rc_laws_eqValue : Val → Val → Option (Bool)} (hrc_laws_eqValue : ∀ a0 a1 r, rc_laws_eqValue a0 a1 = some r → AbC 19 (xAD a0 a1) (xAu r)) {rc_laws_eqValueS : (List Val) → (List Val) → Option (Bool)} (hrc_laws_eqValueS : ∀ a0 a1 r, rc_laws_eqValueS a0 a1 = some r → AbC 66 (xAO a0 a1) (xAA r)) : ∀ n x0 x1 x5 r, xBX N rc_laws_eqValue rc_laws_eqValueS n x0 x1 x5 = some r → Reach Try.prog Try.f66 I66 (stkAt 4 I66.body) (S66_4 x0 x1 x5) (xAA r) := by
 intro n
 induction n with
 | zero => intro x0 x1 x5 r h; have h' : (none : Option (Bool)) = some r := h; cases h'
 | succ n ih =>
  intro x0 x1 x5 r h
  rw [xBX] at h
  rcases cond_inv h with ⟨h0, h⟩ | ⟨h0, h⟩
  ·obtain ⟨h1, h⟩ := ite_inv h
   obtain ⟨h2, h⟩ := ite_inv h
   obtain ⟨r1, h3, h⟩ := bind_inv h
   rcases cond_inv h with ⟨h4, h⟩ | ⟨h4, h⟩
   ·obtain rfl := Option.some.inj h
    exact Reach.done ttok mix fk66 (p66_4_0 x0 x1 x5 r1) (obs_cons h0 (obs_cons h1 (obs_cons h2 (obs_cons (hrc_laws_eqValue _ _ _ h3) (obs_cons h4 obs_nil)))))
   ·exact Reach.stop ttok mix fk66 (p66_4_1 x0 x1 x5 r1) (obs_cons h0 (obs_cons h1 (obs_cons h2 (obs_cons (hrc_laws_eqValue _ _ _ h3) (obs_cons h4 obs_nil))))) (ih _ _ _ _ h)
  ·obtain rfl := Option.some.inj h
   exact Reach.done ttok mix fk66 (p66_4_2 x0 x1 x5) (obs_cons h0 obs_nil)
theorem c66_e {N : Nat} {rc_laws_eqValue : Val → Val → Option (Bool)} (hrc_laws_eqValue : ∀ a0 a1 r, rc_laws_eqValue a0 a1 = some r → AbC 19 (xAD a0 a1) (xAu r)) {rc_laws_eqValueS : (List Val) → (List Val) → Option (Bool)} (hrc_laws_eqValueS : ∀ a0 a1 r, rc_laws_eqValueS a0 a1 = some r → AbC 66 (xAO a0 a1) (xAA r)) : ∀ a0 a1 r, xBU N rc_laws_eqValue rc_laws_eqValueS a0 a1 = some r → Reach Try.prog Try.f66 I66 [.code I66.body] (zBg 0 (xAO a0 a1)) (xAA r) := by
 intro a0 a1 r h
 unfold xBU at h
 rcases cond_inv h with ⟨h0, h⟩ | ⟨h0, h⟩
 ·obtain rfl := Option.some.inj h
  exact Reach.done ttok mix fk66 (p66_e_3 a0 a1) (obs_cons h0 obs_nil)
 ·exact Reach.stop ttok mix fk66 (p66_e_4 a0 a1) (obs_cons h0 obs_nil) (c66_4 hrc_laws_eqValue hrc_laws_eqValueS  _ _ _ _ _ h)
theorem xEv {N : Nat} {rc_laws_eqValue : Val → Val → Option (Bool)} (hrc_laws_eqValue : ∀ a0 a1 r, rc_laws_eqValue a0 a1 = some r → AbC 19 (xAD a0 a1) (xAu r)) {rc_laws_eqValueS : (List Val) → (List Val) → Option (Bool)} (hrc_laws_eqValueS : ∀ a0 a1 r, rc_laws_eqValueS a0 a1 = some r → AbC 66 (xAO a0 a1) (xAA r)) {a0 : List Val} {a1 : List Val} {r : Bool} (h : xBU N rc_laws_eqValue rc_laws_eqValueS a0 a1 = some r) : AbC 66 (xAO a0 a1) (xAA r) :=
 AbsCalls.of_reach fk66 rfl rfl (Nat.le_of_ble_eq_true rfl) (c66_e hrc_laws_eqValue hrc_laws_eqValueS a0 a1 r h)
theorem xER {N : Nat} : ∀ d, (∀ a0 a1 r, (xAJ N d).c_laws_eqValue a0 a1 = some r → AbC 19 (xAD a0 a1) (xAu r)) ∧ (∀ a0 a1 r, (xAJ N d).c_laws_eqValueS a0 a1 = some r → AbC 66 (xAO a0 a1) (xAA r)) := by
 intro d
 induction d with
 | zero =>
  refine ⟨?_, ?_⟩ <;> (intros; rename_i h; cases h)
 | succ d ih =>
  obtain ⟨ih0, ih1⟩ := ih
  refine ⟨?_, ?_⟩
  ·intro _ _ r h; exact xEH (N := N) ih0 ih1 h
  ·intro _ _ r h; exact xEv (N := N) ih0 ih1 h
theorem xEw {N : Nat} {a0 : Val} {a1 : Val} {r : Bool} (h : xEu N a0 a1 = some r) : AbC 19 (xAD a0 a1) (xAu r) := (xER N).1 _ _ r h
noncomputable def I79 : Info := { body := (Try.f79.body).getD .skip, nt := 20, results := [.tmp 2], keep := [0, 4, 6, 10, 14], live := [(4, [0, 6])], modes := [], ext := [], lnt := [], casts := [], fcast := [] }
theorem fk79 : FnOk Try.prog 79 Try.f79 I79 := ⟨Try.func79, by kernel_rfl, by kernel_rfl, by kernel_rfl, by kernel_rfl⟩
def S79_4 (x0 : Int) (x3 : Str) : St := [(0, .v false [.int .i64 x0]), (6, .v false [.str x3])]
theorem p79_4_0 (x0 : Int) (x3 : Str) : run tt (AbsCalls Try.prog) I79 3000 true (stkAt 4 I79.body) ⟨(S79_4 x0 x3), [true], [], []⟩ = some (.stop (stkAt 4 I79.body) (S79_4 (IntKind.i64.wrap (Int.tdiv x0 10)) ((List.map (fun n => UInt8.ofNat (Int.toNat n)) [(IntKind.u8.wrap ((IntKind.i64.wrap (48 + (Int.tmod x0 10)))))]) ++ x3)) [(decide ((x0 : Int) > 0)) = true, 10 ≠ (0 : Int), List.length (List.map (fun n => UInt8.ofNat (Int.toNat n)) [(IntKind.u8.wrap ((IntKind.i64.wrap (48 + (Int.tmod x0 10)))))]) + List.length x3 ≤ Lim, 10 ≠ (0 : Int)]) := by kernel_rfl
theorem p79_4_1 (x0 : Int) (x3 : Str) : run tt (AbsCalls Try.prog) I79 3000 true (stkAt 4 I79.body) ⟨(S79_4 x0 x3), [false], [], []⟩ = some (.done (xAe ([109] ++ x3)) [(decide ((x0 : Int) > 0)) = false, List.length [109] + List.length x3 ≤ Lim]) := by kernel_rfl
theorem p79_e_2 (a0 : Int) : run tt (AbsCalls Try.prog) I79 3000 false [.code I79.body] ⟨(zBg 0 (xAn a0)), [true], [], []⟩ = some (.done (xAe [109, 48]) [(decide ((a0 : Int) ≤ 0)) = true]) := by kernel_rfl
theorem p79_e_3 (a0 : Int) : run tt (AbsCalls Try.prog) I79 3000 false [.code I79.body] ⟨(zBg 0 (xAn a0)), [false], [], []⟩ = some (.stop (stkAt 4 I79.body) (S79_4 a0 []) [(decide ((a0 : Int) ≤ 0)) = false]) := by kernel_rfl
theorem c79_4 {N : Nat} : ∀ n x0 x3 r, xB3 N n x0 x3 = some r → Reach Try.prog Try.f79 I79 (stkAt 4 I79.body) (S79_4 x0 x3) (xAe r) := by
 intro n
 induction n with
 | zero => intro x0 x3 r h; have h' : (none : Option (Str)) = some r := h; cases h'
 | succ n ih =>
  intro x0 x3 r h
  rw [xB3] at h
  rcases cond_inv h with ⟨h0, h⟩ | ⟨h0, h⟩
  ·obtain ⟨h2, h⟩ := ite_inv h
   exact Reach.stop ttok mix fk79 (p79_4_0 x0 x3) (obs_cons h0 (obs_cons (by decide) (obs_cons h2 (obs_cons (by decide) obs_nil)))) (ih _ _ _ h)
  ·obtain ⟨h1, h⟩ := ite_inv h
   obtain rfl := Option.some.inj h
   exact Reach.done ttok mix fk79 (p79_4_1 x0 x3) (obs_cons h0 (obs_cons h1 obs_nil))
theorem c79_e {N : Nat} : ∀ a0 r, xBe N a0 = some r → Reach Try.prog Try.f79 I79 [.code I79.body] (zBg 0 (xAn a0)) (xAe r) := by
 intro a0 r h
 unfold xBe at h
 rcases cond_inv h with ⟨h0, h⟩ | ⟨h0, h⟩
 ·obtain rfl := Option.some.inj h
  exact Reach.done ttok mix fk79 (p79_e_2 a0) (obs_cons h0 obs_nil)
 ·exact Reach.stop ttok mix fk79 (p79_e_3 a0) (obs_cons h0 obs_nil) (c79_4   _ _ _ _ h)
theorem xAs {N : Nat} {a0 : Int} {r : Str} (h : xBe N  a0 = some r) : AbC 79 (xAn a0) (xAe r) :=
 AbsCalls.of_reach fk79 rfl rfl (Nat.le_of_ble_eq_true rfl) (c79_e a0 r h)
noncomputable def I80 : Info := { body := (Try.f80.body).getD .skip, nt := 20, results := [.tmp 4], keep := [0, 2, 8, 10, 18], live := [(2, [0, 2, 10])], modes := [(4, [(0, .ref, false)])], ext := [], lnt := [(0, 0)], casts := [], fcast := [] }
theorem fk80 : FnOk Try.prog 80 Try.f80 I80 := ⟨Try.func80, by kernel_rfl, by kernel_rfl, by kernel_rfl, by kernel_rfl⟩
def S80_2 (x0 : List Str) (x1 x5 : Int) : St := [(0, .v false [.sl (.lnt 0) .str x0]), (2, .v false [.int .i64 x1]), (10, .v false [.int .i64 x5])]
theorem p80_2_0 (x0 : List Str) (x1 x5 : Int) (r1 : Str) : run tt (AbsCalls Try.prog) I80 3000 true (stkAt 2 I80.body) ⟨(S80_2 x0 x1 x5), [true], [xAe r1], []⟩ = some (.stop (stkAt 2 I80.body) (S80_2 (List.set x0 (Int.toNat x5) r1) (IntKind.i64.wrap (x1 + 1)) (IntKind.i64.wrap (x5 + 1))) [(decide ((x5 : Int) < (List.length x0 : Int))) = true, AbC 79 (xAn x1) (xAe r1), (0 : Int) ≤ x5 ∧ x5 < (List.length x0)]) := by kernel_rfl
theorem p80_2_1 (x0 : List Str) (x1 x5 : Int) : run tt (AbsCalls Try.prog) I80 3000 true (stkAt 2 I80.body) ⟨(S80_2 x0 x1 x5), [false], [], []⟩ = some (.done (xA7 (x1, x0)) [(decide ((x5 : Int) < (List.length x0 : Int))) = false]) := by kernel_rfl
theorem p80_e_2 (a0 : List Str) (a1 : Int) : run tt (AbsCalls Try.prog) I80 3000 false [.code I80.body] ⟨(zBg 0 (xCj a0 a1)), [], [], []⟩ = some (.stop (stkAt 2 I80.body) (S80_2 a0 a1 0) []) := by kernel_rfl
theorem c80_2 {N : Nat} : ∀ n x0 x1 x5 r, xBq N n x0 x1 x5 = some r → Reach Try.prog Try.f80 I80 (stkAt 2 I80.body) (S80_2 x0 x1 x5) (xA7 r) := by
 intro n
 induction n with
 | zero => intro x0 x1 x5 r h; have h' : (none : Option (Int × (List Str))) = some r := h; cases h'
 | succ n ih =>
  intro x0 x1 x5 r h
  rw [xBq] at h
  rcases cond_inv h with ⟨h0, h⟩ | ⟨h0, h⟩
  ·obtain ⟨r1, h1, h⟩ := bind_inv h
   obtain ⟨h2, h⟩ := ite_inv h
   exact Reach.stop ttok mix fk80 (p80_2_0 x0 x1 x5 r1) (obs_cons h0 (obs_cons (xAs h1) (obs_cons h2 obs_nil))) (ih _ _ _ _ h)
  ·obtain rfl := Option.some.inj h
   exact Reach.done ttok mix fk80 (p80_2_1 x0 x1 x5) (obs_cons h0 obs_nil)
theorem c80_e {N : Nat} : ∀ a0 a1 r, xCq N a0 a1 = some r → Reach Try.prog Try.f80 I80 [.code I80.body] (zBg 0 (xCj a0 a1)) (xA7 r) := by
 intro a0 a1 r h
 unfold xCq at h
 exact Reach.stop ttok mix fk80 (p80_e_2 a0 a1) obs_nil (c80_2   _ _ _ _ _ h)
theorem xD3 {N : Nat} {a0 : List Str} {a1 : Int} {r : Int × (List Str)} (h : xCq N  a0 a1 = some r) : AbC 80 (xCj a0 a1) (xA7 r) :=
 AbsCalls.of_reach fk80 rfl rfl (Nat.le_of_ble_eq_true rfl) (c80_e a0 a1 r h)
end Go.Ab.T
end
