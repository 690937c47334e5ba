/- The statement FnExactFormatExpr holds: plain functions, certificates, laws. Conditions: none. -/
import Derived.LaidMore
import Derived.Lay
import Derived.Lib.LaidTab
import Derived.SevenTiedAt
import Derived.Shelf.Strconv.Itoa3
import Derived.Shelf.Strings.OnBuilder
import Derived.Shelf.Strings.Split
import Derived.Stop.Joined
import Derived.Stop.LaidErr
import Derived.Test.YtkfoneofdidhkaaDoorCards
import Derived.Test.YtkfoneofdidhkaaDoorChecked
import Derived.Test.YtkfoneofdidhkaaDoorProg
import Derived.Test.YtkfoneofdidhkaaDoorRows
import Derived.Test.YtkfoneofdidhkaaDoorTie
import Derived.Test.YtkfoneofdidhkaaDoorL2
set_option linter.all false
section
namespace Go.Ab
set_option linter.unusedVariables false
def xAY (a0 : Exp) (a1 : Int) : List Arg := [.val (.v true [.int .i64 (Exp.kind a0), .int .i64 (Exp.n a0), .str (Exp.text a0), .sl .ro .exp (Exp.args a0)]), .val (.v false [.int .i64 a1])]
def xAu (r : Int) : CallO := ⟨.v false [.int .i64 r], [], []⟩
def xC8 (N : Nat) (q0 : Exp → Int → Option (Int)) (q1 : (List Exp) → Int → Option (Int)) (a0 : Exp) (a1 : Int) : Option (Int) :=
  bif (decide (((IntKind.i64.wrap (a1 - (List.length (Exp.text a0) : Int))) : Int) < 0)) then (
    some (-1)
  ) else (
    Option.bind (q1 (Exp.args a0) (IntKind.i64.wrap (a1 - (List.length (Exp.text a0) : Int)))) fun r1 =>
    bif (decide ((r1 : Int) < 0)) then (
      some (-1)
    ) else (
      some r1
    )
  )
def xBM (a0 : List Exp) (a1 : Int) : List Arg := [.val (.v false [.sl .ro .exp a0]), .val (.v false [.int .i64 a1])]
def xA3 (r : Int) : CallO := ⟨.v false [.int .i64 r], [], []⟩
def xCL (N : Nat) (q0 : Exp → Int → Option (Int)) (q1 : (List Exp) → Int → Option (Int)) : Nat → (List Exp) → Int → Int → Option (Int)
  | 0, _, _, _ => none
  | n + 1, x0, x1, x5 =>
    bif (decide ((x5 : Int) < (List.length x0 : Int))) then (
      if (0 : Int) ≤ x5 ∧ x5 < (List.length x0) then
      Option.bind (q0 (List.getD x0 (Int.toNat x5) Ty.exp.dflt) x1) fun r1 =>
      bif (decide ((r1 : Int) < 0)) then (
        some (-1)
      ) else (
        (xCL N q0 q1 n x0 r1 (IntKind.i64.wrap (x5 + 1)))
      )
      else none
    ) else (
      some x1
    )
def xCX (N : Nat) (q0 : Exp → Int → Option (Int)) (q1 : (List Exp) → Int → Option (Int)) (a0 : List Exp) (a1 : Int) : Option (Int) :=
  bif (decide (((IntKind.i64.wrap (a1 - (List.length a0 : Int))) : Int) < 0)) then (
    some (-1)
  ) else (
    (xCL N q0 q1 N a0 (IntKind.i64.wrap (a1 - (List.length a0 : Int))) 0)
  )
structure laws_szExpr_rec where
  c_laws_szExpr : Exp → Int → Option (Int)
  c_laws_szExprS : (List Exp) → Int → Option (Int)
def xA4 (N : Nat) : Nat → laws_szExpr_rec
  | 0 => ⟨fun _ _ => none, fun _ _ => none⟩
  | d + 1 => ⟨xC8 N (xA4 N d).c_laws_szExpr (xA4 N d).c_laws_szExprS, xCX N (xA4 N d).c_laws_szExpr (xA4 N d).c_laws_szExprS⟩
def xEl (N : Nat) (a0 : Exp) (a1 : Int) : Option (Int) := (xA4 N N).c_laws_szExpr a0 a1
def xAP (a0 : Exp) : List Arg := [.val (.v true [.int .i64 (Exp.kind a0), .int .i64 (Exp.n a0), .str (Exp.text a0), .sl .ro .exp (Exp.args a0)])]
def xAp (r : Exp) : CallO := ⟨.v true [.int .i64 (Exp.kind r), .int .i64 (Exp.n r), .str (Exp.text r), .sl .own .exp (Exp.args r)], [], []⟩
def xCg (N : Nat) (q0 : Exp → Option (Exp)) (q1 : (List Exp) → Option ((List Exp))) (a0 : Exp) : Option (Exp) :=
  Option.bind (q1 (Exp.args a0)) fun r1 =>
  some (Exp.mk (Exp.kind a0) (Exp.n a0) (Exp.text a0) r1)
def xCm (a0 : List Exp) : List Arg := [.val (.v false [.sl .ro .exp a0])]
def xBN (r : (List Exp)) : CallO := ⟨.v false [.sl .own .exp r], [], []⟩
def xCM (N : Nat) (q0 : Exp → Option (Exp)) (q1 : (List Exp) → Option ((List Exp))) : Nat → (List Exp) → (List Exp) → Int → Option ((List Exp))
  | 0, _, _, _ => none
  | n + 1, x0, x3, x4 =>
    bif (decide ((x4 : Int) < (List.length x0 : Int))) then (
      if (0 : Int) ≤ x4 ∧ x4 < (List.length x0) then
      Option.bind (q0 (List.getD x0 (Int.toNat x4) Ty.exp.dflt)) fun r1 =>
      if (0 : Int) ≤ x4 ∧ x4 < (List.length x3) then
      (xCM N q0 q1 n x0 (List.set x3 (Int.toNat x4) (Exp.re r1)) (IntKind.i64.wrap (x4 + 1)))
      else none
      else none
    ) else (
      some x3
    )
def xB5 (N : Nat) (q0 : Exp → Option (Exp)) (q1 : (List Exp) → Option ((List Exp))) (a0 : List Exp) : Option ((List Exp)) :=
  if (0 : Int) ≤ (List.length a0 : Int) ∧ (List.length a0 : Int) = (List.length a0 : Int) ∧ (List.length a0 : Int) ≤ Lim then
  (xCM N q0 q1 N a0 (List.replicate (Int.toNat (List.length a0 : Int)) Ty.exp.dflt) 0)
  else none
structure laws_toExpr_rec where
  c_laws_toExpr : Exp → Option (Exp)
  c_laws_toExprS : (List Exp) → Option ((List Exp))
def xAB (N : Nat) : Nat → laws_toExpr_rec
  | 0 => ⟨fun _ => none, fun _ => none⟩
  | d + 1 => ⟨xCg N (xAB N d).c_laws_toExpr (xAB N d).c_laws_toExprS, xB5 N (xAB N d).c_laws_toExpr (xAB N d).c_laws_toExprS⟩
def xDh (N : Nat) (a0 : Exp) : Option (Exp) := (xAB N N).c_laws_toExpr a0
def xBk (a0 : Exp) (a1 : Int) : List Arg := [.val (.v true [.int .i64 (Exp.kind a0), .int .i64 (Exp.n a0), .str (Exp.text a0), .sl .ro .exp (Exp.args a0)]), .val (.v false [.int .i64 a1])]
def xAD (r : Int) : CallO := ⟨.v false [.int .i64 r], [], []⟩
def xBw (N : Nat) (q0 : Exp → Int → Option (Int)) : Nat → Int → Int → Exp → Option (Int)
  | 0, _, _, _ => none
  | n + 1, x1, x5, b2 =>
    bif (decide ((x5 : Int) < (List.length (Exp.args b2) : Int))) then (
      bif (decide ((x1 : Int) ≥ 0)) then (
        if (0 : Int) ≤ x5 ∧ x5 < (List.length (Exp.args b2)) then
        Option.bind (q0 (List.getD (Exp.args b2) (Int.toNat x5) Ty.exp.dflt) x1) fun r1 =>
        (xBw N q0 n r1 (IntKind.i64.wrap (x5 + 1)) b2)
        else none
      ) else (
        some x1
      )
    ) else (
      some x1
    )
def xCY (N : Nat) (q0 : Exp → Int → Option (Int)) (a0 : Exp) (a1 : Int) : Option (Int) :=
  (xBw N q0 N (IntKind.i64.wrap (a1 - 1)) 0 a0)
def xBS (N : Nat) : Nat → Exp → Int → Option (Int)
  | 0, _, _ => none
  | d + 1, a0, a1 => xCY N (xBS N d) a0 a1
def xDW (N : Nat) (a0 : Exp) (a1 : Int) : Option (Int) := xBS N N a0 a1
def xCQ (a0 : Int) (a1 : Int) : List Arg := [.val (.v false [.int .i64 a0]), .val (.v false [.int .i64 a1])]
def xCs (r : Int) : CallO := ⟨.v false [.int .i64 r], [], []⟩
def xDD (N : Nat) (a0 : Int) (a1 : Int) : Option (Int) :=
  bif (decide ((a0 : Int) > a1)) then (
    some a0
  ) else (
    some a1
  )
def xBf (a0 : Exp) : List Arg := [.val (.v true [.int .i64 (Exp.kind a0), .int .i64 (Exp.n a0), .str (Exp.text a0), .sl .ro .exp (Exp.args a0)])]
def xAH (r : Int) : CallO := ⟨.v false [.int .i64 r], [], []⟩
def xBH (N : Nat) (q0 : Exp → Option (Int)) : Nat → Int → Int → Exp → Option (Int)
  | 0, _, _, _ => none
  | n + 1, x3, x4, b1 =>
    bif (decide ((x4 : Int) < (List.length (Exp.args b1) : Int))) then (
      if (0 : Int) ≤ x4 ∧ x4 < (List.length (Exp.args b1)) then
      Option.bind (q0 (List.getD (Exp.args b1) (Int.toNat x4) Ty.exp.dflt)) fun r1 =>
      Option.bind (xDD N x3 r1) fun r2 =>
      (xBH N q0 n r2 (IntKind.i64.wrap (x4 + 1)) b1)
      else none
    ) else (
      some (IntKind.i64.wrap (x3 + 1))
    )
def xCC (N : Nat) (q0 : Exp → Option (Int)) (a0 : Exp) : Option (Int) :=
  (xBH N q0 N 0 0 a0)
def xBW (N : Nat) : Nat → Exp → Option (Int)
  | 0, _ => none
  | d + 1, a0 => xCC N (xBW N d) a0
def xDz (N : Nat) (a0 : Exp) : Option (Int) := xBW N N a0
def xCa (a0 : Int) (a1 : Int) (a2 : Int) : List Arg := [.val (.v false [.int .i64 a0]), .val (.v false [.int .i64 a1]), .val (.v false [.int .i64 a2])]
def xBq (r : Bool) : CallO := ⟨.v false [.bool r], [], []⟩
def xDn (N : Nat) (a0 : Int) (a1 : Int) (a2 : Int) : Option (Bool) :=
  bif (decide ((a0 : Int) ≥ a1)) then (
    some (decide ((a0 : Int) ≤ a2))
  ) else (
    some false
  )
def xCb (a0 : Str) : List Arg := [.val (.v false [.str a0])]
def xAT (r : Bool) : CallO := ⟨.v false [.bool r], [], []⟩
def xA6 (N : Nat) : Nat → Str → Int → Option (Bool)
  | 0, _, _ => none
  | n + 1, x0, x3 =>
    bif (decide ((x3 : Int) < (List.length x0 : Int))) then (
      if (0 : Int) ≤ x3 ∧ x3 < (List.length x0) then
      bif (decide ((((List.getD x0 (Int.toNat x3) 0).toNat : Int) : Int) < 32)) then (
        some false
      ) else (
        bif (decide ((((List.getD x0 (Int.toNat x3) 0).toNat : Int) : Int) > 126)) then (
          some false
        ) else (
          bif ((((List.getD x0 (Int.toNat x3) 0).toNat : Int) : Int) == 34) then (
            some false
          ) else (
            (xA6 N n x0 (IntKind.i64.wrap (x3 + 1)))
          )
        )
      )
      else none
    ) else (
      some (decide (((List.length x0 : Int) : Int) ≤ 20))
    )
def xCx (N : Nat) (a0 : Str) : Option (Bool) :=
  (xA6 N N a0 0)
def xB9 (a0 : Str) : List Arg := [.val (.v false [.str a0])]
def xAt (r : Bool) : CallO := ⟨.v false [.bool r], [], []⟩
def xA9 (N : Nat) : Nat → Str → Int → Option (Bool)
  | 0, _, _ => none
  | n + 1, x0, x3 =>
    bif (decide ((x3 : Int) < (List.length x0 : Int))) then (
      if (0 : Int) ≤ x3 ∧ x3 < (List.length x0) then
      bif (decide ((((List.getD x0 (Int.toNat x3) 0).toNat : Int) : Int) ≥ 97)) then (
        bif (decide ((((List.getD x0 (Int.toNat x3) 0).toNat : Int) : Int) ≥ 48)) then (
          bif (!(decide ((((List.getD x0 (Int.toNat x3) 0).toNat : Int) : Int) ≤ 122))) then (
            bif ((x3 : Int) == 0) then (
              some false
            ) else (
              bif (!(decide ((((List.getD x0 (Int.toNat x3) 0).toNat : Int) : Int) ≤ 57))) then (
                some false
              ) else (
                (xA9 N n x0 (IntKind.i64.wrap (x3 + 1)))
              )
            )
          ) else (
            (xA9 N n x0 (IntKind.i64.wrap (x3 + 1)))
          )
        ) else (
          bif (!(decide ((((List.getD x0 (Int.toNat x3) 0).toNat : Int) : Int) ≤ 122))) then (
            bif ((x3 : Int) == 0) then (
              some false
            ) else (
              some false
            )
          ) else (
            (xA9 N n x0 (IntKind.i64.wrap (x3 + 1)))
          )
        )
      ) else (
        bif (decide ((((List.getD x0 (Int.toNat x3) 0).toNat : Int) : Int) ≥ 48)) then (
          bif ((x3 : Int) == 0) then (
            some false
          ) else (
            bif (!(decide ((((List.getD x0 (Int.toNat x3) 0).toNat : Int) : Int) ≤ 57))) then (
              some false
            ) else (
              (xA9 N n x0 (IntKind.i64.wrap (x3 + 1)))
            )
          )
        ) else (
          bif ((x3 : Int) == 0) then (
            some false
          ) else (
            some false
          )
        )
      )
      else none
    ) else (
      some (decide (((List.length x0 : Int) : Int) > 0))
    )
def xDw (N : Nat) (a0 : Str) : Option (Bool) :=
  (xA9 N N a0 0)
def xCj : List Arg := []
def xBX (r : (List Str)) : CallO := ⟨.v false [.sl .own .str r], [], []⟩
def xCR (N : Nat) : Option ((List Str)) :=
  some [[108, 101, 116], [105, 110], [105, 102], [116, 104, 101, 110], [101, 108, 115, 101], [102, 111, 114], [100, 111], [108, 101, 110], [115, 117, 109], [116, 97, 107, 101], [115, 107, 105, 112], [114, 97, 110, 103, 101], [110, 116, 104], [119, 104, 101, 114, 101], [107, 101, 101, 112], [97, 100, 100], [103, 114, 111, 117, 112], [106, 111, 105, 110], [99, 111, 108, 117, 109, 110], [114, 111, 119, 115], [99, 108, 111, 99, 107], [99, 104, 97, 110, 99, 101], [102, 105, 108, 101], [116, 97, 98, 108, 101]]
def xDb (a0 : List Str) (a1 : Str) : List Arg := [.val (.v false [.sl .ro .str a0]), .val (.v false [.str a1])]
def xCd (r : Bool) : CallO := ⟨.v false [.bool r], [], []⟩
def xCc (N : Nat) : Nat → (List Str) → Str → Int → Option (Bool)
  | 0, _, _, _ => none
  | n + 1, x0, x1, x5 =>
    bif (decide ((x5 : Int) < (List.length x0 : Int))) then (
      if (0 : Int) ≤ x5 ∧ x5 < (List.length x0) then
      bif (((List.getD x0 (Int.toNat x5) Ty.str.dflt) : Str) == x1) then (
        some true
      ) else (
        (xCc N n x0 x1 (IntKind.i64.wrap (x5 + 1)))
      )
      else none
    ) else (
      some false
    )
def xD2 (N : Nat) (a0 : List Str) (a1 : Str) : Option (Bool) :=
  (xCc N N a0 a1 0)
def xCi (a0 : Str) : List Arg := [.val (.v false [.str a0])]
def xBV (r : Bool) : CallO := ⟨.v false [.bool r], [], []⟩
def xCn (N : Nat) (a0 : Str) : Option (Bool) :=
  Option.bind (xCR N) fun r1 =>
  Option.bind (xD2 N r1 a0) fun r2 =>
  some r2
def xA5 (a0 : Str) : List Arg := [.val (.v false [.str a0])]
def xAC (r : Bool) : CallO := ⟨.v false [.bool r], [], []⟩
def xBA (N : Nat) (a0 : Str) : Option (Bool) :=
  Option.bind (xDw N a0) fun r1 =>
  bif r1 then (
    bif (decide (((List.length a0 : Int) : Int) ≤ 8)) then (
      Option.bind (xCn N a0) fun r2 =>
      some (!r2)
    ) else (
      some false
    )
  ) else (
    some false
  )
def xAg (a0 : Str) : List Arg := [.val (.v false [.str a0])]
def xAe (r : Int) : CallO := ⟨.v false [.int .i64 r], [], []⟩
def xA1 (N : Nat) (a0 : Str) : Option (Int) :=
  bif ((a0 : Str) == [99, 108, 111, 99, 107]) then (
    some 0
  ) else (
    bif ((a0 : Str) == [108, 101, 110]) then (
      some 1
    ) else (
      bif ((a0 : Str) == [115, 117, 109]) then (
        some 1
      ) else (
        bif ((a0 : Str) == [114, 111, 119, 115]) then (
          some 1
        ) else (
          bif ((a0 : Str) == [99, 104, 97, 110, 99, 101]) then (
            some 1
          ) else (
            bif ((a0 : Str) == [102, 105, 108, 101]) then (
              some 1
            ) else (
              bif ((a0 : Str) == [116, 97, 107, 101]) then (
                some 2
              ) else (
                bif ((a0 : Str) == [115, 107, 105, 112]) then (
                  some 2
                ) else (
                  bif ((a0 : Str) == [114, 97, 110, 103, 101]) then (
                    some 2
                  ) else (
                    bif ((a0 : Str) == [110, 116, 104]) then (
                      some 2
                    ) else (
                      bif ((a0 : Str) == [107, 101, 101, 112]) then (
                        some 2
                      ) else (
                        bif ((a0 : Str) == [99, 111, 108, 117, 109, 110]) then (
                          some 2
                        ) else (
                          bif ((a0 : Str) == [116, 97, 98, 108, 101]) then (
                            some 2
                          ) else (
                            bif ((a0 : Str) == [119, 104, 101, 114, 101]) then (
                              some 3
                            ) else (
                              bif ((a0 : Str) == [103, 114, 111, 117, 112]) then (
                                some 3
                              ) else (
                                bif ((a0 : Str) == [106, 111, 105, 110]) then (
                                  some 3
                                ) else (
                                  bif ((a0 : Str) == [97, 100, 100]) then (
                                    some 4
                                  ) else (
                                    some (-1)
                                  )
                                )
                              )
                            )
                          )
                        )
                      )
                    )
                  )
                )
              )
            )
          )
        )
      )
    )
  )
def xAj (a0 : Exp) : List Arg := [.val (.v true [.int .i64 (Exp.kind a0), .int .i64 (Exp.n a0), .str (Exp.text a0), .sl .ro .exp (Exp.args a0)])]
def xAi (r : Bool) : CallO := ⟨.v false [.bool r], [], []⟩
def xC7 (N : Nat) (a0 : Exp) : Option (Bool) :=
  bif (((Exp.kind a0) : Int) == 1) then (
    bif (((List.length (Exp.args a0) : Int) : Int) == 0) then (
      bif (((Exp.text a0) : Str) == []) then (
        Option.bind (xDn N (Exp.n a0) 0 1000000000) fun r1 =>
        some r1
      ) else (
        some false
      )
    ) else (
      some false
    )
  ) else (
    bif (((Exp.kind a0) : Int) == 2) then (
      bif (((List.length (Exp.args a0) : Int) : Int) == 0) then (
        bif (((Exp.n a0) : Int) == 0) then (
          Option.bind (xCx N (Exp.text a0)) fun r1 =>
          some r1
        ) else (
          some false
        )
      ) else (
        some false
      )
    ) else (
      bif (((Exp.kind a0) : Int) == 3) then (
        bif (((List.length (Exp.args a0) : Int) : Int) == 0) then (
          bif (((Exp.n a0) : Int) == 0) then (
            Option.bind (xBA N (Exp.text a0)) fun r1 =>
            some r1
          ) else (
            some false
          )
        ) else (
          some false
        )
      ) else (
        bif (((Exp.kind a0) : Int) == 4) then (
          bif (((Exp.n a0) : Int) == 0) then (
            bif (((Exp.text a0) : Str) == []) then (
              some (decide (((List.length (Exp.args a0) : Int) : Int) ≤ 8))
            ) else (
              some false
            )
          ) else (
            some false
          )
        ) else (
          bif (((Exp.kind a0) : Int) == 5) then (
            bif (((Exp.n a0) : Int) == 0) then (
              Option.bind (xA1 N (Exp.text a0)) fun r1 =>
              some (((List.length (Exp.args a0) : Int) : Int) == r1)
            ) else (
              some false
            )
          ) else (
            bif (((Exp.kind a0) : Int) == 6) then (
              bif (((Exp.text a0) : Str) == []) then (
                bif (((List.length (Exp.args a0) : Int) : Int) == 2) then (
                  Option.bind (xDn N (Exp.n a0) 1 5) fun r1 =>
                  some r1
                ) else (
                  some false
                )
              ) else (
                some false
              )
            ) else (
              bif (((Exp.kind a0) : Int) == 7) then (
                bif (((Exp.n a0) : Int) == 0) then (
                  bif (((List.length (Exp.args a0) : Int) : Int) == 2) then (
                    Option.bind (xBA N (Exp.text a0)) fun r1 =>
                    some r1
                  ) else (
                    some false
                  )
                ) else (
                  some false
                )
              ) else (
                bif (((Exp.kind a0) : Int) == 9) then (
                  bif (((Exp.n a0) : Int) == 0) then (
                    bif (((List.length (Exp.args a0) : Int) : Int) == 2) then (
                      Option.bind (xBA N (Exp.text a0)) fun r1 =>
                      some r1
                    ) else (
                      some false
                    )
                  ) else (
                    some false
                  )
                ) else (
                  bif (((Exp.kind a0) : Int) == 8) then (
                    bif (((Exp.n a0) : Int) == 0) then (
                      bif (((Exp.text a0) : Str) == []) then (
                        some (((List.length (Exp.args a0) : Int) : Int) == 3)
                      ) else (
                        some false
                      )
                    ) else (
                      some false
                    )
                  ) else (
                    some false
                  )
                )
              )
            )
          )
        )
      )
    )
  )
def xBF (a0 : Exp) : List Arg := [.val (.v true [.int .i64 (Exp.kind a0), .int .i64 (Exp.n a0), .str (Exp.text a0), .sl .ro .exp (Exp.args a0)])]
def xA0 (r : Bool) : CallO := ⟨.v false [.bool r], [], []⟩
def xBY (N : Nat) (q0 : Exp → Option (Bool)) : Nat → Int → Exp → Option (Bool)
  | 0, _, _ => none
  | n + 1, x3, b1 =>
    bif (decide ((x3 : Int) < (List.length (Exp.args b1) : Int))) then (
      if (0 : Int) ≤ x3 ∧ x3 < (List.length (Exp.args b1)) then
      Option.bind (q0 (List.getD (Exp.args b1) (Int.toNat x3) Ty.exp.dflt)) fun r1 =>
      bif (!r1) then (
        some false
      ) else (
        (xBY N q0 n (IntKind.i64.wrap (x3 + 1)) b1)
      )
      else none
    ) else (
      Option.bind (xC7 N b1) fun r1 =>
      some r1
    )
def xC9 (N : Nat) (q0 : Exp → Option (Bool)) (a0 : Exp) : Option (Bool) :=
  (xBY N q0 N 0 a0)
def xCp (N : Nat) : Nat → Exp → Option (Bool)
  | 0, _ => none
  | d + 1, a0 => xC9 N (xCp N d) a0
def xEs (N : Nat) (a0 : Exp) : Option (Bool) := xCp N N a0
def xBc (a0 : Exp) : List Arg := [.val (.v true [.int .i64 (Exp.kind a0), .int .i64 (Exp.n a0), .str (Exp.text a0), .sl .ro .exp (Exp.args a0)])]
def xAS (r : Bool) : CallO := ⟨.v false [.bool r], [], []⟩
def xCh (N : Nat) (a0 : Exp) : Option (Bool) :=
  Option.bind (xDW N a0 40) fun r1 =>
  bif (decide ((r1 : Int) ≥ 0)) then (
    Option.bind (xDz N a0) fun r2 =>
    bif (decide ((r2 : Int) ≤ 8)) then (
      Option.bind (xEs N a0) fun r3 =>
      some r3
    ) else (
      some false
    )
  ) else (
    some false
  )
def xB7 (a0 : Int) : List Arg := [.val (.v false [.int .i64 a0])]
def xBe (r : Str) : CallO := ⟨.v false [.str r], [], []⟩
def xAZ (N : Nat) : Nat → Int → Bool → Str → Option (Str)
  | 0, _, _, _ => none
  | n + 1, x0, x3, x4 =>
    bif ((x0 : Int) != 0) then (
      bif (decide (((Int.tmod x0 10) : Int) < 0)) then (
        if List.length (List.map (fun n => UInt8.ofNat (Int.toNat n)) [(IntKind.u8.wrap ((IntKind.i64.wrap (48 + (IntKind.i64.wrap (0 - (Int.tmod x0 10)))))))]) + List.length x4 ≤ Lim then
        (xAZ N n (IntKind.i64.wrap (Int.tdiv x0 10)) x3 ((List.map (fun n => UInt8.ofNat (Int.toNat n)) [(IntKind.u8.wrap ((IntKind.i64.wrap (48 + (IntKind.i64.wrap (0 - (Int.tmod x0 10)))))))]) ++ x4))
        else none
      ) else (
        if List.length (List.map (fun n => UInt8.ofNat (Int.toNat n)) [(IntKind.u8.wrap ((IntKind.i64.wrap (48 + (Int.tmod x0 10)))))]) + List.length x4 ≤ Lim then
        (xAZ N n (IntKind.i64.wrap (Int.tdiv x0 10)) x3 ((List.map (fun n => UInt8.ofNat (Int.toNat n)) [(IntKind.u8.wrap ((IntKind.i64.wrap (48 + (Int.tmod x0 10)))))]) ++ x4))
        else none
      )
    ) else (
      bif x3 then (
        if List.length [45] + List.length x4 ≤ Lim then
        some ([45] ++ x4)
        else none
      ) else (
        some x4
      )
    )
def xCv (N : Nat) (a0 : Int) : Option (Str) :=
  bif ((a0 : Int) == 0) then (
    some [48]
  ) else (
    (xAZ N N a0 (decide ((a0 : Int) < 0)) [])
  )
def xDt (a0 : List Str) (a1 : Str) : List Arg := [.val (.v false [.sl .ro .str a0]), .val (.v false [.str a1])]
def xCE (r : Str) : CallO := ⟨.v false [.str r], [], []⟩
def xBE (N : Nat) : Nat → (List Str) → Str → (List Int) → Int → Option (Str)
  | 0, _, _, _, _ => none
  | n + 1, x0, x1, x5, x6 =>
    bif (decide ((x6 : Int) < (List.length x0 : Int))) then (
      bif (decide ((x6 : Int) > 0)) then (
        if List.length x5 + List.length x1 ≤ Lim then
        if (0 : Int) ≤ x6 ∧ x6 < (List.length x0) then
        if List.length (x5 ++ List.map (fun c => (c.toNat : Int)) x1) + List.length (List.getD x0 (Int.toNat x6) Ty.str.dflt) ≤ Lim then
        (xBE N n x0 x1 ((x5 ++ List.map (fun c => (c.toNat : Int)) x1) ++ List.map (fun c => (c.toNat : Int)) (List.getD x0 (Int.toNat x6) Ty.str.dflt)) (IntKind.i64.wrap (x6 + 1)))
        else none
        else none
        else none
      ) else (
        if (0 : Int) ≤ x6 ∧ x6 < (List.length x0) then
        if List.length x5 + List.length (List.getD x0 (Int.toNat x6) Ty.str.dflt) ≤ Lim then
        (xBE N n x0 x1 (x5 ++ List.map (fun c => (c.toNat : Int)) (List.getD x0 (Int.toNat x6) Ty.str.dflt)) (IntKind.i64.wrap (x6 + 1)))
        else none
        else none
      )
    ) else (
      some (List.map (fun n => UInt8.ofNat (Int.toNat n)) x5)
    )
def xDV (N : Nat) (a0 : List Str) (a1 : Str) : Option (Str) :=
  (xBE N N a0 a1 [] 0)
def xAx (a0 : Exp) : List Arg := [.val (.v true [.int .i64 (Exp.kind a0), .int .i64 (Exp.n a0), .str (Exp.text a0), .sl .ro .exp (Exp.args a0)])]
def xAs (r : Int) : CallO := ⟨.v false [.int .i64 r], [], []⟩
def xCo (N : Nat) (a0 : Exp) : Option (Int) :=
  bif (((Exp.kind a0) : Int) == 7) then (
    some 0
  ) else (
    bif (((Exp.kind a0) : Int) == 8) then (
      some 0
    ) else (
      bif (((Exp.kind a0) : Int) == 9) then (
        some 0
      ) else (
        bif (((Exp.kind a0) : Int) == 6) then (
          bif (((Exp.n a0) : Int) == 4) then (
            some 1
          ) else (
            bif (((Exp.n a0) : Int) == 5) then (
              some 1
            ) else (
              bif (((Exp.n a0) : Int) == 1) then (
                some 2
              ) else (
                bif (((Exp.n a0) : Int) == 2) then (
                  some 2
                ) else (
                  bif (((Exp.n a0) : Int) == 3) then (
                    some 3
                  ) else (
                    some 4
                  )
                )
              )
            )
          )
        ) else (
          some 4
        )
      )
    )
  )
def xBR (a0 : Int) : List Arg := [.val (.v false [.int .i64 a0])]
def xBp (r : Str) : CallO := ⟨.v false [.str r], [], []⟩
def xCP (N : Nat) (a0 : Int) : Option (Str) :=
  Option.bind (xDn N a0 1 5) fun r1 =>
  bif (!r1) then (
    some [63]
  ) else (
    if (0 : Int) ≤ a0 ∧ a0 < (List.length [[], [43], [45], [42], [60], [61, 61]]) then
    some (List.getD [[], [43], [45], [42], [60], [61, 61]] (Int.toNat a0) Ty.str.dflt)
    else none
  )
def xBC (a0 : Exp) (a1 : Int) : List Arg := [.val (.v true [.int .i64 (Exp.kind a0), .int .i64 (Exp.n a0), .str (Exp.text a0), .sl .ro .exp (Exp.args a0)]), .val (.v false [.int .i64 a1])]
def xA8 (r : Str) : CallO := ⟨.v false [.str r], [], []⟩
def xCq (N : Nat) (q0 : Exp → Int → Option (Str)) (q1 : (List Exp) → Option (Str)) (q2 : Exp → Option (Str)) (a0 : Exp) (a1 : Int) : Option (Str) :=
  Option.bind (q2 a0) fun r1 =>
  Option.bind (xCo N a0) fun r2 =>
  bif (decide ((r2 : Int) < a1)) then (
    if List.length [40] + List.length r1 ≤ Lim then
    if List.length ([40] ++ r1) + List.length [41] ≤ Lim then
    some (([40] ++ r1) ++ [41])
    else none
    else none
  ) else (
    some r1
  )
def xB8 (a0 : List Exp) : List Arg := [.val (.v false [.sl .ro .exp a0])]
def xBl (r : Str) : CallO := ⟨.v false [.str r], [], []⟩
def xBO (N : Nat) (q0 : Exp → Int → Option (Str)) (q1 : (List Exp) → Option (Str)) (q2 : Exp → Option (Str)) : Nat → (List Exp) → (List Str) → Int → Option (Str)
  | 0, _, _, _ => none
  | n + 1, x0, x3, x4 =>
    bif (decide ((x4 : Int) < (List.length x0 : Int))) then (
      if (0 : Int) ≤ x4 ∧ x4 < (List.length x0) then
      Option.bind (q2 (List.getD x0 (Int.toNat x4) Ty.exp.dflt)) fun r1 =>
      if List.length x3 + List.length [r1] ≤ Lim then
      (xBO N q0 q1 q2 n x0 (x3 ++ [r1]) (IntKind.i64.wrap (x4 + 1)))
      else none
      else none
    ) else (
      Option.bind (xDV N x3 [44, 32]) fun r1 =>
      some r1
    )
def xCZ (N : Nat) (q0 : Exp → Int → Option (Str)) (q1 : (List Exp) → Option (Str)) (q2 : Exp → Option (Str)) (a0 : List Exp) : Option (Str) :=
  (xBO N q0 q1 q2 N a0 [] 0)
def xAm (a0 : Exp) : List Arg := [.val (.v true [.int .i64 (Exp.kind a0), .int .i64 (Exp.n a0), .str (Exp.text a0), .sl .ro .exp (Exp.args a0)])]
def xAc (r : Str) : CallO := ⟨.v false [.str r], [], []⟩
def xAI (N : Nat) (q0 : Exp → Int → Option (Str)) (q1 : (List Exp) → Option (Str)) (q2 : Exp → Option (Str)) (a0 : Exp) : Option (Str) :=
  bif (((Exp.kind a0) : Int) == 1) then (
    Option.bind (xCv N (Exp.n a0)) fun r1 =>
    some r1
  ) else (
    bif (((Exp.kind a0) : Int) == 2) then (
      if List.length [34] + List.length (Exp.text a0) ≤ Lim then
      if List.length ([34] ++ (Exp.text a0)) + List.length [34] ≤ Lim then
      some (([34] ++ (Exp.text a0)) ++ [34])
      else none
      else none
    ) else (
      bif (((Exp.kind a0) : Int) == 3) then (
        some (Exp.text a0)
      ) else (
        bif (((Exp.kind a0) : Int) == 4) then (
          Option.bind (q1 (Exp.args a0)) fun r1 =>
          if List.length [91] + List.length r1 ≤ Lim then
          if List.length ([91] ++ r1) + List.length [93] ≤ Lim then
          some (([91] ++ r1) ++ [93])
          else none
          else none
        ) else (
          bif (((Exp.kind a0) : Int) == 5) then (
            if List.length (Exp.text a0) + List.length [40] ≤ Lim then
            Option.bind (q1 (Exp.args a0)) fun r1 =>
            if List.length ((Exp.text a0) ++ [40]) + List.length r1 ≤ Lim then
            if List.length (((Exp.text a0) ++ [40]) ++ r1) + List.length [41] ≤ Lim then
            some ((((Exp.text a0) ++ [40]) ++ r1) ++ [41])
            else none
            else none
            else none
          ) else (
            bif (((Exp.kind a0) : Int) == 7) then (
              if List.length [108, 101, 116, 32] + List.length (Exp.text a0) ≤ Lim then
              if List.length ([108, 101, 116, 32] ++ (Exp.text a0)) + List.length [32, 61, 32] ≤ Lim then
              if (0 : Int) ≤ 0 ∧ (0 : Int) < (List.length (Exp.args a0)) then
              Option.bind (q2 (List.getD (Exp.args a0) (Int.toNat 0) Ty.exp.dflt)) fun r1 =>
              if List.length (([108, 101, 116, 32] ++ (Exp.text a0)) ++ [32, 61, 32]) + List.length r1 ≤ Lim then
              if List.length ((([108, 101, 116, 32] ++ (Exp.text a0)) ++ [32, 61, 32]) ++ r1) + List.length [32, 105, 110, 32] ≤ Lim then
              if (0 : Int) ≤ 1 ∧ (1 : Int) < (List.length (Exp.args a0)) then
              Option.bind (q2 (List.getD (Exp.args a0) (Int.toNat 1) Ty.exp.dflt)) fun r2 =>
              if List.length (((([108, 101, 116, 32] ++ (Exp.text a0)) ++ [32, 61, 32]) ++ r1) ++ [32, 105, 110, 32]) + List.length r2 ≤ Lim then
              some ((((([108, 101, 116, 32] ++ (Exp.text a0)) ++ [32, 61, 32]) ++ r1) ++ [32, 105, 110, 32]) ++ r2)
              else none
              else none
              else none
              else none
              else none
              else none
              else none
            ) else (
              bif (((Exp.kind a0) : Int) == 9) then (
                if List.length [102, 111, 114, 32] + List.length (Exp.text a0) ≤ Lim then
                if List.length ([102, 111, 114, 32] ++ (Exp.text a0)) + List.length [32, 105, 110, 32] ≤ Lim then
                if (0 : Int) ≤ 0 ∧ (0 : Int) < (List.length (Exp.args a0)) then
                Option.bind (q2 (List.getD (Exp.args a0) (Int.toNat 0) Ty.exp.dflt)) fun r1 =>
                if List.length (([102, 111, 114, 32] ++ (Exp.text a0)) ++ [32, 105, 110, 32]) + List.length r1 ≤ Lim then
                if List.length ((([102, 111, 114, 32] ++ (Exp.text a0)) ++ [32, 105, 110, 32]) ++ r1) + List.length [32, 100, 111, 32] ≤ Lim then
                if (0 : Int) ≤ 1 ∧ (1 : Int) < (List.length (Exp.args a0)) then
                Option.bind (q2 (List.getD (Exp.args a0) (Int.toNat 1) Ty.exp.dflt)) fun r2 =>
                if List.length (((([102, 111, 114, 32] ++ (Exp.text a0)) ++ [32, 105, 110, 32]) ++ r1) ++ [32, 100, 111, 32]) + List.length r2 ≤ Lim then
                some ((((([102, 111, 114, 32] ++ (Exp.text a0)) ++ [32, 105, 110, 32]) ++ r1) ++ [32, 100, 111, 32]) ++ r2)
                else none
                else none
                else none
                else none
                else none
                else none
                else none
              ) else (
                bif (((Exp.kind a0) : Int) == 8) then (
                  if (0 : Int) ≤ 0 ∧ (0 : Int) < (List.length (Exp.args a0)) then
                  Option.bind (q2 (List.getD (Exp.args a0) (Int.toNat 0) Ty.exp.dflt)) fun r1 =>
                  if List.length [105, 102, 32] + List.length r1 ≤ Lim then
                  if List.length ([105, 102, 32] ++ r1) + List.length [32, 116, 104, 101, 110, 32] ≤ Lim then
                  if (0 : Int) ≤ 1 ∧ (1 : Int) < (List.length (Exp.args a0)) then
                  Option.bind (q2 (List.getD (Exp.args a0) (Int.toNat 1) Ty.exp.dflt)) fun r2 =>
                  if List.length (([105, 102, 32] ++ r1) ++ [32, 116, 104, 101, 110, 32]) + List.length r2 ≤ Lim then
                  if List.length ((([105, 102, 32] ++ r1) ++ [32, 116, 104, 101, 110, 32]) ++ r2) + List.length [32, 101, 108, 115, 101, 32] ≤ Lim then
                  if (0 : Int) ≤ 2 ∧ (2 : Int) < (List.length (Exp.args a0)) then
                  Option.bind (q2 (List.getD (Exp.args a0) (Int.toNat 2) Ty.exp.dflt)) fun r3 =>
                  if List.length (((([105, 102, 32] ++ r1) ++ [32, 116, 104, 101, 110, 32]) ++ r2) ++ [32, 101, 108, 115, 101, 32]) + List.length r3 ≤ Lim then
                  some ((((([105, 102, 32] ++ r1) ++ [32, 116, 104, 101, 110, 32]) ++ r2) ++ [32, 101, 108, 115, 101, 32]) ++ r3)
                  else none
                  else none
                  else none
                  else none
                  else none
                  else none
                  else none
                  else none
                ) else (
                  Option.bind (xCo N a0) fun r1 =>
                  bif ((r1 : Int) == 1) then (
                    if (0 : Int) ≤ 0 ∧ (0 : Int) < (List.length (Exp.args a0)) then
                    Option.bind (q0 (List.getD (Exp.args a0) (Int.toNat 0) Ty.exp.dflt) 2) fun r2 =>
                    if List.length r2 + List.length [32] ≤ Lim then
                    Option.bind (xCP N (Exp.n a0)) fun r3 =>
                    if List.length (r2 ++ [32]) + List.length r3 ≤ Lim then
                    if List.length ((r2 ++ [32]) ++ r3) + List.length [32] ≤ Lim then
                    if (0 : Int) ≤ 1 ∧ (1 : Int) < (List.length (Exp.args a0)) then
                    Option.bind (q0 (List.getD (Exp.args a0) (Int.toNat 1) Ty.exp.dflt) (IntKind.i64.wrap (r1 + 1))) fun r4 =>
                    if List.length (((r2 ++ [32]) ++ r3) ++ [32]) + List.length r4 ≤ Lim then
                    some ((((r2 ++ [32]) ++ r3) ++ [32]) ++ r4)
                    else none
                    else none
                    else none
                    else none
                    else none
                    else none
                  ) else (
                    if (0 : Int) ≤ 0 ∧ (0 : Int) < (List.length (Exp.args a0)) then
                    Option.bind (q0 (List.getD (Exp.args a0) (Int.toNat 0) Ty.exp.dflt) r1) fun r2 =>
                    if List.length r2 + List.length [32] ≤ Lim then
                    Option.bind (xCP N (Exp.n a0)) fun r3 =>
                    if List.length (r2 ++ [32]) + List.length r3 ≤ Lim then
                    if List.length ((r2 ++ [32]) ++ r3) + List.length [32] ≤ Lim then
                    if (0 : Int) ≤ 1 ∧ (1 : Int) < (List.length (Exp.args a0)) then
                    Option.bind (q0 (List.getD (Exp.args a0) (Int.toNat 1) Ty.exp.dflt) (IntKind.i64.wrap (r1 + 1))) fun r4 =>
                    if List.length (((r2 ++ [32]) ++ r3) ++ [32]) + List.length r4 ≤ Lim then
                    some ((((r2 ++ [32]) ++ r3) ++ [32]) ++ r4)
                    else none
                    else none
                    else none
                    else none
                    else none
                    else none
                  )
                )
              )
            )
          )
        )
      )
    )
  )
structure spec_l12At_rec where
  c_spec_l12At : Exp → Int → Option (Str)
  c_spec_l12List : (List Exp) → Option (Str)
  c_spec_l12Text : Exp → Option (Str)
def xAh (N : Nat) : Nat → spec_l12At_rec
  | 0 => ⟨fun _ _ => none, fun _ => none, fun _ => none⟩
  | d + 1 => ⟨xCq N (xAh N d).c_spec_l12At (xAh N d).c_spec_l12List (xAh N d).c_spec_l12Text, xCZ N (xAh N d).c_spec_l12At (xAh N d).c_spec_l12List (xAh N d).c_spec_l12Text, xAI N (xAh N d).c_spec_l12At (xAh N d).c_spec_l12List (xAh N d).c_spec_l12Text⟩
def xDX (N : Nat) (a0 : Exp) : Option (Str) := (xAh N N).c_spec_l12Text a0
def xBj (a0 : Exp) : List Arg := [.val (.v true [.int .i64 (Exp.kind a0), .int .i64 (Exp.n a0), .str (Exp.text a0), .sl .ro .exp (Exp.args a0)])]
def xAQ (r : Str) : CallO := ⟨.v false [.str r], [], []⟩
def xB6 (N : Nat) (a0 : Exp) : Option (Str) :=
  Option.bind (xCh N a0) fun r1 =>
  bif (!r1) then (
    some []
  ) else (
    Option.bind (xDX N a0) fun r2 =>
    some r2
  )
def xA7 (a0 : Exp) : List Arg := [.val (.v true [.int .i64 (Exp.kind a0), .int .i64 (Exp.n a0), .str (Exp.text a0), .sl .ro .exp (Exp.args a0)])]
def xAv (r : Int) : CallO := ⟨.v false [.int .i64 r], [], []⟩
def xBt (N : Nat) (q0 : Exp → Option (Int)) : Nat → Int → (List Exp) → Int → Int → Option (Int)
  | 0, _, _, _, _ => none
  | n + 1, x3, x7, x8, x9 =>
    bif (decide ((x9 : Int) < x8)) then (
      if (0 : Int) ≤ x9 ∧ x9 < (List.length x7) then
      Option.bind (q0 (List.getD x7 (Int.toNat x9) Ty.exp.dflt)) fun r1 =>
      (xBt N q0 n (IntKind.i64.wrap (x3 + r1)) x7 x8 (IntKind.i64.wrap (x9 + 1)))
      else none
    ) else (
      some x3
    )
def xCA (N : Nat) (q0 : Exp → Option (Int)) (a0 : Exp) : Option (Int) :=
  (xBt N q0 N 1 (Exp.args a0) (List.length (Exp.args a0) : Int) 0)
def xBx (N : Nat) : Nat → Exp → Option (Int)
  | 0, _ => none
  | d + 1, a0 => xCA N (xBx N d) a0
def xDy (N : Nat) (a0 : Exp) : Option (Int) := xBx N N a0
def xBd (a0 : Exp) : List Arg := [.val (.v true [.int .i64 (Exp.kind a0), .int .i64 (Exp.n a0), .str (Exp.text a0), .sl .ro .exp (Exp.args a0)])]
def xAE (r : Int) : CallO := ⟨.v false [.int .i64 r], [], []⟩
def xBG (N : Nat) (q0 : Exp → Option (Int)) : Nat → Int → (List Exp) → Int → Int → Option (Int)
  | 0, _, _, _, _ => none
  | n + 1, x3, x7, x8, x9 =>
    bif (decide ((x9 : Int) < x8)) then (
      if (0 : Int) ≤ x9 ∧ x9 < (List.length x7) then
      Option.bind (q0 (List.getD x7 (Int.toNat x9) Ty.exp.dflt)) fun r1 =>
      (xBG N q0 n (if (r1 : Int) > x3 then r1 else x3) x7 x8 (IntKind.i64.wrap (x9 + 1)))
      else none
    ) else (
      some (IntKind.i64.wrap (x3 + 1))
    )
def xCz (N : Nat) (q0 : Exp → Option (Int)) (a0 : Exp) : Option (Int) :=
  (xBG N q0 N 0 (Exp.args a0) (List.length (Exp.args a0) : Int) 0)
def xBT (N : Nat) : Nat → Exp → Option (Int)
  | 0, _ => none
  | d + 1, a0 => xCz N (xBT N d) a0
def xDx (N : Nat) (a0 : Exp) : Option (Int) := xBT N N a0
def xAU (a0 : Int) (a1 : Int) (a2 : Int) : List Arg := [.val (.v false [.int .i64 a0]), .val (.v false [.int .i64 a1]), .val (.v false [.int .i64 a2])]
def xAq (r : Bool) : CallO := ⟨.v false [.bool r], [], []⟩
def xCl (N : Nat) (a0 : Int) (a1 : Int) (a2 : Int) : Option (Bool) :=
  bif (decide ((a1 : Int) ≤ a0)) then (
    some (decide ((a0 : Int) ≤ a2))
  ) else (
    some false
  )
def xBI (a0 : Str) : List Arg := [.val (.v false [.str a0])]
def xAA (r : Bool) : CallO := ⟨.v false [.bool r], [], []⟩
def xBJ (N : Nat) : Nat → Str → Int → Option (Bool)
  | 0, _, _ => none
  | n + 1, x0, x3 =>
    bif (decide ((x3 : Int) < (List.length x0 : Int))) then (
      if (0 : Int) ≤ x3 ∧ x3 < (List.length x0) then
      bif (decide ((((List.getD x0 (Int.toNat x3) 0).toNat : Int) : Int) < 32)) then (
        some false
      ) else (
        bif (decide ((((List.getD x0 (Int.toNat x3) 0).toNat : Int) : Int) > 126)) then (
          some false
        ) else (
          bif ((((List.getD x0 (Int.toNat x3) 0).toNat : Int) : Int) == 34) then (
            some false
          ) else (
            (xBJ N n x0 (IntKind.i64.wrap (x3 + 1)))
          )
        )
      )
      else none
    ) else (
      some (decide (((List.length x0 : Int) : Int) ≤ 20))
    )
def xCw (N : Nat) (a0 : Str) : Option (Bool) :=
  (xBJ N N a0 0)
def xCu (a0 : Str) : List Arg := [.val (.v false [.str a0])]
def xAO (r : Bool) : CallO := ⟨.v false [.bool r], [], []⟩
def xBu (N : Nat) : Nat → Str → Int → Option (Bool)
  | 0, _, _ => none
  | n + 1, x0, x3 =>
    bif (decide ((x3 : Int) < (List.length x0 : Int))) then (
      if (0 : Int) ≤ x3 ∧ x3 < (List.length x0) then
      bif (decide ((((List.getD x0 (Int.toNat x3) 0).toNat : Int) : Int) ≥ 97)) then (
        bif (!(decide ((((List.getD x0 (Int.toNat x3) 0).toNat : Int) : Int) ≤ 122))) then (
          bif ((x3 : Int) == 0) then (
            some false
          ) else (
            bif (decide ((((List.getD x0 (Int.toNat x3) 0).toNat : Int) : Int) < 48)) then (
              some false
            ) else (
              bif (decide ((((List.getD x0 (Int.toNat x3) 0).toNat : Int) : Int) > 57)) then (
                some false
              ) else (
                (xBu N n x0 (IntKind.i64.wrap (x3 + 1)))
              )
            )
          )
        ) else (
          (xBu N n x0 (IntKind.i64.wrap (x3 + 1)))
        )
      ) else (
        bif ((x3 : Int) == 0) then (
          some false
        ) else (
          bif (decide ((((List.getD x0 (Int.toNat x3) 0).toNat : Int) : Int) < 48)) then (
            some false
          ) else (
            bif (decide ((((List.getD x0 (Int.toNat x3) 0).toNat : Int) : Int) > 57)) then (
              some false
            ) else (
              (xBu N n x0 (IntKind.i64.wrap (x3 + 1)))
            )
          )
        )
      )
      else none
    ) else (
      Option.bind (xCl N (List.length x0 : Int) 1 8) fun r1 =>
      some r1
    )
def xDH (N : Nat) (a0 : Str) : Option (Bool) :=
  (xBu N N a0 0)
def xAd (a0 : Str) : List Arg := [.val (.v false [.str a0])]
def xAb (r : Int) : CallO := ⟨.v false [.int .i64 r], [], []⟩
def xBg (N : Nat) (a0 : Str) : Option (Int) :=
  bif ((a0 : Str) == [99, 108, 111, 99, 107]) then (
    some 0
  ) else (
    bif ((a0 : Str) == [108, 101, 110]) then (
      some 1
    ) else (
      bif ((a0 : Str) == [115, 117, 109]) then (
        some 1
      ) else (
        bif ((a0 : Str) == [114, 111, 119, 115]) then (
          some 1
        ) else (
          bif ((a0 : Str) == [99, 104, 97, 110, 99, 101]) then (
            some 1
          ) else (
            bif ((a0 : Str) == [102, 105, 108, 101]) then (
              some 1
            ) else (
              bif ((a0 : Str) == [116, 97, 107, 101]) then (
                some 2
              ) else (
                bif ((a0 : Str) == [115, 107, 105, 112]) then (
                  some 2
                ) else (
                  bif ((a0 : Str) == [114, 97, 110, 103, 101]) then (
                    some 2
                  ) else (
                    bif ((a0 : Str) == [110, 116, 104]) then (
                      some 2
                    ) else (
                      bif ((a0 : Str) == [107, 101, 101, 112]) then (
                        some 2
                      ) else (
                        bif ((a0 : Str) == [99, 111, 108, 117, 109, 110]) then (
                          some 2
                        ) else (
                          bif ((a0 : Str) == [116, 97, 98, 108, 101]) then (
                            some 2
                          ) else (
                            bif ((a0 : Str) == [119, 104, 101, 114, 101]) then (
                              some 3
                            ) else (
                              bif ((a0 : Str) == [103, 114, 111, 117, 112]) then (
                                some 3
                              ) else (
                                bif ((a0 : Str) == [106, 111, 105, 110]) then (
                                  some 3
                                ) else (
                                  bif ((a0 : Str) == [97, 100, 100]) then (
                                    some 4
                                  ) else (
                                    some (-1)
                                  )
                                )
                              )
                            )
                          )
                        )
                      )
                    )
                  )
                )
              )
            )
          )
        )
      )
    )
  )
def xAJ (a0 : Str) : List Arg := [.val (.v false [.str a0])]
def xAz (r : Bool) : CallO := ⟨.v false [.bool r], [], []⟩
def xCk (N : Nat) (a0 : Str) : Option (Bool) :=
  bif ((a0 : Str) == [108, 101, 116]) then (
    some true
  ) else (
    bif ((a0 : Str) == [105, 110]) then (
      some true
    ) else (
      bif ((a0 : Str) == [105, 102]) then (
        some true
      ) else (
        bif ((a0 : Str) == [116, 104, 101, 110]) then (
          some true
        ) else (
          bif ((a0 : Str) == [101, 108, 115, 101]) then (
            some true
          ) else (
            bif ((a0 : Str) == [102, 111, 114]) then (
              some true
            ) else (
              bif ((a0 : Str) == [100, 111]) then (
                some true
              ) else (
                Option.bind (xBg N a0) fun r1 =>
                some (decide ((r1 : Int) ≥ 0))
              )
            )
          )
        )
      )
    )
  )
def xAK (a0 : Str) : List Arg := [.val (.v false [.str a0])]
def xAo (r : Bool) : CallO := ⟨.v false [.bool r], [], []⟩
def xBy (N : Nat) (a0 : Str) : Option (Bool) :=
  Option.bind (xDH N a0) fun r1 =>
  bif r1 then (
    Option.bind (xCk N a0) fun r2 =>
    some (!r2)
  ) else (
    some false
  )
def xAl (a0 : Exp) : List Arg := [.val (.v true [.int .i64 (Exp.kind a0), .int .i64 (Exp.n a0), .str (Exp.text a0), .sl .ro .exp (Exp.args a0)])]
def xAk (r : Bool) : CallO := ⟨.v false [.bool r], [], []⟩
def xDf (N : Nat) (a0 : Exp) : Option (Bool) :=
  bif (((Exp.kind a0) : Int) == 1) then (
    Option.bind (xCl N (Exp.n a0) 0 1000000000) fun r1 =>
    bif r1 then (
      bif (((Exp.text a0) : Str) == []) then (
        some (((List.length (Exp.args a0) : Int) : Int) == 0)
      ) else (
        some false
      )
    ) else (
      some false
    )
  ) else (
    bif (((Exp.kind a0) : Int) == 2) then (
      bif (((Exp.n a0) : Int) == 0) then (
        Option.bind (xCw N (Exp.text a0)) fun r1 =>
        bif r1 then (
          some (((List.length (Exp.args a0) : Int) : Int) == 0)
        ) else (
          some false
        )
      ) else (
        some false
      )
    ) else (
      bif (((Exp.kind a0) : Int) == 3) then (
        bif (((Exp.n a0) : Int) == 0) then (
          Option.bind (xBy N (Exp.text a0)) fun r1 =>
          bif r1 then (
            some (((List.length (Exp.args a0) : Int) : Int) == 0)
          ) else (
            some false
          )
        ) else (
          some false
        )
      ) else (
        bif (((Exp.kind a0) : Int) == 4) then (
          bif (((Exp.n a0) : Int) == 0) then (
            bif (((Exp.text a0) : Str) == []) then (
              some (decide (((List.length (Exp.args a0) : Int) : Int) ≤ 8))
            ) else (
              some false
            )
          ) else (
            some false
          )
        ) else (
          bif (((Exp.kind a0) : Int) == 5) then (
            bif (((Exp.n a0) : Int) == 0) then (
              Option.bind (xBg N (Exp.text a0)) fun r1 =>
              some (((List.length (Exp.args a0) : Int) : Int) == r1)
            ) else (
              some false
            )
          ) else (
            bif (((Exp.kind a0) : Int) == 6) then (
              Option.bind (xCl N (Exp.n a0) 1 5) fun r1 =>
              bif r1 then (
                bif (((Exp.text a0) : Str) == []) then (
                  some (((List.length (Exp.args a0) : Int) : Int) == 2)
                ) else (
                  some false
                )
              ) else (
                some false
              )
            ) else (
              bif (((Exp.kind a0) : Int) == 7) then (
                bif (((Exp.n a0) : Int) == 0) then (
                  Option.bind (xBy N (Exp.text a0)) fun r1 =>
                  bif r1 then (
                    some (((List.length (Exp.args a0) : Int) : Int) == 2)
                  ) else (
                    some false
                  )
                ) else (
                  some false
                )
              ) else (
                bif (((Exp.kind a0) : Int) == 9) then (
                  bif (((Exp.n a0) : Int) == 0) then (
                    Option.bind (xBy N (Exp.text a0)) fun r1 =>
                    bif r1 then (
                      some (((List.length (Exp.args a0) : Int) : Int) == 2)
                    ) else (
                      some false
                    )
                  ) else (
                    some false
                  )
                ) else (
                  bif (((Exp.kind a0) : Int) == 8) then (
                    bif (((Exp.n a0) : Int) == 0) then (
                      bif (((Exp.text a0) : Str) == []) then (
                        some (((List.length (Exp.args a0) : Int) : Int) == 3)
                      ) else (
                        some false
                      )
                    ) else (
                      some false
                    )
                  ) else (
                    some false
                  )
                )
              )
            )
          )
        )
      )
    )
  )
def xBo (a0 : Exp) : List Arg := [.val (.v true [.int .i64 (Exp.kind a0), .int .i64 (Exp.n a0), .str (Exp.text a0), .sl .ro .exp (Exp.args a0)])]
def xAF (r : Bool) : CallO := ⟨.v false [.bool r], [], []⟩
def xBz (N : Nat) (q0 : Exp → Option (Bool)) : Nat → (List Exp) → Int → Int → Exp → Option (Bool)
  | 0, _, _, _, _ => none
  | n + 1, x6, x7, x8, b1 =>
    bif (decide ((x8 : Int) < x7)) then (
      if (0 : Int) ≤ x8 ∧ x8 < (List.length x6) then
      Option.bind (q0 (List.getD x6 (Int.toNat x8) Ty.exp.dflt)) fun r1 =>
      bif (!r1) then (
        some false
      ) else (
        (xBz N q0 n x6 x7 (IntKind.i64.wrap (x8 + 1)) b1)
      )
      else none
    ) else (
      Option.bind (xDf N b1) fun r1 =>
      some r1
    )
def xCK (N : Nat) (q0 : Exp → Option (Bool)) (a0 : Exp) : Option (Bool) :=
  (xBz N q0 N (Exp.args a0) (List.length (Exp.args a0) : Int) 0 a0)
def xB1 (N : Nat) : Nat → Exp → Option (Bool)
  | 0, _ => none
  | d + 1, a0 => xCK N (xB1 N d) a0
def xDG (N : Nat) (a0 : Exp) : Option (Bool) := xB1 N N a0
def xBb (a0 : Exp) : List Arg := [.val (.v true [.int .i64 (Exp.kind a0), .int .i64 (Exp.n a0), .str (Exp.text a0), .sl .ro .exp (Exp.args a0)])]
def xAR (r : Bool) : CallO := ⟨.v false [.bool r], [], []⟩
def xCe (N : Nat) (a0 : Exp) : Option (Bool) :=
  Option.bind (xDy N a0) fun r1 =>
  bif (decide ((r1 : Int) ≤ 40)) then (
    Option.bind (xDx N a0) fun r2 =>
    bif (decide ((r2 : Int) ≤ 8)) then (
      Option.bind (xDG N a0) fun r3 =>
      some r3
    ) else (
      some false
    )
  ) else (
    some false
  )
def xDY (a0 : Int) : List Arg := [.val (.v false [.int .i64 a0])]
def xDp (r : Str) : CallO := ⟨.v false [.str r], [], []⟩
def strconv_Itoa (N : Nat) (a0 : Int) : Option Str := itoaP a0
def xCr (a0 : Int) : List Arg := [.val (.v false [.int .i64 a0])]
def xB0 (r : Str) : CallO := ⟨.v false [.str r], [], []⟩
def xCt (N : Nat) (a0 : Int) : Option (Str) :=
  Option.bind (strconv_Itoa N a0) fun r1 =>
  some r1
def xDZ (a0 : List Str) (a1 : Str) : List Arg := [.val (.v false [.sl .ro .str a0]), .val (.v false [.str a1])]
def xDq (r : Str) : CallO := ⟨.v false [.str r], [], []⟩
def strings_Join (N : Nat) (a0 : List Str) (a1 : Str) : Option Str := joinP a0 a1
def xDr (a0 : List Str) (a1 : Str) : List Arg := [.val (.v false [.sl .ro .str a0]), .val (.v false [.str a1])]
def xC2 (r : Str) : CallO := ⟨.v false [.str r], [], []⟩
def xDQ (N : Nat) (a0 : List Str) (a1 : Str) : Option (Str) :=
  Option.bind (strings_Join N a0 a1) fun r1 =>
  some r1
def xAw (a0 : Exp) : List Arg := [.val (.v true [.int .i64 (Exp.kind a0), .int .i64 (Exp.n a0), .str (Exp.text a0), .sl .ro .exp (Exp.args a0)])]
def xAr (r : Int) : CallO := ⟨.v false [.int .i64 r], [], []⟩
def xCD (N : Nat) (a0 : Exp) : Option (Int) :=
  bif (((Exp.kind a0) : Int) == 7) then (
    some 0
  ) else (
    bif (((Exp.kind a0) : Int) == 8) then (
      some 0
    ) else (
      bif (((Exp.kind a0) : Int) == 9) then (
        some 0
      ) else (
        bif (((Exp.kind a0) : Int) == 6) then (
          bif (((Exp.n a0) : Int) == 4) then (
            some 1
          ) else (
            bif (((Exp.n a0) : Int) == 5) then (
              some 1
            ) else (
              bif (((Exp.n a0) : Int) == 1) then (
                some 2
              ) else (
                bif (((Exp.n a0) : Int) == 2) then (
                  some 2
                ) else (
                  bif (((Exp.n a0) : Int) == 3) then (
                    some 3
                  ) else (
                    some 4
                  )
                )
              )
            )
          )
        ) else (
          some 4
        )
      )
    )
  )
def xBQ (a0 : Int) : List Arg := [.val (.v false [.int .i64 a0])]
def xBn (r : Str) : CallO := ⟨.v false [.str r], [], []⟩
def xCJ (N : Nat) (a0 : Int) : Option (Str) :=
  Option.bind (xCl N a0 1 5) fun r1 =>
  bif (!r1) then (
    some [63]
  ) else (
    if (0 : Int) ≤ (IntKind.i64.wrap (a0 - 1)) ∧ (IntKind.i64.wrap (a0 - 1)) < (List.length [[43], [45], [42], [60], [61, 61]]) then
    some (List.getD [[43], [45], [42], [60], [61, 61]] (Int.toNat (IntKind.i64.wrap (a0 - 1))) Ty.str.dflt)
    else none
  )
def xBa (a0 : Exp) (a1 : Int) : List Arg := [.val (.v true [.int .i64 (Exp.kind a0), .int .i64 (Exp.n a0), .str (Exp.text a0), .sl .ro .exp (Exp.args a0)]), .val (.v false [.int .i64 a1])]
def xAG (r : Str) : CallO := ⟨.v false [.str r], [], []⟩
def xBU (N : Nat) (q0 : Exp → Int → Option (Str)) (q1 : Exp → Option (Str)) (q2 : (List Exp) → Option (Str)) (a0 : Exp) (a1 : Int) : Option (Str) :=
  Option.bind (q1 a0) fun r1 =>
  Option.bind (xCD N a0) fun r2 =>
  bif (decide ((r2 : Int) < a1)) then (
    if List.length [40] + List.length r1 ≤ Lim then
    if List.length ([40] ++ r1) + List.length [41] ≤ Lim then
    some (([40] ++ r1) ++ [41])
    else none
    else none
  ) else (
    some r1
  )
def xAn (a0 : Exp) : List Arg := [.val (.v true [.int .i64 (Exp.kind a0), .int .i64 (Exp.n a0), .str (Exp.text a0), .sl .ro .exp (Exp.args a0)])]
def xAf (r : Str) : CallO := ⟨.v false [.str r], [], []⟩
def xAL (N : Nat) (q0 : Exp → Int → Option (Str)) (q1 : Exp → Option (Str)) (q2 : (List Exp) → Option (Str)) (a0 : Exp) : Option (Str) :=
  bif (((Exp.kind a0) : Int) == 1) then (
    Option.bind (xCt N (Exp.n a0)) fun r1 =>
    some r1
  ) else (
    bif (((Exp.kind a0) : Int) == 2) then (
      if List.length [34] + List.length (Exp.text a0) ≤ Lim then
      if List.length ([34] ++ (Exp.text a0)) + List.length [34] ≤ Lim then
      some (([34] ++ (Exp.text a0)) ++ [34])
      else none
      else none
    ) else (
      bif (((Exp.kind a0) : Int) == 3) then (
        some (Exp.text a0)
      ) else (
        bif (((Exp.kind a0) : Int) == 4) then (
          Option.bind (q2 (Exp.args a0)) fun r1 =>
          if List.length [91] + List.length r1 ≤ Lim then
          if List.length ([91] ++ r1) + List.length [93] ≤ Lim then
          some (([91] ++ r1) ++ [93])
          else none
          else none
        ) else (
          bif (((Exp.kind a0) : Int) == 5) then (
            if List.length (Exp.text a0) + List.length [40] ≤ Lim then
            Option.bind (q2 (Exp.args a0)) fun r1 =>
            if List.length ((Exp.text a0) ++ [40]) + List.length r1 ≤ Lim then
            if List.length (((Exp.text a0) ++ [40]) ++ r1) + List.length [41] ≤ Lim then
            some ((((Exp.text a0) ++ [40]) ++ r1) ++ [41])
            else none
            else none
            else none
          ) else (
            bif (((Exp.kind a0) : Int) == 7) then (
              if List.length [108, 101, 116, 32] + List.length (Exp.text a0) ≤ Lim then
              if List.length ([108, 101, 116, 32] ++ (Exp.text a0)) + List.length [32, 61, 32] ≤ Lim then
              if (0 : Int) ≤ 0 ∧ (0 : Int) < (List.length (Exp.args a0)) then
              Option.bind (q1 (List.getD (Exp.args a0) (Int.toNat 0) Ty.exp.dflt)) fun r1 =>
              if List.length (([108, 101, 116, 32] ++ (Exp.text a0)) ++ [32, 61, 32]) + List.length r1 ≤ Lim then
              if List.length ((([108, 101, 116, 32] ++ (Exp.text a0)) ++ [32, 61, 32]) ++ r1) + List.length [32, 105, 110, 32] ≤ Lim then
              if (0 : Int) ≤ 1 ∧ (1 : Int) < (List.length (Exp.args a0)) then
              Option.bind (q1 (List.getD (Exp.args a0) (Int.toNat 1) Ty.exp.dflt)) fun r2 =>
              if List.length (((([108, 101, 116, 32] ++ (Exp.text a0)) ++ [32, 61, 32]) ++ r1) ++ [32, 105, 110, 32]) + List.length r2 ≤ Lim then
              some ((((([108, 101, 116, 32] ++ (Exp.text a0)) ++ [32, 61, 32]) ++ r1) ++ [32, 105, 110, 32]) ++ r2)
              else none
              else none
              else none
              else none
              else none
              else none
              else none
            ) else (
              bif (((Exp.kind a0) : Int) == 8) then (
                if (0 : Int) ≤ 0 ∧ (0 : Int) < (List.length (Exp.args a0)) then
                Option.bind (q1 (List.getD (Exp.args a0) (Int.toNat 0) Ty.exp.dflt)) fun r1 =>
                if List.length [105, 102, 32] + List.length r1 ≤ Lim then
                if List.length ([105, 102, 32] ++ r1) + List.length [32, 116, 104, 101, 110, 32] ≤ Lim then
                if (0 : Int) ≤ 1 ∧ (1 : Int) < (List.length (Exp.args a0)) then
                Option.bind (q1 (List.getD (Exp.args a0) (Int.toNat 1) Ty.exp.dflt)) fun r2 =>
                if List.length (([105, 102, 32] ++ r1) ++ [32, 116, 104, 101, 110, 32]) + List.length r2 ≤ Lim then
                if List.length ((([105, 102, 32] ++ r1) ++ [32, 116, 104, 101, 110, 32]) ++ r2) + List.length [32, 101, 108, 115, 101, 32] ≤ Lim then
                if (0 : Int) ≤ 2 ∧ (2 : Int) < (List.length (Exp.args a0)) then
                Option.bind (q1 (List.getD (Exp.args a0) (Int.toNat 2) Ty.exp.dflt)) fun r3 =>
                if List.length (((([105, 102, 32] ++ r1) ++ [32, 116, 104, 101, 110, 32]) ++ r2) ++ [32, 101, 108, 115, 101, 32]) + List.length r3 ≤ Lim then
                some ((((([105, 102, 32] ++ r1) ++ [32, 116, 104, 101, 110, 32]) ++ r2) ++ [32, 101, 108, 115, 101, 32]) ++ r3)
                else none
                else none
                else none
                else none
                else none
                else none
                else none
                else none
              ) else (
                bif (((Exp.kind a0) : Int) == 9) then (
                  if List.length [102, 111, 114, 32] + List.length (Exp.text a0) ≤ Lim then
                  if List.length ([102, 111, 114, 32] ++ (Exp.text a0)) + List.length [32, 105, 110, 32] ≤ Lim then
                  if (0 : Int) ≤ 0 ∧ (0 : Int) < (List.length (Exp.args a0)) then
                  Option.bind (q1 (List.getD (Exp.args a0) (Int.toNat 0) Ty.exp.dflt)) fun r1 =>
                  if List.length (([102, 111, 114, 32] ++ (Exp.text a0)) ++ [32, 105, 110, 32]) + List.length r1 ≤ Lim then
                  if List.length ((([102, 111, 114, 32] ++ (Exp.text a0)) ++ [32, 105, 110, 32]) ++ r1) + List.length [32, 100, 111, 32] ≤ Lim then
                  if (0 : Int) ≤ 1 ∧ (1 : Int) < (List.length (Exp.args a0)) then
                  Option.bind (q1 (List.getD (Exp.args a0) (Int.toNat 1) Ty.exp.dflt)) fun r2 =>
                  if List.length (((([102, 111, 114, 32] ++ (Exp.text a0)) ++ [32, 105, 110, 32]) ++ r1) ++ [32, 100, 111, 32]) + List.length r2 ≤ Lim then
                  some ((((([102, 111, 114, 32] ++ (Exp.text a0)) ++ [32, 105, 110, 32]) ++ r1) ++ [32, 100, 111, 32]) ++ r2)
                  else none
                  else none
                  else none
                  else none
                  else none
                  else none
                  else none
                ) else (
                  Option.bind (xCD N a0) fun r1 =>
                  bif ((r1 : Int) == 1) then (
                    if (0 : Int) ≤ 0 ∧ (0 : Int) < (List.length (Exp.args a0)) then
                    Option.bind (q0 (List.getD (Exp.args a0) (Int.toNat 0) Ty.exp.dflt) 2) fun r2 =>
                    if List.length r2 + List.length [32] ≤ Lim then
                    Option.bind (xCJ N (Exp.n a0)) fun r3 =>
                    if List.length (r2 ++ [32]) + List.length r3 ≤ Lim then
                    if List.length ((r2 ++ [32]) ++ r3) + List.length [32] ≤ Lim then
                    if (0 : Int) ≤ 1 ∧ (1 : Int) < (List.length (Exp.args a0)) then
                    Option.bind (q0 (List.getD (Exp.args a0) (Int.toNat 1) Ty.exp.dflt) (IntKind.i64.wrap (r1 + 1))) fun r4 =>
                    if List.length (((r2 ++ [32]) ++ r3) ++ [32]) + List.length r4 ≤ Lim then
                    some ((((r2 ++ [32]) ++ r3) ++ [32]) ++ r4)
                    else none
                    else none
                    else none
                    else none
                    else none
                    else none
                  ) else (
                    if (0 : Int) ≤ 0 ∧ (0 : Int) < (List.length (Exp.args a0)) then
                    Option.bind (q0 (List.getD (Exp.args a0) (Int.toNat 0) Ty.exp.dflt) r1) fun r2 =>
                    if List.length r2 + List.length [32] ≤ Lim then
                    Option.bind (xCJ N (Exp.n a0)) fun r3 =>
                    if List.length (r2 ++ [32]) + List.length r3 ≤ Lim then
                    if List.length ((r2 ++ [32]) ++ r3) + List.length [32] ≤ Lim then
                    if (0 : Int) ≤ 1 ∧ (1 : Int) < (List.length (Exp.args a0)) then
                    Option.bind (q0 (List.getD (Exp.args a0) (Int.toNat 1) Ty.exp.dflt) (IntKind.i64.wrap (r1 + 1))) fun r4 =>
                    if List.length (((r2 ++ [32]) ++ r3) ++ [32]) + List.length r4 ≤ Lim then
                    some ((((r2 ++ [32]) ++ r3) ++ [32]) ++ r4)
                    else none
                    else none
                    else none
                    else none
                    else none
                    else none
                  )
                )
              )
            )
          )
        )
      )
    )
  )
def xB2 (a0 : List Exp) : List Arg := [.val (.v false [.sl .ro .exp a0])]
def xBi (r : Str) : CallO := ⟨.v false [.str r], [], []⟩
def xBK (N : Nat) (q0 : Exp → Int → Option (Str)) (q1 : Exp → Option (Str)) (q2 : (List Exp) → Option (Str)) : Nat → (List Str) → (List Exp) → Int → Int → Option (Str)
  | 0, _, _, _, _ => none
  | n + 1, x3, x7, x8, x9 =>
    bif (decide ((x9 : Int) < x8)) then (
      if (0 : Int) ≤ x9 ∧ x9 < (List.length x7) then
      Option.bind (q1 (List.getD x7 (Int.toNat x9) Ty.exp.dflt)) fun r1 =>
      if List.length x3 + List.length [r1] ≤ Lim then
      (xBK N q0 q1 q2 n (x3 ++ [r1]) x7 x8 (IntKind.i64.wrap (x9 + 1)))
      else none
      else none
    ) else (
      Option.bind (xDQ N x3 [44, 32]) fun r1 =>
      some r1
    )
def xCW (N : Nat) (q0 : Exp → Int → Option (Str)) (q1 : Exp → Option (Str)) (q2 : (List Exp) → Option (Str)) (a0 : List Exp) : Option (Str) :=
  (xBK N q0 q1 q2 N [] a0 (List.length a0 : Int) 0)
structure impl_enclosed_rec where
  c_impl_enclosed : Exp → Int → Option (Str)
  c_impl_source : Exp → Option (Str)
  c_impl_sources : (List Exp) → Option (Str)
def xAa (N : Nat) : Nat → impl_enclosed_rec
  | 0 => ⟨fun _ _ => none, fun _ => none, fun _ => none⟩
  | d + 1 => ⟨xBU N (xAa N d).c_impl_enclosed (xAa N d).c_impl_source (xAa N d).c_impl_sources, xAL N (xAa N d).c_impl_enclosed (xAa N d).c_impl_source (xAa N d).c_impl_sources, xCW N (xAa N d).c_impl_enclosed (xAa N d).c_impl_source (xAa N d).c_impl_sources⟩
def xEh (N : Nat) (a0 : Exp) : Option (Str) := (xAa N N).c_impl_source a0
def xBh (a0 : Exp) : List Arg := [.val (.v true [.int .i64 (Exp.kind a0), .int .i64 (Exp.n a0), .str (Exp.text a0), .sl .ro .exp (Exp.args a0)])]
def xAN (r : Str) : CallO := ⟨.v false [.str r], [], []⟩
def xBZ (N : Nat) (a0 : Exp) : Option (Str) :=
  Option.bind (xCe N a0) fun r1 =>
  bif (!r1) then (
    some []
  ) else (
    Option.bind (xEh N a0) fun r2 =>
    some r2
  )
def xAX (a0 : Exp) (a1 : Exp) : List Arg := [.val (.v true [.int .i64 (Exp.kind a0), .int .i64 (Exp.n a0), .str (Exp.text a0), .sl .ro .exp (Exp.args a0)]), .val (.v true [.int .i64 (Exp.kind a1), .int .i64 (Exp.n a1), .str (Exp.text a1), .sl .ro .exp (Exp.args a1)])]
def xAy (r : Bool) : CallO := ⟨.v false [.bool r], [], []⟩
def xCf (N : Nat) (q0 : Exp → Exp → Option (Bool)) (q1 : (List Exp) → (List Exp) → Option (Bool)) (a0 : Exp) (a1 : Exp) : Option (Bool) :=
  bif (((Exp.kind a0) : Int) != (Exp.kind a1)) then (
    some false
  ) else (
    bif (((Exp.n a0) : Int) != (Exp.n a1)) then (
      some false
    ) else (
      bif (!(((Exp.text a0) : Str) == (Exp.text a1))) then (
        some false
      ) else (
        Option.bind (q1 (Exp.args a0) (Exp.args a1)) fun r1 =>
        bif (!r1) then (
          some false
        ) else (
          some true
        )
      )
    )
  )
def xBL (a0 : List Exp) (a1 : List Exp) : List Arg := [.val (.v false [.sl .ro .exp a0]), .val (.v false [.sl .ro .exp a1])]
def xA2 (r : Bool) : CallO := ⟨.v false [.bool r], [], []⟩
def xB3 (N : Nat) (q0 : Exp → Exp → Option (Bool)) (q1 : (List Exp) → (List Exp) → Option (Bool)) : Nat → (List Exp) → (List Exp) → Int → Option (Bool)
  | 0, _, _, _ => none
  | n + 1, x0, x1, x5 =>
    bif (decide ((x5 : Int) < (List.length x0 : Int))) then (
      if (0 : Int) ≤ x5 ∧ x5 < (List.length x0) then
      if (0 : Int) ≤ x5 ∧ x5 < (List.length x1) then
      Option.bind (q0 (List.getD x0 (Int.toNat x5) Ty.exp.dflt) (List.getD x1 (Int.toNat x5) Ty.exp.dflt)) fun r1 =>
      bif (!r1) then (
        some false
      ) else (
        (xB3 N q0 q1 n x0 x1 (IntKind.i64.wrap (x5 + 1)))
      )
      else none
      else none
    ) else (
      some true
    )
def xB4 (N : Nat) (q0 : Exp → Exp → Option (Bool)) (q1 : (List Exp) → (List Exp) → Option (Bool)) (a0 : List Exp) (a1 : List Exp) : Option (Bool) :=
  bif (((List.length a0 : Int) : Int) != (List.length a1 : Int)) then (
    some false
  ) else (
    (xB3 N q0 q1 N a0 a1 0)
  )
structure laws_eqExpr_rec where
  c_laws_eqExpr : Exp → Exp → Option (Bool)
  c_laws_eqExprS : (List Exp) → (List Exp) → Option (Bool)
def xAM (N : Nat) : Nat → laws_eqExpr_rec
  | 0 => ⟨fun _ _ => none, fun _ _ => none⟩
  | d + 1 => ⟨xCf N (xAM N d).c_laws_eqExpr (xAM N d).c_laws_eqExprS, xB4 N (xAM N d).c_laws_eqExpr (xAM N d).c_laws_eqExprS⟩
def xEj (N : Nat) (a0 : Exp) (a1 : Exp) : Option (Bool) := (xAM N N).c_laws_eqExpr a0 a1
def xAV (a0 : Exp) : List Arg := [.val (.v true [.int .i64 (Exp.kind a0), .int .i64 (Exp.n a0), .str (Exp.text a0), .sl .ro .exp (Exp.args a0)])]
def xAW (r : Bool) : CallO := ⟨.v false [.bool r], [], []⟩
def xBr (N : Nat) (a0 : Exp) : Option (Bool) :=
  Option.bind (xEl N a0 1048576) fun r1 =>
  bif (decide ((r1 : Int) < 0)) then (
    some true
  ) else (
    Option.bind (xDh N a0) fun r2 =>
    Option.bind (xB6 N r2) fun r3 =>
    Option.bind (xDh N a0) fun r4 =>
    Option.bind (xBZ N r4) fun r5 =>
    bif (!((r5 : Str) == r3)) then (
      some false
    ) else (
      Option.bind (xDh N a0) fun r6 =>
      Option.bind (xEj N r4 r6) fun r7 =>
      bif (!r7) then (
        some false
      ) else (
        some true
      )
    )
  )
end Go.Ab
end
section
namespace Go.Ab
theorem tab_obj {P : Program} {w : World} {nm : String} {k : IntKind} {zs : List Int} (h : Lib.TabIs P w nm k zs) : ∃ (g : Nat) (o : Obj), w.heap[g]? = some o ∧ ∀ w' : World, w'.heap[g]? = some o → Lib.TabIs P w' nm k zs := by
  unfold Lib.TabIs World.var? at h
  obtain ⟨g, hg, h⟩ := Option.bind_eq_some_iff.1 h
  split at h
  · rename_i cs ty fr hh
    refine ⟨g, _, hh, fun w' hw => ?_⟩
    unfold Lib.TabIs World.var?
    rw [hg, Option.bind_some, hw]
    exact h
  · cases h
end Go.Ab
namespace Go.Ab
variable [Inhabited Lb]
open Go.Proofs Go.Shelf Go.RowKit Go.Lib
variable {P : Program} {ρ : Ren}
theorem enter_Join (L : Lays.n156 P ρ) : ∀ args w, (callFunc (ρ.f 156) args).run P w = .ok (.enter (ρ.f 156) args) w := enters_of L.f156 (by kernel_rfl) rfl
theorem enter_Itoa (L : LaysM.n171 P ρ) : ∀ args w, (callFunc (ρ.f 171) args).run P w = .ok (.enter (ρ.f 171) args) w := enters_of L.f171 (by kernel_rfl) rfl
theorem itoa_of {A : World → Prop} {f : FuncId} (hc : ∀ n : Int, -9223372036854775808 ≤ n → n ≤ 9223372036854775807 → ∀ w : World, A w → Calls P f #[.int .i64 n] w fun e w' => e = .returned (.string ⟨(Lib.itoa n).toArray⟩) ∧ ∃ k os, w' = Go.Sort.grow (w.drewN k) os)
    (ht : ∀ w : World, (∀ x ∈ laidB, w.heap[x.1]? = some x.2) → A w) (n : Int) (w : World) (h0 : -9223372036854775808 ≤ n) (h1 : n ≤ 9223372036854775807) (hw : ∀ x ∈ laidB, w.heap[x.1]? = some x.2) :
    Calls P f #[.int .i64 n] w fun e w' => e = .returned (.string ⟨(Lib.itoa n).toArray⟩) ∧ Go.RowKit.Below w.heap.size w w' := by
  refine (hc n h0 h1 w (ht w hw)).mono ?_
  rintro e w' ⟨he, k, os, rfl⟩
  refine ⟨he, rfl, rfl, rfl, ?_, fun j hj => ?_⟩
  · show w.heap.size ≤ (w.heap ++ os).size
    rw [Array.size_append]; omega
  · show (w.heap ++ os)[j]? = _
    rw [Array.getElem?_append_left hj]
end Go.Ab
end
section
namespace Go.Proofs
open Go.Shelf
def Tryd.lays156_ren : Go.Shelf.Ren := ⟨fun | 156 => 110 | 165 => 131 | 166 => 132 | 169 => 133 | 240 => 144 | 241 => 145 | 276 => 154 | 277 => 155 | n => n, fun | 31 => 23 | 9 => 9 | 3 => 3 | 4 => 4 | 0 => 0 | 20 => 20 | 72 => 119 | 76 => 123 | 70 => 117 | 37 => 92 | 75 => 122 | 127 => 132 | 164 => 142 | 5 => 5 | 80 => 125 | n => n, fun | n => n⟩
theorem Tryd.lays156 : Go.Proofs.Lays.n156 Tryd.prog Tryd.lays156_ren := {
  mixed := by kernel_rfl
  f156 := Tryd.func110.trans (congrArg some (by kernel_rfl))
  f165 := Tryd.func131.trans (congrArg some (by kernel_rfl))
  f166 := Tryd.func132.trans (congrArg some (by kernel_rfl))
  f169 := Tryd.func133.trans (congrArg some (by kernel_rfl))
  f240 := Tryd.func144.trans (congrArg some (by kernel_rfl))
  f241 := Tryd.func145.trans (congrArg some (by kernel_rfl))
  f276 := Tryd.func154.trans (congrArg some (by kernel_rfl))
  f277 := Tryd.func155.trans (congrArg some (by kernel_rfl))
  t0 := Tryd.underlying0
  a0 := Tryd.isAgg0
  z0 := Tryd.sizeOf0
  v0 := Tryd.zeroValue0
  t3 := Tryd.underlying3
  a3 := Tryd.isAgg3
  z3 := Tryd.sizeOf3
  v3 := Tryd.zeroValue3
  t4 := Tryd.underlying4
  a4 := Tryd.isAgg4
  z4 := Tryd.sizeOf4
  v4 := Tryd.zeroValue4
  t9 := Tryd.underlying9
  a9 := Tryd.isAgg9
  z9 := Tryd.sizeOf9
  v9 := Tryd.zeroValue9
  t20 := Tryd.underlying20
  a20 := Tryd.isAgg20
  z20 := Tryd.sizeOf20
  v20 := Tryd.zeroValue20
  t31 := Tryd.underlying23
  a31 := Tryd.isAgg23
  z31 := Tryd.sizeOf23
  v31 := Tryd.zeroValue23
  t37 := Tryd.underlying92
  a37 := Tryd.isAgg92
  z37 := Tryd.sizeOf92
  v37 := Tryd.zeroValue92
  t70 := Tryd.underlying117
  a70 := Tryd.isAgg117
  z70 := Tryd.sizeOf117
  v70 := Tryd.zeroValue117
  t72 := Tryd.underlying119
  a72 := Tryd.isAgg119
  z72 := Tryd.sizeOf119
  v72 := Tryd.zeroValue119
  t75 := Tryd.underlying122
  a75 := Tryd.isAgg122
  z75 := Tryd.sizeOf122
  v75 := Tryd.zeroValue122
  t76 := Tryd.underlying123
  a76 := Tryd.isAgg123
  z76 := Tryd.sizeOf123
  v76 := Tryd.zeroValue123
  t127 := Tryd.underlying132
  a127 := Tryd.isAgg132
  z127 := Tryd.sizeOf132
  v127 := Tryd.zeroValue132
  t164 := Tryd.underlying142
  a164 := Tryd.isAgg142
  z164 := Tryd.sizeOf142
  v164 := Tryd.zeroValue142 }
theorem Tryd.Builder_Extra_156 : Builder.Extra Tryd.prog Tryd.lays156_ren := {
  sizeBuilder := by kernel_rfl
  liesBuilder := by kernel_rfl
  t5 := Tryd.underlying5
  a5 := Tryd.isAgg5
  z5 := Tryd.sizeOf5
  v5 := Tryd.zeroValue5
  infoByte := by kernel_rfl
  cellsByte := by kernel_rfl
  sizeByte := by kernel_rfl
  neB5 := by decide }
def Tryd.laysM171_ren : Go.Shelf.Ren := ⟨fun | 171 => 109 | 243 => 130 | 246 => 143 | 283 => 150 | 284 => 151 | 285 => 152 | 286 => 153 | 129 => 162 | 317 => 161 | 318 => 163 | 319 => 164 | 320 => 165 | 337 => 168 | 338 => 169 | n => n, fun | 3 => 3 | 9 => 9 | 2 => 2 | 4 => 4 | 171 => 136 | 0 => 0 | 53 => 137 | 37 => 92 | 5 => 5 | 173 => 140 | 212 => 148 | 51 => 149 | 20 => 20 | 213 => 150 | 46 => 146 | 232 => 159 | 233 => 160 | n => n, fun | 17 => 2 | 18 => 5 | 19 => 6 | n => n⟩
theorem Tryd.laysM171 : Go.Proofs.LaysM.n171 Tryd.prog Tryd.laysM171_ren := {
  mixed := by kernel_rfl
  f129 := Tryd.func162.trans (congrArg some (by kernel_rfl))
  f171 := Tryd.func109.trans (congrArg some (by kernel_rfl))
  f243 := Tryd.func130.trans (congrArg some (by kernel_rfl))
  f246 := Tryd.func143.trans (congrArg some (by kernel_rfl))
  f283 := Tryd.func150.trans (congrArg some (by kernel_rfl))
  f284 := Tryd.func151.trans (congrArg some (by kernel_rfl))
  f285 := Tryd.func152.trans (congrArg some (by kernel_rfl))
  f286 := Tryd.func153.trans (congrArg some (by kernel_rfl))
  f317 := Tryd.func161.trans (congrArg some (by kernel_rfl))
  f318 := Tryd.func163.trans (congrArg some (by kernel_rfl))
  f319 := Tryd.func164.trans (congrArg some (by kernel_rfl))
  f320 := Tryd.func165.trans (congrArg some (by kernel_rfl))
  f337 := Tryd.func168.trans (congrArg some (by kernel_rfl))
  f338 := Tryd.func169.trans (congrArg some (by kernel_rfl))
  t0 := Tryd.underlying0
  a0 := Tryd.isAgg0
  z0 := Tryd.sizeOf0
  v0 := Tryd.zeroValue0
  t2 := Tryd.underlying2
  a2 := Tryd.isAgg2
  z2 := Tryd.sizeOf2
  v2 := Tryd.zeroValue2
  t3 := Tryd.underlying3
  a3 := Tryd.isAgg3
  z3 := Tryd.sizeOf3
  v3 := Tryd.zeroValue3
  t4 := Tryd.underlying4
  a4 := Tryd.isAgg4
  z4 := Tryd.sizeOf4
  v4 := Tryd.zeroValue4
  t5 := Tryd.underlying5
  a5 := Tryd.isAgg5
  z5 := Tryd.sizeOf5
  v5 := Tryd.zeroValue5
  t9 := Tryd.underlying9
  a9 := Tryd.isAgg9
  z9 := Tryd.sizeOf9
  v9 := Tryd.zeroValue9
  t20 := Tryd.underlying20
  a20 := Tryd.isAgg20
  z20 := Tryd.sizeOf20
  v20 := Tryd.zeroValue20
  t37 := Tryd.underlying92
  a37 := Tryd.isAgg92
  z37 := Tryd.sizeOf92
  v37 := Tryd.zeroValue92
  t46 := Tryd.underlying146
  a46 := Tryd.isAgg146
  z46 := Tryd.sizeOf146
  v46 := Tryd.zeroValue146
  t51 := Tryd.underlying149
  a51 := Tryd.isAgg149
  z51 := Tryd.sizeOf149
  v51 := Tryd.zeroValue149
  t53 := Tryd.underlying137
  a53 := Tryd.isAgg137
  z53 := Tryd.sizeOf137
  v53 := Tryd.zeroValue137
  t171 := Tryd.underlying136
  a171 := Tryd.isAgg136
  z171 := Tryd.sizeOf136
  v171 := Tryd.zeroValue136
  t173 := Tryd.underlying140
  a173 := Tryd.isAgg140
  z173 := Tryd.sizeOf140
  v173 := Tryd.zeroValue140
  t212 := Tryd.underlying148
  a212 := Tryd.isAgg148
  z212 := Tryd.sizeOf148
  v212 := Tryd.zeroValue148
  t213 := Tryd.underlying150
  a213 := Tryd.isAgg150
  z213 := Tryd.sizeOf150
  t232 := Tryd.underlying159
  a232 := Tryd.isAgg159
  z232 := Tryd.sizeOf159
  v232 := Tryd.zeroValue159
  t233 := Tryd.underlying160
  a233 := Tryd.isAgg160
  z233 := Tryd.sizeOf160
  v233 := Tryd.zeroValue160
  g17 := by kernel_rfl
  g18 := by kernel_rfl
  g19 := by kernel_rfl
  i0 := by kernel_rfl
  i2 := by kernel_rfl
  i3 := by kernel_rfl
  i4 := by kernel_rfl
  i5 := by kernel_rfl
  i9 := by kernel_rfl
  i20 := by kernel_rfl
  i37 := by kernel_rfl
  i46 := by kernel_rfl
  i51 := by kernel_rfl
  i53 := by kernel_rfl
  i171 := by kernel_rfl
  i173 := by kernel_rfl
  i212 := by kernel_rfl
  i232 := by kernel_rfl
  i233 := by kernel_rfl
  m17 := by kernel_rfl
  m18 := by kernel_rfl
  m19 := by kernel_rfl }
end Go.Proofs
end
section
open Go.Proofs
namespace Go.Ab.T
variable [Inhabited Lb]
abbrev AbC (f : FuncId) (a : List Arg) (r : CallO) : Prop := AbsCalls Tryd.prog f a r
abbrev W (x : Int) : Int := IntKind.i64.wrap x
abbrev Ln {α : Type} (l : List α) : Nat := List.length l
abbrev tN (x : Int) : Nat := Int.toNat x
abbrev gD {α : Type} (l : List α) (i : Nat) (d : α) : α := List.getD l i d
abbrev vd : Val := Ty.val.dflt
abbrev rd : Rowd := Ty.row.dflt
end Go.Ab.T
end
section
open Go.Proofs
namespace Go.Ab.T
set_option linter.unusedVariables false
set_option maxRecDepth 100000
variable [Inhabited Lb]
def p10 : String := ((Go.Proofs.YtkfoneofdidhkaaDoor.Rows.fnExactFormatExprRow.laid[2]?).map fun x => x.1).getD ""
def Tab10 : Prop := ∀ w : World, (∀ x ∈ laidB, w.heap[x.1]? = some x.2) → Lib.TabIs Tryd.prog w p10 .u64 Lib.pow10Tab
variable [Nonempty Tab10]
theorem tab10 : Tab10 := (inferInstance : Nonempty Tab10).elim fun h => h
def tt : TT := [(3, { zero := some [.int .i64 0], ik := some .i64 }),
 (4, { zero := some [.bool false], isBool := true }),
 (5, { zero := some [.int .u8 0], ik := some .u8 }),
 (9, { zero := some [.str []], isStr := true }),
 (23, { zero := some [.sl .own .str []], elem := some (9, .str) }),
 (37, { zero := some [.sl .own .exp []], elem := some (39, .exp) }),
 (39, { sz := 4, agg := true, zero := some [.int .i64 0, .int .i64 0, .str [], .sl .own .exp []], offs := [0, 1, 2, 3], fsz := [1, 1, 1, 1] }),
 (42, { zero := some [.sl .own .exp []], elem := some (44, .exp) }),
 (44, { sz := 4, agg := true, zero := some [.int .i64 0, .int .i64 0, .str [], .sl .own .exp []], offs := [0, 1, 2, 3], fsz := [1, 1, 1, 1] }),
 (92, { zero := some [.sl .own .byte []], elem := some (5, .byte) })]
theorem ttok : TTok Tryd.prog tt := ttChk_ok (by kernel_rfl)
theorem mix : Tryd.prog.follows .mixedOrders = true := by kernel_rfl
def F : Bool := false
def Y : Bool := true
noncomputable def rE (I : Info) (ag : List Arg) (bs : List Bool) (cs : List CallO) : Option Res := run tt (AbsCalls Tryd.prog) I 3000 false [.code I.body] ⟨zBn 0 ag, bs, cs, []⟩
noncomputable def rS (k : Nat) (I : Info) (σ : St) (bs : List Bool) (cs : List CallO) : Option Res := run tt (AbsCalls Tryd.prog) I 3000 true (stkAt k I.body) ⟨σ, bs, cs, []⟩
noncomputable def dn (r : CallO) (ob : List Prop) : Option Res := some (.done r ob)
noncomputable def st (k : Nat) (I : Info) (σ : St) (ob : List Prop) : Option Res := some (.stop (stkAt k I.body) σ ob)
def RE (fn : Func) (I : Info) (ag : List Arg) (r : CallO) : Prop := Reach Tryd.prog fn I [.code I.body] (zBn 0 ag) r
def RS (fn : Func) (I : Info) (k : Nat) (σ : St) (r : CallO) : Prop := Reach Tryd.prog fn I (stkAt k I.body) σ r
section
variable {ρ : Type} {f : FuncId} {fn : Func} {I : Info} {ag : List Arg} {bs : List Bool} {cs : List CallO} {k j : Nat} {σ σ' : St} {ob : List Prop} {ro : ρ → CallO} {x r : ρ} {q : CallO}
theorem dE (e : some x = some r) (hf : FnOk Tryd.prog f fn I) (h : rE I ag bs cs = dn (ro x) ob) (o : ∀ p ∈ ob, p) : RE fn I ag (ro r) := by
 cases e; exact Reach.done ttok mix hf h o
theorem dS (e : some x = some r) (hf : FnOk Tryd.prog f fn I) (h : rS k I σ bs cs = dn (ro x) ob) (o : ∀ p ∈ ob, p) : RS fn I k σ (ro r) := by
 cases e; exact Reach.done ttok mix hf h o
theorem tE (hf : FnOk Tryd.prog f fn I) (h : rE I ag bs cs = st k I σ ob) (o : ∀ p ∈ ob, p) (t : RS fn I k σ q) : RE fn I ag q := Reach.stop ttok mix hf h o t
theorem tS (hf : FnOk Tryd.prog f fn I) (h : rS j I σ' bs cs = st k I σ ob) (o : ∀ p ∈ ob, p) (t : RS fn I k σ q) : RS fn I j σ' q := Reach.stop ttok mix hf h o t
end
theorem oc {p : Prop} {l : List Prop} (h : p) (t : ∀ q ∈ l, q) : ∀ q ∈ p :: l, q := obs_cons h t
theorem on : ∀ q ∈ ([] : List Prop), q := obs_nil
theorem cE {α : Type} {C : Prop} {b : Bool} {x y : Option α} {r : α} (h : cond b x y = some r) (f : b = true → x = some r → C) (g : b = false → y = some r → C) : C := (cond_inv h).elim (fun h => f h.1 h.2) fun h => g h.1 h.2
theorem bE {α β : Type} {C : Prop} {o : Option α} {f : α → Option β} {r : β} (h : Option.bind o f = some r) (g : ∀ a, o = some a → f a = some r → C) : C := (bind_inv h).elim fun a h => g a h.1 h.2
theorem iE {α : Type} {C p : Prop} [Decidable p] {x : Option α} {r : α} (h : (if p then x else none) = some r) (g : p → x = some r → C) : C := (ite_inv h).elim g
theorem nE {α : Type} {C : Prop} {r : α} (h : none = some r) : C := nomatch h
def G16 (q : Exp → Int → Option (Int)) : Prop := ∀ a0 a1 r, q a0 a1 = some r → AbC 16 (xAY a0 a1) (xAu r)
def G51 (q : (List Exp) → Int → Option (Int)) : Prop := ∀ a0 a1 r, q a0 a1 = some r → AbC 51 (xBM a0 a1) (xA3 r)
noncomputable def I16 : Info := { body := (Tryd.f16.body).getD .skip, nt := 19, results := [.tmp 4], keep := [0, 2, 4, 8, 22, 34, 5], live := [], modes := [] }
theorem fk16 : FnOk Tryd.prog 16 Tryd.f16 I16 := ⟨Tryd.func16, by kernel_rfl, by kernel_rfl, by kernel_rfl, by kernel_rfl⟩
theorem p16_e_0 (a0 : Exp) (a1 : Int) : rE I16 (xAY a0 a1) [Y] [] = dn (xAu (-1)) [(decide (((W (a1 - (Ln (Exp.text a0) : Int))) : Int) < 0)) = true] := by kernel_rfl
theorem p16_e_1 (a0 : Exp) (a1 r1 : Int) : rE I16 (xAY a0 a1) [F, Y] [xA3 r1] = dn (xAu (-1)) [(decide (((W (a1 - (Ln (Exp.text a0) : Int))) : Int) < 0)) = false, AbC 51 (xBM (Exp.args a0) (W (a1 - (Ln (Exp.text a0) : Int)))) (xA3 r1), (decide ((r1 : Int) < 0)) = true] := by kernel_rfl
theorem p16_e_2 (a0 : Exp) (a1 r1 : Int) : rE I16 (xAY a0 a1) [F, F] [xA3 r1] = dn (xAu r1) [(decide (((W (a1 - (Ln (Exp.text a0) : Int))) : Int) < 0)) = false, AbC 51 (xBM (Exp.args a0) (W (a1 - (Ln (Exp.text a0) : Int)))) (xA3 r1), (decide ((r1 : Int) < 0)) = false] := by kernel_rfl
theorem c16_e {N : Nat} {q0 : Exp → Int → Option (Int)} (g0 : G16 q0) {q1 : (List Exp) → Int → Option (Int)} (g1 : G51 q1) : ∀ a0 a1 r, xC8 N q0 q1 a0 a1 = some r → RE Tryd.f16 I16 (xAY a0 a1) (xAu r) := fun a0 a1 r h =>
 cE h (fun h0 h => dE h fk16 (p16_e_0 a0 a1) (oc h0 on)) fun h0 h =>
 bE h fun r1 h1 h => cE h (fun h2 h => dE h fk16 (p16_e_1 a0 a1 r1) (oc h0 (oc (g1 _ _ _ h1) (oc h2 on)))) fun h2 h =>
 dE h fk16 (p16_e_2 a0 a1 r1) (oc h0 (oc (g1 _ _ _ h1) (oc h2 on)))
theorem xEm {N : Nat} {q0 : Exp → Int → Option (Int)} (g0 : G16 q0) {q1 : (List Exp) → Int → Option (Int)} (g1 : G51 q1) {a0 : Exp} {a1 : Int} {r : Int} (h : xC8 N q0 q1 a0 a1 = some r) : AbC 16 (xAY a0 a1) (xAu r) :=
 AbsCalls.of_reach fk16 rfl rfl (Nat.le_of_ble_eq_true rfl) (c16_e g0 g1 a0 a1 r h)
noncomputable def I51 : Info := { body := (Tryd.f51.body).getD .skip, nt := 27, results := [.tmp 4], keep := [0, 2, 8, 10, 22, 30, 50], live := [(5, [0, 2, 10])], modes := [] }
theorem fk51 : FnOk Tryd.prog 51 Tryd.f51 I51 := ⟨Tryd.func51, by kernel_rfl, by kernel_rfl, by kernel_rfl, by kernel_rfl⟩
def S51_5 (x0 : List Exp) (x1 x5 : Int) : St := [(0, .v false [.sl .ro .exp x0]), (2, .v false [.int .i64 x1]), (10, .v false [.int .i64 x5])]
theorem p51_5_0 (x0 : List Exp) (x1 x5 r1 : Int) : rS 5 I51 (S51_5 x0 x1 x5) [Y, Y] [xAu r1] = dn (xA3 (-1)) [(decide ((x5 : Int) < (Ln x0 : Int))) = true, (0 : Int) ≤ x5 ∧ x5 < (Ln x0), AbC 16 (xAY (gD x0 (tN x5) Ty.exp.dflt) x1) (xAu r1), (decide ((r1 : Int) < 0)) = true] := by kernel_rfl
theorem p51_5_1 (x0 : List Exp) (x1 x5 r1 : Int) : rS 5 I51 (S51_5 x0 x1 x5) [Y, F] [xAu r1] = st 5 I51 (S51_5 x0 r1 (W (x5 + 1))) [(decide ((x5 : Int) < (Ln x0 : Int))) = true, (0 : Int) ≤ x5 ∧ x5 < (Ln x0), AbC 16 (xAY (gD x0 (tN x5) Ty.exp.dflt) x1) (xAu r1), (decide ((r1 : Int) < 0)) = false] := by kernel_rfl
theorem p51_5_2 (x0 : List Exp) (x1 x5 : Int) : rS 5 I51 (S51_5 x0 x1 x5) [F] [] = dn (xA3 x1) [(decide ((x5 : Int) < (Ln x0 : Int))) = false] := by kernel_rfl
theorem p51_e_3 (a0 : List Exp) (a1 : Int) : rE I51 (xBM a0 a1) [Y] [] = dn (xA3 (-1)) [(decide (((W (a1 - (Ln a0 : Int))) : Int) < 0)) = true] := by kernel_rfl
theorem p51_e_4 (a0 : List Exp) (a1 : Int) : rE I51 (xBM a0 a1) [F] [] = st 5 I51 (S51_5 a0 (W (a1 - (Ln a0 : Int))) 0) [(decide (((W (a1 - (Ln a0 : Int))) : Int) < 0)) = false] := by kernel_rfl
theorem c51_5 {N : Nat} {q0 : Exp → Int → Option (Int)} (g0 : G16 q0) {q1 : (List Exp) → Int → Option (Int)} (g1 : G51 q1) : ∀ n x0 x1 x5 r, xCL N q0 q1 n x0 x1 x5 = some r → RS Tryd.f51 I51 5 (S51_5 x0 x1 x5) (xA3 r) := by
 intro n
 induction n with
 | zero => exact fun _ _ _ _ h => nE h
 | succ n ih =>
  exact fun x0 x1 x5 r h =>
   cE h (fun h0 h => iE h fun h1 h => bE h fun r1 h2 h => cE h (fun h3 h => dS h fk51 (p51_5_0 x0 x1 x5 r1) (oc h0 (oc h1 (oc (g0 _ _ _ h2) (oc h3 on))))) fun h3 h =>
   tS fk51 (p51_5_1 x0 x1 x5 r1) (oc h0 (oc h1 (oc (g0 _ _ _ h2) (oc h3 on)))) (ih _ _ _ _ h)) fun h0 h =>
   dS h fk51 (p51_5_2 x0 x1 x5) (oc h0 on)
theorem c51_e {N : Nat} {q0 : Exp → Int → Option (Int)} (g0 : G16 q0) {q1 : (List Exp) → Int → Option (Int)} (g1 : G51 q1) : ∀ a0 a1 r, xCX N q0 q1 a0 a1 = some r → RE Tryd.f51 I51 (xBM a0 a1) (xA3 r) := fun a0 a1 r h =>
 cE h (fun h0 h => dE h fk51 (p51_e_3 a0 a1) (oc h0 on)) fun h0 h =>
 tE fk51 (p51_e_4 a0 a1) (oc h0 on) (c51_5 g0 g1 _ _ _ _ _ h)
theorem xD6 {N : Nat} {q0 : Exp → Int → Option (Int)} (g0 : G16 q0) {q1 : (List Exp) → Int → Option (Int)} (g1 : G51 q1) {a0 : List Exp} {a1 : Int} {r : Int} (h : xCX N q0 q1 a0 a1 = some r) : AbC 51 (xBM a0 a1) (xA3 r) :=
 AbsCalls.of_reach fk51 rfl rfl (Nat.le_of_ble_eq_true rfl) (c51_e g0 g1 a0 a1 r h)
theorem laws_szExpr_fix_ok {N : Nat} : ∀ d, G16 (xA4 N d).c_laws_szExpr ∧ G51 (xA4 N d).c_laws_szExprS := by
 intro d
 induction d with
 | zero => exact ⟨fun _ _ _ h => nE h, fun _ _ _ h => nE h⟩
 | succ d ih =>
  obtain ⟨ih0, ih1⟩ := ih
  exact ⟨fun _ _ _ h => xEm (N := N) ih0 ih1 h, fun _ _ _ h => xD6 (N := N) ih0 ih1 h⟩
theorem xC0 {N : Nat} {a0 : Exp} {a1 : Int} {r : Int} (h : xEl N a0 a1 = some r) : AbC 16 (xAY a0 a1) (xAu r) := (laws_szExpr_fix_ok N).1 _ _ r h
def G18 (q : Exp → Option (Exp)) : Prop := ∀ a0 r, q a0 = some r → AbC 18 (xAP a0) (xAp r)
def G54 (q : (List Exp) → Option ((List Exp))) : Prop := ∀ a0 r, q a0 = some r → AbC 54 (xCm a0) (xBN r)
noncomputable def I18 : Info := { body := (Tryd.f18.body).getD .skip, nt := 18, results := [.cell 2 44], keep := [0, 2, 4, 6, 3, 5, 7], live := [], modes := [(6, [(0, .take, false)])] }
theorem fk18 : FnOk Tryd.prog 18 Tryd.f18 I18 := ⟨Tryd.func18, by kernel_rfl, by kernel_rfl, by kernel_rfl, by kernel_rfl⟩
theorem p18_e_0 (a0 : Exp) (r1 : (List Exp)) : rE I18 (xAP a0) [] [xBN r1] = dn (xAp (Exp.mk (Exp.kind a0) (Exp.n a0) (Exp.text a0) r1)) [AbC 54 (xCm (Exp.args a0)) (xBN r1)] := by kernel_rfl
theorem c18_e {N : Nat} {q0 : Exp → Option (Exp)} (g0 : G18 q0) {q1 : (List Exp) → Option ((List Exp))} (g1 : G54 q1) : ∀ a0 r, xCg N q0 q1 a0 = some r → RE Tryd.f18 I18 (xAP a0) (xAp r) := fun a0 r h =>
 bE h fun r1 h0 h => dE h fk18 (p18_e_0 a0 r1) (oc (g1 _ _ h0) on)
theorem xEn {N : Nat} {q0 : Exp → Option (Exp)} (g0 : G18 q0) {q1 : (List Exp) → Option ((List Exp))} (g1 : G54 q1) {a0 : Exp} {r : Exp} (h : xCg N q0 q1 a0 = some r) : AbC 18 (xAP a0) (xAp r) :=
 AbsCalls.of_reach fk18 rfl rfl (Nat.le_of_ble_eq_true rfl) (c18_e g0 g1 a0 r h)
noncomputable def I54 : Info := { body := (Tryd.f54.body).getD .skip, nt := 23, results := [.tmp 2], keep := [0, 4, 6, 8, 22], live := [(3, [0, 6, 8])], modes := [(5, [(0, .ref, false)]), (6, [(0, .take, false)])] }
theorem fk54 : FnOk Tryd.prog 54 Tryd.f54 I54 := ⟨Tryd.func54, by kernel_rfl, by kernel_rfl, by kernel_rfl, by kernel_rfl⟩
def S54_3 (x0 x3 : List Exp) (x4 : Int) : St := [(0, .v false [.sl .ro .exp x0]), (6, .v false [.sl .own .exp x3]), (8, .v false [.int .i64 x4])]
theorem p54_3_0 (x0 x3 : List Exp) (x4 : Int) (r1 : Exp) : rS 3 I54 (S54_3 x0 x3 x4) [Y] [xAp r1] = st 3 I54 (S54_3 x0 (List.set x3 (tN x4) (Exp.re r1)) (W (x4 + 1))) [(decide ((x4 : Int) < (Ln x0 : Int))) = true, (0 : Int) ≤ x4 ∧ x4 < (Ln x0), AbC 18 (xAP (gD x0 (tN x4) Ty.exp.dflt)) (xAp r1), (0 : Int) ≤ x4 ∧ x4 < (Ln x3)] := by kernel_rfl
theorem p54_3_1 (x0 x3 : List Exp) (x4 : Int) : rS 3 I54 (S54_3 x0 x3 x4) [F] [] = dn (xBN x3) [(decide ((x4 : Int) < (Ln x0 : Int))) = false] := by kernel_rfl
theorem p54_e_2 (a0 : List Exp) : rE I54 (xCm a0) [] [] = st 3 I54 (S54_3 a0 (List.replicate (tN (Ln a0 : Int)) Ty.exp.dflt) 0) [(0 : Int) ≤ (Ln a0 : Int) ∧ (Ln a0 : Int) = (Ln a0 : Int) ∧ (Ln a0 : Int) ≤ Lim] := by kernel_rfl
theorem c54_3 {N : Nat} {q0 : Exp → Option (Exp)} (g0 : G18 q0) {q1 : (List Exp) → Option ((List Exp))} (g1 : G54 q1) : ∀ n x0 x3 x4 r, xCM N q0 q1 n x0 x3 x4 = some r → RS Tryd.f54 I54 3 (S54_3 x0 x3 x4) (xBN r) := by
 intro n
 induction n with
 | zero => exact fun _ _ _ _ h => nE h
 | succ n ih =>
  exact fun x0 x3 x4 r h =>
   cE h (fun h0 h => iE h fun h1 h => bE h fun r1 h2 h => iE h fun h3 h => tS fk54 (p54_3_0 x0 x3 x4 r1) (oc h0 (oc h1 (oc (g0 _ _ h2) (oc h3 on)))) (ih _ _ _ _ h)) fun h0 h =>
   dS h fk54 (p54_3_1 x0 x3 x4) (oc h0 on)
theorem c54_e {N : Nat} {q0 : Exp → Option (Exp)} (g0 : G18 q0) {q1 : (List Exp) → Option ((List Exp))} (g1 : G54 q1) : ∀ a0 r, xB5 N q0 q1 a0 = some r → RE Tryd.f54 I54 (xCm a0) (xBN r) := fun a0 r h =>
 iE h fun h0 h => tE fk54 (p54_e_2 a0) (oc h0 on) (c54_3 g0 g1 _ _ _ _ _ h)
theorem xD7 {N : Nat} {q0 : Exp → Option (Exp)} (g0 : G18 q0) {q1 : (List Exp) → Option ((List Exp))} (g1 : G54 q1) {a0 : List Exp} {r : (List Exp)} (h : xB5 N q0 q1 a0 = some r) : AbC 54 (xCm a0) (xBN r) :=
 AbsCalls.of_reach fk54 rfl rfl (Nat.le_of_ble_eq_true rfl) (c54_e g0 g1 a0 r h)
theorem laws_toExpr_fix_ok {N : Nat} : ∀ d, G18 (xAB N d).c_laws_toExpr ∧ G54 (xAB N d).c_laws_toExprS := by
 intro d
 induction d with
 | zero => exact ⟨fun _ _ h => nE h, fun _ _ h => nE h⟩
 | succ d ih =>
  obtain ⟨ih0, ih1⟩ := ih
  exact ⟨fun _ _ h => xEn (N := N) ih0 ih1 h, fun _ _ h => xD7 (N := N) ih0 ih1 h⟩
theorem xBD {N : Nat} {a0 : Exp} {r : Exp} (h : xDh N a0 = some r) : AbC 18 (xAP a0) (xAp r) := (laws_toExpr_fix_ok N).1 _ r h
def G83 (q : Exp → Int → Option (Int)) : Prop := ∀ a0 a1 r, q a0 a1 = some r → AbC 83 (xBk a0 a1) (xAD r)
noncomputable def I83 : Info := { body := (Tryd.f83.body).getD .skip, nt := 27, results := [.tmp 4], keep := [0, 2, 4, 8, 10, 32, 5], live := [(3, [2, 4, 10, 5])], modes := [(3, [(5, .take, false)])] }
theorem fk83 : FnOk Tryd.prog 83 Tryd.f83 I83 := ⟨Tryd.func83, by kernel_rfl, by kernel_rfl, by kernel_rfl, by kernel_rfl⟩
def S83_3 (x1 x5 : Int) (b2 : Exp) : St := [(2, .v false [.int .i64 x1]), (4, .v false [.ptr 2 0]), (10, .v false [.int .i64 x5]), (5, .v true [.int .i64 (Exp.kind b2), .int .i64 (Exp.n b2), .str (Exp.text b2), .sl .ro .exp (Exp.args b2)])]
theorem p83_3_0 (x1 x5 : Int) (b2 : Exp) (r1 : Int) : rS 3 I83 (S83_3 x1 x5 b2) [Y, Y] [xAD r1] = st 3 I83 (S83_3 r1 (W (x5 + 1)) b2) [(decide ((x5 : Int) < (Ln (Exp.args b2) : Int))) = true, (decide ((x1 : Int) ≥ 0)) = true, (0 : Int) ≤ x5 ∧ x5 < (Ln (Exp.args b2)), AbC 83 (xBk (gD (Exp.args b2) (tN x5) Ty.exp.dflt) x1) (xAD r1)] := by kernel_rfl
theorem p83_3_1 (x1 x5 : Int) (b2 : Exp) : rS 3 I83 (S83_3 x1 x5 b2) [Y, F] [] = dn (xAD x1) [(decide ((x5 : Int) < (Ln (Exp.args b2) : Int))) = true, (decide ((x1 : Int) ≥ 0)) = false] := by kernel_rfl
theorem p83_3_2 (x1 x5 : Int) (b2 : Exp) : rS 3 I83 (S83_3 x1 x5 b2) [F, F] [] = dn (xAD x1) [(decide ((x5 : Int) < (Ln (Exp.args b2) : Int))) = false, false = false] := by kernel_rfl
theorem p83_e_3 (a0 : Exp) (a1 : Int) : rE I83 (xBk a0 a1) [] [] = st 3 I83 (S83_3 (W (a1 - 1)) 0 a0) [] := by kernel_rfl
theorem c83_3 {N : Nat} {q0 : Exp → Int → Option (Int)} (g0 : G83 q0) : ∀ n x1 x5 b2 r, xBw N q0 n x1 x5 b2 = some r → RS Tryd.f83 I83 3 (S83_3 x1 x5 b2) (xAD r) := by
 intro n
 induction n with
 | zero => exact fun _ _ _ _ h => nE h
 | succ n ih =>
  exact fun x1 x5 b2 r h =>
   cE h (fun h0 h => cE h (fun h1 h => iE h fun h2 h => bE h fun r1 h3 h => tS fk83 (p83_3_0 x1 x5 b2 r1) (oc h0 (oc h1 (oc h2 (oc (g0 _ _ _ h3) on)))) (ih _ _ _ _ h)) fun h1 h =>
   dS h fk83 (p83_3_1 x1 x5 b2) (oc h0 (oc h1 on))) fun h0 h =>
   dS h fk83 (p83_3_2 x1 x5 b2) (oc h0 (oc rfl on))
theorem c83_e {N : Nat} {q0 : Exp → Int → Option (Int)} (g0 : G83 q0) : ∀ a0 a1 r, xCY N q0 a0 a1 = some r → RE Tryd.f83 I83 (xBk a0 a1) (xAD r) := fun a0 a1 r h =>
 tE fk83 (p83_e_3 a0 a1) on (c83_3 g0 _ _ _ _ _ h)
theorem xD8 {N : Nat} {q0 : Exp → Int → Option (Int)} (g0 : G83 q0) {a0 : Exp} {a1 : Int} {r : Int} (h : xCY N q0 a0 a1 = some r) : AbC 83 (xBk a0 a1) (xAD r) :=
 AbsCalls.of_reach fk83 rfl rfl (Nat.le_of_ble_eq_true rfl) (c83_e g0 a0 a1 r h)
theorem xDl {N : Nat} : ∀ d, G83 (xBS N d)
 | 0 => fun _ _ _ h => nE h
 | d + 1 => fun _ _ _ h => xD8 (N := N) (xDl d) h
theorem xDm {N : Nat} {a0 : Exp} {a1 : Int} {r : Int} (h : xDW N a0 a1 = some r) : AbC 83 (xBk a0 a1) (xAD r) := xDl N _ _ r h
noncomputable def I122 : Info := { body := (Tryd.f122.body).getD .skip, nt := 10, results := [.tmp 4], keep := [0, 2, 8, 14], live := [], modes := [] }
theorem fk122 : FnOk Tryd.prog 122 Tryd.f122 I122 := ⟨Tryd.func122, by kernel_rfl, by kernel_rfl, by kernel_rfl, by kernel_rfl⟩
theorem p122_e_0 (a0 a1 : Int) : rE I122 (xCQ a0 a1) [Y] [] = dn (xCs a0) [(decide ((a0 : Int) > a1)) = true] := by kernel_rfl
theorem p122_e_1 (a0 a1 : Int) : rE I122 (xCQ a0 a1) [F] [] = dn (xCs a1) [(decide ((a0 : Int) > a1)) = false] := by kernel_rfl
theorem c122_e {N : Nat} : ∀ a0 a1 r, xDD N a0 a1 = some r → RE Tryd.f122 I122 (xCQ a0 a1) (xCs r) := fun a0 a1 r h =>
 cE h (fun h0 h => dE h fk122 (p122_e_0 a0 a1) (oc h0 on)) fun h0 h =>
 dE h fk122 (p122_e_1 a0 a1) (oc h0 on)
theorem spec_l1Max_ok {N : Nat} {a0 : Int} {a1 : Int} {r : Int} (h : xDD N  a0 a1 = some r) : AbC 122 (xCQ a0 a1) (xCs r) :=
 AbsCalls.of_reach fk122 rfl rfl (Nat.le_of_ble_eq_true rfl) (c122_e a0 a1 r h)
def G84 (q : Exp → Option (Int)) : Prop := ∀ a0 r, q a0 = some r → AbC 84 (xBf a0) (xAH r)
noncomputable def I84 : Info := { body := (Tryd.f84.body).getD .skip, nt := 22, results := [.tmp 2], keep := [0, 2, 4, 6, 8, 18, 3], live := [(3, [2, 6, 8, 3])], modes := [] }
theorem fk84 : FnOk Tryd.prog 84 Tryd.f84 I84 := ⟨Tryd.func84, by kernel_rfl, by kernel_rfl, by kernel_rfl, by kernel_rfl⟩
def S84_3 (x3 x4 : Int) (b1 : Exp) : St := [(2, .v false [.ptr 1 0]), (6, .v false [.int .i64 x3]), (8, .v false [.int .i64 x4]), (3, .v true [.int .i64 (Exp.kind b1), .int .i64 (Exp.n b1), .str (Exp.text b1), .sl .ro .exp (Exp.args b1)])]
theorem p84_3_0 (x3 x4 : Int) (b1 : Exp) (r1 r2 : Int) : rS 3 I84 (S84_3 x3 x4 b1) [Y] [xAH r1, xCs r2] = st 3 I84 (S84_3 r2 (W (x4 + 1)) b1) [(decide ((x4 : Int) < (Ln (Exp.args b1) : Int))) = true, (0 : Int) ≤ x4 ∧ x4 < (Ln (Exp.args b1)), AbC 84 (xBf (gD (Exp.args b1) (tN x4) Ty.exp.dflt)) (xAH r1), AbC 122 (xCQ x3 r1) (xCs r2)] := by kernel_rfl
theorem p84_3_1 (x3 x4 : Int) (b1 : Exp) : rS 3 I84 (S84_3 x3 x4 b1) [F] [] = dn (xAH (W (x3 + 1))) [(decide ((x4 : Int) < (Ln (Exp.args b1) : Int))) = false] := by kernel_rfl
theorem p84_e_2 (a0 : Exp) : rE I84 (xBf a0) [] [] = st 3 I84 (S84_3 0 0 a0) [] := by kernel_rfl
theorem c84_3 {N : Nat} {q0 : Exp → Option (Int)} (g0 : G84 q0) : ∀ n x3 x4 b1 r, xBH N q0 n x3 x4 b1 = some r → RS Tryd.f84 I84 3 (S84_3 x3 x4 b1) (xAH r) := by
 intro n
 induction n with
 | zero => exact fun _ _ _ _ h => nE h
 | succ n ih =>
  exact fun x3 x4 b1 r h =>
   cE h (fun h0 h => iE h fun h1 h => bE h fun r1 h2 h => bE h fun r2 h3 h => tS fk84 (p84_3_0 x3 x4 b1 r1 r2) (oc h0 (oc h1 (oc (g0 _ _ h2) (oc (spec_l1Max_ok h3) on)))) (ih _ _ _ _ h)) fun h0 h =>
   dS h fk84 (p84_3_1 x3 x4 b1) (oc h0 on)
theorem c84_e {N : Nat} {q0 : Exp → Option (Int)} (g0 : G84 q0) : ∀ a0 r, xCC N q0 a0 = some r → RE Tryd.f84 I84 (xBf a0) (xAH r) := fun a0 r h =>
 tE fk84 (p84_e_2 a0) on (c84_3 g0 _ _ _ _ _ h)
theorem xDO {N : Nat} {q0 : Exp → Option (Int)} (g0 : G84 q0) {a0 : Exp} {r : Int} (h : xCC N q0 a0 = some r) : AbC 84 (xBf a0) (xAH r) :=
 AbsCalls.of_reach fk84 rfl rfl (Nat.le_of_ble_eq_true rfl) (c84_e g0 a0 r h)
theorem xC6 {N : Nat} : ∀ d, G84 (xBW N d)
 | 0 => fun _ _ h => nE h
 | d + 1 => fun _ _ h => xDO (N := N) (xC6 d) h
theorem xDC {N : Nat} {a0 : Exp} {r : Int} (h : xDz N a0 = some r) : AbC 84 (xBf a0) (xAH r) := xC6 N _ r h
noncomputable def I68 : Info := { body := (Tryd.f68.body).getD .skip, nt := 15, results := [.tmp 6], keep := [0, 2, 4, 12], live := [], modes := [(1, [(3, .take, false)])] }
theorem fk68 : FnOk Tryd.prog 68 Tryd.f68 I68 := ⟨Tryd.func68, by kernel_rfl, by kernel_rfl, by kernel_rfl, by kernel_rfl⟩
theorem p68_e_0 (a0 a1 a2 : Int) : rE I68 (xCa a0 a1 a2) [Y] [] = dn (xBq (decide ((a0 : Int) ≤ a2))) [(decide ((a0 : Int) ≥ a1)) = true] := by kernel_rfl
theorem p68_e_1 (a0 a1 a2 : Int) : rE I68 (xCa a0 a1 a2) [F] [] = dn (xBq false) [(decide ((a0 : Int) ≥ a1)) = false] := by kernel_rfl
theorem c68_e {N : Nat} : ∀ a0 a1 a2 r, xDn N a0 a1 a2 = some r → RE Tryd.f68 I68 (xCa a0 a1 a2) (xBq r) := fun a0 a1 a2 r h =>
 cE h (fun h0 h => dE h fk68 (p68_e_0 a0 a1 a2) (oc h0 on)) fun h0 h =>
 dE h fk68 (p68_e_1 a0 a1 a2) (oc h0 on)
theorem xDv {N : Nat} {a0 : Int} {a1 : Int} {a2 : Int} {r : Bool} (h : xDn N  a0 a1 a2 = some r) : AbC 68 (xCa a0 a1 a2) (xBq r) :=
 AbsCalls.of_reach fk68 rfl rfl (Nat.le_of_ble_eq_true rfl) (c68_e a0 a1 a2 r h)
noncomputable def I99 : Info := { body := (Tryd.f99.body).getD .skip, nt := 29, results := [.tmp 2], keep := [0, 4, 6, 14, 50], live := [(2, [0, 6])], modes := [(4, [(4, .take, false), (10, .take, false)])] }
theorem fk99 : FnOk Tryd.prog 99 Tryd.f99 I99 := ⟨Tryd.func99, by kernel_rfl, by kernel_rfl, by kernel_rfl, by kernel_rfl⟩
def S99_2 (x0 : Str) (x3 : Int) : St := [(0, .v false [.str x0]), (6, .v false [.int .i64 x3])]
theorem p99_2_0 (x0 : Str) (x3 : Int) : rS 2 I99 (S99_2 x0 x3) [Y, Y, Y, Y] [] = dn (xAT false) [(decide ((x3 : Int) < (Ln x0 : Int))) = true, (0 : Int) ≤ x3 ∧ x3 < (Ln x0), (decide ((((gD x0 (tN x3) 0).toNat : Int) : Int) < 32)) = true, true = true, true = true] := by kernel_rfl
theorem p99_2_1 (x0 : Str) (x3 : Int) : rS 2 I99 (S99_2 x0 x3) [Y, F, Y, Y] [] = dn (xAT false) [(decide ((x3 : Int) < (Ln x0 : Int))) = true, (0 : Int) ≤ x3 ∧ x3 < (Ln x0), (decide ((((gD x0 (tN x3) 0).toNat : Int) : Int) < 32)) = false, (0 : Int) ≤ x3 ∧ x3 < (Ln x0), (decide ((((gD x0 (tN x3) 0).toNat : Int) : Int) > 126)) = true, true = true] := by kernel_rfl
theorem p99_2_2 (x0 : Str) (x3 : Int) : rS 2 I99 (S99_2 x0 x3) [Y, F, F, Y] [] = dn (xAT false) [(decide ((x3 : Int) < (Ln x0 : Int))) = true, (0 : Int) ≤ x3 ∧ x3 < (Ln x0), (decide ((((gD x0 (tN x3) 0).toNat : Int) : Int) < 32)) = false, (0 : Int) ≤ x3 ∧ x3 < (Ln x0), (decide ((((gD x0 (tN x3) 0).toNat : Int) : Int) > 126)) = false, (0 : Int) ≤ x3 ∧ x3 < (Ln x0), ((((gD x0 (tN x3) 0).toNat : Int) : Int) == 34) = true] := by kernel_rfl
theorem p99_2_3 (x0 : Str) (x3 : Int) : rS 2 I99 (S99_2 x0 x3) [Y, F, F, F] [] = st 2 I99 (S99_2 x0 (W (x3 + 1))) [(decide ((x3 : Int) < (Ln x0 : Int))) = true, (0 : Int) ≤ x3 ∧ x3 < (Ln x0), (decide ((((gD x0 (tN x3) 0).toNat : Int) : Int) < 32)) = false, (0 : Int) ≤ x3 ∧ x3 < (Ln x0), (decide ((((gD x0 (tN x3) 0).toNat : Int) : Int) > 126)) = false, (0 : Int) ≤ x3 ∧ x3 < (Ln x0), ((((gD x0 (tN x3) 0).toNat : Int) : Int) == 34) = false] := by kernel_rfl
theorem p99_2_4 (x0 : Str) (x3 : Int) : rS 2 I99 (S99_2 x0 x3) [F] [] = dn (xAT (decide (((Ln x0 : Int) : Int) ≤ 20))) [(decide ((x3 : Int) < (Ln x0 : Int))) = false] := by kernel_rfl
theorem p99_e_5 (a0 : Str) : rE I99 (xCb a0) [] [] = st 2 I99 (S99_2 a0 0) [] := by kernel_rfl
theorem c99_2 {N : Nat} : ∀ n x0 x3 r, xA6 N n x0 x3 = some r → RS Tryd.f99 I99 2 (S99_2 x0 x3) (xAT r) := by
 intro n
 induction n with
 | zero => exact fun _ _ _ h => nE h
 | succ n ih =>
  exact fun x0 x3 r h =>
   cE h (fun h0 h => iE h fun h1 h => cE h (fun h2 h => dS h fk99 (p99_2_0 x0 x3) (oc h0 (oc h1 (oc h2 (oc rfl (oc rfl on)))))) fun h2 h =>
   cE h (fun h4 h => dS h fk99 (p99_2_1 x0 x3) (oc h0 (oc h1 (oc h2 (oc h1 (oc h4 (oc rfl on))))))) fun h4 h =>
   cE h (fun h6 h => dS h fk99 (p99_2_2 x0 x3) (oc h0 (oc h1 (oc h2 (oc h1 (oc h4 (oc h1 (oc h6 on)))))))) fun h6 h =>
   tS fk99 (p99_2_3 x0 x3) (oc h0 (oc h1 (oc h2 (oc h1 (oc h4 (oc h1 (oc h6 on))))))) (ih _ _ _ h)) fun h0 h =>
   dS h fk99 (p99_2_4 x0 x3) (oc h0 on)
theorem c99_e {N : Nat} : ∀ a0 r, xCx N a0 = some r → RE Tryd.f99 I99 (xCb a0) (xAT r) := fun a0 r h =>
 tE fk99 (p99_e_5 a0) on (c99_2 _ _ _ _ h)
theorem xEr {N : Nat} {a0 : Str} {r : Bool} (h : xCx N  a0 = some r) : AbC 99 (xCb a0) (xAT r) :=
 AbsCalls.of_reach fk99 rfl rfl (Nat.le_of_ble_eq_true rfl) (c99_e a0 r h)
noncomputable def I113 : Info := { body := (Tryd.f113.body).getD .skip, nt := 45, results := [.tmp 2], keep := [0, 4, 6, 8, 10, 18, 82], live := [(2, [0, 6])], modes := [(4, [(4, .take, false)]), (5, [(4, .take, false)]), (6, [(0, .take, false), (2, .take, false), (5, .take, false), (6, .take, false)])] }
theorem xEe : FnOk Tryd.prog 113 Tryd.f113 I113 := ⟨Tryd.func113, by kernel_rfl, by kernel_rfl, by kernel_rfl, by kernel_rfl⟩
def xCF (x0 : Str) (x3 : Int) : St := [(0, .v false [.str x0]), (6, .v false [.int .i64 x3])]
theorem p113_2_0 (x0 : Str) (x3 : Int) : rS 2 I113 (xCF x0 x3) [Y, Y, Y, Y, Y, Y] [] = dn (xAt false) [(decide ((x3 : Int) < (Ln x0 : Int))) = true, (0 : Int) ≤ x3 ∧ x3 < (Ln x0), (decide ((((gD x0 (tN x3) 0).toNat : Int) : Int) ≥ 97)) = true, (0 : Int) ≤ x3 ∧ x3 < (Ln x0), (0 : Int) ≤ x3 ∧ x3 < (Ln x0), (decide ((((gD x0 (tN x3) 0).toNat : Int) : Int) ≥ 48)) = true, (0 : Int) ≤ x3 ∧ x3 < (Ln x0), (!(decide ((((gD x0 (tN x3) 0).toNat : Int) : Int) ≤ 122))) = true, ((x3 : Int) == 0) = true, true = true] := by kernel_rfl
theorem p113_2_1 (x0 : Str) (x3 : Int) : rS 2 I113 (xCF x0 x3) [Y, Y, Y, Y, F, Y] [] = dn (xAt false) [(decide ((x3 : Int) < (Ln x0 : Int))) = true, (0 : Int) ≤ x3 ∧ x3 < (Ln x0), (decide ((((gD x0 (tN x3) 0).toNat : Int) : Int) ≥ 97)) = true, (0 : Int) ≤ x3 ∧ x3 < (Ln x0), (0 : Int) ≤ x3 ∧ x3 < (Ln x0), (decide ((((gD x0 (tN x3) 0).toNat : Int) : Int) ≥ 48)) = true, (0 : Int) ≤ x3 ∧ x3 < (Ln x0), (!(decide ((((gD x0 (tN x3) 0).toNat : Int) : Int) ≤ 122))) = true, ((x3 : Int) == 0) = false, (!(decide ((((gD x0 (tN x3) 0).toNat : Int) : Int) ≤ 57))) = true] := by kernel_rfl
theorem p113_2_2 (x0 : Str) (x3 : Int) : rS 2 I113 (xCF x0 x3) [Y, Y, Y, Y, F, F] [] = st 2 I113 (xCF x0 (W (x3 + 1))) [(decide ((x3 : Int) < (Ln x0 : Int))) = true, (0 : Int) ≤ x3 ∧ x3 < (Ln x0), (decide ((((gD x0 (tN x3) 0).toNat : Int) : Int) ≥ 97)) = true, (0 : Int) ≤ x3 ∧ x3 < (Ln x0), (0 : Int) ≤ x3 ∧ x3 < (Ln x0), (decide ((((gD x0 (tN x3) 0).toNat : Int) : Int) ≥ 48)) = true, (0 : Int) ≤ x3 ∧ x3 < (Ln x0), (!(decide ((((gD x0 (tN x3) 0).toNat : Int) : Int) ≤ 122))) = true, ((x3 : Int) == 0) = false, (!(decide ((((gD x0 (tN x3) 0).toNat : Int) : Int) ≤ 57))) = false] := by kernel_rfl
theorem p113_2_3 (x0 : Str) (x3 : Int) : rS 2 I113 (xCF x0 x3) [Y, Y, Y, F, F] [] = st 2 I113 (xCF x0 (W (x3 + 1))) [(decide ((x3 : Int) < (Ln x0 : Int))) = true, (0 : Int) ≤ x3 ∧ x3 < (Ln x0), (decide ((((gD x0 (tN x3) 0).toNat : Int) : Int) ≥ 97)) = true, (0 : Int) ≤ x3 ∧ x3 < (Ln x0), (0 : Int) ≤ x3 ∧ x3 < (Ln x0), (decide ((((gD x0 (tN x3) 0).toNat : Int) : Int) ≥ 48)) = true, (0 : Int) ≤ x3 ∧ x3 < (Ln x0), (!(decide ((((gD x0 (tN x3) 0).toNat : Int) : Int) ≤ 122))) = false, false = false] := by kernel_rfl
theorem p113_2_4 (x0 : Str) (x3 : Int) : rS 2 I113 (xCF x0 x3) [Y, Y, F, Y, Y, Y] [] = dn (xAt false) [(decide ((x3 : Int) < (Ln x0 : Int))) = true, (0 : Int) ≤ x3 ∧ x3 < (Ln x0), (decide ((((gD x0 (tN x3) 0).toNat : Int) : Int) ≥ 97)) = true, (0 : Int) ≤ x3 ∧ x3 < (Ln x0), (0 : Int) ≤ x3 ∧ x3 < (Ln x0), (decide ((((gD x0 (tN x3) 0).toNat : Int) : Int) ≥ 48)) = false, (!(decide ((((gD x0 (tN x3) 0).toNat : Int) : Int) ≤ 122))) = true, ((x3 : Int) == 0) = true, true = true] := by kernel_rfl
theorem p113_2_5 (x0 : Str) (x3 : Int) : rS 2 I113 (xCF x0 x3) [Y, Y, F, Y, F, Y] [] = dn (xAt false) [(decide ((x3 : Int) < (Ln x0 : Int))) = true, (0 : Int) ≤ x3 ∧ x3 < (Ln x0), (decide ((((gD x0 (tN x3) 0).toNat : Int) : Int) ≥ 97)) = true, (0 : Int) ≤ x3 ∧ x3 < (Ln x0), (0 : Int) ≤ x3 ∧ x3 < (Ln x0), (decide ((((gD x0 (tN x3) 0).toNat : Int) : Int) ≥ 48)) = false, (!(decide ((((gD x0 (tN x3) 0).toNat : Int) : Int) ≤ 122))) = true, ((x3 : Int) == 0) = false, (!false) = true] := by kernel_rfl
theorem p113_2_6 (x0 : Str) (x3 : Int) : rS 2 I113 (xCF x0 x3) [Y, Y, F, F, F] [] = st 2 I113 (xCF x0 (W (x3 + 1))) [(decide ((x3 : Int) < (Ln x0 : Int))) = true, (0 : Int) ≤ x3 ∧ x3 < (Ln x0), (decide ((((gD x0 (tN x3) 0).toNat : Int) : Int) ≥ 97)) = true, (0 : Int) ≤ x3 ∧ x3 < (Ln x0), (0 : Int) ≤ x3 ∧ x3 < (Ln x0), (decide ((((gD x0 (tN x3) 0).toNat : Int) : Int) ≥ 48)) = false, (!(decide ((((gD x0 (tN x3) 0).toNat : Int) : Int) ≤ 122))) = false, false = false] := by kernel_rfl
theorem p113_2_7 (x0 : Str) (x3 : Int) : rS 2 I113 (xCF x0 x3) [Y, F, Y, Y, Y, Y] [] = dn (xAt false) [(decide ((x3 : Int) < (Ln x0 : Int))) = true, (0 : Int) ≤ x3 ∧ x3 < (Ln x0), (decide ((((gD x0 (tN x3) 0).toNat : Int) : Int) ≥ 97)) = false, (0 : Int) ≤ x3 ∧ x3 < (Ln x0), (decide ((((gD x0 (tN x3) 0).toNat : Int) : Int) ≥ 48)) = true, (0 : Int) ≤ x3 ∧ x3 < (Ln x0), (!false) = true, ((x3 : Int) == 0) = true, true = true] := by kernel_rfl
theorem p113_2_8 (x0 : Str) (x3 : Int) : rS 2 I113 (xCF x0 x3) [Y, F, Y, Y, F, Y] [] = dn (xAt false) [(decide ((x3 : Int) < (Ln x0 : Int))) = true, (0 : Int) ≤ x3 ∧ x3 < (Ln x0), (decide ((((gD x0 (tN x3) 0).toNat : Int) : Int) ≥ 97)) = false, (0 : Int) ≤ x3 ∧ x3 < (Ln x0), (decide ((((gD x0 (tN x3) 0).toNat : Int) : Int) ≥ 48)) = true, (0 : Int) ≤ x3 ∧ x3 < (Ln x0), (!false) = true, ((x3 : Int) == 0) = false, (!(decide ((((gD x0 (tN x3) 0).toNat : Int) : Int) ≤ 57))) = true] := by kernel_rfl
theorem p113_2_9 (x0 : Str) (x3 : Int) : rS 2 I113 (xCF x0 x3) [Y, F, Y, Y, F, F] [] = st 2 I113 (xCF x0 (W (x3 + 1))) [(decide ((x3 : Int) < (Ln x0 : Int))) = true, (0 : Int) ≤ x3 ∧ x3 < (Ln x0), (decide ((((gD x0 (tN x3) 0).toNat : Int) : Int) ≥ 97)) = false, (0 : Int) ≤ x3 ∧ x3 < (Ln x0), (decide ((((gD x0 (tN x3) 0).toNat : Int) : Int) ≥ 48)) = true, (0 : Int) ≤ x3 ∧ x3 < (Ln x0), (!false) = true, ((x3 : Int) == 0) = false, (!(decide ((((gD x0 (tN x3) 0).toNat : Int) : Int) ≤ 57))) = false] := by kernel_rfl
theorem p113_2_10 (x0 : Str) (x3 : Int) : rS 2 I113 (xCF x0 x3) [Y, F, F, Y, Y, Y] [] = dn (xAt false) [(decide ((x3 : Int) < (Ln x0 : Int))) = true, (0 : Int) ≤ x3 ∧ x3 < (Ln x0), (decide ((((gD x0 (tN x3) 0).toNat : Int) : Int) ≥ 97)) = false, (0 : Int) ≤ x3 ∧ x3 < (Ln x0), (decide ((((gD x0 (tN x3) 0).toNat : Int) : Int) ≥ 48)) = false, (!false) = true, ((x3 : Int) == 0) = true, true = true] := by kernel_rfl
theorem p113_2_11 (x0 : Str) (x3 : Int) : rS 2 I113 (xCF x0 x3) [Y, F, F, Y, F, Y] [] = dn (xAt false) [(decide ((x3 : Int) < (Ln x0 : Int))) = true, (0 : Int) ≤ x3 ∧ x3 < (Ln x0), (decide ((((gD x0 (tN x3) 0).toNat : Int) : Int) ≥ 97)) = false, (0 : Int) ≤ x3 ∧ x3 < (Ln x0), (decide ((((gD x0 (tN x3) 0).toNat : Int) : Int) ≥ 48)) = false, (!false) = true, ((x3 : Int) == 0) = false, (!false) = true] := by kernel_rfl
theorem p113_2_12 (x0 : Str) (x3 : Int) : rS 2 I113 (xCF x0 x3) [F] [] = dn (xAt (decide (((Ln x0 : Int) : Int) > 0))) [(decide ((x3 : Int) < (Ln x0 : Int))) = false] := by kernel_rfl
theorem p113_e_13 (a0 : Str) : rE I113 (xB9 a0) [] [] = st 2 I113 (xCF a0 0) [] := by kernel_rfl
theorem c113_2 {N : Nat} : ∀ n x0 x3 r, xA9 N n x0 x3 = some r → RS Tryd.f113 I113 2 (xCF x0 x3) (xAt r) := by
 intro n
 induction n with
 | zero => exact fun _ _ _ h => nE h
 | succ n ih =>
  exact fun x0 x3 r h =>
   cE h (fun h0 h => iE h fun h1 h => cE h (fun h2 h => cE h (fun h5 h => cE h (fun h7 h => cE h (fun h8 h => dS h xEe (p113_2_0 x0 x3) (oc h0 (oc h1 (oc h2 (oc h1 (oc h1 (oc h5 (oc h1 (oc h7 (oc h8 (oc rfl on))))))))))) fun h8 h =>
   cE h (fun h9 h => dS h xEe (p113_2_1 x0 x3) (oc h0 (oc h1 (oc h2 (oc h1 (oc h1 (oc h5 (oc h1 (oc h7 (oc h8 (oc h9 on))))))))))) fun h9 h =>
   tS xEe (p113_2_2 x0 x3) (oc h0 (oc h1 (oc h2 (oc h1 (oc h1 (oc h5 (oc h1 (oc h7 (oc h8 (oc h9 on)))))))))) (ih _ _ _ h)) fun h7 h =>
   tS xEe (p113_2_3 x0 x3) (oc h0 (oc h1 (oc h2 (oc h1 (oc h1 (oc h5 (oc h1 (oc h7 (oc rfl on))))))))) (ih _ _ _ h)) fun h5 h =>
   cE h (fun h6 h => cE h (fun h7 h => dS h xEe (p113_2_4 x0 x3) (oc h0 (oc h1 (oc h2 (oc h1 (oc h1 (oc h5 (oc h6 (oc h7 (oc rfl on)))))))))) fun h7 h =>
   dS h xEe (p113_2_5 x0 x3) (oc h0 (oc h1 (oc h2 (oc h1 (oc h1 (oc h5 (oc h6 (oc h7 (oc rfl on)))))))))) fun h6 h =>
   tS xEe (p113_2_6 x0 x3) (oc h0 (oc h1 (oc h2 (oc h1 (oc h1 (oc h5 (oc h6 (oc rfl on)))))))) (ih _ _ _ h)) fun h2 h =>
   cE h (fun h4 h => cE h (fun h7 h => dS h xEe (p113_2_7 x0 x3) (oc h0 (oc h1 (oc h2 (oc h1 (oc h4 (oc h1 (oc rfl (oc h7 (oc rfl on)))))))))) fun h7 h =>
   cE h (fun h8 h => dS h xEe (p113_2_8 x0 x3) (oc h0 (oc h1 (oc h2 (oc h1 (oc h4 (oc h1 (oc rfl (oc h7 (oc h8 on)))))))))) fun h8 h =>
   tS xEe (p113_2_9 x0 x3) (oc h0 (oc h1 (oc h2 (oc h1 (oc h4 (oc h1 (oc rfl (oc h7 (oc h8 on))))))))) (ih _ _ _ h)) fun h4 h =>
   cE h (fun h6 h => dS h xEe (p113_2_10 x0 x3) (oc h0 (oc h1 (oc h2 (oc h1 (oc h4 (oc rfl (oc h6 (oc rfl on))))))))) fun h6 h =>
   dS h xEe (p113_2_11 x0 x3) (oc h0 (oc h1 (oc h2 (oc h1 (oc h4 (oc rfl (oc h6 (oc rfl on))))))))) fun h0 h =>
   dS h xEe (p113_2_12 x0 x3) (oc h0 on)
theorem c113_e {N : Nat} : ∀ a0 r, xDw N a0 = some r → RE Tryd.f113 I113 (xB9 a0) (xAt r) := fun a0 r h =>
 tE xEe (p113_e_13 a0) on (c113_2 _ _ _ _ h)
theorem xDo {N : Nat} {a0 : Str} {r : Bool} (h : xDw N  a0 = some r) : AbC 113 (xB9 a0) (xAt r) :=
 AbsCalls.of_reach xEe rfl rfl (Nat.le_of_ble_eq_true rfl) (c113_e a0 r h)
noncomputable def I134 : Info := { body := (Tryd.f134.body).getD .skip, nt := 2, results := [.tmp 0], keep := [0], live := [], modes := [] }
theorem fk134 : FnOk Tryd.prog 134 Tryd.f134 I134 := ⟨Tryd.func134, by kernel_rfl, by kernel_rfl, by kernel_rfl, by kernel_rfl⟩
theorem p134_e_0 : rE I134 (xCj ) [] [] = dn (xBX [[108, 101, 116], [105, 110], [105, 102], [116, 104, 101, 110], [101, 108, 115, 101], [102, 111, 114], [100, 111], [108, 101, 110], [115, 117, 109], [116, 97, 107, 101], [115, 107, 105, 112], [114, 97, 110, 103, 101], [110, 116, 104], [119, 104, 101, 114, 101], [107, 101, 101, 112], [97, 100, 100], [103, 114, 111, 117, 112], [106, 111, 105, 110], [99, 111, 108, 117, 109, 110], [114, 111, 119, 115], [99, 108, 111, 99, 107], [99, 104, 97, 110, 99, 101], [102, 105, 108, 101], [116, 97, 98, 108, 101]]) [] := by kernel_rfl
theorem c134_e {N : Nat} : ∀ r, xCR N = some r → RE Tryd.f134 I134 (xCj ) (xBX r) := fun r h =>
 dE h fk134 (p134_e_0) on
theorem spec_l2Reserved_ok {N : Nat} {r : (List Str)} (h : xCR N   = some r) : AbC 134 (xCj ) (xBX r) :=
 AbsCalls.of_reach fk134 rfl rfl (Nat.le_of_ble_eq_true rfl) (c134_e  r h)
noncomputable def I81 : Info := { body := (Tryd.f81.body).getD .skip, nt := 18, results := [.tmp 4], keep := [0, 2, 8, 10, 18, 34], live := [(2, [0, 2, 10])], modes := [] }
theorem fk81 : FnOk Tryd.prog 81 Tryd.f81 I81 := ⟨Tryd.func81, by kernel_rfl, by kernel_rfl, by kernel_rfl, by kernel_rfl⟩
def S81_2 (x0 : List Str) (x1 : Str) (x5 : Int) : St := [(0, .v false [.sl .ro .str x0]), (2, .v false [.str x1]), (10, .v false [.int .i64 x5])]
theorem p81_2_0 (x0 : List Str) (x1 : Str) (x5 : Int) : rS 2 I81 (S81_2 x0 x1 x5) [Y, Y] [] = dn (xCd true) [(decide ((x5 : Int) < (Ln x0 : Int))) = true, (0 : Int) ≤ x5 ∧ x5 < (Ln x0), (((gD x0 (tN x5) Ty.str.dflt) : Str) == x1) = true] := by kernel_rfl
theorem p81_2_1 (x0 : List Str) (x1 : Str) (x5 : Int) : rS 2 I81 (S81_2 x0 x1 x5) [Y, F] [] = st 2 I81 (S81_2 x0 x1 (W (x5 + 1))) [(decide ((x5 : Int) < (Ln x0 : Int))) = true, (0 : Int) ≤ x5 ∧ x5 < (Ln x0), (((gD x0 (tN x5) Ty.str.dflt) : Str) == x1) = false] := by kernel_rfl
theorem p81_2_2 (x0 : List Str) (x1 : Str) (x5 : Int) : rS 2 I81 (S81_2 x0 x1 x5) [F] [] = dn (xCd false) [(decide ((x5 : Int) < (Ln x0 : Int))) = false] := by kernel_rfl
theorem p81_e_3 (a0 : List Str) (a1 : Str) : rE I81 (xDb a0 a1) [] [] = st 2 I81 (S81_2 a0 a1 0) [] := by kernel_rfl
theorem c81_2 {N : Nat} : ∀ n x0 x1 x5 r, xCc N n x0 x1 x5 = some r → RS Tryd.f81 I81 2 (S81_2 x0 x1 x5) (xCd r) := by
 intro n
 induction n with
 | zero => exact fun _ _ _ _ h => nE h
 | succ n ih =>
  exact fun x0 x1 x5 r h =>
   cE h (fun h0 h => iE h fun h1 h => cE h (fun h2 h => dS h fk81 (p81_2_0 x0 x1 x5) (oc h0 (oc h1 (oc h2 on)))) fun h2 h =>
   tS fk81 (p81_2_1 x0 x1 x5) (oc h0 (oc h1 (oc h2 on))) (ih _ _ _ _ h)) fun h0 h =>
   dS h fk81 (p81_2_2 x0 x1 x5) (oc h0 on)
theorem c81_e {N : Nat} : ∀ a0 a1 r, xD2 N a0 a1 = some r → RE Tryd.f81 I81 (xDb a0 a1) (xCd r) := fun a0 a1 r h =>
 tE fk81 (p81_e_3 a0 a1) on (c81_2 _ _ _ _ _ h)
theorem spec_l1Has_ok {N : Nat} {a0 : List Str} {a1 : Str} {r : Bool} (h : xD2 N  a0 a1 = some r) : AbC 81 (xDb a0 a1) (xCd r) :=
 AbsCalls.of_reach fk81 rfl rfl (Nat.le_of_ble_eq_true rfl) (c81_e a0 a1 r h)
noncomputable def I114 : Info := { body := (Tryd.f114.body).getD .skip, nt := 6, results := [.tmp 2], keep := [0, 4], live := [], modes := [] }
theorem fk114 : FnOk Tryd.prog 114 Tryd.f114 I114 := ⟨Tryd.func114, by kernel_rfl, by kernel_rfl, by kernel_rfl, by kernel_rfl⟩
theorem p114_e_0 (a0 : Str) (r1 : (List Str)) (r2 : Bool) : rE I114 (xCi a0) [] [xBX r1, xCd r2] = dn (xBV r2) [AbC 134 xCj (xBX r1), AbC 81 (xDb r1 a0) (xCd r2)] := by kernel_rfl
theorem c114_e {N : Nat} : ∀ a0 r, xCn N a0 = some r → RE Tryd.f114 I114 (xCi a0) (xBV r) := fun a0 r h =>
 bE h fun r1 h0 h => bE h fun r2 h1 h => dE h fk114 (p114_e_0 a0 r1 r2) (oc (spec_l2Reserved_ok h0) (oc (spec_l1Has_ok h1) on))
theorem spec_IsReserved_ok {N : Nat} {a0 : Str} {r : Bool} (h : xCn N  a0 = some r) : AbC 114 (xCi a0) (xBV r) :=
 AbsCalls.of_reach fk114 rfl rfl (Nat.le_of_ble_eq_true rfl) (c114_e a0 r h)
noncomputable def I67 : Info := { body := (Tryd.f67.body).getD .skip, nt := 15, results := [.tmp 2], keep := [0, 4], live := [], modes := [(1, [(2, .take, false), (7, .take, false)])] }
theorem fk67 : FnOk Tryd.prog 67 Tryd.f67 I67 := ⟨Tryd.func67, by kernel_rfl, by kernel_rfl, by kernel_rfl, by kernel_rfl⟩
theorem p67_e_0 (a0 : Str) (r1 r2 : Bool) : rE I67 (xA5 a0) [Y, Y] [xAt r1, xBV r2] = dn (xAC (!r2)) [AbC 113 (xB9 a0) (xAt r1), r1 = true, (decide (((Ln a0 : Int) : Int) ≤ 8)) = true, AbC 114 (xCi a0) (xBV r2)] := by kernel_rfl
theorem p67_e_1 (a0 : Str) (r1 : Bool) : rE I67 (xA5 a0) [Y, F] [xAt r1] = dn (xAC false) [AbC 113 (xB9 a0) (xAt r1), r1 = true, (decide (((Ln a0 : Int) : Int) ≤ 8)) = false] := by kernel_rfl
theorem p67_e_2 (a0 : Str) (r1 : Bool) : rE I67 (xA5 a0) [F, F] [xAt r1] = dn (xAC false) [AbC 113 (xB9 a0) (xAt r1), r1 = false, false = false] := by kernel_rfl
theorem c67_e {N : Nat} : ∀ a0 r, xBA N a0 = some r → RE Tryd.f67 I67 (xA5 a0) (xAC r) := fun a0 r h =>
 bE h fun r1 h0 h => cE h (fun h1 h => cE h (fun h2 h => bE h fun r2 h3 h => dE h fk67 (p67_e_0 a0 r1 r2) (oc (xDo h0) (oc h1 (oc h2 (oc (spec_IsReserved_ok h3) on))))) fun h2 h =>
 dE h fk67 (p67_e_1 a0 r1) (oc (xDo h0) (oc h1 (oc h2 on)))) fun h1 h =>
 dE h fk67 (p67_e_2 a0 r1) (oc (xDo h0) (oc h1 (oc rfl on)))
theorem xCB {N : Nat} {a0 : Str} {r : Bool} (h : xBA N  a0 = some r) : AbC 67 (xA5 a0) (xAC r) :=
 AbsCalls.of_reach fk67 rfl rfl (Nat.le_of_ble_eq_true rfl) (c67_e a0 r h)
noncomputable def I141 : Info := { body := (Tryd.f141.body).getD .skip, nt := 26, results := [.tmp 2], keep := [0, 4, 6, 8, 12, 24, 40, 48], live := [], modes := [] }
theorem xDF : FnOk Tryd.prog 141 Tryd.f141 I141 := ⟨Tryd.func141, by kernel_rfl, by kernel_rfl, by kernel_rfl, by kernel_rfl⟩
theorem p141_e_0 (a0 : Str) : rE I141 (xAg a0) [Y] [] = dn (xAe 0) [((a0 : Str) == [99, 108, 111, 99, 107]) = true] := by kernel_rfl
theorem p141_e_1 (a0 : Str) : rE I141 (xAg a0) [F, Y, Y] [] = dn (xAe 1) [((a0 : Str) == [99, 108, 111, 99, 107]) = false, ((a0 : Str) == [108, 101, 110]) = true, ((a0 : Str) == [108, 101, 110]) = true] := by kernel_rfl
theorem p141_e_2 (a0 : Str) : rE I141 (xAg a0) [F, F, Y, Y] [] = dn (xAe 1) [((a0 : Str) == [99, 108, 111, 99, 107]) = false, ((a0 : Str) == [108, 101, 110]) = false, ((a0 : Str) == [115, 117, 109]) = true, ((a0 : Str) == [115, 117, 109]) = true] := by kernel_rfl
theorem p141_e_3 (a0 : Str) : rE I141 (xAg a0) [F, F, F, Y, Y] [] = dn (xAe 1) [((a0 : Str) == [99, 108, 111, 99, 107]) = false, ((a0 : Str) == [108, 101, 110]) = false, ((a0 : Str) == [115, 117, 109]) = false, ((a0 : Str) == [114, 111, 119, 115]) = true, ((a0 : Str) == [114, 111, 119, 115]) = true] := by kernel_rfl
theorem p141_e_4 (a0 : Str) : rE I141 (xAg a0) [F, F, F, F, Y, Y] [] = dn (xAe 1) [((a0 : Str) == [99, 108, 111, 99, 107]) = false, ((a0 : Str) == [108, 101, 110]) = false, ((a0 : Str) == [115, 117, 109]) = false, ((a0 : Str) == [114, 111, 119, 115]) = false, ((a0 : Str) == [99, 104, 97, 110, 99, 101]) = true, ((a0 : Str) == [99, 104, 97, 110, 99, 101]) = true] := by kernel_rfl
theorem p141_e_5 (a0 : Str) : rE I141 (xAg a0) [F, F, F, F, F, Y] [] = dn (xAe 1) [((a0 : Str) == [99, 108, 111, 99, 107]) = false, ((a0 : Str) == [108, 101, 110]) = false, ((a0 : Str) == [115, 117, 109]) = false, ((a0 : Str) == [114, 111, 119, 115]) = false, ((a0 : Str) == [99, 104, 97, 110, 99, 101]) = false, ((a0 : Str) == [102, 105, 108, 101]) = true] := by kernel_rfl
theorem p141_e_6 (a0 : Str) : rE I141 (xAg a0) [F, F, F, F, F, F, Y, Y] [] = dn (xAe 2) [((a0 : Str) == [99, 108, 111, 99, 107]) = false, ((a0 : Str) == [108, 101, 110]) = false, ((a0 : Str) == [115, 117, 109]) = false, ((a0 : Str) == [114, 111, 119, 115]) = false, ((a0 : Str) == [99, 104, 97, 110, 99, 101]) = false, ((a0 : Str) == [102, 105, 108, 101]) = false, ((a0 : Str) == [116, 97, 107, 101]) = true, ((a0 : Str) == [116, 97, 107, 101]) = true] := by kernel_rfl
theorem p141_e_7 (a0 : Str) : rE I141 (xAg a0) [F, F, F, F, F, F, F, Y, Y] [] = dn (xAe 2) [((a0 : Str) == [99, 108, 111, 99, 107]) = false, ((a0 : Str) == [108, 101, 110]) = false, ((a0 : Str) == [115, 117, 109]) = false, ((a0 : Str) == [114, 111, 119, 115]) = false, ((a0 : Str) == [99, 104, 97, 110, 99, 101]) = false, ((a0 : Str) == [102, 105, 108, 101]) = false, ((a0 : Str) == [116, 97, 107, 101]) = false, ((a0 : Str) == [115, 107, 105, 112]) = true, ((a0 : Str) == [115, 107, 105, 112]) = true] := by kernel_rfl
theorem p141_e_8 (a0 : Str) : rE I141 (xAg a0) [F, F, F, F, F, F, F, F, Y, Y] [] = dn (xAe 2) [((a0 : Str) == [99, 108, 111, 99, 107]) = false, ((a0 : Str) == [108, 101, 110]) = false, ((a0 : Str) == [115, 117, 109]) = false, ((a0 : Str) == [114, 111, 119, 115]) = false, ((a0 : Str) == [99, 104, 97, 110, 99, 101]) = false, ((a0 : Str) == [102, 105, 108, 101]) = false, ((a0 : Str) == [116, 97, 107, 101]) = false, ((a0 : Str) == [115, 107, 105, 112]) = false, ((a0 : Str) == [114, 97, 110, 103, 101]) = true, ((a0 : Str) == [114, 97, 110, 103, 101]) = true] := by kernel_rfl
theorem p141_e_9 (a0 : Str) : rE I141 (xAg a0) [F, F, F, F, F, F, F, F, F, Y, Y] [] = dn (xAe 2) [((a0 : Str) == [99, 108, 111, 99, 107]) = false, ((a0 : Str) == [108, 101, 110]) = false, ((a0 : Str) == [115, 117, 109]) = false, ((a0 : Str) == [114, 111, 119, 115]) = false, ((a0 : Str) == [99, 104, 97, 110, 99, 101]) = false, ((a0 : Str) == [102, 105, 108, 101]) = false, ((a0 : Str) == [116, 97, 107, 101]) = false, ((a0 : Str) == [115, 107, 105, 112]) = false, ((a0 : Str) == [114, 97, 110, 103, 101]) = false, ((a0 : Str) == [110, 116, 104]) = true, ((a0 : Str) == [110, 116, 104]) = true] := by kernel_rfl
theorem p141_e_10 (a0 : Str) : rE I141 (xAg a0) [F, F, F, F, F, F, F, F, F, F, Y, Y] [] = dn (xAe 2) [((a0 : Str) == [99, 108, 111, 99, 107]) = false, ((a0 : Str) == [108, 101, 110]) = false, ((a0 : Str) == [115, 117, 109]) = false, ((a0 : Str) == [114, 111, 119, 115]) = false, ((a0 : Str) == [99, 104, 97, 110, 99, 101]) = false, ((a0 : Str) == [102, 105, 108, 101]) = false, ((a0 : Str) == [116, 97, 107, 101]) = false, ((a0 : Str) == [115, 107, 105, 112]) = false, ((a0 : Str) == [114, 97, 110, 103, 101]) = false, ((a0 : Str) == [110, 116, 104]) = false, ((a0 : Str) == [107, 101, 101, 112]) = true, ((a0 : Str) == [107, 101, 101, 112]) = true] := by kernel_rfl
theorem p141_e_11 (a0 : Str) : rE I141 (xAg a0) [F, F, F, F, F, F, F, F, F, F, F, Y, Y] [] = dn (xAe 2) [((a0 : Str) == [99, 108, 111, 99, 107]) = false, ((a0 : Str) == [108, 101, 110]) = false, ((a0 : Str) == [115, 117, 109]) = false, ((a0 : Str) == [114, 111, 119, 115]) = false, ((a0 : Str) == [99, 104, 97, 110, 99, 101]) = false, ((a0 : Str) == [102, 105, 108, 101]) = false, ((a0 : Str) == [116, 97, 107, 101]) = false, ((a0 : Str) == [115, 107, 105, 112]) = false, ((a0 : Str) == [114, 97, 110, 103, 101]) = false, ((a0 : Str) == [110, 116, 104]) = false, ((a0 : Str) == [107, 101, 101, 112]) = false, ((a0 : Str) == [99, 111, 108, 117, 109, 110]) = true, ((a0 : Str) == [99, 111, 108, 117, 109, 110]) = true] := by kernel_rfl
theorem p141_e_12 (a0 : Str) : rE I141 (xAg a0) [F, F, F, F, F, F, F, F, F, F, F, F, Y] [] = dn (xAe 2) [((a0 : Str) == [99, 108, 111, 99, 107]) = false, ((a0 : Str) == [108, 101, 110]) = false, ((a0 : Str) == [115, 117, 109]) = false, ((a0 : Str) == [114, 111, 119, 115]) = false, ((a0 : Str) == [99, 104, 97, 110, 99, 101]) = false, ((a0 : Str) == [102, 105, 108, 101]) = false, ((a0 : Str) == [116, 97, 107, 101]) = false, ((a0 : Str) == [115, 107, 105, 112]) = false, ((a0 : Str) == [114, 97, 110, 103, 101]) = false, ((a0 : Str) == [110, 116, 104]) = false, ((a0 : Str) == [107, 101, 101, 112]) = false, ((a0 : Str) == [99, 111, 108, 117, 109, 110]) = false, ((a0 : Str) == [116, 97, 98, 108, 101]) = true] := by kernel_rfl
theorem p141_e_13 (a0 : Str) : rE I141 (xAg a0) [F, F, F, F, F, F, F, F, F, F, F, F, F, Y, Y] [] = dn (xAe 3) [((a0 : Str) == [99, 108, 111, 99, 107]) = false, ((a0 : Str) == [108, 101, 110]) = false, ((a0 : Str) == [115, 117, 109]) = false, ((a0 : Str) == [114, 111, 119, 115]) = false, ((a0 : Str) == [99, 104, 97, 110, 99, 101]) = false, ((a0 : Str) == [102, 105, 108, 101]) = false, ((a0 : Str) == [116, 97, 107, 101]) = false, ((a0 : Str) == [115, 107, 105, 112]) = false, ((a0 : Str) == [114, 97, 110, 103, 101]) = false, ((a0 : Str) == [110, 116, 104]) = false, ((a0 : Str) == [107, 101, 101, 112]) = false, ((a0 : Str) == [99, 111, 108, 117, 109, 110]) = false, ((a0 : Str) == [116, 97, 98, 108, 101]) = false, ((a0 : Str) == [119, 104, 101, 114, 101]) = true, ((a0 : Str) == [119, 104, 101, 114, 101]) = true] := by kernel_rfl
theorem p141_e_14 (a0 : Str) : rE I141 (xAg a0) [F, F, F, F, F, F, F, F, F, F, F, F, F, F, Y, Y] [] = dn (xAe 3) [((a0 : Str) == [99, 108, 111, 99, 107]) = false, ((a0 : Str) == [108, 101, 110]) = false, ((a0 : Str) == [115, 117, 109]) = false, ((a0 : Str) == [114, 111, 119, 115]) = false, ((a0 : Str) == [99, 104, 97, 110, 99, 101]) = false, ((a0 : Str) == [102, 105, 108, 101]) = false, ((a0 : Str) == [116, 97, 107, 101]) = false, ((a0 : Str) == [115, 107, 105, 112]) = false, ((a0 : Str) == [114, 97, 110, 103, 101]) = false, ((a0 : Str) == [110, 116, 104]) = false, ((a0 : Str) == [107, 101, 101, 112]) = false, ((a0 : Str) == [99, 111, 108, 117, 109, 110]) = false, ((a0 : Str) == [116, 97, 98, 108, 101]) = false, ((a0 : Str) == [119, 104, 101, 114, 101]) = false, ((a0 : Str) == [103, 114, 111, 117, 112]) = true, ((a0 : Str) == [103, 114, 111, 117, 112]) = true] := by kernel_rfl
theorem p141_e_15 (a0 : Str) : rE I141 (xAg a0) [F, F, F, F, F, F, F, F, F, F, F, F, F, F, F, Y] [] = dn (xAe 3) [((a0 : Str) == [99, 108, 111, 99, 107]) = false, ((a0 : Str) == [108, 101, 110]) = false, ((a0 : Str) == [115, 117, 109]) = false, ((a0 : Str) == [114, 111, 119, 115]) = false, ((a0 : Str) == [99, 104, 97, 110, 99, 101]) = false, ((a0 : Str) == [102, 105, 108, 101]) = false, ((a0 : Str) == [116, 97, 107, 101]) = false, ((a0 : Str) == [115, 107, 105, 112]) = false, ((a0 : Str) == [114, 97, 110, 103, 101]) = false, ((a0 : Str) == [110, 116, 104]) = false, ((a0 : Str) == [107, 101, 101, 112]) = false, ((a0 : Str) == [99, 111, 108, 117, 109, 110]) = false, ((a0 : Str) == [116, 97, 98, 108, 101]) = false, ((a0 : Str) == [119, 104, 101, 114, 101]) = false, ((a0 : Str) == [103, 114, 111, 117, 112]) = false, ((a0 : Str) == [106, 111, 105, 110]) = true] := by kernel_rfl
theorem p141_e_16 (a0 : Str) : rE I141 (xAg a0) [F, F, F, F, F, F, F, F, F, F, F, F, F, F, F, F, Y] [] = dn (xAe 4) [((a0 : Str) == [99, 108, 111, 99, 107]) = false, ((a0 : Str) == [108, 101, 110]) = false, ((a0 : Str) == [115, 117, 109]) = false, ((a0 : Str) == [114, 111, 119, 115]) = false, ((a0 : Str) == [99, 104, 97, 110, 99, 101]) = false, ((a0 : Str) == [102, 105, 108, 101]) = false, ((a0 : Str) == [116, 97, 107, 101]) = false, ((a0 : Str) == [115, 107, 105, 112]) = false, ((a0 : Str) == [114, 97, 110, 103, 101]) = false, ((a0 : Str) == [110, 116, 104]) = false, ((a0 : Str) == [107, 101, 101, 112]) = false, ((a0 : Str) == [99, 111, 108, 117, 109, 110]) = false, ((a0 : Str) == [116, 97, 98, 108, 101]) = false, ((a0 : Str) == [119, 104, 101, 114, 101]) = false, ((a0 : Str) == [103, 114, 111, 117, 112]) = false, ((a0 : Str) == [106, 111, 105, 110]) = false, ((a0 : Str) == [97, 100, 100]) = true] := by kernel_rfl
theorem p141_e_17 (a0 : Str) : rE I141 (xAg a0) [F, F, F, F, F, F, F, F, F, F, F, F, F, F, F, F, F] [] = dn (xAe (-1)) [((a0 : Str) == [99, 108, 111, 99, 107]) = false, ((a0 : Str) == [108, 101, 110]) = false, ((a0 : Str) == [115, 117, 109]) = false, ((a0 : Str) == [114, 111, 119, 115]) = false, ((a0 : Str) == [99, 104, 97, 110, 99, 101]) = false, ((a0 : Str) == [102, 105, 108, 101]) = false, ((a0 : Str) == [116, 97, 107, 101]) = false, ((a0 : Str) == [115, 107, 105, 112]) = false, ((a0 : Str) == [114, 97, 110, 103, 101]) = false, ((a0 : Str) == [110, 116, 104]) = false, ((a0 : Str) == [107, 101, 101, 112]) = false, ((a0 : Str) == [99, 111, 108, 117, 109, 110]) = false, ((a0 : Str) == [116, 97, 98, 108, 101]) = false, ((a0 : Str) == [119, 104, 101, 114, 101]) = false, ((a0 : Str) == [103, 114, 111, 117, 112]) = false, ((a0 : Str) == [106, 111, 105, 110]) = false, ((a0 : Str) == [97, 100, 100]) = false] := by kernel_rfl
theorem c141_e {N : Nat} : ∀ a0 r, xA1 N a0 = some r → RE Tryd.f141 I141 (xAg a0) (xAe r) := fun a0 r h =>
 cE h (fun h0 h => dE h xDF (p141_e_0 a0) (oc h0 on)) fun h0 h =>
 cE h (fun h1 h => dE h xDF (p141_e_1 a0) (oc h0 (oc h1 (oc h1 on)))) fun h1 h =>
 cE h (fun h2 h => dE h xDF (p141_e_2 a0) (oc h0 (oc h1 (oc h2 (oc h2 on))))) fun h2 h =>
 cE h (fun h3 h => dE h xDF (p141_e_3 a0) (oc h0 (oc h1 (oc h2 (oc h3 (oc h3 on)))))) fun h3 h =>
 cE h (fun h4 h => dE h xDF (p141_e_4 a0) (oc h0 (oc h1 (oc h2 (oc h3 (oc h4 (oc h4 on))))))) fun h4 h =>
 cE h (fun h5 h => dE h xDF (p141_e_5 a0) (oc h0 (oc h1 (oc h2 (oc h3 (oc h4 (oc h5 on))))))) fun h5 h =>
 cE h (fun h6 h => dE h xDF (p141_e_6 a0) (oc h0 (oc h1 (oc h2 (oc h3 (oc h4 (oc h5 (oc h6 (oc h6 on))))))))) fun h6 h =>
 cE h (fun h7 h => dE h xDF (p141_e_7 a0) (oc h0 (oc h1 (oc h2 (oc h3 (oc h4 (oc h5 (oc h6 (oc h7 (oc h7 on)))))))))) fun h7 h =>
 cE h (fun h8 h => dE h xDF (p141_e_8 a0) (oc h0 (oc h1 (oc h2 (oc h3 (oc h4 (oc h5 (oc h6 (oc h7 (oc h8 (oc h8 on))))))))))) fun h8 h =>
 cE h (fun h9 h => dE h xDF (p141_e_9 a0) (oc h0 (oc h1 (oc h2 (oc h3 (oc h4 (oc h5 (oc h6 (oc h7 (oc h8 (oc h9 (oc h9 on)))))))))))) fun h9 h =>
 cE h (fun h10 h => dE h xDF (p141_e_10 a0) (oc h0 (oc h1 (oc h2 (oc h3 (oc h4 (oc h5 (oc h6 (oc h7 (oc h8 (oc h9 (oc h10 (oc h10 on))))))))))))) fun h10 h =>
 cE h (fun h11 h => dE h xDF (p141_e_11 a0) (oc h0 (oc h1 (oc h2 (oc h3 (oc h4 (oc h5 (oc h6 (oc h7 (oc h8 (oc h9 (oc h10 (oc h11 (oc h11 on)))))))))))))) fun h11 h =>
 cE h (fun h12 h => dE h xDF (p141_e_12 a0) (oc h0 (oc h1 (oc h2 (oc h3 (oc h4 (oc h5 (oc h6 (oc h7 (oc h8 (oc h9 (oc h10 (oc h11 (oc h12 on)))))))))))))) fun h12 h =>
 cE h (fun h13 h => dE h xDF (p141_e_13 a0) (oc h0 (oc h1 (oc h2 (oc h3 (oc h4 (oc h5 (oc h6 (oc h7 (oc h8 (oc h9 (oc h10 (oc h11 (oc h12 (oc h13 (oc h13 on)))))))))))))))) fun h13 h =>
 cE h (fun h14 h => dE h xDF (p141_e_14 a0) (oc h0 (oc h1 (oc h2 (oc h3 (oc h4 (oc h5 (oc h6 (oc h7 (oc h8 (oc h9 (oc h10 (oc h11 (oc h12 (oc h13 (oc h14 (oc h14 on))))))))))))))))) fun h14 h =>
 cE h (fun h15 h => dE h xDF (p141_e_15 a0) (oc h0 (oc h1 (oc h2 (oc h3 (oc h4 (oc h5 (oc h6 (oc h7 (oc h8 (oc h9 (oc h10 (oc h11 (oc h12 (oc h13 (oc h14 (oc h15 on))))))))))))))))) fun h15 h =>
 cE h (fun h16 h => dE h xDF (p141_e_16 a0) (oc h0 (oc h1 (oc h2 (oc h3 (oc h4 (oc h5 (oc h6 (oc h7 (oc h8 (oc h9 (oc h10 (oc h11 (oc h12 (oc h13 (oc h14 (oc h15 (oc h16 on)))))))))))))))))) fun h16 h =>
 dE h xDF (p141_e_17 a0) (oc h0 (oc h1 (oc h2 (oc h3 (oc h4 (oc h5 (oc h6 (oc h7 (oc h8 (oc h9 (oc h10 (oc h11 (oc h12 (oc h13 (oc h14 (oc h15 (oc h16 on)))))))))))))))))
theorem xDU {N : Nat} {a0 : Str} {r : Int} (h : xA1 N  a0 = some r) : AbC 141 (xAg a0) (xAe r) :=
 AbsCalls.of_reach xDF rfl rfl (Nat.le_of_ble_eq_true rfl) (c141_e a0 r h)
noncomputable def I123 : Info := { body := (Tryd.f123.body).getD .skip, nt := 120, results := [.tmp 2], keep := [0, 2, 4, 6, 16, 18, 46, 74, 102, 130, 154, 182, 212, 3], live := [], modes := [(4, [(2, .take, false), (7, .take, false)]), (6, [(2, .take, false), (7, .take, false)]), (8, [(2, .take, false), (7, .take, false)]), (10, [(3, .take, false), (8, .take, false)]), (12, [(3, .take, false)]), (14, [(3, .take, false), (7, .take, false)]), (17, [(3, .take, false), (7, .take, false)]), (19, [(3, .take, false), (8, .take, false)])] }
theorem xCT : FnOk Tryd.prog 123 Tryd.f123 I123 := ⟨Tryd.func123, by kernel_rfl, by kernel_rfl, by kernel_rfl, by kernel_rfl⟩
theorem p123_e_0 (a0 : Exp) (r1 : Bool) : rE I123 (xAj a0) [Y, Y, Y] [xBq r1] = dn (xAi r1) [(((Exp.kind a0) : Int) == 1) = true, (((Ln (Exp.args a0) : Int) : Int) == 0) = true, (((Exp.text a0) : Str) == []) = true, AbC 68 (xCa (Exp.n a0) 0 1000000000) (xBq r1)] := by kernel_rfl
theorem p123_e_1 (a0 : Exp) : rE I123 (xAj a0) [Y, Y, F] [] = dn (xAi false) [(((Exp.kind a0) : Int) == 1) = true, (((Ln (Exp.args a0) : Int) : Int) == 0) = true, (((Exp.text a0) : Str) == []) = false] := by kernel_rfl
theorem p123_e_2 (a0 : Exp) : rE I123 (xAj a0) [Y, F, F] [] = dn (xAi false) [(((Exp.kind a0) : Int) == 1) = true, (((Ln (Exp.args a0) : Int) : Int) == 0) = false, false = false] := by kernel_rfl
theorem p123_e_3 (a0 : Exp) (r1 : Bool) : rE I123 (xAj a0) [F, Y, Y, Y] [xAT r1] = dn (xAi r1) [(((Exp.kind a0) : Int) == 1) = false, (((Exp.kind a0) : Int) == 2) = true, (((Ln (Exp.args a0) : Int) : Int) == 0) = true, (((Exp.n a0) : Int) == 0) = true, AbC 99 (xCb (Exp.text a0)) (xAT r1)] := by kernel_rfl
theorem p123_e_4 (a0 : Exp) : rE I123 (xAj a0) [F, Y, Y, F] [] = dn (xAi false) [(((Exp.kind a0) : Int) == 1) = false, (((Exp.kind a0) : Int) == 2) = true, (((Ln (Exp.args a0) : Int) : Int) == 0) = true, (((Exp.n a0) : Int) == 0) = false] := by kernel_rfl
theorem p123_e_5 (a0 : Exp) : rE I123 (xAj a0) [F, Y, F, F] [] = dn (xAi false) [(((Exp.kind a0) : Int) == 1) = false, (((Exp.kind a0) : Int) == 2) = true, (((Ln (Exp.args a0) : Int) : Int) == 0) = false, false = false] := by kernel_rfl
theorem p123_e_6 (a0 : Exp) (r1 : Bool) : rE I123 (xAj a0) [F, F, Y, Y, Y] [xAC r1] = dn (xAi r1) [(((Exp.kind a0) : Int) == 1) = false, (((Exp.kind a0) : Int) == 2) = false, (((Exp.kind a0) : Int) == 3) = true, (((Ln (Exp.args a0) : Int) : Int) == 0) = true, (((Exp.n a0) : Int) == 0) = true, AbC 67 (xA5 (Exp.text a0)) (xAC r1)] := by kernel_rfl
theorem p123_e_7 (a0 : Exp) : rE I123 (xAj a0) [F, F, Y, Y, F] [] = dn (xAi false) [(((Exp.kind a0) : Int) == 1) = false, (((Exp.kind a0) : Int) == 2) = false, (((Exp.kind a0) : Int) == 3) = true, (((Ln (Exp.args a0) : Int) : Int) == 0) = true, (((Exp.n a0) : Int) == 0) = false] := by kernel_rfl
theorem p123_e_8 (a0 : Exp) : rE I123 (xAj a0) [F, F, Y, F, F] [] = dn (xAi false) [(((Exp.kind a0) : Int) == 1) = false, (((Exp.kind a0) : Int) == 2) = false, (((Exp.kind a0) : Int) == 3) = true, (((Ln (Exp.args a0) : Int) : Int) == 0) = false, false = false] := by kernel_rfl
theorem p123_e_9 (a0 : Exp) : rE I123 (xAj a0) [F, F, F, Y, Y, Y] [] = dn (xAi (decide (((Ln (Exp.args a0) : Int) : Int) ≤ 8))) [(((Exp.kind a0) : Int) == 1) = false, (((Exp.kind a0) : Int) == 2) = false, (((Exp.kind a0) : Int) == 3) = false, (((Exp.kind a0) : Int) == 4) = true, (((Exp.n a0) : Int) == 0) = true, (((Exp.text a0) : Str) == []) = true] := by kernel_rfl
theorem p123_e_10 (a0 : Exp) : rE I123 (xAj a0) [F, F, F, Y, Y, F] [] = dn (xAi false) [(((Exp.kind a0) : Int) == 1) = false, (((Exp.kind a0) : Int) == 2) = false, (((Exp.kind a0) : Int) == 3) = false, (((Exp.kind a0) : Int) == 4) = true, (((Exp.n a0) : Int) == 0) = true, (((Exp.text a0) : Str) == []) = false] := by kernel_rfl
theorem p123_e_11 (a0 : Exp) : rE I123 (xAj a0) [F, F, F, Y, F, F] [] = dn (xAi false) [(((Exp.kind a0) : Int) == 1) = false, (((Exp.kind a0) : Int) == 2) = false, (((Exp.kind a0) : Int) == 3) = false, (((Exp.kind a0) : Int) == 4) = true, (((Exp.n a0) : Int) == 0) = false, false = false] := by kernel_rfl
theorem p123_e_12 (a0 : Exp) (r1 : Int) : rE I123 (xAj a0) [F, F, F, F, Y, Y] [xAe r1] = dn (xAi (((Ln (Exp.args a0) : Int) : Int) == r1)) [(((Exp.kind a0) : Int) == 1) = false, (((Exp.kind a0) : Int) == 2) = false, (((Exp.kind a0) : Int) == 3) = false, (((Exp.kind a0) : Int) == 4) = false, (((Exp.kind a0) : Int) == 5) = true, (((Exp.n a0) : Int) == 0) = true, AbC 141 (xAg (Exp.text a0)) (xAe r1)] := by kernel_rfl
theorem p123_e_13 (a0 : Exp) : rE I123 (xAj a0) [F, F, F, F, Y, F] [] = dn (xAi false) [(((Exp.kind a0) : Int) == 1) = false, (((Exp.kind a0) : Int) == 2) = false, (((Exp.kind a0) : Int) == 3) = false, (((Exp.kind a0) : Int) == 4) = false, (((Exp.kind a0) : Int) == 5) = true, (((Exp.n a0) : Int) == 0) = false] := by kernel_rfl
theorem p123_e_14 (a0 : Exp) (r1 : Bool) : rE I123 (xAj a0) [F, F, F, F, F, Y, Y, Y] [xBq r1] = dn (xAi r1) [(((Exp.kind a0) : Int) == 1) = false, (((Exp.kind a0) : Int) == 2) = false, (((Exp.kind a0) : Int) == 3) = false, (((Exp.kind a0) : Int) == 4) = false, (((Exp.kind a0) : Int) == 5) = false, (((Exp.kind a0) : Int) == 6) = true, (((Exp.text a0) : Str) == []) = true, (((Ln (Exp.args a0) : Int) : Int) == 2) = true, AbC 68 (xCa (Exp.n a0) 1 5) (xBq r1)] := by kernel_rfl
theorem p123_e_15 (a0 : Exp) : rE I123 (xAj a0) [F, F, F, F, F, Y, Y, F] [] = dn (xAi false) [(((Exp.kind a0) : Int) == 1) = false, (((Exp.kind a0) : Int) == 2) = false, (((Exp.kind a0) : Int) == 3) = false, (((Exp.kind a0) : Int) == 4) = false, (((Exp.kind a0) : Int) == 5) = false, (((Exp.kind a0) : Int) == 6) = true, (((Exp.text a0) : Str) == []) = true, (((Ln (Exp.args a0) : Int) : Int) == 2) = false] := by kernel_rfl
theorem p123_e_16 (a0 : Exp) : rE I123 (xAj a0) [F, F, F, F, F, Y, F, F] [] = dn (xAi false) [(((Exp.kind a0) : Int) == 1) = false, (((Exp.kind a0) : Int) == 2) = false, (((Exp.kind a0) : Int) == 3) = false, (((Exp.kind a0) : Int) == 4) = false, (((Exp.kind a0) : Int) == 5) = false, (((Exp.kind a0) : Int) == 6) = true, (((Exp.text a0) : Str) == []) = false, false = false] := by kernel_rfl
theorem p123_e_17 (a0 : Exp) (r1 : Bool) : rE I123 (xAj a0) [F, F, F, F, F, F, Y, Y, Y, Y] [xAC r1] = dn (xAi r1) [(((Exp.kind a0) : Int) == 1) = false, (((Exp.kind a0) : Int) == 2) = false, (((Exp.kind a0) : Int) == 3) = false, (((Exp.kind a0) : Int) == 4) = false, (((Exp.kind a0) : Int) == 5) = false, (((Exp.kind a0) : Int) == 6) = false, (((Exp.kind a0) : Int) == 7) = true, (((Exp.kind a0) : Int) == 7) = true, (((Exp.n a0) : Int) == 0) = true, (((Ln (Exp.args a0) : Int) : Int) == 2) = true, AbC 67 (xA5 (Exp.text a0)) (xAC r1)] := by kernel_rfl
theorem p123_e_18 (a0 : Exp) : rE I123 (xAj a0) [F, F, F, F, F, F, Y, Y, Y, F] [] = dn (xAi false) [(((Exp.kind a0) : Int) == 1) = false, (((Exp.kind a0) : Int) == 2) = false, (((Exp.kind a0) : Int) == 3) = false, (((Exp.kind a0) : Int) == 4) = false, (((Exp.kind a0) : Int) == 5) = false, (((Exp.kind a0) : Int) == 6) = false, (((Exp.kind a0) : Int) == 7) = true, (((Exp.kind a0) : Int) == 7) = true, (((Exp.n a0) : Int) == 0) = true, (((Ln (Exp.args a0) : Int) : Int) == 2) = false] := by kernel_rfl
theorem p123_e_19 (a0 : Exp) : rE I123 (xAj a0) [F, F, F, F, F, F, Y, Y, F, F] [] = dn (xAi false) [(((Exp.kind a0) : Int) == 1) = false, (((Exp.kind a0) : Int) == 2) = false, (((Exp.kind a0) : Int) == 3) = false, (((Exp.kind a0) : Int) == 4) = false, (((Exp.kind a0) : Int) == 5) = false, (((Exp.kind a0) : Int) == 6) = false, (((Exp.kind a0) : Int) == 7) = true, (((Exp.kind a0) : Int) == 7) = true, (((Exp.n a0) : Int) == 0) = false, false = false] := by kernel_rfl
theorem p123_e_20 (a0 : Exp) (r1 : Bool) : rE I123 (xAj a0) [F, F, F, F, F, F, F, Y, Y, Y] [xAC r1] = dn (xAi r1) [(((Exp.kind a0) : Int) == 1) = false, (((Exp.kind a0) : Int) == 2) = false, (((Exp.kind a0) : Int) == 3) = false, (((Exp.kind a0) : Int) == 4) = false, (((Exp.kind a0) : Int) == 5) = false, (((Exp.kind a0) : Int) == 6) = false, (((Exp.kind a0) : Int) == 7) = false, (((Exp.kind a0) : Int) == 9) = true, (((Exp.n a0) : Int) == 0) = true, (((Ln (Exp.args a0) : Int) : Int) == 2) = true, AbC 67 (xA5 (Exp.text a0)) (xAC r1)] := by kernel_rfl
theorem p123_e_21 (a0 : Exp) : rE I123 (xAj a0) [F, F, F, F, F, F, F, Y, Y, F] [] = dn (xAi false) [(((Exp.kind a0) : Int) == 1) = false, (((Exp.kind a0) : Int) == 2) = false, (((Exp.kind a0) : Int) == 3) = false, (((Exp.kind a0) : Int) == 4) = false, (((Exp.kind a0) : Int) == 5) = false, (((Exp.kind a0) : Int) == 6) = false, (((Exp.kind a0) : Int) == 7) = false, (((Exp.kind a0) : Int) == 9) = true, (((Exp.n a0) : Int) == 0) = true, (((Ln (Exp.args a0) : Int) : Int) == 2) = false] := by kernel_rfl
theorem p123_e_22 (a0 : Exp) : rE I123 (xAj a0) [F, F, F, F, F, F, F, Y, F, F] [] = dn (xAi false) [(((Exp.kind a0) : Int) == 1) = false, (((Exp.kind a0) : Int) == 2) = false, (((Exp.kind a0) : Int) == 3) = false, (((Exp.kind a0) : Int) == 4) = false, (((Exp.kind a0) : Int) == 5) = false, (((Exp.kind a0) : Int) == 6) = false, (((Exp.kind a0) : Int) == 7) = false, (((Exp.kind a0) : Int) == 9) = true, (((Exp.n a0) : Int) == 0) = false, false = false] := by kernel_rfl
theorem p123_e_23 (a0 : Exp) : rE I123 (xAj a0) [F, F, F, F, F, F, F, F, Y, Y, Y] [] = dn (xAi (((Ln (Exp.args a0) : Int) : Int) == 3)) [(((Exp.kind a0) : Int) == 1) = false, (((Exp.kind a0) : Int) == 2) = false, (((Exp.kind a0) : Int) == 3) = false, (((Exp.kind a0) : Int) == 4) = false, (((Exp.kind a0) : Int) == 5) = false, (((Exp.kind a0) : Int) == 6) = false, (((Exp.kind a0) : Int) == 7) = false, (((Exp.kind a0) : Int) == 9) = false, (((Exp.kind a0) : Int) == 8) = true, (((Exp.n a0) : Int) == 0) = true, (((Exp.text a0) : Str) == []) = true] := by kernel_rfl
theorem p123_e_24 (a0 : Exp) : rE I123 (xAj a0) [F, F, F, F, F, F, F, F, Y, Y, F] [] = dn (xAi false) [(((Exp.kind a0) : Int) == 1) = false, (((Exp.kind a0) : Int) == 2) = false, (((Exp.kind a0) : Int) == 3) = false, (((Exp.kind a0) : Int) == 4) = false, (((Exp.kind a0) : Int) == 5) = false, (((Exp.kind a0) : Int) == 6) = false, (((Exp.kind a0) : Int) == 7) = false, (((Exp.kind a0) : Int) == 9) = false, (((Exp.kind a0) : Int) == 8) = true, (((Exp.n a0) : Int) == 0) = true, (((Exp.text a0) : Str) == []) = false] := by kernel_rfl
theorem p123_e_25 (a0 : Exp) : rE I123 (xAj a0) [F, F, F, F, F, F, F, F, Y, F, F] [] = dn (xAi false) [(((Exp.kind a0) : Int) == 1) = false, (((Exp.kind a0) : Int) == 2) = false, (((Exp.kind a0) : Int) == 3) = false, (((Exp.kind a0) : Int) == 4) = false, (((Exp.kind a0) : Int) == 5) = false, (((Exp.kind a0) : Int) == 6) = false, (((Exp.kind a0) : Int) == 7) = false, (((Exp.kind a0) : Int) == 9) = false, (((Exp.kind a0) : Int) == 8) = true, (((Exp.n a0) : Int) == 0) = false, false = false] := by kernel_rfl
theorem p123_e_26 (a0 : Exp) : rE I123 (xAj a0) [F, F, F, F, F, F, F, F, F] [] = dn (xAi false) [(((Exp.kind a0) : Int) == 1) = false, (((Exp.kind a0) : Int) == 2) = false, (((Exp.kind a0) : Int) == 3) = false, (((Exp.kind a0) : Int) == 4) = false, (((Exp.kind a0) : Int) == 5) = false, (((Exp.kind a0) : Int) == 6) = false, (((Exp.kind a0) : Int) == 7) = false, (((Exp.kind a0) : Int) == 9) = false, (((Exp.kind a0) : Int) == 8) = false] := by kernel_rfl
theorem c123_e {N : Nat} : ∀ a0 r, xC7 N a0 = some r → RE Tryd.f123 I123 (xAj a0) (xAi r) := fun a0 r h =>
 cE h (fun h0 h => cE h (fun h1 h => cE h (fun h2 h => bE h fun r1 h3 h => dE h xCT (p123_e_0 a0 r1) (oc h0 (oc h1 (oc h2 (oc (xDv h3) on))))) fun h2 h =>
 dE h xCT (p123_e_1 a0) (oc h0 (oc h1 (oc h2 on)))) fun h1 h =>
 dE h xCT (p123_e_2 a0) (oc h0 (oc h1 (oc rfl on)))) fun h0 h =>
 cE h (fun h1 h => cE h (fun h2 h => cE h (fun h3 h => bE h fun r1 h4 h => dE h xCT (p123_e_3 a0 r1) (oc h0 (oc h1 (oc h2 (oc h3 (oc (xEr h4) on)))))) fun h3 h =>
 dE h xCT (p123_e_4 a0) (oc h0 (oc h1 (oc h2 (oc h3 on))))) fun h2 h =>
 dE h xCT (p123_e_5 a0) (oc h0 (oc h1 (oc h2 (oc rfl on))))) fun h1 h =>
 cE h (fun h2 h => cE h (fun h3 h => cE h (fun h4 h => bE h fun r1 h5 h => dE h xCT (p123_e_6 a0 r1) (oc h0 (oc h1 (oc h2 (oc h3 (oc h4 (oc (xCB h5) on))))))) fun h4 h =>
 dE h xCT (p123_e_7 a0) (oc h0 (oc h1 (oc h2 (oc h3 (oc h4 on)))))) fun h3 h =>
 dE h xCT (p123_e_8 a0) (oc h0 (oc h1 (oc h2 (oc h3 (oc rfl on)))))) fun h2 h =>
 cE h (fun h3 h => cE h (fun h4 h => cE h (fun h5 h => dE h xCT (p123_e_9 a0) (oc h0 (oc h1 (oc h2 (oc h3 (oc h4 (oc h5 on))))))) fun h5 h =>
 dE h xCT (p123_e_10 a0) (oc h0 (oc h1 (oc h2 (oc h3 (oc h4 (oc h5 on))))))) fun h4 h =>
 dE h xCT (p123_e_11 a0) (oc h0 (oc h1 (oc h2 (oc h3 (oc h4 (oc rfl on))))))) fun h3 h =>
 cE h (fun h4 h => cE h (fun h5 h => bE h fun r1 h6 h => dE h xCT (p123_e_12 a0 r1) (oc h0 (oc h1 (oc h2 (oc h3 (oc h4 (oc h5 (oc (xDU h6) on)))))))) fun h5 h =>
 dE h xCT (p123_e_13 a0) (oc h0 (oc h1 (oc h2 (oc h3 (oc h4 (oc h5 on))))))) fun h4 h =>
 cE h (fun h5 h => cE h (fun h6 h => cE h (fun h7 h => bE h fun r1 h8 h => dE h xCT (p123_e_14 a0 r1) (oc h0 (oc h1 (oc h2 (oc h3 (oc h4 (oc h5 (oc h6 (oc h7 (oc (xDv h8) on)))))))))) fun h7 h =>
 dE h xCT (p123_e_15 a0) (oc h0 (oc h1 (oc h2 (oc h3 (oc h4 (oc h5 (oc h6 (oc h7 on))))))))) fun h6 h =>
 dE h xCT (p123_e_16 a0) (oc h0 (oc h1 (oc h2 (oc h3 (oc h4 (oc h5 (oc h6 (oc rfl on))))))))) fun h5 h =>
 cE h (fun h6 h => cE h (fun h8 h => cE h (fun h9 h => bE h fun r1 h10 h => dE h xCT (p123_e_17 a0 r1) (oc h0 (oc h1 (oc h2 (oc h3 (oc h4 (oc h5 (oc h6 (oc h6 (oc h8 (oc h9 (oc (xCB h10) on)))))))))))) fun h9 h =>
 dE h xCT (p123_e_18 a0) (oc h0 (oc h1 (oc h2 (oc h3 (oc h4 (oc h5 (oc h6 (oc h6 (oc h8 (oc h9 on))))))))))) fun h8 h =>
 dE h xCT (p123_e_19 a0) (oc h0 (oc h1 (oc h2 (oc h3 (oc h4 (oc h5 (oc h6 (oc h6 (oc h8 (oc rfl on))))))))))) fun h6 h =>
 cE h (fun h7 h => cE h (fun h8 h => cE h (fun h9 h => bE h fun r1 h10 h => dE h xCT (p123_e_20 a0 r1) (oc h0 (oc h1 (oc h2 (oc h3 (oc h4 (oc h5 (oc h6 (oc h7 (oc h8 (oc h9 (oc (xCB h10) on)))))))))))) fun h9 h =>
 dE h xCT (p123_e_21 a0) (oc h0 (oc h1 (oc h2 (oc h3 (oc h4 (oc h5 (oc h6 (oc h7 (oc h8 (oc h9 on))))))))))) fun h8 h =>
 dE h xCT (p123_e_22 a0) (oc h0 (oc h1 (oc h2 (oc h3 (oc h4 (oc h5 (oc h6 (oc h7 (oc h8 (oc rfl on))))))))))) fun h7 h =>
 cE h (fun h8 h => cE h (fun h9 h => cE h (fun h10 h => dE h xCT (p123_e_23 a0) (oc h0 (oc h1 (oc h2 (oc h3 (oc h4 (oc h5 (oc h6 (oc h7 (oc h8 (oc h9 (oc h10 on)))))))))))) fun h10 h =>
 dE h xCT (p123_e_24 a0) (oc h0 (oc h1 (oc h2 (oc h3 (oc h4 (oc h5 (oc h6 (oc h7 (oc h8 (oc h9 (oc h10 on)))))))))))) fun h9 h =>
 dE h xCT (p123_e_25 a0) (oc h0 (oc h1 (oc h2 (oc h3 (oc h4 (oc h5 (oc h6 (oc h7 (oc h8 (oc h9 (oc rfl on)))))))))))) fun h8 h =>
 dE h xCT (p123_e_26 a0) (oc h0 (oc h1 (oc h2 (oc h3 (oc h4 (oc h5 (oc h6 (oc h7 (oc h8 on)))))))))
theorem spec_l10Node_ok {N : Nat} {a0 : Exp} {r : Bool} (h : xC7 N  a0 = some r) : AbC 123 (xAj a0) (xAi r) :=
 AbsCalls.of_reach xCT rfl rfl (Nat.le_of_ble_eq_true rfl) (c123_e a0 r h)
def G85 (q : Exp → Option (Bool)) : Prop := ∀ a0 r, q a0 = some r → AbC 85 (xBF a0) (xA0 r)
noncomputable def I85 : Info := { body := (Tryd.f85.body).getD .skip, nt := 20, results := [.tmp 2], keep := [0, 2, 4, 6, 16, 34, 3], live := [(2, [2, 6, 3])], modes := [] }
theorem fk85 : FnOk Tryd.prog 85 Tryd.f85 I85 := ⟨Tryd.func85, by kernel_rfl, by kernel_rfl, by kernel_rfl, by kernel_rfl⟩
def S85_2 (x3 : Int) (b1 : Exp) : St := [(2, .v false [.ptr 1 0]), (6, .v false [.int .i64 x3]), (3, .v true [.int .i64 (Exp.kind b1), .int .i64 (Exp.n b1), .str (Exp.text b1), .sl .ro .exp (Exp.args b1)])]
theorem p85_2_0 (x3 : Int) (b1 : Exp) (r1 : Bool) : rS 2 I85 (S85_2 x3 b1) [Y, Y] [xA0 r1] = dn (xA0 false) [(decide ((x3 : Int) < (Ln (Exp.args b1) : Int))) = true, (0 : Int) ≤ x3 ∧ x3 < (Ln (Exp.args b1)), AbC 85 (xBF (gD (Exp.args b1) (tN x3) Ty.exp.dflt)) (xA0 r1), (!r1) = true] := by kernel_rfl
theorem p85_2_1 (x3 : Int) (b1 : Exp) (r1 : Bool) : rS 2 I85 (S85_2 x3 b1) [Y, F] [xA0 r1] = st 2 I85 (S85_2 (W (x3 + 1)) b1) [(decide ((x3 : Int) < (Ln (Exp.args b1) : Int))) = true, (0 : Int) ≤ x3 ∧ x3 < (Ln (Exp.args b1)), AbC 85 (xBF (gD (Exp.args b1) (tN x3) Ty.exp.dflt)) (xA0 r1), (!r1) = false] := by kernel_rfl
theorem p85_2_2 (x3 : Int) (b1 : Exp) (r1 : Bool) : rS 2 I85 (S85_2 x3 b1) [F] [xAi r1] = dn (xA0 r1) [(decide ((x3 : Int) < (Ln (Exp.args b1) : Int))) = false, AbC 123 (xAj b1) (xAi r1)] := by kernel_rfl
theorem p85_e_3 (a0 : Exp) : rE I85 (xBF a0) [] [] = st 2 I85 (S85_2 0 a0) [] := by kernel_rfl
theorem c85_2 {N : Nat} {q0 : Exp → Option (Bool)} (g0 : G85 q0) : ∀ n x3 b1 r, xBY N q0 n x3 b1 = some r → RS Tryd.f85 I85 2 (S85_2 x3 b1) (xA0 r) := by
 intro n
 induction n with
 | zero => exact fun _ _ _ h => nE h
 | succ n ih =>
  exact fun x3 b1 r h =>
   cE h (fun h0 h => iE h fun h1 h => bE h fun r1 h2 h => cE h (fun h3 h => dS h fk85 (p85_2_0 x3 b1 r1) (oc h0 (oc h1 (oc (g0 _ _ h2) (oc h3 on))))) fun h3 h =>
   tS fk85 (p85_2_1 x3 b1 r1) (oc h0 (oc h1 (oc (g0 _ _ h2) (oc h3 on)))) (ih _ _ _ h)) fun h0 h =>
   bE h fun r1 h1 h => dS h fk85 (p85_2_2 x3 b1 r1) (oc h0 (oc (spec_l10Node_ok h1) on))
theorem c85_e {N : Nat} {q0 : Exp → Option (Bool)} (g0 : G85 q0) : ∀ a0 r, xC9 N q0 a0 = some r → RE Tryd.f85 I85 (xBF a0) (xA0 r) := fun a0 r h =>
 tE fk85 (p85_e_3 a0) on (c85_2 g0 _ _ _ _ h)
theorem xEt {N : Nat} {q0 : Exp → Option (Bool)} (g0 : G85 q0) {a0 : Exp} {r : Bool} (h : xC9 N q0 a0 = some r) : AbC 85 (xBF a0) (xA0 r) :=
 AbsCalls.of_reach fk85 rfl rfl (Nat.le_of_ble_eq_true rfl) (c85_e g0 a0 r h)
theorem xDu {N : Nat} : ∀ d, G85 (xCp N d)
 | 0 => fun _ _ h => nE h
 | d + 1 => fun _ _ h => xEt (N := N) (xDu d) h
theorem spec_l10All_ok {N : Nat} {a0 : Exp} {r : Bool} (h : xEs N a0 = some r) : AbC 85 (xBF a0) (xA0 r) := xDu N _ r h
noncomputable def I52 : Info := { body := (Tryd.f52.body).getD .skip, nt := 15, results := [.tmp 2], keep := [0, 2, 4, 3], live := [], modes := [(1, [(3, .take, false), (8, .take, false)])] }
theorem fk52 : FnOk Tryd.prog 52 Tryd.f52 I52 := ⟨Tryd.func52, by kernel_rfl, by kernel_rfl, by kernel_rfl, by kernel_rfl⟩
theorem p52_e_0 (a0 : Exp) (r1 r2 : Int) (r3 : Bool) : rE I52 (xBc a0) [Y, Y] [xAD r1, xAH r2, xA0 r3] = dn (xAS r3) [AbC 83 (xBk a0 40) (xAD r1), (decide ((r1 : Int) ≥ 0)) = true, AbC 84 (xBf a0) (xAH r2), (decide ((r2 : Int) ≤ 8)) = true, AbC 85 (xBF a0) (xA0 r3)] := by kernel_rfl
theorem p52_e_1 (a0 : Exp) (r1 r2 : Int) : rE I52 (xBc a0) [Y, F] [xAD r1, xAH r2] = dn (xAS false) [AbC 83 (xBk a0 40) (xAD r1), (decide ((r1 : Int) ≥ 0)) = true, AbC 84 (xBf a0) (xAH r2), (decide ((r2 : Int) ≤ 8)) = false] := by kernel_rfl
theorem p52_e_2 (a0 : Exp) (r1 : Int) : rE I52 (xBc a0) [F, F] [xAD r1] = dn (xAS false) [AbC 83 (xBk a0 40) (xAD r1), (decide ((r1 : Int) ≥ 0)) = false, false = false] := by kernel_rfl
theorem c52_e {N : Nat} : ∀ a0 r, xCh N a0 = some r → RE Tryd.f52 I52 (xBc a0) (xAS r) := fun a0 r h =>
 bE h fun r1 h0 h => cE h (fun h1 h => bE h fun r2 h2 h => cE h (fun h3 h => bE h fun r3 h4 h => dE h fk52 (p52_e_0 a0 r1 r2 r3) (oc (xDm h0) (oc h1 (oc (xDC h2) (oc h3 (oc (spec_l10All_ok h4) on)))))) fun h3 h =>
 dE h fk52 (p52_e_1 a0 r1 r2) (oc (xDm h0) (oc h1 (oc (xDC h2) (oc h3 on))))) fun h1 h =>
 dE h fk52 (p52_e_2 a0 r1) (oc (xDm h0) (oc h1 (oc rfl on)))
theorem xDi {N : Nat} {a0 : Exp} {r : Bool} (h : xCh N  a0 = some r) : AbC 52 (xBc a0) (xAS r) :=
 AbsCalls.of_reach fk52 rfl rfl (Nat.le_of_ble_eq_true rfl) (c52_e a0 r h)
noncomputable def I86 : Info := { body := (Tryd.f86.body).getD .skip, nt := 31, results := [.tmp 2], keep := [0, 4, 6, 8, 10, 14, 22, 30, 54], live := [(5, [0, 6, 8])], modes := [(11, [(0, .take, false)])] }
theorem fk86 : FnOk Tryd.prog 86 Tryd.f86 I86 := ⟨Tryd.func86, by kernel_rfl, by kernel_rfl, by kernel_rfl, by kernel_rfl⟩
def S86_5 (x0 : Int) (x3 : Bool) (x4 : Str) : St := [(0, .v false [.int .i64 x0]), (6, .v false [.bool x3]), (8, .v false [.str x4])]
theorem p86_5_0 (x0 : Int) (x3 : Bool) (x4 : Str) : rS 5 I86 (S86_5 x0 x3 x4) [Y, Y] [] = st 5 I86 (S86_5 (W (Int.tdiv x0 10)) x3 ((List.map (fun n => UInt8.ofNat (tN n)) [(IntKind.u8.wrap ((W (48 + (W (0 - (Int.tmod x0 10)))))))]) ++ x4)) [((x0 : Int) != 0) = true, 10 ≠ (0 : Int), (decide (((Int.tmod x0 10) : Int) < 0)) = true, Ln (List.map (fun n => UInt8.ofNat (tN n)) [(IntKind.u8.wrap ((W (48 + (W (0 - (Int.tmod x0 10)))))))]) + Ln x4 ≤ Lim, 10 ≠ (0 : Int)] := by kernel_rfl
theorem p86_5_1 (x0 : Int) (x3 : Bool) (x4 : Str) : rS 5 I86 (S86_5 x0 x3 x4) [Y, F] [] = st 5 I86 (S86_5 (W (Int.tdiv x0 10)) x3 ((List.map (fun n => UInt8.ofNat (tN n)) [(IntKind.u8.wrap ((W (48 + (Int.tmod x0 10)))))]) ++ x4)) [((x0 : Int) != 0) = true, 10 ≠ (0 : Int), (decide (((Int.tmod x0 10) : Int) < 0)) = false, Ln (List.map (fun n => UInt8.ofNat (tN n)) [(IntKind.u8.wrap ((W (48 + (Int.tmod x0 10)))))]) + Ln x4 ≤ Lim, 10 ≠ (0 : Int)] := by kernel_rfl
theorem p86_5_2 (x0 : Int) (x3 : Bool) (x4 : Str) : rS 5 I86 (S86_5 x0 x3 x4) [F, Y] [] = dn (xBe ([45] ++ x4)) [((x0 : Int) != 0) = false, x3 = true, Ln [45] + Ln x4 ≤ Lim] := by kernel_rfl
theorem p86_5_3 (x0 : Int) (x3 : Bool) (x4 : Str) : rS 5 I86 (S86_5 x0 x3 x4) [F, F] [] = dn (xBe x4) [((x0 : Int) != 0) = false, x3 = false] := by kernel_rfl
theorem p86_e_4 (a0 : Int) : rE I86 (xB7 a0) [Y] [] = dn (xBe [48]) [((a0 : Int) == 0) = true] := by kernel_rfl
theorem p86_e_5 (a0 : Int) : rE I86 (xB7 a0) [F] [] = st 5 I86 (S86_5 a0 (decide ((a0 : Int) < 0)) []) [((a0 : Int) == 0) = false] := by kernel_rfl
theorem c86_5 {N : Nat} : ∀ n x0 x3 x4 r, xAZ N n x0 x3 x4 = some r → RS Tryd.f86 I86 5 (S86_5 x0 x3 x4) (xBe r) := by
 intro n
 induction n with
 | zero => exact fun _ _ _ _ h => nE h
 | succ n ih =>
  exact fun x0 x3 x4 r h =>
   cE h (fun h0 h => cE h (fun h2 h => iE h fun h3 h => tS fk86 (p86_5_0 x0 x3 x4) (oc h0 (oc (by decide) (oc h2 (oc h3 (oc (by decide) on))))) (ih _ _ _ _ h)) fun h2 h =>
   iE h fun h3 h => tS fk86 (p86_5_1 x0 x3 x4) (oc h0 (oc (by decide) (oc h2 (oc h3 (oc (by decide) on))))) (ih _ _ _ _ h)) fun h0 h =>
   cE h (fun h1 h => iE h fun h2 h => dS h fk86 (p86_5_2 x0 x3 x4) (oc h0 (oc h1 (oc h2 on)))) fun h1 h =>
   dS h fk86 (p86_5_3 x0 x3 x4) (oc h0 (oc h1 on))
theorem c86_e {N : Nat} : ∀ a0 r, xCv N a0 = some r → RE Tryd.f86 I86 (xB7 a0) (xBe r) := fun a0 r h =>
 cE h (fun h0 h => dE h fk86 (p86_e_4 a0) (oc h0 on)) fun h0 h =>
 tE fk86 (p86_e_5 a0) (oc h0 on) (c86_5 _ _ _ _ _ h)
theorem spec_FormatInt_ok {N : Nat} {a0 : Int} {r : Str} (h : xCv N  a0 = some r) : AbC 86 (xB7 a0) (xBe r) :=
 AbsCalls.of_reach fk86 rfl rfl (Nat.le_of_ble_eq_true rfl) (c86_e a0 r h)
noncomputable def I102 : Info := { body := (Tryd.f102.body).getD .skip, nt := 27, results := [.tmp 4], keep := [0, 2, 8, 10, 12, 22, 30], live := [(3, [0, 2, 10, 12])], modes := [(6, [(0, .take, false)]), (7, [(0, .take, false)])] }
theorem fk102 : FnOk Tryd.prog 102 Tryd.f102 I102 := ⟨Tryd.func102, by kernel_rfl, by kernel_rfl, by kernel_rfl, by kernel_rfl⟩
def S102_3 (x0 : List Str) (x1 : Str) (x5 : List Int) (x6 : Int) : St := [(0, .v false [.sl .ro .str x0]), (2, .v false [.str x1]), (10, .v false [.sl .own .byte x5]), (12, .v false [.int .i64 x6])]
theorem p102_3_0 (x0 : List Str) (x1 : Str) (x5 : List Int) (x6 : Int) : rS 3 I102 (S102_3 x0 x1 x5 x6) [Y, Y] [] = st 3 I102 (S102_3 x0 x1 ((x5 ++ List.map (fun c => (c.toNat : Int)) x1) ++ List.map (fun c => (c.toNat : Int)) (gD x0 (tN x6) Ty.str.dflt)) (W (x6 + 1))) [(decide ((x6 : Int) < (Ln x0 : Int))) = true, (decide ((x6 : Int) > 0)) = true, Ln x5 + Ln x1 ≤ Lim, (0 : Int) ≤ x6 ∧ x6 < (Ln x0), Ln (x5 ++ List.map (fun c => (c.toNat : Int)) x1) + Ln (gD x0 (tN x6) Ty.str.dflt) ≤ Lim] := by kernel_rfl
theorem p102_3_1 (x0 : List Str) (x1 : Str) (x5 : List Int) (x6 : Int) : rS 3 I102 (S102_3 x0 x1 x5 x6) [Y, F] [] = st 3 I102 (S102_3 x0 x1 (x5 ++ List.map (fun c => (c.toNat : Int)) (gD x0 (tN x6) Ty.str.dflt)) (W (x6 + 1))) [(decide ((x6 : Int) < (Ln x0 : Int))) = true, (decide ((x6 : Int) > 0)) = false, (0 : Int) ≤ x6 ∧ x6 < (Ln x0), Ln x5 + Ln (gD x0 (tN x6) Ty.str.dflt) ≤ Lim] := by kernel_rfl
theorem p102_3_2 (x0 : List Str) (x1 : Str) (x5 : List Int) (x6 : Int) : rS 3 I102 (S102_3 x0 x1 x5 x6) [F] [] = dn (xCE (List.map (fun n => UInt8.ofNat (tN n)) x5)) [(decide ((x6 : Int) < (Ln x0 : Int))) = false] := by kernel_rfl
theorem p102_e_3 (a0 : List Str) (a1 : Str) : rE I102 (xDt a0 a1) [] [] = st 3 I102 (S102_3 a0 a1 [] 0) [] := by kernel_rfl
theorem c102_3 {N : Nat} : ∀ n x0 x1 x5 x6 r, xBE N n x0 x1 x5 x6 = some r → RS Tryd.f102 I102 3 (S102_3 x0 x1 x5 x6) (xCE r) := by
 intro n
 induction n with
 | zero => exact fun _ _ _ _ _ h => nE h
 | succ n ih =>
  exact fun x0 x1 x5 x6 r h =>
   cE h (fun h0 h => cE h (fun h1 h => iE h fun h2 h => iE h fun h3 h => iE h fun h4 h => tS fk102 (p102_3_0 x0 x1 x5 x6) (oc h0 (oc h1 (oc h2 (oc h3 (oc h4 on))))) (ih _ _ _ _ _ h)) fun h1 h =>
   iE h fun h2 h => iE h fun h3 h => tS fk102 (p102_3_1 x0 x1 x5 x6) (oc h0 (oc h1 (oc h2 (oc h3 on)))) (ih _ _ _ _ _ h)) fun h0 h =>
   dS h fk102 (p102_3_2 x0 x1 x5 x6) (oc h0 on)
theorem c102_e {N : Nat} : ∀ a0 a1 r, xDV N a0 a1 = some r → RE Tryd.f102 I102 (xDt a0 a1) (xCE r) := fun a0 a1 r h =>
 tE fk102 (p102_e_3 a0 a1) on (c102_3 _ _ _ _ _ _ h)
theorem spec_Join_ok {N : Nat} {a0 : List Str} {a1 : Str} {r : Str} (h : xDV N  a0 a1 = some r) : AbC 102 (xDt a0 a1) (xCE r) :=
 AbsCalls.of_reach fk102 rfl rfl (Nat.le_of_ble_eq_true rfl) (c102_e a0 a1 r h)
noncomputable def I88 : Info := { body := (Tryd.f88.body).getD .skip, nt := 21, results := [.tmp 2], keep := [0, 2, 4, 8, 10, 18, 24, 26, 32, 38, 3], live := [], modes := [] }
theorem fk88 : FnOk Tryd.prog 88 Tryd.f88 I88 := ⟨Tryd.func88, by kernel_rfl, by kernel_rfl, by kernel_rfl, by kernel_rfl⟩
theorem p88_e_0 (a0 : Exp) : rE I88 (xAx a0) [Y, Y] [] = dn (xAs 0) [(((Exp.kind a0) : Int) == 7) = true, (((Exp.kind a0) : Int) == 7) = true] := by kernel_rfl
theorem p88_e_1 (a0 : Exp) : rE I88 (xAx a0) [F, Y, Y] [] = dn (xAs 0) [(((Exp.kind a0) : Int) == 7) = false, (((Exp.kind a0) : Int) == 8) = true, (((Exp.kind a0) : Int) == 8) = true] := by kernel_rfl
theorem p88_e_2 (a0 : Exp) : rE I88 (xAx a0) [F, F, Y] [] = dn (xAs 0) [(((Exp.kind a0) : Int) == 7) = false, (((Exp.kind a0) : Int) == 8) = false, (((Exp.kind a0) : Int) == 9) = true] := by kernel_rfl
theorem p88_e_3 (a0 : Exp) : rE I88 (xAx a0) [F, F, F, Y, Y, Y] [] = dn (xAs 1) [(((Exp.kind a0) : Int) == 7) = false, (((Exp.kind a0) : Int) == 8) = false, (((Exp.kind a0) : Int) == 9) = false, (((Exp.kind a0) : Int) == 6) = true, (((Exp.n a0) : Int) == 4) = true, (((Exp.n a0) : Int) == 4) = true] := by kernel_rfl
theorem p88_e_4 (a0 : Exp) : rE I88 (xAx a0) [F, F, F, Y, F, Y] [] = dn (xAs 1) [(((Exp.kind a0) : Int) == 7) = false, (((Exp.kind a0) : Int) == 8) = false, (((Exp.kind a0) : Int) == 9) = false, (((Exp.kind a0) : Int) == 6) = true, (((Exp.n a0) : Int) == 4) = false, (((Exp.n a0) : Int) == 5) = true] := by kernel_rfl
theorem p88_e_5 (a0 : Exp) : rE I88 (xAx a0) [F, F, F, Y, F, F, Y, Y] [] = dn (xAs 2) [(((Exp.kind a0) : Int) == 7) = false, (((Exp.kind a0) : Int) == 8) = false, (((Exp.kind a0) : Int) == 9) = false, (((Exp.kind a0) : Int) == 6) = true, (((Exp.n a0) : Int) == 4) = false, (((Exp.n a0) : Int) == 5) = false, (((Exp.n a0) : Int) == 1) = true, (((Exp.n a0) : Int) == 1) = true] := by kernel_rfl
theorem p88_e_6 (a0 : Exp) : rE I88 (xAx a0) [F, F, F, Y, F, F, F, Y] [] = dn (xAs 2) [(((Exp.kind a0) : Int) == 7) = false, (((Exp.kind a0) : Int) == 8) = false, (((Exp.kind a0) : Int) == 9) = false, (((Exp.kind a0) : Int) == 6) = true, (((Exp.n a0) : Int) == 4) = false, (((Exp.n a0) : Int) == 5) = false, (((Exp.n a0) : Int) == 1) = false, (((Exp.n a0) : Int) == 2) = true] := by kernel_rfl
theorem p88_e_7 (a0 : Exp) : rE I88 (xAx a0) [F, F, F, Y, F, F, F, F, Y] [] = dn (xAs 3) [(((Exp.kind a0) : Int) == 7) = false, (((Exp.kind a0) : Int) == 8) = false, (((Exp.kind a0) : Int) == 9) = false, (((Exp.kind a0) : Int) == 6) = true, (((Exp.n a0) : Int) == 4) = false, (((Exp.n a0) : Int) == 5) = false, (((Exp.n a0) : Int) == 1) = false, (((Exp.n a0) : Int) == 2) = false, (((Exp.n a0) : Int) == 3) = true] := by kernel_rfl
theorem p88_e_8 (a0 : Exp) : rE I88 (xAx a0) [F, F, F, Y, F, F, F, F, F] [] = dn (xAs 4) [(((Exp.kind a0) : Int) == 7) = false, (((Exp.kind a0) : Int) == 8) = false, (((Exp.kind a0) : Int) == 9) = false, (((Exp.kind a0) : Int) == 6) = true, (((Exp.n a0) : Int) == 4) = false, (((Exp.n a0) : Int) == 5) = false, (((Exp.n a0) : Int) == 1) = false, (((Exp.n a0) : Int) == 2) = false, (((Exp.n a0) : Int) == 3) = false] := by kernel_rfl
theorem p88_e_9 (a0 : Exp) : rE I88 (xAx a0) [F, F, F, F] [] = dn (xAs 4) [(((Exp.kind a0) : Int) == 7) = false, (((Exp.kind a0) : Int) == 8) = false, (((Exp.kind a0) : Int) == 9) = false, (((Exp.kind a0) : Int) == 6) = false] := by kernel_rfl
theorem c88_e {N : Nat} : ∀ a0 r, xCo N a0 = some r → RE Tryd.f88 I88 (xAx a0) (xAs r) := fun a0 r h =>
 cE h (fun h0 h => dE h fk88 (p88_e_0 a0) (oc h0 (oc h0 on))) fun h0 h =>
 cE h (fun h1 h => dE h fk88 (p88_e_1 a0) (oc h0 (oc h1 (oc h1 on)))) fun h1 h =>
 cE h (fun h2 h => dE h fk88 (p88_e_2 a0) (oc h0 (oc h1 (oc h2 on)))) fun h2 h =>
 cE h (fun h3 h => cE h (fun h4 h => dE h fk88 (p88_e_3 a0) (oc h0 (oc h1 (oc h2 (oc h3 (oc h4 (oc h4 on))))))) fun h4 h =>
 cE h (fun h5 h => dE h fk88 (p88_e_4 a0) (oc h0 (oc h1 (oc h2 (oc h3 (oc h4 (oc h5 on))))))) fun h5 h =>
 cE h (fun h6 h => dE h fk88 (p88_e_5 a0) (oc h0 (oc h1 (oc h2 (oc h3 (oc h4 (oc h5 (oc h6 (oc h6 on))))))))) fun h6 h =>
 cE h (fun h7 h => dE h fk88 (p88_e_6 a0) (oc h0 (oc h1 (oc h2 (oc h3 (oc h4 (oc h5 (oc h6 (oc h7 on))))))))) fun h7 h =>
 cE h (fun h8 h => dE h fk88 (p88_e_7 a0) (oc h0 (oc h1 (oc h2 (oc h3 (oc h4 (oc h5 (oc h6 (oc h7 (oc h8 on)))))))))) fun h8 h =>
 dE h fk88 (p88_e_8 a0) (oc h0 (oc h1 (oc h2 (oc h3 (oc h4 (oc h5 (oc h6 (oc h7 (oc h8 on)))))))))) fun h3 h =>
 dE h fk88 (p88_e_9 a0) (oc h0 (oc h1 (oc h2 (oc h3 on))))
theorem xCO {N : Nat} {a0 : Exp} {r : Int} (h : xCo N  a0 = some r) : AbC 88 (xAx a0) (xAs r) :=
 AbsCalls.of_reach fk88 rfl rfl (Nat.le_of_ble_eq_true rfl) (c88_e a0 r h)
noncomputable def I90 : Info := { body := (Tryd.f90.body).getD .skip, nt := 10, results := [.tmp 2], keep := [0, 4, 10], live := [], modes := [] }
theorem fk90 : FnOk Tryd.prog 90 Tryd.f90 I90 := ⟨Tryd.func90, by kernel_rfl, by kernel_rfl, by kernel_rfl, by kernel_rfl⟩
theorem p90_e_0 (a0 : Int) (r1 : Bool) : rE I90 (xBR a0) [Y] [xBq r1] = dn (xBp [63]) [AbC 68 (xCa a0 1 5) (xBq r1), (!r1) = true] := by kernel_rfl
theorem p90_e_1 (a0 : Int) (r1 : Bool) : rE I90 (xBR a0) [F] [xBq r1] = dn (xBp (gD [[], [43], [45], [42], [60], [61, 61]] (tN a0) Ty.str.dflt)) [AbC 68 (xCa a0 1 5) (xBq r1), (!r1) = false, (0 : Int) ≤ a0 ∧ a0 < (Ln [[], [43], [45], [42], [60], [61, 61]])] := by kernel_rfl
theorem c90_e {N : Nat} : ∀ a0 r, xCP N a0 = some r → RE Tryd.f90 I90 (xBR a0) (xBp r) := fun a0 r h =>
 bE h fun r1 h0 h => cE h (fun h1 h => dE h fk90 (p90_e_0 a0 r1) (oc (xDv h0) (oc h1 on))) fun h1 h =>
 iE h fun h2 h => dE h fk90 (p90_e_1 a0 r1) (oc (xDv h0) (oc h1 (oc h2 on)))
theorem xDJ {N : Nat} {a0 : Int} {r : Str} (h : xCP N  a0 = some r) : AbC 90 (xBR a0) (xBp r) :=
 AbsCalls.of_reach fk90 rfl rfl (Nat.le_of_ble_eq_true rfl) (c90_e a0 r h)
def G89 (q : Exp → Int → Option (Str)) : Prop := ∀ a0 a1 r, q a0 a1 = some r → AbC 89 (xBC a0 a1) (xA8 r)
def G87 (q : (List Exp) → Option (Str)) : Prop := ∀ a0 r, q a0 = some r → AbC 87 (xB8 a0) (xBl r)
def G53 (q : Exp → Option (Str)) : Prop := ∀ a0 r, q a0 = some r → AbC 53 (xAm a0) (xAc r)
noncomputable def I89 : Info := { body := (Tryd.f89.body).getD .skip, nt := 16, results := [.tmp 4], keep := [0, 2, 4, 8, 10, 22, 5], live := [], modes := [] }
theorem fk89 : FnOk Tryd.prog 89 Tryd.f89 I89 := ⟨Tryd.func89, by kernel_rfl, by kernel_rfl, by kernel_rfl, by kernel_rfl⟩
theorem p89_e_0 (a0 : Exp) (a1 : Int) (r1 : Str) (r2 : Int) : rE I89 (xBC a0 a1) [Y] [xAc r1, xAs r2] = dn (xA8 (([40] ++ r1) ++ [41])) [AbC 53 (xAm a0) (xAc r1), AbC 88 (xAx a0) (xAs r2), (decide ((r2 : Int) < a1)) = true, Ln [40] + Ln r1 ≤ Lim, Ln ([40] ++ r1) + Ln [41] ≤ Lim] := by kernel_rfl
theorem p89_e_1 (a0 : Exp) (a1 : Int) (r1 : Str) (r2 : Int) : rE I89 (xBC a0 a1) [F] [xAc r1, xAs r2] = dn (xA8 r1) [AbC 53 (xAm a0) (xAc r1), AbC 88 (xAx a0) (xAs r2), (decide ((r2 : Int) < a1)) = false] := by kernel_rfl
theorem c89_e {N : Nat} {q0 : Exp → Int → Option (Str)} (g0 : G89 q0) {q1 : (List Exp) → Option (Str)} (g1 : G87 q1) {q2 : Exp → Option (Str)} (g2 : G53 q2) : ∀ a0 a1 r, xCq N q0 q1 q2 a0 a1 = some r → RE Tryd.f89 I89 (xBC a0 a1) (xA8 r) := fun a0 a1 r h =>
 bE h fun r1 h0 h => bE h fun r2 h1 h => cE h (fun h2 h => iE h fun h3 h => iE h fun h4 h => dE h fk89 (p89_e_0 a0 a1 r1 r2) (oc (g2 _ _ h0) (oc (xCO h1) (oc h2 (oc h3 (oc h4 on)))))) fun h2 h =>
 dE h fk89 (p89_e_1 a0 a1 r1 r2) (oc (g2 _ _ h0) (oc (xCO h1) (oc h2 on)))
theorem spec_l12At_body_ok {N : Nat} {q0 : Exp → Int → Option (Str)} (g0 : G89 q0) {q1 : (List Exp) → Option (Str)} (g1 : G87 q1) {q2 : Exp → Option (Str)} (g2 : G53 q2) {a0 : Exp} {a1 : Int} {r : Str} (h : xCq N q0 q1 q2 a0 a1 = some r) : AbC 89 (xBC a0 a1) (xA8 r) :=
 AbsCalls.of_reach fk89 rfl rfl (Nat.le_of_ble_eq_true rfl) (c89_e g0 g1 g2 a0 a1 r h)
noncomputable def I87 : Info := { body := (Tryd.f87.body).getD .skip, nt := 22, results := [.tmp 2], keep := [0, 4, 6, 8, 18], live := [(3, [0, 6, 8])], modes := [(5, [(0, .take, false)])] }
theorem fk87 : FnOk Tryd.prog 87 Tryd.f87 I87 := ⟨Tryd.func87, by kernel_rfl, by kernel_rfl, by kernel_rfl, by kernel_rfl⟩
def S87_3 (x0 : List Exp) (x3 : List Str) (x4 : Int) : St := [(0, .v false [.sl .ro .exp x0]), (6, .v false [.sl .own .str x3]), (8, .v false [.int .i64 x4])]
theorem p87_3_0 (x0 : List Exp) (x3 : List Str) (x4 : Int) (r1 : Str) : rS 3 I87 (S87_3 x0 x3 x4) [Y] [xAc r1] = st 3 I87 (S87_3 x0 (x3 ++ [r1]) (W (x4 + 1))) [(decide ((x4 : Int) < (Ln x0 : Int))) = true, (0 : Int) ≤ x4 ∧ x4 < (Ln x0), AbC 53 (xAm (gD x0 (tN x4) Ty.exp.dflt)) (xAc r1), Ln x3 + Ln [r1] ≤ Lim] := by kernel_rfl
theorem p87_3_1 (x0 : List Exp) (x3 : List Str) (x4 : Int) (r1 : Str) : rS 3 I87 (S87_3 x0 x3 x4) [F] [xCE r1] = dn (xBl r1) [(decide ((x4 : Int) < (Ln x0 : Int))) = false, AbC 102 (xDt x3 [44, 32]) (xCE r1)] := by kernel_rfl
theorem p87_e_2 (a0 : List Exp) : rE I87 (xB8 a0) [] [] = st 3 I87 (S87_3 a0 [] 0) [] := by kernel_rfl
theorem c87_3 {N : Nat} {q0 : Exp → Int → Option (Str)} (g0 : G89 q0) {q1 : (List Exp) → Option (Str)} (g1 : G87 q1) {q2 : Exp → Option (Str)} (g2 : G53 q2) : ∀ n x0 x3 x4 r, xBO N q0 q1 q2 n x0 x3 x4 = some r → RS Tryd.f87 I87 3 (S87_3 x0 x3 x4) (xBl r) := by
 intro n
 induction n with
 | zero => exact fun _ _ _ _ h => nE h
 | succ n ih =>
  exact fun x0 x3 x4 r h =>
   cE h (fun h0 h => iE h fun h1 h => bE h fun r1 h2 h => iE h fun h3 h => tS fk87 (p87_3_0 x0 x3 x4 r1) (oc h0 (oc h1 (oc (g2 _ _ h2) (oc h3 on)))) (ih _ _ _ _ h)) fun h0 h =>
   bE h fun r1 h1 h => dS h fk87 (p87_3_1 x0 x3 x4 r1) (oc h0 (oc (spec_Join_ok h1) on))
theorem c87_e {N : Nat} {q0 : Exp → Int → Option (Str)} (g0 : G89 q0) {q1 : (List Exp) → Option (Str)} (g1 : G87 q1) {q2 : Exp → Option (Str)} (g2 : G53 q2) : ∀ a0 r, xCZ N q0 q1 q2 a0 = some r → RE Tryd.f87 I87 (xB8 a0) (xBl r) := fun a0 r h =>
 tE fk87 (p87_e_2 a0) on (c87_3 g0 g1 g2 _ _ _ _ _ h)
theorem xD9 {N : Nat} {q0 : Exp → Int → Option (Str)} (g0 : G89 q0) {q1 : (List Exp) → Option (Str)} (g1 : G87 q1) {q2 : Exp → Option (Str)} (g2 : G53 q2) {a0 : List Exp} {r : Str} (h : xCZ N q0 q1 q2 a0 = some r) : AbC 87 (xB8 a0) (xBl r) :=
 AbsCalls.of_reach fk87 rfl rfl (Nat.le_of_ble_eq_true rfl) (c87_e g0 g1 g2 a0 r h)
noncomputable def I53 : Info := { body := (Tryd.f53.body).getD .skip, nt := 124, results := [.tmp 2], keep := [0, 2, 4, 6, 8, 12, 14, 24, 36, 44, 58, 78, 116, 154, 206, 3], live := [], modes := [(22, [(4, .take, false)])] }
theorem fk53 : FnOk Tryd.prog 53 Tryd.f53 I53 := ⟨Tryd.func53, by kernel_rfl, by kernel_rfl, by kernel_rfl, by kernel_rfl⟩
theorem p53_e_0 (a0 : Exp) (r1 : Str) : rE I53 (xAm a0) [Y] [xBe r1] = dn (xAc r1) [(((Exp.kind a0) : Int) == 1) = true, AbC 86 (xB7 (Exp.n a0)) (xBe r1)] := by kernel_rfl
theorem p53_e_1 (a0 : Exp) : rE I53 (xAm a0) [F, Y] [] = dn (xAc (([34] ++ (Exp.text a0)) ++ [34])) [(((Exp.kind a0) : Int) == 1) = false, (((Exp.kind a0) : Int) == 2) = true, Ln [34] + Ln (Exp.text a0) ≤ Lim, Ln ([34] ++ (Exp.text a0)) + Ln [34] ≤ Lim] := by kernel_rfl
theorem p53_e_2 (a0 : Exp) : rE I53 (xAm a0) [F, F, Y] [] = dn (xAc (Exp.text a0)) [(((Exp.kind a0) : Int) == 1) = false, (((Exp.kind a0) : Int) == 2) = false, (((Exp.kind a0) : Int) == 3) = true] := by kernel_rfl
theorem p53_e_3 (a0 : Exp) (r1 : Str) : rE I53 (xAm a0) [F, F, F, Y] [xBl r1] = dn (xAc (([91] ++ r1) ++ [93])) [(((Exp.kind a0) : Int) == 1) = false, (((Exp.kind a0) : Int) == 2) = false, (((Exp.kind a0) : Int) == 3) = false, (((Exp.kind a0) : Int) == 4) = true, AbC 87 (xB8 (Exp.args a0)) (xBl r1), Ln [91] + Ln r1 ≤ Lim, Ln ([91] ++ r1) + Ln [93] ≤ Lim] := by kernel_rfl
theorem p53_e_4 (a0 : Exp) (r1 : Str) : rE I53 (xAm a0) [F, F, F, F, Y] [xBl r1] = dn (xAc ((((Exp.text a0) ++ [40]) ++ r1) ++ [41])) [(((Exp.kind a0) : Int) == 1) = false, (((Exp.kind a0) : Int) == 2) = false, (((Exp.kind a0) : Int) == 3) = false, (((Exp.kind a0) : Int) == 4) = false, (((Exp.kind a0) : Int) == 5) = true, Ln (Exp.text a0) + Ln [40] ≤ Lim, AbC 87 (xB8 (Exp.args a0)) (xBl r1), Ln ((Exp.text a0) ++ [40]) + Ln r1 ≤ Lim, Ln (((Exp.text a0) ++ [40]) ++ r1) + Ln [41] ≤ Lim] := by kernel_rfl
theorem p53_e_5 (a0 : Exp) (r1 r2 : Str) : rE I53 (xAm a0) [F, F, F, F, F, Y] [xAc r1, xAc r2] = dn (xAc ((((([108, 101, 116, 32] ++ (Exp.text a0)) ++ [32, 61, 32]) ++ r1) ++ [32, 105, 110, 32]) ++ r2)) [(((Exp.kind a0) : Int) == 1) = false, (((Exp.kind a0) : Int) == 2) = false, (((Exp.kind a0) : Int) == 3) = false, (((Exp.kind a0) : Int) == 4) = false, (((Exp.kind a0) : Int) == 5) = false, (((Exp.kind a0) : Int) == 7) = true, Ln [108, 101, 116, 32] + Ln (Exp.text a0) ≤ Lim, Ln ([108, 101, 116, 32] ++ (Exp.text a0)) + Ln [32, 61, 32] ≤ Lim, (0 : Int) ≤ 0 ∧ (0 : Int) < (Ln (Exp.args a0)), AbC 53 (xAm (gD (Exp.args a0) (tN 0) Ty.exp.dflt)) (xAc r1), Ln (([108, 101, 116, 32] ++ (Exp.text a0)) ++ [32, 61, 32]) + Ln r1 ≤ Lim, Ln ((([108, 101, 116, 32] ++ (Exp.text a0)) ++ [32, 61, 32]) ++ r1) + Ln [32, 105, 110, 32] ≤ Lim, (0 : Int) ≤ 1 ∧ (1 : Int) < (Ln (Exp.args a0)), AbC 53 (xAm (gD (Exp.args a0) (tN 1) Ty.exp.dflt)) (xAc r2), Ln (((([108, 101, 116, 32] ++ (Exp.text a0)) ++ [32, 61, 32]) ++ r1) ++ [32, 105, 110, 32]) + Ln r2 ≤ Lim] := by kernel_rfl
theorem p53_e_6 (a0 : Exp) (r1 r2 : Str) : rE I53 (xAm a0) [F, F, F, F, F, F, Y] [xAc r1, xAc r2] = dn (xAc ((((([102, 111, 114, 32] ++ (Exp.text a0)) ++ [32, 105, 110, 32]) ++ r1) ++ [32, 100, 111, 32]) ++ r2)) [(((Exp.kind a0) : Int) == 1) = false, (((Exp.kind a0) : Int) == 2) = false, (((Exp.kind a0) : Int) == 3) = false, (((Exp.kind a0) : Int) == 4) = false, (((Exp.kind a0) : Int) == 5) = false, (((Exp.kind a0) : Int) == 7) = false, (((Exp.kind a0) : Int) == 9) = true, Ln [102, 111, 114, 32] + Ln (Exp.text a0) ≤ Lim, Ln ([102, 111, 114, 32] ++ (Exp.text a0)) + Ln [32, 105, 110, 32] ≤ Lim, (0 : Int) ≤ 0 ∧ (0 : Int) < (Ln (Exp.args a0)), AbC 53 (xAm (gD (Exp.args a0) (tN 0) Ty.exp.dflt)) (xAc r1), Ln (([102, 111, 114, 32] ++ (Exp.text a0)) ++ [32, 105, 110, 32]) + Ln r1 ≤ Lim, Ln ((([102, 111, 114, 32] ++ (Exp.text a0)) ++ [32, 105, 110, 32]) ++ r1) + Ln [32, 100, 111, 32] ≤ Lim, (0 : Int) ≤ 1 ∧ (1 : Int) < (Ln (Exp.args a0)), AbC 53 (xAm (gD (Exp.args a0) (tN 1) Ty.exp.dflt)) (xAc r2), Ln (((([102, 111, 114, 32] ++ (Exp.text a0)) ++ [32, 105, 110, 32]) ++ r1) ++ [32, 100, 111, 32]) + Ln r2 ≤ Lim] := by kernel_rfl
theorem p53_e_7 (a0 : Exp) (r1 r2 r3 : Str) : rE I53 (xAm a0) [F, F, F, F, F, F, F, Y] [xAc r1, xAc r2, xAc r3] = dn (xAc ((((([105, 102, 32] ++ r1) ++ [32, 116, 104, 101, 110, 32]) ++ r2) ++ [32, 101, 108, 115, 101, 32]) ++ r3)) [(((Exp.kind a0) : Int) == 1) = false, (((Exp.kind a0) : Int) == 2) = false, (((Exp.kind a0) : Int) == 3) = false, (((Exp.kind a0) : Int) == 4) = false, (((Exp.kind a0) : Int) == 5) = false, (((Exp.kind a0) : Int) == 7) = false, (((Exp.kind a0) : Int) == 9) = false, (((Exp.kind a0) : Int) == 8) = true, (0 : Int) ≤ 0 ∧ (0 : Int) < (Ln (Exp.args a0)), AbC 53 (xAm (gD (Exp.args a0) (tN 0) Ty.exp.dflt)) (xAc r1), Ln [105, 102, 32] + Ln r1 ≤ Lim, Ln ([105, 102, 32] ++ r1) + Ln [32, 116, 104, 101, 110, 32] ≤ Lim, (0 : Int) ≤ 1 ∧ (1 : Int) < (Ln (Exp.args a0)), AbC 53 (xAm (gD (Exp.args a0) (tN 1) Ty.exp.dflt)) (xAc r2), Ln (([105, 102, 32] ++ r1) ++ [32, 116, 104, 101, 110, 32]) + Ln r2 ≤ Lim, Ln ((([105, 102, 32] ++ r1) ++ [32, 116, 104, 101, 110, 32]) ++ r2) + Ln [32, 101, 108, 115, 101, 32] ≤ Lim, (0 : Int) ≤ 2 ∧ (2 : Int) < (Ln (Exp.args a0)), AbC 53 (xAm (gD (Exp.args a0) (tN 2) Ty.exp.dflt)) (xAc r3), Ln (((([105, 102, 32] ++ r1) ++ [32, 116, 104, 101, 110, 32]) ++ r2) ++ [32, 101, 108, 115, 101, 32]) + Ln r3 ≤ Lim] := by kernel_rfl
theorem p53_e_8 (a0 : Exp) (r1 : Int) (r2 r3 r4 : Str) : rE I53 (xAm a0) [F, F, F, F, F, F, F, F, Y] [xAs r1, xA8 r2, xBp r3, xA8 r4] = dn (xAc ((((r2 ++ [32]) ++ r3) ++ [32]) ++ r4)) [(((Exp.kind a0) : Int) == 1) = false, (((Exp.kind a0) : Int) == 2) = false, (((Exp.kind a0) : Int) == 3) = false, (((Exp.kind a0) : Int) == 4) = false, (((Exp.kind a0) : Int) == 5) = false, (((Exp.kind a0) : Int) == 7) = false, (((Exp.kind a0) : Int) == 9) = false, (((Exp.kind a0) : Int) == 8) = false, AbC 88 (xAx a0) (xAs r1), ((r1 : Int) == 1) = true, (0 : Int) ≤ 0 ∧ (0 : Int) < (Ln (Exp.args a0)), AbC 89 (xBC (gD (Exp.args a0) (tN 0) Ty.exp.dflt) 2) (xA8 r2), Ln r2 + Ln [32] ≤ Lim, AbC 90 (xBR (Exp.n a0)) (xBp r3), Ln (r2 ++ [32]) + Ln r3 ≤ Lim, Ln ((r2 ++ [32]) ++ r3) + Ln [32] ≤ Lim, (0 : Int) ≤ 1 ∧ (1 : Int) < (Ln (Exp.args a0)), AbC 89 (xBC (gD (Exp.args a0) (tN 1) Ty.exp.dflt) (W (r1 + 1))) (xA8 r4), Ln (((r2 ++ [32]) ++ r3) ++ [32]) + Ln r4 ≤ Lim] := by kernel_rfl
theorem p53_e_9 (a0 : Exp) (r1 : Int) (r2 r3 r4 : Str) : rE I53 (xAm a0) [F, F, F, F, F, F, F, F, F] [xAs r1, xA8 r2, xBp r3, xA8 r4] = dn (xAc ((((r2 ++ [32]) ++ r3) ++ [32]) ++ r4)) [(((Exp.kind a0) : Int) == 1) = false, (((Exp.kind a0) : Int) == 2) = false, (((Exp.kind a0) : Int) == 3) = false, (((Exp.kind a0) : Int) == 4) = false, (((Exp.kind a0) : Int) == 5) = false, (((Exp.kind a0) : Int) == 7) = false, (((Exp.kind a0) : Int) == 9) = false, (((Exp.kind a0) : Int) == 8) = false, AbC 88 (xAx a0) (xAs r1), ((r1 : Int) == 1) = false, (0 : Int) ≤ 0 ∧ (0 : Int) < (Ln (Exp.args a0)), AbC 89 (xBC (gD (Exp.args a0) (tN 0) Ty.exp.dflt) r1) (xA8 r2), Ln r2 + Ln [32] ≤ Lim, AbC 90 (xBR (Exp.n a0)) (xBp r3), Ln (r2 ++ [32]) + Ln r3 ≤ Lim, Ln ((r2 ++ [32]) ++ r3) + Ln [32] ≤ Lim, (0 : Int) ≤ 1 ∧ (1 : Int) < (Ln (Exp.args a0)), AbC 89 (xBC (gD (Exp.args a0) (tN 1) Ty.exp.dflt) (W (r1 + 1))) (xA8 r4), Ln (((r2 ++ [32]) ++ r3) ++ [32]) + Ln r4 ≤ Lim] := by kernel_rfl
theorem c53_e {N : Nat} {q0 : Exp → Int → Option (Str)} (g0 : G89 q0) {q1 : (List Exp) → Option (Str)} (g1 : G87 q1) {q2 : Exp → Option (Str)} (g2 : G53 q2) : ∀ a0 r, xAI N q0 q1 q2 a0 = some r → RE Tryd.f53 I53 (xAm a0) (xAc r) := fun a0 r h =>
 cE h (fun h0 h => bE h fun r1 h1 h => dE h fk53 (p53_e_0 a0 r1) (oc h0 (oc (spec_FormatInt_ok h1) on))) fun h0 h =>
 cE h (fun h1 h => iE h fun h2 h => iE h fun h3 h => dE h fk53 (p53_e_1 a0) (oc h0 (oc h1 (oc h2 (oc h3 on))))) fun h1 h =>
 cE h (fun h2 h => dE h fk53 (p53_e_2 a0) (oc h0 (oc h1 (oc h2 on)))) fun h2 h =>
 cE h (fun h3 h => bE h fun r1 h4 h => iE h fun h5 h => iE h fun h6 h => dE h fk53 (p53_e_3 a0 r1) (oc h0 (oc h1 (oc h2 (oc h3 (oc (g1 _ _ h4) (oc h5 (oc h6 on)))))))) fun h3 h =>
 cE h (fun h4 h => iE h fun h5 h => bE h fun r1 h6 h => iE h fun h7 h => iE h fun h8 h => dE h fk53 (p53_e_4 a0 r1) (oc h0 (oc h1 (oc h2 (oc h3 (oc h4 (oc h5 (oc (g1 _ _ h6) (oc h7 (oc h8 on)))))))))) fun h4 h =>
 cE h (fun h5 h => iE h fun h6 h => iE h fun h7 h => iE h fun h8 h => bE h fun r1 h9 h => iE h fun h10 h => iE h fun h11 h => iE h fun h12 h => bE h fun r2 h13 h => iE h fun h14 h => dE h fk53 (p53_e_5 a0 r1 r2) (oc h0 (oc h1 (oc h2 (oc h3 (oc h4 (oc h5 (oc h6 (oc h7 (oc h8 (oc (g2 _ _ h9) (oc h10 (oc h11 (oc h12 (oc (g2 _ _ h13) (oc h14 on)))))))))))))))) fun h5 h =>
 cE h (fun h6 h => iE h fun h7 h => iE h fun h8 h => iE h fun h9 h => bE h fun r1 h10 h => iE h fun h11 h => iE h fun h12 h => iE h fun h13 h => bE h fun r2 h14 h => iE h fun h15 h => dE h fk53 (p53_e_6 a0 r1 r2) (oc h0 (oc h1 (oc h2 (oc h3 (oc h4 (oc h5 (oc h6 (oc h7 (oc h8 (oc h9 (oc (g2 _ _ h10) (oc h11 (oc h12 (oc h13 (oc (g2 _ _ h14) (oc h15 on))))))))))))))))) fun h6 h =>
 cE h (fun h7 h => iE h fun h8 h => bE h fun r1 h9 h => iE h fun h10 h => iE h fun h11 h => iE h fun h12 h => bE h fun r2 h13 h => iE h fun h14 h => iE h fun h15 h => iE h fun h16 h => bE h fun r3 h17 h => iE h fun h18 h => dE h fk53 (p53_e_7 a0 r1 r2 r3) (oc h0 (oc h1 (oc h2 (oc h3 (oc h4 (oc h5 (oc h6 (oc h7 (oc h8 (oc (g2 _ _ h9) (oc h10 (oc h11 (oc h12 (oc (g2 _ _ h13) (oc h14 (oc h15 (oc h16 (oc (g2 _ _ h17) (oc h18 on)))))))))))))))))))) fun h7 h =>
 bE h fun r1 h8 h => cE h (fun h9 h => iE h fun h10 h => bE h fun r2 h11 h => iE h fun h12 h => bE h fun r3 h13 h => iE h fun h14 h => iE h fun h15 h => iE h fun h16 h => bE h fun r4 h17 h => iE h fun h18 h => dE h fk53 (p53_e_8 a0 r1 r2 r3 r4) (oc h0 (oc h1 (oc h2 (oc h3 (oc h4 (oc h5 (oc h6 (oc h7 (oc (xCO h8) (oc h9 (oc h10 (oc (g0 _ _ _ h11) (oc h12 (oc (xDJ h13) (oc h14 (oc h15 (oc h16 (oc (g0 _ _ _ h17) (oc h18 on)))))))))))))))))))) fun h9 h =>
 iE h fun h10 h => bE h fun r2 h11 h => iE h fun h12 h => bE h fun r3 h13 h => iE h fun h14 h => iE h fun h15 h => iE h fun h16 h => bE h fun r4 h17 h => iE h fun h18 h => dE h fk53 (p53_e_9 a0 r1 r2 r3 r4) (oc h0 (oc h1 (oc h2 (oc h3 (oc h4 (oc h5 (oc h6 (oc h7 (oc (xCO h8) (oc h9 (oc h10 (oc (g0 _ _ _ h11) (oc h12 (oc (xDJ h13) (oc h14 (oc h15 (oc h16 (oc (g0 _ _ _ h17) (oc h18 on)))))))))))))))))))
theorem xEa {N : Nat} {q0 : Exp → Int → Option (Str)} (g0 : G89 q0) {q1 : (List Exp) → Option (Str)} (g1 : G87 q1) {q2 : Exp → Option (Str)} (g2 : G53 q2) {a0 : Exp} {r : Str} (h : xAI N q0 q1 q2 a0 = some r) : AbC 53 (xAm a0) (xAc r) :=
 AbsCalls.of_reach fk53 rfl rfl (Nat.le_of_ble_eq_true rfl) (c53_e g0 g1 g2 a0 r h)
theorem spec_l12At_fix_ok {N : Nat} : ∀ d, G89 (xAh N d).c_spec_l12At ∧ G87 (xAh N d).c_spec_l12List ∧ G53 (xAh N d).c_spec_l12Text := by
 intro d
 induction d with
 | zero => exact ⟨fun _ _ _ h => nE h, fun _ _ h => nE h, fun _ _ h => nE h⟩
 | succ d ih =>
  obtain ⟨ih0, ih1, ih2⟩ := ih
  exact ⟨fun _ _ _ h => spec_l12At_body_ok (N := N) ih0 ih1 ih2 h, fun _ _ h => xD9 (N := N) ih0 ih1 ih2 h, fun _ _ h => xEa (N := N) ih0 ih1 ih2 h⟩
theorem spec_l12Text_ok {N : Nat} {a0 : Exp} {r : Str} (h : xDX N a0 = some r) : AbC 53 (xAm a0) (xAc r) := (spec_l12At_fix_ok N).2.2 _ r h
noncomputable def I17 : Info := { body := (Tryd.f17.body).getD .skip, nt := 8, results := [.tmp 2], keep := [0, 2, 4, 10, 3], live := [], modes := [] }
theorem fk17 : FnOk Tryd.prog 17 Tryd.f17 I17 := ⟨Tryd.func17, by kernel_rfl, by kernel_rfl, by kernel_rfl, by kernel_rfl⟩
theorem p17_e_0 (a0 : Exp) (r1 : Bool) : rE I17 (xBj a0) [Y] [xAS r1] = dn (xAQ []) [AbC 52 (xBc a0) (xAS r1), (!r1) = true] := by kernel_rfl
theorem p17_e_1 (a0 : Exp) (r1 : Bool) (r2 : Str) : rE I17 (xBj a0) [F] [xAS r1, xAc r2] = dn (xAQ r2) [AbC 52 (xBc a0) (xAS r1), (!r1) = false, AbC 53 (xAm a0) (xAc r2)] := by kernel_rfl
theorem c17_e {N : Nat} : ∀ a0 r, xB6 N a0 = some r → RE Tryd.f17 I17 (xBj a0) (xAQ r) := fun a0 r h =>
 bE h fun r1 h0 h => cE h (fun h1 h => dE h fk17 (p17_e_0 a0 r1) (oc (xDi h0) (oc h1 on))) fun h1 h =>
 bE h fun r2 h2 h => dE h fk17 (p17_e_1 a0 r1 r2) (oc (xDi h0) (oc h1 (oc (spec_l12Text_ok h2) on)))
theorem xCN {N : Nat} {a0 : Exp} {r : Str} (h : xB6 N  a0 = some r) : AbC 17 (xBj a0) (xAQ r) :=
 AbsCalls.of_reach fk17 rfl rfl (Nat.le_of_ble_eq_true rfl) (c17_e a0 r h)
def G91 (q : Exp → Option (Int)) : Prop := ∀ a0 r, q a0 = some r → AbC 91 (xA7 a0) (xAv r)
noncomputable def I91 : Info := { body := (Tryd.f91.body).getD .skip, nt := 19, results := [.tmp 2], keep := [0, 2, 4, 6, 10, 14, 16, 18, 20, 3, 11], live := [(3, [6, 14, 16, 18])], modes := [(6, [(1, .take, false)])] }
theorem fk91 : FnOk Tryd.prog 91 Tryd.f91 I91 := ⟨Tryd.func91, by kernel_rfl, by kernel_rfl, by kernel_rfl, by kernel_rfl⟩
def S91_3 (x3 : Int) (x7 : List Exp) (x8 x9 : Int) : St := [(6, .v false [.int .i64 x3]), (14, .v false [.sl .ro .exp x7]), (16, .v false [.int .i64 x8]), (18, .v false [.int .i64 x9])]
theorem p91_3_0 (x3 : Int) (x7 : List Exp) (x8 x9 r1 : Int) : rS 3 I91 (S91_3 x3 x7 x8 x9) [Y] [xAv r1] = st 3 I91 (S91_3 (W (x3 + r1)) x7 x8 (W (x9 + 1))) [(decide ((x9 : Int) < x8)) = true, (0 : Int) ≤ x9 ∧ x9 < (Ln x7), AbC 91 (xA7 (gD x7 (tN x9) Ty.exp.dflt)) (xAv r1)] := by kernel_rfl
theorem p91_3_1 (x3 : Int) (x7 : List Exp) (x8 x9 : Int) : rS 3 I91 (S91_3 x3 x7 x8 x9) [F] [] = dn (xAv x3) [(decide ((x9 : Int) < x8)) = false] := by kernel_rfl
theorem p91_e_2 (a0 : Exp) : rE I91 (xA7 a0) [] [] = st 3 I91 (S91_3 1 (Exp.args a0) (Ln (Exp.args a0) : Int) 0) [] := by kernel_rfl
theorem c91_3 {N : Nat} {q0 : Exp → Option (Int)} (g0 : G91 q0) : ∀ n x3 x7 x8 x9 r, xBt N q0 n x3 x7 x8 x9 = some r → RS Tryd.f91 I91 3 (S91_3 x3 x7 x8 x9) (xAv r) := by
 intro n
 induction n with
 | zero => exact fun _ _ _ _ _ h => nE h
 | succ n ih =>
  exact fun x3 x7 x8 x9 r h =>
   cE h (fun h0 h => iE h fun h1 h => bE h fun r1 h2 h => tS fk91 (p91_3_0 x3 x7 x8 x9 r1) (oc h0 (oc h1 (oc (g0 _ _ h2) on))) (ih _ _ _ _ _ h)) fun h0 h =>
   dS h fk91 (p91_3_1 x3 x7 x8 x9) (oc h0 on)
theorem c91_e {N : Nat} {q0 : Exp → Option (Int)} (g0 : G91 q0) : ∀ a0 r, xCA N q0 a0 = some r → RE Tryd.f91 I91 (xA7 a0) (xAv r) := fun a0 r h =>
 tE fk91 (p91_e_2 a0) on (c91_3 g0 _ _ _ _ _ _ h)
theorem xDM {N : Nat} {q0 : Exp → Option (Int)} (g0 : G91 q0) {a0 : Exp} {r : Int} (h : xCA N q0 a0 = some r) : AbC 91 (xA7 a0) (xAv r) :=
 AbsCalls.of_reach fk91 rfl rfl (Nat.le_of_ble_eq_true rfl) (c91_e g0 a0 r h)
theorem xC4 {N : Nat} : ∀ d, G91 (xBx N d)
 | 0 => fun _ _ h => nE h
 | d + 1 => fun _ _ h => xDM (N := N) (xC4 d) h
theorem xCV {N : Nat} {a0 : Exp} {r : Int} (h : xDy N a0 = some r) : AbC 91 (xA7 a0) (xAv r) := xC4 N _ r h
def G92 (q : Exp → Option (Int)) : Prop := ∀ a0 r, q a0 = some r → AbC 92 (xBd a0) (xAE r)
noncomputable def I92 : Info := { body := (Tryd.f92.body).getD .skip, nt := 20, results := [.tmp 2], keep := [0, 2, 4, 6, 10, 14, 16, 18, 20, 3, 11], live := [(3, [6, 14, 16, 18])], modes := [(6, [(1, .take, false)])] }
theorem fk92 : FnOk Tryd.prog 92 Tryd.f92 I92 := ⟨Tryd.func92, by kernel_rfl, by kernel_rfl, by kernel_rfl, by kernel_rfl⟩
def S92_3 (x3 : Int) (x7 : List Exp) (x8 x9 : Int) : St := [(6, .v false [.int .i64 x3]), (14, .v false [.sl .ro .exp x7]), (16, .v false [.int .i64 x8]), (18, .v false [.int .i64 x9])]
theorem p92_3_0 (x3 : Int) (x7 : List Exp) (x8 x9 r1 : Int) : rS 3 I92 (S92_3 x3 x7 x8 x9) [Y] [xAE r1] = st 3 I92 (S92_3 (if (r1 : Int) > x3 then r1 else x3) x7 x8 (W (x9 + 1))) [(decide ((x9 : Int) < x8)) = true, (0 : Int) ≤ x9 ∧ x9 < (Ln x7), AbC 92 (xBd (gD x7 (tN x9) Ty.exp.dflt)) (xAE r1)] := by kernel_rfl
theorem p92_3_1 (x3 : Int) (x7 : List Exp) (x8 x9 : Int) : rS 3 I92 (S92_3 x3 x7 x8 x9) [F] [] = dn (xAE (W (x3 + 1))) [(decide ((x9 : Int) < x8)) = false] := by kernel_rfl
theorem p92_e_2 (a0 : Exp) : rE I92 (xBd a0) [] [] = st 3 I92 (S92_3 0 (Exp.args a0) (Ln (Exp.args a0) : Int) 0) [] := by kernel_rfl
theorem c92_3 {N : Nat} {q0 : Exp → Option (Int)} (g0 : G92 q0) : ∀ n x3 x7 x8 x9 r, xBG N q0 n x3 x7 x8 x9 = some r → RS Tryd.f92 I92 3 (S92_3 x3 x7 x8 x9) (xAE r) := by
 intro n
 induction n with
 | zero => exact fun _ _ _ _ _ h => nE h
 | succ n ih =>
  exact fun x3 x7 x8 x9 r h =>
   cE h (fun h0 h => iE h fun h1 h => bE h fun r1 h2 h => tS fk92 (p92_3_0 x3 x7 x8 x9 r1) (oc h0 (oc h1 (oc (g0 _ _ h2) on))) (ih _ _ _ _ _ h)) fun h0 h =>
   dS h fk92 (p92_3_1 x3 x7 x8 x9) (oc h0 on)
theorem c92_e {N : Nat} {q0 : Exp → Option (Int)} (g0 : G92 q0) : ∀ a0 r, xCz N q0 a0 = some r → RE Tryd.f92 I92 (xBd a0) (xAE r) := fun a0 r h =>
 tE fk92 (p92_e_2 a0) on (c92_3 g0 _ _ _ _ _ _ h)
theorem xDL {N : Nat} {q0 : Exp → Option (Int)} (g0 : G92 q0) {a0 : Exp} {r : Int} (h : xCz N q0 a0 = some r) : AbC 92 (xBd a0) (xAE r) :=
 AbsCalls.of_reach fk92 rfl rfl (Nat.le_of_ble_eq_true rfl) (c92_e g0 a0 r h)
theorem xC3 {N : Nat} : ∀ d, G92 (xBT N d)
 | 0 => fun _ _ h => nE h
 | d + 1 => fun _ _ h => xDL (N := N) (xC3 d) h
theorem xDA {N : Nat} {a0 : Exp} {r : Int} (h : xDx N a0 = some r) : AbC 92 (xBd a0) (xAE r) := xC3 N _ r h
noncomputable def I73 : Info := { body := (Tryd.f73.body).getD .skip, nt := 15, results := [.tmp 6], keep := [0, 2, 4, 12], live := [], modes := [(1, [(3, .take, false)])] }
theorem fk73 : FnOk Tryd.prog 73 Tryd.f73 I73 := ⟨Tryd.func73, by kernel_rfl, by kernel_rfl, by kernel_rfl, by kernel_rfl⟩
theorem p73_e_0 (a0 a1 a2 : Int) : rE I73 (xAU a0 a1 a2) [Y] [] = dn (xAq (decide ((a0 : Int) ≤ a2))) [(decide ((a1 : Int) ≤ a0)) = true] := by kernel_rfl
theorem p73_e_1 (a0 a1 a2 : Int) : rE I73 (xAU a0 a1 a2) [F] [] = dn (xAq false) [(decide ((a1 : Int) ≤ a0)) = false] := by kernel_rfl
theorem c73_e {N : Nat} : ∀ a0 a1 a2 r, xCl N a0 a1 a2 = some r → RE Tryd.f73 I73 (xAU a0 a1 a2) (xAq r) := fun a0 a1 a2 r h =>
 cE h (fun h0 h => dE h fk73 (p73_e_0 a0 a1 a2) (oc h0 on)) fun h0 h =>
 dE h fk73 (p73_e_1 a0 a1 a2) (oc h0 on)
theorem xBv {N : Nat} {a0 : Int} {a1 : Int} {a2 : Int} {r : Bool} (h : xCl N  a0 a1 a2 = some r) : AbC 73 (xAU a0 a1 a2) (xAq r) :=
 AbsCalls.of_reach fk73 rfl rfl (Nat.le_of_ble_eq_true rfl) (c73_e a0 a1 a2 r h)
noncomputable def I106 : Info := { body := (Tryd.f106.body).getD .skip, nt := 29, results := [.tmp 2], keep := [0, 4, 6, 14, 50], live := [(2, [0, 6])], modes := [(4, [(4, .take, false), (10, .take, false)])] }
theorem fk106 : FnOk Tryd.prog 106 Tryd.f106 I106 := ⟨Tryd.func106, by kernel_rfl, by kernel_rfl, by kernel_rfl, by kernel_rfl⟩
def S106_2 (x0 : Str) (x3 : Int) : St := [(0, .v false [.str x0]), (6, .v false [.int .i64 x3])]
theorem p106_2_0 (x0 : Str) (x3 : Int) : rS 2 I106 (S106_2 x0 x3) [Y, Y, Y, Y] [] = dn (xAA false) [(decide ((x3 : Int) < (Ln x0 : Int))) = true, (0 : Int) ≤ x3 ∧ x3 < (Ln x0), (decide ((((gD x0 (tN x3) 0).toNat : Int) : Int) < 32)) = true, true = true, true = true] := by kernel_rfl
theorem p106_2_1 (x0 : Str) (x3 : Int) : rS 2 I106 (S106_2 x0 x3) [Y, F, Y, Y] [] = dn (xAA false) [(decide ((x3 : Int) < (Ln x0 : Int))) = true, (0 : Int) ≤ x3 ∧ x3 < (Ln x0), (decide ((((gD x0 (tN x3) 0).toNat : Int) : Int) < 32)) = false, (0 : Int) ≤ x3 ∧ x3 < (Ln x0), (decide ((((gD x0 (tN x3) 0).toNat : Int) : Int) > 126)) = true, true = true] := by kernel_rfl
theorem p106_2_2 (x0 : Str) (x3 : Int) : rS 2 I106 (S106_2 x0 x3) [Y, F, F, Y] [] = dn (xAA false) [(decide ((x3 : Int) < (Ln x0 : Int))) = true, (0 : Int) ≤ x3 ∧ x3 < (Ln x0), (decide ((((gD x0 (tN x3) 0).toNat : Int) : Int) < 32)) = false, (0 : Int) ≤ x3 ∧ x3 < (Ln x0), (decide ((((gD x0 (tN x3) 0).toNat : Int) : Int) > 126)) = false, (0 : Int) ≤ x3 ∧ x3 < (Ln x0), ((((gD x0 (tN x3) 0).toNat : Int) : Int) == 34) = true] := by kernel_rfl
theorem p106_2_3 (x0 : Str) (x3 : Int) : rS 2 I106 (S106_2 x0 x3) [Y, F, F, F] [] = st 2 I106 (S106_2 x0 (W (x3 + 1))) [(decide ((x3 : Int) < (Ln x0 : Int))) = true, (0 : Int) ≤ x3 ∧ x3 < (Ln x0), (decide ((((gD x0 (tN x3) 0).toNat : Int) : Int) < 32)) = false, (0 : Int) ≤ x3 ∧ x3 < (Ln x0), (decide ((((gD x0 (tN x3) 0).toNat : Int) : Int) > 126)) = false, (0 : Int) ≤ x3 ∧ x3 < (Ln x0), ((((gD x0 (tN x3) 0).toNat : Int) : Int) == 34) = false] := by kernel_rfl
theorem p106_2_4 (x0 : Str) (x3 : Int) : rS 2 I106 (S106_2 x0 x3) [F] [] = dn (xAA (decide (((Ln x0 : Int) : Int) ≤ 20))) [(decide ((x3 : Int) < (Ln x0 : Int))) = false] := by kernel_rfl
theorem p106_e_5 (a0 : Str) : rE I106 (xBI a0) [] [] = st 2 I106 (S106_2 a0 0) [] := by kernel_rfl
theorem c106_2 {N : Nat} : ∀ n x0 x3 r, xBJ N n x0 x3 = some r → RS Tryd.f106 I106 2 (S106_2 x0 x3) (xAA r) := by
 intro n
 induction n with
 | zero => exact fun _ _ _ h => nE h
 | succ n ih =>
  exact fun x0 x3 r h =>
   cE h (fun h0 h => iE h fun h1 h => cE h (fun h2 h => dS h fk106 (p106_2_0 x0 x3) (oc h0 (oc h1 (oc h2 (oc rfl (oc rfl on)))))) fun h2 h =>
   cE h (fun h4 h => dS h fk106 (p106_2_1 x0 x3) (oc h0 (oc h1 (oc h2 (oc h1 (oc h4 (oc rfl on))))))) fun h4 h =>
   cE h (fun h6 h => dS h fk106 (p106_2_2 x0 x3) (oc h0 (oc h1 (oc h2 (oc h1 (oc h4 (oc h1 (oc h6 on)))))))) fun h6 h =>
   tS fk106 (p106_2_3 x0 x3) (oc h0 (oc h1 (oc h2 (oc h1 (oc h4 (oc h1 (oc h6 on))))))) (ih _ _ _ h)) fun h0 h =>
   dS h fk106 (p106_2_4 x0 x3) (oc h0 on)
theorem c106_e {N : Nat} : ∀ a0 r, xCw N a0 = some r → RE Tryd.f106 I106 (xBI a0) (xAA r) := fun a0 r h =>
 tE fk106 (p106_e_5 a0) on (c106_2 _ _ _ _ h)
theorem xDe {N : Nat} {a0 : Str} {r : Bool} (h : xCw N  a0 = some r) : AbC 106 (xBI a0) (xAA r) :=
 AbsCalls.of_reach fk106 rfl rfl (Nat.le_of_ble_eq_true rfl) (c106_e a0 r h)
noncomputable def I118 : Info := { body := (Tryd.f118.body).getD .skip, nt := 42, results := [.tmp 2], keep := [0, 4, 6, 8, 16, 76], live := [(2, [0, 6])], modes := [(4, [(4, .take, false)]), (5, [(0, .take, false), (2, .take, false), (5, .take, false), (11, .take, false)])] }
theorem fk118 : FnOk Tryd.prog 118 Tryd.f118 I118 := ⟨Tryd.func118, by kernel_rfl, by kernel_rfl, by kernel_rfl, by kernel_rfl⟩
def xDc (x0 : Str) (x3 : Int) : St := [(0, .v false [.str x0]), (6, .v false [.int .i64 x3])]
theorem p118_2_0 (x0 : Str) (x3 : Int) : rS 2 I118 (xDc x0 x3) [Y, Y, Y, Y, Y, Y] [] = dn (xAO false) [(decide ((x3 : Int) < (Ln x0 : Int))) = true, (0 : Int) ≤ x3 ∧ x3 < (Ln x0), (decide ((((gD x0 (tN x3) 0).toNat : Int) : Int) ≥ 97)) = true, (0 : Int) ≤ x3 ∧ x3 < (Ln x0), (!(decide ((((gD x0 (tN x3) 0).toNat : Int) : Int) ≤ 122))) = true, ((x3 : Int) == 0) = true, true = true, true = true] := by kernel_rfl
theorem p118_2_1 (x0 : Str) (x3 : Int) : rS 2 I118 (xDc x0 x3) [Y, Y, Y, F, Y, Y] [] = dn (xAO false) [(decide ((x3 : Int) < (Ln x0 : Int))) = true, (0 : Int) ≤ x3 ∧ x3 < (Ln x0), (decide ((((gD x0 (tN x3) 0).toNat : Int) : Int) ≥ 97)) = true, (0 : Int) ≤ x3 ∧ x3 < (Ln x0), (!(decide ((((gD x0 (tN x3) 0).toNat : Int) : Int) ≤ 122))) = true, ((x3 : Int) == 0) = false, (0 : Int) ≤ x3 ∧ x3 < (Ln x0), (decide ((((gD x0 (tN x3) 0).toNat : Int) : Int) < 48)) = true, true = true] := by kernel_rfl
theorem p118_2_2 (x0 : Str) (x3 : Int) : rS 2 I118 (xDc x0 x3) [Y, Y, Y, F, F, Y] [] = dn (xAO false) [(decide ((x3 : Int) < (Ln x0 : Int))) = true, (0 : Int) ≤ x3 ∧ x3 < (Ln x0), (decide ((((gD x0 (tN x3) 0).toNat : Int) : Int) ≥ 97)) = true, (0 : Int) ≤ x3 ∧ x3 < (Ln x0), (!(decide ((((gD x0 (tN x3) 0).toNat : Int) : Int) ≤ 122))) = true, ((x3 : Int) == 0) = false, (0 : Int) ≤ x3 ∧ x3 < (Ln x0), (decide ((((gD x0 (tN x3) 0).toNat : Int) : Int) < 48)) = false, (0 : Int) ≤ x3 ∧ x3 < (Ln x0), (decide ((((gD x0 (tN x3) 0).toNat : Int) : Int) > 57)) = true] := by kernel_rfl
theorem p118_2_3 (x0 : Str) (x3 : Int) : rS 2 I118 (xDc x0 x3) [Y, Y, Y, F, F, F] [] = st 2 I118 (xDc x0 (W (x3 + 1))) [(decide ((x3 : Int) < (Ln x0 : Int))) = true, (0 : Int) ≤ x3 ∧ x3 < (Ln x0), (decide ((((gD x0 (tN x3) 0).toNat : Int) : Int) ≥ 97)) = true, (0 : Int) ≤ x3 ∧ x3 < (Ln x0), (!(decide ((((gD x0 (tN x3) 0).toNat : Int) : Int) ≤ 122))) = true, ((x3 : Int) == 0) = false, (0 : Int) ≤ x3 ∧ x3 < (Ln x0), (decide ((((gD x0 (tN x3) 0).toNat : Int) : Int) < 48)) = false, (0 : Int) ≤ x3 ∧ x3 < (Ln x0), (decide ((((gD x0 (tN x3) 0).toNat : Int) : Int) > 57)) = false] := by kernel_rfl
theorem p118_2_4 (x0 : Str) (x3 : Int) : rS 2 I118 (xDc x0 x3) [Y, Y, F, F] [] = st 2 I118 (xDc x0 (W (x3 + 1))) [(decide ((x3 : Int) < (Ln x0 : Int))) = true, (0 : Int) ≤ x3 ∧ x3 < (Ln x0), (decide ((((gD x0 (tN x3) 0).toNat : Int) : Int) ≥ 97)) = true, (0 : Int) ≤ x3 ∧ x3 < (Ln x0), (!(decide ((((gD x0 (tN x3) 0).toNat : Int) : Int) ≤ 122))) = false, false = false] := by kernel_rfl
theorem p118_2_5 (x0 : Str) (x3 : Int) : rS 2 I118 (xDc x0 x3) [Y, F, Y, Y, Y, Y] [] = dn (xAO false) [(decide ((x3 : Int) < (Ln x0 : Int))) = true, (0 : Int) ≤ x3 ∧ x3 < (Ln x0), (decide ((((gD x0 (tN x3) 0).toNat : Int) : Int) ≥ 97)) = false, (!false) = true, ((x3 : Int) == 0) = true, true = true, true = true] := by kernel_rfl
theorem p118_2_6 (x0 : Str) (x3 : Int) : rS 2 I118 (xDc x0 x3) [Y, F, Y, F, Y, Y] [] = dn (xAO false) [(decide ((x3 : Int) < (Ln x0 : Int))) = true, (0 : Int) ≤ x3 ∧ x3 < (Ln x0), (decide ((((gD x0 (tN x3) 0).toNat : Int) : Int) ≥ 97)) = false, (!false) = true, ((x3 : Int) == 0) = false, (0 : Int) ≤ x3 ∧ x3 < (Ln x0), (decide ((((gD x0 (tN x3) 0).toNat : Int) : Int) < 48)) = true, true = true] := by kernel_rfl
theorem p118_2_7 (x0 : Str) (x3 : Int) : rS 2 I118 (xDc x0 x3) [Y, F, Y, F, F, Y] [] = dn (xAO false) [(decide ((x3 : Int) < (Ln x0 : Int))) = true, (0 : Int) ≤ x3 ∧ x3 < (Ln x0), (decide ((((gD x0 (tN x3) 0).toNat : Int) : Int) ≥ 97)) = false, (!false) = true, ((x3 : Int) == 0) = false, (0 : Int) ≤ x3 ∧ x3 < (Ln x0), (decide ((((gD x0 (tN x3) 0).toNat : Int) : Int) < 48)) = false, (0 : Int) ≤ x3 ∧ x3 < (Ln x0), (decide ((((gD x0 (tN x3) 0).toNat : Int) : Int) > 57)) = true] := by kernel_rfl
theorem p118_2_8 (x0 : Str) (x3 : Int) : rS 2 I118 (xDc x0 x3) [Y, F, Y, F, F, F] [] = st 2 I118 (xDc x0 (W (x3 + 1))) [(decide ((x3 : Int) < (Ln x0 : Int))) = true, (0 : Int) ≤ x3 ∧ x3 < (Ln x0), (decide ((((gD x0 (tN x3) 0).toNat : Int) : Int) ≥ 97)) = false, (!false) = true, ((x3 : Int) == 0) = false, (0 : Int) ≤ x3 ∧ x3 < (Ln x0), (decide ((((gD x0 (tN x3) 0).toNat : Int) : Int) < 48)) = false, (0 : Int) ≤ x3 ∧ x3 < (Ln x0), (decide ((((gD x0 (tN x3) 0).toNat : Int) : Int) > 57)) = false] := by kernel_rfl
theorem p118_2_9 (x0 : Str) (x3 : Int) (r1 : Bool) : rS 2 I118 (xDc x0 x3) [F] [xAq r1] = dn (xAO r1) [(decide ((x3 : Int) < (Ln x0 : Int))) = false, AbC 73 (xAU (Ln x0 : Int) 1 8) (xAq r1)] := by kernel_rfl
theorem p118_e_10 (a0 : Str) : rE I118 (xCu a0) [] [] = st 2 I118 (xDc a0 0) [] := by kernel_rfl
theorem c118_2 {N : Nat} : ∀ n x0 x3 r, xBu N n x0 x3 = some r → RS Tryd.f118 I118 2 (xDc x0 x3) (xAO r) := by
 intro n
 induction n with
 | zero => exact fun _ _ _ h => nE h
 | succ n ih =>
  exact fun x0 x3 r h =>
   cE h (fun h0 h => iE h fun h1 h => cE h (fun h2 h => cE h (fun h4 h => cE h (fun h5 h => dS h fk118 (p118_2_0 x0 x3) (oc h0 (oc h1 (oc h2 (oc h1 (oc h4 (oc h5 (oc rfl (oc rfl on))))))))) fun h5 h =>
   cE h (fun h7 h => dS h fk118 (p118_2_1 x0 x3) (oc h0 (oc h1 (oc h2 (oc h1 (oc h4 (oc h5 (oc h1 (oc h7 (oc rfl on)))))))))) fun h7 h =>
   cE h (fun h9 h => dS h fk118 (p118_2_2 x0 x3) (oc h0 (oc h1 (oc h2 (oc h1 (oc h4 (oc h5 (oc h1 (oc h7 (oc h1 (oc h9 on))))))))))) fun h9 h =>
   tS fk118 (p118_2_3 x0 x3) (oc h0 (oc h1 (oc h2 (oc h1 (oc h4 (oc h5 (oc h1 (oc h7 (oc h1 (oc h9 on)))))))))) (ih _ _ _ h)) fun h4 h =>
   tS fk118 (p118_2_4 x0 x3) (oc h0 (oc h1 (oc h2 (oc h1 (oc h4 (oc rfl on)))))) (ih _ _ _ h)) fun h2 h =>
   cE h (fun h4 h => dS h fk118 (p118_2_5 x0 x3) (oc h0 (oc h1 (oc h2 (oc rfl (oc h4 (oc rfl (oc rfl on)))))))) fun h4 h =>
   cE h (fun h6 h => dS h fk118 (p118_2_6 x0 x3) (oc h0 (oc h1 (oc h2 (oc rfl (oc h4 (oc h1 (oc h6 (oc rfl on))))))))) fun h6 h =>
   cE h (fun h8 h => dS h fk118 (p118_2_7 x0 x3) (oc h0 (oc h1 (oc h2 (oc rfl (oc h4 (oc h1 (oc h6 (oc h1 (oc h8 on)))))))))) fun h8 h =>
   tS fk118 (p118_2_8 x0 x3) (oc h0 (oc h1 (oc h2 (oc rfl (oc h4 (oc h1 (oc h6 (oc h1 (oc h8 on))))))))) (ih _ _ _ h)) fun h0 h =>
   bE h fun r1 h1 h => dS h fk118 (p118_2_9 x0 x3 r1) (oc h0 (oc (xBv h1) on))
theorem c118_e {N : Nat} : ∀ a0 r, xDH N a0 = some r → RE Tryd.f118 I118 (xCu a0) (xAO r) := fun a0 r h =>
 tE fk118 (p118_e_10 a0) on (c118_2 _ _ _ _ h)
theorem xEb {N : Nat} {a0 : Str} {r : Bool} (h : xDH N  a0 = some r) : AbC 118 (xCu a0) (xAO r) :=
 AbsCalls.of_reach fk118 rfl rfl (Nat.le_of_ble_eq_true rfl) (c118_e a0 r h)
noncomputable def I139 : Info := { body := (Tryd.f139.body).getD .skip, nt := 26, results := [.tmp 2], keep := [0, 4, 6, 8, 12, 24, 40, 48], live := [], modes := [] }
theorem xDE : FnOk Tryd.prog 139 Tryd.f139 I139 := ⟨Tryd.func139, by kernel_rfl, by kernel_rfl, by kernel_rfl, by kernel_rfl⟩
theorem p139_e_0 (a0 : Str) : rE I139 (xAd a0) [Y] [] = dn (xAb 0) [((a0 : Str) == [99, 108, 111, 99, 107]) = true] := by kernel_rfl
theorem p139_e_1 (a0 : Str) : rE I139 (xAd a0) [F, Y, Y] [] = dn (xAb 1) [((a0 : Str) == [99, 108, 111, 99, 107]) = false, ((a0 : Str) == [108, 101, 110]) = true, ((a0 : Str) == [108, 101, 110]) = true] := by kernel_rfl
theorem p139_e_2 (a0 : Str) : rE I139 (xAd a0) [F, F, Y, Y] [] = dn (xAb 1) [((a0 : Str) == [99, 108, 111, 99, 107]) = false, ((a0 : Str) == [108, 101, 110]) = false, ((a0 : Str) == [115, 117, 109]) = true, ((a0 : Str) == [115, 117, 109]) = true] := by kernel_rfl
theorem p139_e_3 (a0 : Str) : rE I139 (xAd a0) [F, F, F, Y, Y] [] = dn (xAb 1) [((a0 : Str) == [99, 108, 111, 99, 107]) = false, ((a0 : Str) == [108, 101, 110]) = false, ((a0 : Str) == [115, 117, 109]) = false, ((a0 : Str) == [114, 111, 119, 115]) = true, ((a0 : Str) == [114, 111, 119, 115]) = true] := by kernel_rfl
theorem p139_e_4 (a0 : Str) : rE I139 (xAd a0) [F, F, F, F, Y, Y] [] = dn (xAb 1) [((a0 : Str) == [99, 108, 111, 99, 107]) = false, ((a0 : Str) == [108, 101, 110]) = false, ((a0 : Str) == [115, 117, 109]) = false, ((a0 : Str) == [114, 111, 119, 115]) = false, ((a0 : Str) == [99, 104, 97, 110, 99, 101]) = true, ((a0 : Str) == [99, 104, 97, 110, 99, 101]) = true] := by kernel_rfl
theorem p139_e_5 (a0 : Str) : rE I139 (xAd a0) [F, F, F, F, F, Y] [] = dn (xAb 1) [((a0 : Str) == [99, 108, 111, 99, 107]) = false, ((a0 : Str) == [108, 101, 110]) = false, ((a0 : Str) == [115, 117, 109]) = false, ((a0 : Str) == [114, 111, 119, 115]) = false, ((a0 : Str) == [99, 104, 97, 110, 99, 101]) = false, ((a0 : Str) == [102, 105, 108, 101]) = true] := by kernel_rfl
theorem p139_e_6 (a0 : Str) : rE I139 (xAd a0) [F, F, F, F, F, F, Y, Y] [] = dn (xAb 2) [((a0 : Str) == [99, 108, 111, 99, 107]) = false, ((a0 : Str) == [108, 101, 110]) = false, ((a0 : Str) == [115, 117, 109]) = false, ((a0 : Str) == [114, 111, 119, 115]) = false, ((a0 : Str) == [99, 104, 97, 110, 99, 101]) = false, ((a0 : Str) == [102, 105, 108, 101]) = false, ((a0 : Str) == [116, 97, 107, 101]) = true, ((a0 : Str) == [116, 97, 107, 101]) = true] := by kernel_rfl
theorem p139_e_7 (a0 : Str) : rE I139 (xAd a0) [F, F, F, F, F, F, F, Y, Y] [] = dn (xAb 2) [((a0 : Str) == [99, 108, 111, 99, 107]) = false, ((a0 : Str) == [108, 101, 110]) = false, ((a0 : Str) == [115, 117, 109]) = false, ((a0 : Str) == [114, 111, 119, 115]) = false, ((a0 : Str) == [99, 104, 97, 110, 99, 101]) = false, ((a0 : Str) == [102, 105, 108, 101]) = false, ((a0 : Str) == [116, 97, 107, 101]) = false, ((a0 : Str) == [115, 107, 105, 112]) = true, ((a0 : Str) == [115, 107, 105, 112]) = true] := by kernel_rfl
theorem p139_e_8 (a0 : Str) : rE I139 (xAd a0) [F, F, F, F, F, F, F, F, Y, Y] [] = dn (xAb 2) [((a0 : Str) == [99, 108, 111, 99, 107]) = false, ((a0 : Str) == [108, 101, 110]) = false, ((a0 : Str) == [115, 117, 109]) = false, ((a0 : Str) == [114, 111, 119, 115]) = false, ((a0 : Str) == [99, 104, 97, 110, 99, 101]) = false, ((a0 : Str) == [102, 105, 108, 101]) = false, ((a0 : Str) == [116, 97, 107, 101]) = false, ((a0 : Str) == [115, 107, 105, 112]) = false, ((a0 : Str) == [114, 97, 110, 103, 101]) = true, ((a0 : Str) == [114, 97, 110, 103, 101]) = true] := by kernel_rfl
theorem p139_e_9 (a0 : Str) : rE I139 (xAd a0) [F, F, F, F, F, F, F, F, F, Y, Y] [] = dn (xAb 2) [((a0 : Str) == [99, 108, 111, 99, 107]) = false, ((a0 : Str) == [108, 101, 110]) = false, ((a0 : Str) == [115, 117, 109]) = false, ((a0 : Str) == [114, 111, 119, 115]) = false, ((a0 : Str) == [99, 104, 97, 110, 99, 101]) = false, ((a0 : Str) == [102, 105, 108, 101]) = false, ((a0 : Str) == [116, 97, 107, 101]) = false, ((a0 : Str) == [115, 107, 105, 112]) = false, ((a0 : Str) == [114, 97, 110, 103, 101]) = false, ((a0 : Str) == [110, 116, 104]) = true, ((a0 : Str) == [110, 116, 104]) = true] := by kernel_rfl
theorem p139_e_10 (a0 : Str) : rE I139 (xAd a0) [F, F, F, F, F, F, F, F, F, F, Y, Y] [] = dn (xAb 2) [((a0 : Str) == [99, 108, 111, 99, 107]) = false, ((a0 : Str) == [108, 101, 110]) = false, ((a0 : Str) == [115, 117, 109]) = false, ((a0 : Str) == [114, 111, 119, 115]) = false, ((a0 : Str) == [99, 104, 97, 110, 99, 101]) = false, ((a0 : Str) == [102, 105, 108, 101]) = false, ((a0 : Str) == [116, 97, 107, 101]) = false, ((a0 : Str) == [115, 107, 105, 112]) = false, ((a0 : Str) == [114, 97, 110, 103, 101]) = false, ((a0 : Str) == [110, 116, 104]) = false, ((a0 : Str) == [107, 101, 101, 112]) = true, ((a0 : Str) == [107, 101, 101, 112]) = true] := by kernel_rfl
theorem p139_e_11 (a0 : Str) : rE I139 (xAd a0) [F, F, F, F, F, F, F, F, F, F, F, Y, Y] [] = dn (xAb 2) [((a0 : Str) == [99, 108, 111, 99, 107]) = false, ((a0 : Str) == [108, 101, 110]) = false, ((a0 : Str) == [115, 117, 109]) = false, ((a0 : Str) == [114, 111, 119, 115]) = false, ((a0 : Str) == [99, 104, 97, 110, 99, 101]) = false, ((a0 : Str) == [102, 105, 108, 101]) = false, ((a0 : Str) == [116, 97, 107, 101]) = false, ((a0 : Str) == [115, 107, 105, 112]) = false, ((a0 : Str) == [114, 97, 110, 103, 101]) = false, ((a0 : Str) == [110, 116, 104]) = false, ((a0 : Str) == [107, 101, 101, 112]) = false, ((a0 : Str) == [99, 111, 108, 117, 109, 110]) = true, ((a0 : Str) == [99, 111, 108, 117, 109, 110]) = true] := by kernel_rfl
theorem p139_e_12 (a0 : Str) : rE I139 (xAd a0) [F, F, F, F, F, F, F, F, F, F, F, F, Y] [] = dn (xAb 2) [((a0 : Str) == [99, 108, 111, 99, 107]) = false, ((a0 : Str) == [108, 101, 110]) = false, ((a0 : Str) == [115, 117, 109]) = false, ((a0 : Str) == [114, 111, 119, 115]) = false, ((a0 : Str) == [99, 104, 97, 110, 99, 101]) = false, ((a0 : Str) == [102, 105, 108, 101]) = false, ((a0 : Str) == [116, 97, 107, 101]) = false, ((a0 : Str) == [115, 107, 105, 112]) = false, ((a0 : Str) == [114, 97, 110, 103, 101]) = false, ((a0 : Str) == [110, 116, 104]) = false, ((a0 : Str) == [107, 101, 101, 112]) = false, ((a0 : Str) == [99, 111, 108, 117, 109, 110]) = false, ((a0 : Str) == [116, 97, 98, 108, 101]) = true] := by kernel_rfl
theorem p139_e_13 (a0 : Str) : rE I139 (xAd a0) [F, F, F, F, F, F, F, F, F, F, F, F, F, Y, Y] [] = dn (xAb 3) [((a0 : Str) == [99, 108, 111, 99, 107]) = false, ((a0 : Str) == [108, 101, 110]) = false, ((a0 : Str) == [115, 117, 109]) = false, ((a0 : Str) == [114, 111, 119, 115]) = false, ((a0 : Str) == [99, 104, 97, 110, 99, 101]) = false, ((a0 : Str) == [102, 105, 108, 101]) = false, ((a0 : Str) == [116, 97, 107, 101]) = false, ((a0 : Str) == [115, 107, 105, 112]) = false, ((a0 : Str) == [114, 97, 110, 103, 101]) = false, ((a0 : Str) == [110, 116, 104]) = false, ((a0 : Str) == [107, 101, 101, 112]) = false, ((a0 : Str) == [99, 111, 108, 117, 109, 110]) = false, ((a0 : Str) == [116, 97, 98, 108, 101]) = false, ((a0 : Str) == [119, 104, 101, 114, 101]) = true, ((a0 : Str) == [119, 104, 101, 114, 101]) = true] := by kernel_rfl
theorem p139_e_14 (a0 : Str) : rE I139 (xAd a0) [F, F, F, F, F, F, F, F, F, F, F, F, F, F, Y, Y] [] = dn (xAb 3) [((a0 : Str) == [99, 108, 111, 99, 107]) = false, ((a0 : Str) == [108, 101, 110]) = false, ((a0 : Str) == [115, 117, 109]) = false, ((a0 : Str) == [114, 111, 119, 115]) = false, ((a0 : Str) == [99, 104, 97, 110, 99, 101]) = false, ((a0 : Str) == [102, 105, 108, 101]) = false, ((a0 : Str) == [116, 97, 107, 101]) = false, ((a0 : Str) == [115, 107, 105, 112]) = false, ((a0 : Str) == [114, 97, 110, 103, 101]) = false, ((a0 : Str) == [110, 116, 104]) = false, ((a0 : Str) == [107, 101, 101, 112]) = false, ((a0 : Str) == [99, 111, 108, 117, 109, 110]) = false, ((a0 : Str) == [116, 97, 98, 108, 101]) = false, ((a0 : Str) == [119, 104, 101, 114, 101]) = false, ((a0 : Str) == [103, 114, 111, 117, 112]) = true, ((a0 : Str) == [103, 114, 111, 117, 112]) = true] := by kernel_rfl
theorem p139_e_15 (a0 : Str) : rE I139 (xAd a0) [F, F, F, F, F, F, F, F, F, F, F, F, F, F, F, Y] [] = dn (xAb 3) [((a0 : Str) == [99, 108, 111, 99, 107]) = false, ((a0 : Str) == [108, 101, 110]) = false, ((a0 : Str) == [115, 117, 109]) = false, ((a0 : Str) == [114, 111, 119, 115]) = false, ((a0 : Str) == [99, 104, 97, 110, 99, 101]) = false, ((a0 : Str) == [102, 105, 108, 101]) = false, ((a0 : Str) == [116, 97, 107, 101]) = false, ((a0 : Str) == [115, 107, 105, 112]) = false, ((a0 : Str) == [114, 97, 110, 103, 101]) = false, ((a0 : Str) == [110, 116, 104]) = false, ((a0 : Str) == [107, 101, 101, 112]) = false, ((a0 : Str) == [99, 111, 108, 117, 109, 110]) = false, ((a0 : Str) == [116, 97, 98, 108, 101]) = false, ((a0 : Str) == [119, 104, 101, 114, 101]) = false, ((a0 : Str) == [103, 114, 111, 117, 112]) = false, ((a0 : Str) == [106, 111, 105, 110]) = true] := by kernel_rfl
theorem p139_e_16 (a0 : Str) : rE I139 (xAd a0) [F, F, F, F, F, F, F, F, F, F, F, F, F, F, F, F, Y] [] = dn (xAb 4) [((a0 : Str) == [99, 108, 111, 99, 107]) = false, ((a0 : Str) == [108, 101, 110]) = false, ((a0 : Str) == [115, 117, 109]) = false, ((a0 : Str) == [114, 111, 119, 115]) = false, ((a0 : Str) == [99, 104, 97, 110, 99, 101]) = false, ((a0 : Str) == [102, 105, 108, 101]) = false, ((a0 : Str) == [116, 97, 107, 101]) = false, ((a0 : Str) == [115, 107, 105, 112]) = false, ((a0 : Str) == [114, 97, 110, 103, 101]) = false, ((a0 : Str) == [110, 116, 104]) = false, ((a0 : Str) == [107, 101, 101, 112]) = false, ((a0 : Str) == [99, 111, 108, 117, 109, 110]) = false, ((a0 : Str) == [116, 97, 98, 108, 101]) = false, ((a0 : Str) == [119, 104, 101, 114, 101]) = false, ((a0 : Str) == [103, 114, 111, 117, 112]) = false, ((a0 : Str) == [106, 111, 105, 110]) = false, ((a0 : Str) == [97, 100, 100]) = true] := by kernel_rfl
theorem p139_e_17 (a0 : Str) : rE I139 (xAd a0) [F, F, F, F, F, F, F, F, F, F, F, F, F, F, F, F, F] [] = dn (xAb (-1)) [((a0 : Str) == [99, 108, 111, 99, 107]) = false, ((a0 : Str) == [108, 101, 110]) = false, ((a0 : Str) == [115, 117, 109]) = false, ((a0 : Str) == [114, 111, 119, 115]) = false, ((a0 : Str) == [99, 104, 97, 110, 99, 101]) = false, ((a0 : Str) == [102, 105, 108, 101]) = false, ((a0 : Str) == [116, 97, 107, 101]) = false, ((a0 : Str) == [115, 107, 105, 112]) = false, ((a0 : Str) == [114, 97, 110, 103, 101]) = false, ((a0 : Str) == [110, 116, 104]) = false, ((a0 : Str) == [107, 101, 101, 112]) = false, ((a0 : Str) == [99, 111, 108, 117, 109, 110]) = false, ((a0 : Str) == [116, 97, 98, 108, 101]) = false, ((a0 : Str) == [119, 104, 101, 114, 101]) = false, ((a0 : Str) == [103, 114, 111, 117, 112]) = false, ((a0 : Str) == [106, 111, 105, 110]) = false, ((a0 : Str) == [97, 100, 100]) = false] := by kernel_rfl
theorem c139_e {N : Nat} : ∀ a0 r, xBg N a0 = some r → RE Tryd.f139 I139 (xAd a0) (xAb r) := fun a0 r h =>
 cE h (fun h0 h => dE h xDE (p139_e_0 a0) (oc h0 on)) fun h0 h =>
 cE h (fun h1 h => dE h xDE (p139_e_1 a0) (oc h0 (oc h1 (oc h1 on)))) fun h1 h =>
 cE h (fun h2 h => dE h xDE (p139_e_2 a0) (oc h0 (oc h1 (oc h2 (oc h2 on))))) fun h2 h =>
 cE h (fun h3 h => dE h xDE (p139_e_3 a0) (oc h0 (oc h1 (oc h2 (oc h3 (oc h3 on)))))) fun h3 h =>
 cE h (fun h4 h => dE h xDE (p139_e_4 a0) (oc h0 (oc h1 (oc h2 (oc h3 (oc h4 (oc h4 on))))))) fun h4 h =>
 cE h (fun h5 h => dE h xDE (p139_e_5 a0) (oc h0 (oc h1 (oc h2 (oc h3 (oc h4 (oc h5 on))))))) fun h5 h =>
 cE h (fun h6 h => dE h xDE (p139_e_6 a0) (oc h0 (oc h1 (oc h2 (oc h3 (oc h4 (oc h5 (oc h6 (oc h6 on))))))))) fun h6 h =>
 cE h (fun h7 h => dE h xDE (p139_e_7 a0) (oc h0 (oc h1 (oc h2 (oc h3 (oc h4 (oc h5 (oc h6 (oc h7 (oc h7 on)))))))))) fun h7 h =>
 cE h (fun h8 h => dE h xDE (p139_e_8 a0) (oc h0 (oc h1 (oc h2 (oc h3 (oc h4 (oc h5 (oc h6 (oc h7 (oc h8 (oc h8 on))))))))))) fun h8 h =>
 cE h (fun h9 h => dE h xDE (p139_e_9 a0) (oc h0 (oc h1 (oc h2 (oc h3 (oc h4 (oc h5 (oc h6 (oc h7 (oc h8 (oc h9 (oc h9 on)))))))))))) fun h9 h =>
 cE h (fun h10 h => dE h xDE (p139_e_10 a0) (oc h0 (oc h1 (oc h2 (oc h3 (oc h4 (oc h5 (oc h6 (oc h7 (oc h8 (oc h9 (oc h10 (oc h10 on))))))))))))) fun h10 h =>
 cE h (fun h11 h => dE h xDE (p139_e_11 a0) (oc h0 (oc h1 (oc h2 (oc h3 (oc h4 (oc h5 (oc h6 (oc h7 (oc h8 (oc h9 (oc h10 (oc h11 (oc h11 on)))))))))))))) fun h11 h =>
 cE h (fun h12 h => dE h xDE (p139_e_12 a0) (oc h0 (oc h1 (oc h2 (oc h3 (oc h4 (oc h5 (oc h6 (oc h7 (oc h8 (oc h9 (oc h10 (oc h11 (oc h12 on)))))))))))))) fun h12 h =>
 cE h (fun h13 h => dE h xDE (p139_e_13 a0) (oc h0 (oc h1 (oc h2 (oc h3 (oc h4 (oc h5 (oc h6 (oc h7 (oc h8 (oc h9 (oc h10 (oc h11 (oc h12 (oc h13 (oc h13 on)))))))))))))))) fun h13 h =>
 cE h (fun h14 h => dE h xDE (p139_e_14 a0) (oc h0 (oc h1 (oc h2 (oc h3 (oc h4 (oc h5 (oc h6 (oc h7 (oc h8 (oc h9 (oc h10 (oc h11 (oc h12 (oc h13 (oc h14 (oc h14 on))))))))))))))))) fun h14 h =>
 cE h (fun h15 h => dE h xDE (p139_e_15 a0) (oc h0 (oc h1 (oc h2 (oc h3 (oc h4 (oc h5 (oc h6 (oc h7 (oc h8 (oc h9 (oc h10 (oc h11 (oc h12 (oc h13 (oc h14 (oc h15 on))))))))))))))))) fun h15 h =>
 cE h (fun h16 h => dE h xDE (p139_e_16 a0) (oc h0 (oc h1 (oc h2 (oc h3 (oc h4 (oc h5 (oc h6 (oc h7 (oc h8 (oc h9 (oc h10 (oc h11 (oc h12 (oc h13 (oc h14 (oc h15 (oc h16 on)))))))))))))))))) fun h16 h =>
 dE h xDE (p139_e_17 a0) (oc h0 (oc h1 (oc h2 (oc h3 (oc h4 (oc h5 (oc h6 (oc h7 (oc h8 (oc h9 (oc h10 (oc h11 (oc h12 (oc h13 (oc h14 (oc h15 (oc h16 on)))))))))))))))))
theorem xC1 {N : Nat} {a0 : Str} {r : Int} (h : xBg N  a0 = some r) : AbC 139 (xAd a0) (xAb r) :=
 AbsCalls.of_reach xDE rfl rfl (Nat.le_of_ble_eq_true rfl) (c139_e a0 r h)
end Go.Ab.T
end
section
open Go.Proofs
namespace Go.Ab.T
set_option linter.unusedVariables false
set_option maxRecDepth 100000
variable [Inhabited Lb]
variable [Nonempty Tab10]
noncomputable def I119 : Info := { body := (Tryd.f119.body).getD .skip, nt := 15, results := [.tmp 2], keep := [0, 4, 6, 8], live := [], modes := [] }
theorem fk119 : FnOk Tryd.prog 119 Tryd.f119 I119 := ⟨Tryd.func119, by kernel_rfl, by kernel_rfl, by kernel_rfl, by kernel_rfl⟩
theorem p119_e_0 (a0 : Str) : rE I119 (xAJ a0) [Y, Y] [] = dn (xAz true) [((a0 : Str) == [108, 101, 116]) = true, ((a0 : Str) == [108, 101, 116]) = true] := by kernel_rfl
theorem p119_e_1 (a0 : Str) : rE I119 (xAJ a0) [F, Y, Y] [] = dn (xAz true) [((a0 : Str) == [108, 101, 116]) = false, ((a0 : Str) == [105, 110]) = true, ((a0 : Str) == [105, 110]) = true] := by kernel_rfl
theorem p119_e_2 (a0 : Str) : rE I119 (xAJ a0) [F, F, Y, Y] [] = dn (xAz true) [((a0 : Str) == [108, 101, 116]) = false, ((a0 : Str) == [105, 110]) = false, ((a0 : Str) == [105, 102]) = true, ((a0 : Str) == [105, 102]) = true] := by kernel_rfl
theorem p119_e_3 (a0 : Str) : rE I119 (xAJ a0) [F, F, F, Y, Y] [] = dn (xAz true) [((a0 : Str) == [108, 101, 116]) = false, ((a0 : Str) == [105, 110]) = false, ((a0 : Str) == [105, 102]) = false, ((a0 : Str) == [116, 104, 101, 110]) = true, ((a0 : Str) == [116, 104, 101, 110]) = true] := by kernel_rfl
theorem p119_e_4 (a0 : Str) : rE I119 (xAJ a0) [F, F, F, F, Y, Y] [] = dn (xAz true) [((a0 : Str) == [108, 101, 116]) = false, ((a0 : Str) == [105, 110]) = false, ((a0 : Str) == [105, 102]) = false, ((a0 : Str) == [116, 104, 101, 110]) = false, ((a0 : Str) == [101, 108, 115, 101]) = true, ((a0 : Str) == [101, 108, 115, 101]) = true] := by kernel_rfl
theorem p119_e_5 (a0 : Str) : rE I119 (xAJ a0) [F, F, F, F, F, Y, Y] [] = dn (xAz true) [((a0 : Str) == [108, 101, 116]) = false, ((a0 : Str) == [105, 110]) = false, ((a0 : Str) == [105, 102]) = false, ((a0 : Str) == [116, 104, 101, 110]) = false, ((a0 : Str) == [101, 108, 115, 101]) = false, ((a0 : Str) == [102, 111, 114]) = true, ((a0 : Str) == [102, 111, 114]) = true] := by kernel_rfl
theorem p119_e_6 (a0 : Str) : rE I119 (xAJ a0) [F, F, F, F, F, F, Y] [] = dn (xAz true) [((a0 : Str) == [108, 101, 116]) = false, ((a0 : Str) == [105, 110]) = false, ((a0 : Str) == [105, 102]) = false, ((a0 : Str) == [116, 104, 101, 110]) = false, ((a0 : Str) == [101, 108, 115, 101]) = false, ((a0 : Str) == [102, 111, 114]) = false, ((a0 : Str) == [100, 111]) = true] := by kernel_rfl
theorem p119_e_7 (a0 : Str) (r1 : Int) : rE I119 (xAJ a0) [F, F, F, F, F, F, F] [xAb r1] = dn (xAz (decide ((r1 : Int) ≥ 0))) [((a0 : Str) == [108, 101, 116]) = false, ((a0 : Str) == [105, 110]) = false, ((a0 : Str) == [105, 102]) = false, ((a0 : Str) == [116, 104, 101, 110]) = false, ((a0 : Str) == [101, 108, 115, 101]) = false, ((a0 : Str) == [102, 111, 114]) = false, ((a0 : Str) == [100, 111]) = false, AbC 139 (xAd a0) (xAb r1)] := by kernel_rfl
theorem c119_e {N : Nat} : ∀ a0 r, xCk N a0 = some r → RE Tryd.f119 I119 (xAJ a0) (xAz r) := fun a0 r h =>
 cE h (fun h0 h => dE h fk119 (p119_e_0 a0) (oc h0 (oc h0 on))) fun h0 h =>
 cE h (fun h1 h => dE h fk119 (p119_e_1 a0) (oc h0 (oc h1 (oc h1 on)))) fun h1 h =>
 cE h (fun h2 h => dE h fk119 (p119_e_2 a0) (oc h0 (oc h1 (oc h2 (oc h2 on))))) fun h2 h =>
 cE h (fun h3 h => dE h fk119 (p119_e_3 a0) (oc h0 (oc h1 (oc h2 (oc h3 (oc h3 on)))))) fun h3 h =>
 cE h (fun h4 h => dE h fk119 (p119_e_4 a0) (oc h0 (oc h1 (oc h2 (oc h3 (oc h4 (oc h4 on))))))) fun h4 h =>
 cE h (fun h5 h => dE h fk119 (p119_e_5 a0) (oc h0 (oc h1 (oc h2 (oc h3 (oc h4 (oc h5 (oc h5 on)))))))) fun h5 h =>
 cE h (fun h6 h => dE h fk119 (p119_e_6 a0) (oc h0 (oc h1 (oc h2 (oc h3 (oc h4 (oc h5 (oc h6 on)))))))) fun h6 h =>
 bE h fun r1 h7 h => dE h fk119 (p119_e_7 a0 r1) (oc h0 (oc h1 (oc h2 (oc h3 (oc h4 (oc h5 (oc h6 (oc (xC1 h7) on))))))))
theorem impl_IsReserved_ok {N : Nat} {a0 : Str} {r : Bool} (h : xCk N  a0 = some r) : AbC 119 (xAJ a0) (xAz r) :=
 AbsCalls.of_reach fk119 rfl rfl (Nat.le_of_ble_eq_true rfl) (c119_e a0 r h)
noncomputable def I72 : Info := { body := (Tryd.f72.body).getD .skip, nt := 10, results := [.tmp 2], keep := [0, 4], live := [], modes := [(1, [(2, .take, false)])] }
theorem fk72 : FnOk Tryd.prog 72 Tryd.f72 I72 := ⟨Tryd.func72, by kernel_rfl, by kernel_rfl, by kernel_rfl, by kernel_rfl⟩
theorem p72_e_0 (a0 : Str) (r1 r2 : Bool) : rE I72 (xAK a0) [Y] [xAO r1, xAz r2] = dn (xAo (!r2)) [AbC 118 (xCu a0) (xAO r1), r1 = true, AbC 119 (xAJ a0) (xAz r2)] := by kernel_rfl
theorem p72_e_1 (a0 : Str) (r1 : Bool) : rE I72 (xAK a0) [F] [xAO r1] = dn (xAo false) [AbC 118 (xCu a0) (xAO r1), r1 = false] := by kernel_rfl
theorem c72_e {N : Nat} : ∀ a0 r, xBy N a0 = some r → RE Tryd.f72 I72 (xAK a0) (xAo r) := fun a0 r h =>
 bE h fun r1 h0 h => cE h (fun h1 h => bE h fun r2 h2 h => dE h fk72 (p72_e_0 a0 r1 r2) (oc (xEb h0) (oc h1 (oc (impl_IsReserved_ok h2) on)))) fun h1 h =>
 dE h fk72 (p72_e_1 a0 r1) (oc (xEb h0) (oc h1 on))
theorem xBs {N : Nat} {a0 : Str} {r : Bool} (h : xBy N  a0 = some r) : AbC 72 (xAK a0) (xAo r) :=
 AbsCalls.of_reach fk72 rfl rfl (Nat.le_of_ble_eq_true rfl) (c72_e a0 r h)
noncomputable def I124 : Info := { body := (Tryd.f124.body).getD .skip, nt := 120, results := [.tmp 2], keep := [0, 2, 4, 6, 16, 18, 46, 74, 102, 130, 154, 182, 212, 3], live := [], modes := [(4, [(3, .take, false), (8, .take, false)]), (6, [(3, .take, false), (8, .take, false)]), (8, [(3, .take, false), (8, .take, false)]), (10, [(3, .take, false), (8, .take, false)]), (12, [(3, .take, false)]), (14, [(3, .take, false), (8, .take, false)]), (17, [(3, .take, false), (8, .take, false)]), (19, [(3, .take, false), (8, .take, false)])] }
theorem xCU : FnOk Tryd.prog 124 Tryd.f124 I124 := ⟨Tryd.func124, by kernel_rfl, by kernel_rfl, by kernel_rfl, by kernel_rfl⟩
theorem p124_e_0 (a0 : Exp) (r1 : Bool) : rE I124 (xAl a0) [Y, Y, Y] [xAq r1] = dn (xAk (((Ln (Exp.args a0) : Int) : Int) == 0)) [(((Exp.kind a0) : Int) == 1) = true, AbC 73 (xAU (Exp.n a0) 0 1000000000) (xAq r1), r1 = true, (((Exp.text a0) : Str) == []) = true] := by kernel_rfl
theorem p124_e_1 (a0 : Exp) (r1 : Bool) : rE I124 (xAl a0) [Y, Y, F] [xAq r1] = dn (xAk false) [(((Exp.kind a0) : Int) == 1) = true, AbC 73 (xAU (Exp.n a0) 0 1000000000) (xAq r1), r1 = true, (((Exp.text a0) : Str) == []) = false] := by kernel_rfl
theorem p124_e_2 (a0 : Exp) (r1 : Bool) : rE I124 (xAl a0) [Y, F, F] [xAq r1] = dn (xAk false) [(((Exp.kind a0) : Int) == 1) = true, AbC 73 (xAU (Exp.n a0) 0 1000000000) (xAq r1), r1 = false, false = false] := by kernel_rfl
theorem p124_e_3 (a0 : Exp) (r1 : Bool) : rE I124 (xAl a0) [F, Y, Y, Y] [xAA r1] = dn (xAk (((Ln (Exp.args a0) : Int) : Int) == 0)) [(((Exp.kind a0) : Int) == 1) = false, (((Exp.kind a0) : Int) == 2) = true, (((Exp.n a0) : Int) == 0) = true, AbC 106 (xBI (Exp.text a0)) (xAA r1), r1 = true] := by kernel_rfl
theorem p124_e_4 (a0 : Exp) (r1 : Bool) : rE I124 (xAl a0) [F, Y, Y, F] [xAA r1] = dn (xAk false) [(((Exp.kind a0) : Int) == 1) = false, (((Exp.kind a0) : Int) == 2) = true, (((Exp.n a0) : Int) == 0) = true, AbC 106 (xBI (Exp.text a0)) (xAA r1), r1 = false] := by kernel_rfl
theorem p124_e_5 (a0 : Exp) : rE I124 (xAl a0) [F, Y, F, F] [] = dn (xAk false) [(((Exp.kind a0) : Int) == 1) = false, (((Exp.kind a0) : Int) == 2) = true, (((Exp.n a0) : Int) == 0) = false, false = false] := by kernel_rfl
theorem p124_e_6 (a0 : Exp) (r1 : Bool) : rE I124 (xAl a0) [F, F, Y, Y, Y] [xAo r1] = dn (xAk (((Ln (Exp.args a0) : Int) : Int) == 0)) [(((Exp.kind a0) : Int) == 1) = false, (((Exp.kind a0) : Int) == 2) = false, (((Exp.kind a0) : Int) == 3) = true, (((Exp.n a0) : Int) == 0) = true, AbC 72 (xAK (Exp.text a0)) (xAo r1), r1 = true] := by kernel_rfl
theorem p124_e_7 (a0 : Exp) (r1 : Bool) : rE I124 (xAl a0) [F, F, Y, Y, F] [xAo r1] = dn (xAk false) [(((Exp.kind a0) : Int) == 1) = false, (((Exp.kind a0) : Int) == 2) = false, (((Exp.kind a0) : Int) == 3) = true, (((Exp.n a0) : Int) == 0) = true, AbC 72 (xAK (Exp.text a0)) (xAo r1), r1 = false] := by kernel_rfl
theorem p124_e_8 (a0 : Exp) : rE I124 (xAl a0) [F, F, Y, F, F] [] = dn (xAk false) [(((Exp.kind a0) : Int) == 1) = false, (((Exp.kind a0) : Int) == 2) = false, (((Exp.kind a0) : Int) == 3) = true, (((Exp.n a0) : Int) == 0) = false, false = false] := by kernel_rfl
theorem p124_e_9 (a0 : Exp) : rE I124 (xAl a0) [F, F, F, Y, Y, Y] [] = dn (xAk (decide (((Ln (Exp.args a0) : Int) : Int) ≤ 8))) [(((Exp.kind a0) : Int) == 1) = false, (((Exp.kind a0) : Int) == 2) = false, (((Exp.kind a0) : Int) == 3) = false, (((Exp.kind a0) : Int) == 4) = true, (((Exp.n a0) : Int) == 0) = true, (((Exp.text a0) : Str) == []) = true] := by kernel_rfl
theorem p124_e_10 (a0 : Exp) : rE I124 (xAl a0) [F, F, F, Y, Y, F] [] = dn (xAk false) [(((Exp.kind a0) : Int) == 1) = false, (((Exp.kind a0) : Int) == 2) = false, (((Exp.kind a0) : Int) == 3) = false, (((Exp.kind a0) : Int) == 4) = true, (((Exp.n a0) : Int) == 0) = true, (((Exp.text a0) : Str) == []) = false] := by kernel_rfl
theorem p124_e_11 (a0 : Exp) : rE I124 (xAl a0) [F, F, F, Y, F, F] [] = dn (xAk false) [(((Exp.kind a0) : Int) == 1) = false, (((Exp.kind a0) : Int) == 2) = false, (((Exp.kind a0) : Int) == 3) = false, (((Exp.kind a0) : Int) == 4) = true, (((Exp.n a0) : Int) == 0) = false, false = false] := by kernel_rfl
theorem p124_e_12 (a0 : Exp) (r1 : Int) : rE I124 (xAl a0) [F, F, F, F, Y, Y] [xAb r1] = dn (xAk (((Ln (Exp.args a0) : Int) : Int) == r1)) [(((Exp.kind a0) : Int) == 1) = false, (((Exp.kind a0) : Int) == 2) = false, (((Exp.kind a0) : Int) == 3) = false, (((Exp.kind a0) : Int) == 4) = false, (((Exp.kind a0) : Int) == 5) = true, (((Exp.n a0) : Int) == 0) = true, AbC 139 (xAd (Exp.text a0)) (xAb r1)] := by kernel_rfl
theorem p124_e_13 (a0 : Exp) : rE I124 (xAl a0) [F, F, F, F, Y, F] [] = dn (xAk false) [(((Exp.kind a0) : Int) == 1) = false, (((Exp.kind a0) : Int) == 2) = false, (((Exp.kind a0) : Int) == 3) = false, (((Exp.kind a0) : Int) == 4) = false, (((Exp.kind a0) : Int) == 5) = true, (((Exp.n a0) : Int) == 0) = false] := by kernel_rfl
theorem p124_e_14 (a0 : Exp) (r1 : Bool) : rE I124 (xAl a0) [F, F, F, F, F, Y, Y, Y] [xAq r1] = dn (xAk (((Ln (Exp.args a0) : Int) : Int) == 2)) [(((Exp.kind a0) : Int) == 1) = false, (((Exp.kind a0) : Int) == 2) = false, (((Exp.kind a0) : Int) == 3) = false, (((Exp.kind a0) : Int) == 4) = false, (((Exp.kind a0) : Int) == 5) = false, (((Exp.kind a0) : Int) == 6) = true, AbC 73 (xAU (Exp.n a0) 1 5) (xAq r1), r1 = true, (((Exp.text a0) : Str) == []) = true] := by kernel_rfl
theorem p124_e_15 (a0 : Exp) (r1 : Bool) : rE I124 (xAl a0) [F, F, F, F, F, Y, Y, F] [xAq r1] = dn (xAk false) [(((Exp.kind a0) : Int) == 1) = false, (((Exp.kind a0) : Int) == 2) = false, (((Exp.kind a0) : Int) == 3) = false, (((Exp.kind a0) : Int) == 4) = false, (((Exp.kind a0) : Int) == 5) = false, (((Exp.kind a0) : Int) == 6) = true, AbC 73 (xAU (Exp.n a0) 1 5) (xAq r1), r1 = true, (((Exp.text a0) : Str) == []) = false] := by kernel_rfl
theorem p124_e_16 (a0 : Exp) (r1 : Bool) : rE I124 (xAl a0) [F, F, F, F, F, Y, F, F] [xAq r1] = dn (xAk false) [(((Exp.kind a0) : Int) == 1) = false, (((Exp.kind a0) : Int) == 2) = false, (((Exp.kind a0) : Int) == 3) = false, (((Exp.kind a0) : Int) == 4) = false, (((Exp.kind a0) : Int) == 5) = false, (((Exp.kind a0) : Int) == 6) = true, AbC 73 (xAU (Exp.n a0) 1 5) (xAq r1), r1 = false, false = false] := by kernel_rfl
theorem p124_e_17 (a0 : Exp) (r1 : Bool) : rE I124 (xAl a0) [F, F, F, F, F, F, Y, Y, Y, Y] [xAo r1] = dn (xAk (((Ln (Exp.args a0) : Int) : Int) == 2)) [(((Exp.kind a0) : Int) == 1) = false, (((Exp.kind a0) : Int) == 2) = false, (((Exp.kind a0) : Int) == 3) = false, (((Exp.kind a0) : Int) == 4) = false, (((Exp.kind a0) : Int) == 5) = false, (((Exp.kind a0) : Int) == 6) = false, (((Exp.kind a0) : Int) == 7) = true, (((Exp.kind a0) : Int) == 7) = true, (((Exp.n a0) : Int) == 0) = true, AbC 72 (xAK (Exp.text a0)) (xAo r1), r1 = true] := by kernel_rfl
theorem p124_e_18 (a0 : Exp) (r1 : Bool) : rE I124 (xAl a0) [F, F, F, F, F, F, Y, Y, Y, F] [xAo r1] = dn (xAk false) [(((Exp.kind a0) : Int) == 1) = false, (((Exp.kind a0) : Int) == 2) = false, (((Exp.kind a0) : Int) == 3) = false, (((Exp.kind a0) : Int) == 4) = false, (((Exp.kind a0) : Int) == 5) = false, (((Exp.kind a0) : Int) == 6) = false, (((Exp.kind a0) : Int) == 7) = true, (((Exp.kind a0) : Int) == 7) = true, (((Exp.n a0) : Int) == 0) = true, AbC 72 (xAK (Exp.text a0)) (xAo r1), r1 = false] := by kernel_rfl
theorem p124_e_19 (a0 : Exp) : rE I124 (xAl a0) [F, F, F, F, F, F, Y, Y, F, F] [] = dn (xAk false) [(((Exp.kind a0) : Int) == 1) = false, (((Exp.kind a0) : Int) == 2) = false, (((Exp.kind a0) : Int) == 3) = false, (((Exp.kind a0) : Int) == 4) = false, (((Exp.kind a0) : Int) == 5) = false, (((Exp.kind a0) : Int) == 6) = false, (((Exp.kind a0) : Int) == 7) = true, (((Exp.kind a0) : Int) == 7) = true, (((Exp.n a0) : Int) == 0) = false, false = false] := by kernel_rfl
theorem p124_e_20 (a0 : Exp) (r1 : Bool) : rE I124 (xAl a0) [F, F, F, F, F, F, F, Y, Y, Y] [xAo r1] = dn (xAk (((Ln (Exp.args a0) : Int) : Int) == 2)) [(((Exp.kind a0) : Int) == 1) = false, (((Exp.kind a0) : Int) == 2) = false, (((Exp.kind a0) : Int) == 3) = false, (((Exp.kind a0) : Int) == 4) = false, (((Exp.kind a0) : Int) == 5) = false, (((Exp.kind a0) : Int) == 6) = false, (((Exp.kind a0) : Int) == 7) = false, (((Exp.kind a0) : Int) == 9) = true, (((Exp.n a0) : Int) == 0) = true, AbC 72 (xAK (Exp.text a0)) (xAo r1), r1 = true] := by kernel_rfl
theorem p124_e_21 (a0 : Exp) (r1 : Bool) : rE I124 (xAl a0) [F, F, F, F, F, F, F, Y, Y, F] [xAo r1] = dn (xAk false) [(((Exp.kind a0) : Int) == 1) = false, (((Exp.kind a0) : Int) == 2) = false, (((Exp.kind a0) : Int) == 3) = false, (((Exp.kind a0) : Int) == 4) = false, (((Exp.kind a0) : Int) == 5) = false, (((Exp.kind a0) : Int) == 6) = false, (((Exp.kind a0) : Int) == 7) = false, (((Exp.kind a0) : Int) == 9) = true, (((Exp.n a0) : Int) == 0) = true, AbC 72 (xAK (Exp.text a0)) (xAo r1), r1 = false] := by kernel_rfl
theorem p124_e_22 (a0 : Exp) : rE I124 (xAl a0) [F, F, F, F, F, F, F, Y, F, F] [] = dn (xAk false) [(((Exp.kind a0) : Int) == 1) = false, (((Exp.kind a0) : Int) == 2) = false, (((Exp.kind a0) : Int) == 3) = false, (((Exp.kind a0) : Int) == 4) = false, (((Exp.kind a0) : Int) == 5) = false, (((Exp.kind a0) : Int) == 6) = false, (((Exp.kind a0) : Int) == 7) = false, (((Exp.kind a0) : Int) == 9) = true, (((Exp.n a0) : Int) == 0) = false, false = false] := by kernel_rfl
theorem p124_e_23 (a0 : Exp) : rE I124 (xAl a0) [F, F, F, F, F, F, F, F, Y, Y, Y] [] = dn (xAk (((Ln (Exp.args a0) : Int) : Int) == 3)) [(((Exp.kind a0) : Int) == 1) = false, (((Exp.kind a0) : Int) == 2) = false, (((Exp.kind a0) : Int) == 3) = false, (((Exp.kind a0) : Int) == 4) = false, (((Exp.kind a0) : Int) == 5) = false, (((Exp.kind a0) : Int) == 6) = false, (((Exp.kind a0) : Int) == 7) = false, (((Exp.kind a0) : Int) == 9) = false, (((Exp.kind a0) : Int) == 8) = true, (((Exp.n a0) : Int) == 0) = true, (((Exp.text a0) : Str) == []) = true] := by kernel_rfl
theorem p124_e_24 (a0 : Exp) : rE I124 (xAl a0) [F, F, F, F, F, F, F, F, Y, Y, F] [] = dn (xAk false) [(((Exp.kind a0) : Int) == 1) = false, (((Exp.kind a0) : Int) == 2) = false, (((Exp.kind a0) : Int) == 3) = false, (((Exp.kind a0) : Int) == 4) = false, (((Exp.kind a0) : Int) == 5) = false, (((Exp.kind a0) : Int) == 6) = false, (((Exp.kind a0) : Int) == 7) = false, (((Exp.kind a0) : Int) == 9) = false, (((Exp.kind a0) : Int) == 8) = true, (((Exp.n a0) : Int) == 0) = true, (((Exp.text a0) : Str) == []) = false] := by kernel_rfl
theorem p124_e_25 (a0 : Exp) : rE I124 (xAl a0) [F, F, F, F, F, F, F, F, Y, F, F] [] = dn (xAk false) [(((Exp.kind a0) : Int) == 1) = false, (((Exp.kind a0) : Int) == 2) = false, (((Exp.kind a0) : Int) == 3) = false, (((Exp.kind a0) : Int) == 4) = false, (((Exp.kind a0) : Int) == 5) = false, (((Exp.kind a0) : Int) == 6) = false, (((Exp.kind a0) : Int) == 7) = false, (((Exp.kind a0) : Int) == 9) = false, (((Exp.kind a0) : Int) == 8) = true, (((Exp.n a0) : Int) == 0) = false, false = false] := by kernel_rfl
theorem p124_e_26 (a0 : Exp) : rE I124 (xAl a0) [F, F, F, F, F, F, F, F, F] [] = dn (xAk false) [(((Exp.kind a0) : Int) == 1) = false, (((Exp.kind a0) : Int) == 2) = false, (((Exp.kind a0) : Int) == 3) = false, (((Exp.kind a0) : Int) == 4) = false, (((Exp.kind a0) : Int) == 5) = false, (((Exp.kind a0) : Int) == 6) = false, (((Exp.kind a0) : Int) == 7) = false, (((Exp.kind a0) : Int) == 9) = false, (((Exp.kind a0) : Int) == 8) = false] := by kernel_rfl
theorem c124_e {N : Nat} : ∀ a0 r, xDf N a0 = some r → RE Tryd.f124 I124 (xAl a0) (xAk r) := fun a0 r h =>
 cE h (fun h0 h => bE h fun r1 h1 h => cE h (fun h2 h => cE h (fun h3 h => dE h xCU (p124_e_0 a0 r1) (oc h0 (oc (xBv h1) (oc h2 (oc h3 on))))) fun h3 h =>
 dE h xCU (p124_e_1 a0 r1) (oc h0 (oc (xBv h1) (oc h2 (oc h3 on))))) fun h2 h =>
 dE h xCU (p124_e_2 a0 r1) (oc h0 (oc (xBv h1) (oc h2 (oc rfl on))))) fun h0 h =>
 cE h (fun h1 h => cE h (fun h2 h => bE h fun r1 h3 h => cE h (fun h4 h => dE h xCU (p124_e_3 a0 r1) (oc h0 (oc h1 (oc h2 (oc (xDe h3) (oc h4 on)))))) fun h4 h =>
 dE h xCU (p124_e_4 a0 r1) (oc h0 (oc h1 (oc h2 (oc (xDe h3) (oc h4 on)))))) fun h2 h =>
 dE h xCU (p124_e_5 a0) (oc h0 (oc h1 (oc h2 (oc rfl on))))) fun h1 h =>
 cE h (fun h2 h => cE h (fun h3 h => bE h fun r1 h4 h => cE h (fun h5 h => dE h xCU (p124_e_6 a0 r1) (oc h0 (oc h1 (oc h2 (oc h3 (oc (xBs h4) (oc h5 on))))))) fun h5 h =>
 dE h xCU (p124_e_7 a0 r1) (oc h0 (oc h1 (oc h2 (oc h3 (oc (xBs h4) (oc h5 on))))))) fun h3 h =>
 dE h xCU (p124_e_8 a0) (oc h0 (oc h1 (oc h2 (oc h3 (oc rfl on)))))) fun h2 h =>
 cE h (fun h3 h => cE h (fun h4 h => cE h (fun h5 h => dE h xCU (p124_e_9 a0) (oc h0 (oc h1 (oc h2 (oc h3 (oc h4 (oc h5 on))))))) fun h5 h =>
 dE h xCU (p124_e_10 a0) (oc h0 (oc h1 (oc h2 (oc h3 (oc h4 (oc h5 on))))))) fun h4 h =>
 dE h xCU (p124_e_11 a0) (oc h0 (oc h1 (oc h2 (oc h3 (oc h4 (oc rfl on))))))) fun h3 h =>
 cE h (fun h4 h => cE h (fun h5 h => bE h fun r1 h6 h => dE h xCU (p124_e_12 a0 r1) (oc h0 (oc h1 (oc h2 (oc h3 (oc h4 (oc h5 (oc (xC1 h6) on)))))))) fun h5 h =>
 dE h xCU (p124_e_13 a0) (oc h0 (oc h1 (oc h2 (oc h3 (oc h4 (oc h5 on))))))) fun h4 h =>
 cE h (fun h5 h => bE h fun r1 h6 h => cE h (fun h7 h => cE h (fun h8 h => dE h xCU (p124_e_14 a0 r1) (oc h0 (oc h1 (oc h2 (oc h3 (oc h4 (oc h5 (oc (xBv h6) (oc h7 (oc h8 on)))))))))) fun h8 h =>
 dE h xCU (p124_e_15 a0 r1) (oc h0 (oc h1 (oc h2 (oc h3 (oc h4 (oc h5 (oc (xBv h6) (oc h7 (oc h8 on)))))))))) fun h7 h =>
 dE h xCU (p124_e_16 a0 r1) (oc h0 (oc h1 (oc h2 (oc h3 (oc h4 (oc h5 (oc (xBv h6) (oc h7 (oc rfl on)))))))))) fun h5 h =>
 cE h (fun h6 h => cE h (fun h8 h => bE h fun r1 h9 h => cE h (fun h10 h => dE h xCU (p124_e_17 a0 r1) (oc h0 (oc h1 (oc h2 (oc h3 (oc h4 (oc h5 (oc h6 (oc h6 (oc h8 (oc (xBs h9) (oc h10 on)))))))))))) fun h10 h =>
 dE h xCU (p124_e_18 a0 r1) (oc h0 (oc h1 (oc h2 (oc h3 (oc h4 (oc h5 (oc h6 (oc h6 (oc h8 (oc (xBs h9) (oc h10 on)))))))))))) fun h8 h =>
 dE h xCU (p124_e_19 a0) (oc h0 (oc h1 (oc h2 (oc h3 (oc h4 (oc h5 (oc h6 (oc h6 (oc h8 (oc rfl on))))))))))) fun h6 h =>
 cE h (fun h7 h => cE h (fun h8 h => bE h fun r1 h9 h => cE h (fun h10 h => dE h xCU (p124_e_20 a0 r1) (oc h0 (oc h1 (oc h2 (oc h3 (oc h4 (oc h5 (oc h6 (oc h7 (oc h8 (oc (xBs h9) (oc h10 on)))))))))))) fun h10 h =>
 dE h xCU (p124_e_21 a0 r1) (oc h0 (oc h1 (oc h2 (oc h3 (oc h4 (oc h5 (oc h6 (oc h7 (oc h8 (oc (xBs h9) (oc h10 on)))))))))))) fun h8 h =>
 dE h xCU (p124_e_22 a0) (oc h0 (oc h1 (oc h2 (oc h3 (oc h4 (oc h5 (oc h6 (oc h7 (oc h8 (oc rfl on))))))))))) fun h7 h =>
 cE h (fun h8 h => cE h (fun h9 h => cE h (fun h10 h => dE h xCU (p124_e_23 a0) (oc h0 (oc h1 (oc h2 (oc h3 (oc h4 (oc h5 (oc h6 (oc h7 (oc h8 (oc h9 (oc h10 on)))))))))))) fun h10 h =>
 dE h xCU (p124_e_24 a0) (oc h0 (oc h1 (oc h2 (oc h3 (oc h4 (oc h5 (oc h6 (oc h7 (oc h8 (oc h9 (oc h10 on)))))))))))) fun h9 h =>
 dE h xCU (p124_e_25 a0) (oc h0 (oc h1 (oc h2 (oc h3 (oc h4 (oc h5 (oc h6 (oc h7 (oc h8 (oc h9 (oc rfl on)))))))))))) fun h8 h =>
 dE h xCU (p124_e_26 a0) (oc h0 (oc h1 (oc h2 (oc h3 (oc h4 (oc h5 (oc h6 (oc h7 (oc h8 on)))))))))
theorem impl_isNode_ok {N : Nat} {a0 : Exp} {r : Bool} (h : xDf N  a0 = some r) : AbC 124 (xAl a0) (xAk r) :=
 AbsCalls.of_reach xCU rfl rfl (Nat.le_of_ble_eq_true rfl) (c124_e a0 r h)
def G93 (q : Exp → Option (Bool)) : Prop := ∀ a0 r, q a0 = some r → AbC 93 (xBo a0) (xAF r)
noncomputable def I93 : Info := { body := (Tryd.f93.body).getD .skip, nt := 18, results := [.tmp 2], keep := [0, 2, 4, 8, 12, 14, 16, 18, 28, 3, 9], live := [(2, [2, 12, 14, 16, 3])], modes := [(6, [(1, .take, false)])] }
theorem fk93 : FnOk Tryd.prog 93 Tryd.f93 I93 := ⟨Tryd.func93, by kernel_rfl, by kernel_rfl, by kernel_rfl, by kernel_rfl⟩
def S93_2 (x6 : List Exp) (x7 x8 : Int) (b1 : Exp) : St := [(2, .v false [.ptr 1 0]), (12, .v false [.sl .ro .exp x6]), (14, .v false [.int .i64 x7]), (16, .v false [.int .i64 x8]), (3, .v true [.int .i64 (Exp.kind b1), .int .i64 (Exp.n b1), .str (Exp.text b1), .sl .ro .exp (Exp.args b1)])]
theorem p93_2_0 (x6 : List Exp) (x7 x8 : Int) (b1 : Exp) (r1 : Bool) : rS 2 I93 (S93_2 x6 x7 x8 b1) [Y, Y] [xAF r1] = dn (xAF false) [(decide ((x8 : Int) < x7)) = true, (0 : Int) ≤ x8 ∧ x8 < (Ln x6), AbC 93 (xBo (gD x6 (tN x8) Ty.exp.dflt)) (xAF r1), (!r1) = true] := by kernel_rfl
theorem p93_2_1 (x6 : List Exp) (x7 x8 : Int) (b1 : Exp) (r1 : Bool) : rS 2 I93 (S93_2 x6 x7 x8 b1) [Y, F] [xAF r1] = st 2 I93 (S93_2 x6 x7 (W (x8 + 1)) b1) [(decide ((x8 : Int) < x7)) = true, (0 : Int) ≤ x8 ∧ x8 < (Ln x6), AbC 93 (xBo (gD x6 (tN x8) Ty.exp.dflt)) (xAF r1), (!r1) = false] := by kernel_rfl
theorem p93_2_2 (x6 : List Exp) (x7 x8 : Int) (b1 : Exp) (r1 : Bool) : rS 2 I93 (S93_2 x6 x7 x8 b1) [F] [xAk r1] = dn (xAF r1) [(decide ((x8 : Int) < x7)) = false, AbC 124 (xAl b1) (xAk r1)] := by kernel_rfl
theorem p93_e_3 (a0 : Exp) : rE I93 (xBo a0) [] [] = st 2 I93 (S93_2 (Exp.args a0) (Ln (Exp.args a0) : Int) 0 a0) [] := by kernel_rfl
theorem c93_2 {N : Nat} {q0 : Exp → Option (Bool)} (g0 : G93 q0) : ∀ n x6 x7 x8 b1 r, xBz N q0 n x6 x7 x8 b1 = some r → RS Tryd.f93 I93 2 (S93_2 x6 x7 x8 b1) (xAF r) := by
 intro n
 induction n with
 | zero => exact fun _ _ _ _ _ h => nE h
 | succ n ih =>
  exact fun x6 x7 x8 b1 r h =>
   cE h (fun h0 h => iE h fun h1 h => bE h fun r1 h2 h => cE h (fun h3 h => dS h fk93 (p93_2_0 x6 x7 x8 b1 r1) (oc h0 (oc h1 (oc (g0 _ _ h2) (oc h3 on))))) fun h3 h =>
   tS fk93 (p93_2_1 x6 x7 x8 b1 r1) (oc h0 (oc h1 (oc (g0 _ _ h2) (oc h3 on)))) (ih _ _ _ _ _ h)) fun h0 h =>
   bE h fun r1 h1 h => dS h fk93 (p93_2_2 x6 x7 x8 b1 r1) (oc h0 (oc (impl_isNode_ok h1) on))
theorem c93_e {N : Nat} {q0 : Exp → Option (Bool)} (g0 : G93 q0) : ∀ a0 r, xCK N q0 a0 = some r → RE Tryd.f93 I93 (xBo a0) (xAF r) := fun a0 r h =>
 tE fk93 (p93_e_3 a0) on (c93_2 g0 _ _ _ _ _ _ h)
theorem xDS {N : Nat} {q0 : Exp → Option (Bool)} (g0 : G93 q0) {a0 : Exp} {r : Bool} (h : xCK N q0 a0 = some r) : AbC 93 (xBo a0) (xAF r) :=
 AbsCalls.of_reach fk93 rfl rfl (Nat.le_of_ble_eq_true rfl) (c93_e g0 a0 r h)
theorem xDa {N : Nat} : ∀ d, G93 (xB1 N d)
 | 0 => fun _ _ h => nE h
 | d + 1 => fun _ _ h => xDS (N := N) (xDa d) h
theorem impl_areNodes_ok {N : Nat} {a0 : Exp} {r : Bool} (h : xDG N a0 = some r) : AbC 93 (xBo a0) (xAF r) := xDa N _ r h
noncomputable def I55 : Info := { body := (Tryd.f55.body).getD .skip, nt := 15, results := [.tmp 2], keep := [0, 2, 4, 3], live := [], modes := [(1, [(3, .take, false), (8, .take, false)])] }
theorem fk55 : FnOk Tryd.prog 55 Tryd.f55 I55 := ⟨Tryd.func55, by kernel_rfl, by kernel_rfl, by kernel_rfl, by kernel_rfl⟩
theorem p55_e_0 (a0 : Exp) (r1 r2 : Int) (r3 : Bool) : rE I55 (xBb a0) [Y, Y] [xAv r1, xAE r2, xAF r3] = dn (xAR r3) [AbC 91 (xA7 a0) (xAv r1), (decide ((r1 : Int) ≤ 40)) = true, AbC 92 (xBd a0) (xAE r2), (decide ((r2 : Int) ≤ 8)) = true, AbC 93 (xBo a0) (xAF r3)] := by kernel_rfl
theorem p55_e_1 (a0 : Exp) (r1 r2 : Int) : rE I55 (xBb a0) [Y, F] [xAv r1, xAE r2] = dn (xAR false) [AbC 91 (xA7 a0) (xAv r1), (decide ((r1 : Int) ≤ 40)) = true, AbC 92 (xBd a0) (xAE r2), (decide ((r2 : Int) ≤ 8)) = false] := by kernel_rfl
theorem p55_e_2 (a0 : Exp) (r1 : Int) : rE I55 (xBb a0) [F, F] [xAv r1] = dn (xAR false) [AbC 91 (xA7 a0) (xAv r1), (decide ((r1 : Int) ≤ 40)) = false, false = false] := by kernel_rfl
theorem c55_e {N : Nat} : ∀ a0 r, xCe N a0 = some r → RE Tryd.f55 I55 (xBb a0) (xAR r) := fun a0 r h =>
 bE h fun r1 h0 h => cE h (fun h1 h => bE h fun r2 h2 h => cE h (fun h3 h => bE h fun r3 h4 h => dE h fk55 (p55_e_0 a0 r1 r2 r3) (oc (xCV h0) (oc h1 (oc (xDA h2) (oc h3 (oc (impl_areNodes_ok h4) on)))))) fun h3 h =>
 dE h fk55 (p55_e_1 a0 r1 r2) (oc (xCV h0) (oc h1 (oc (xDA h2) (oc h3 on))))) fun h1 h =>
 dE h fk55 (p55_e_2 a0 r1) (oc (xCV h0) (oc h1 (oc rfl on)))
theorem xDd {N : Nat} {a0 : Exp} {r : Bool} (h : xCe N  a0 = some r) : AbC 55 (xBb a0) (xAR r) :=
 AbsCalls.of_reach fk55 rfl rfl (Nat.le_of_ble_eq_true rfl) (c55_e a0 r h)
theorem strconv_Itoa_ok {N : Nat} {a0 : Int} {r : Str} (h : strconv_Itoa N a0 = some r) : AbC 109 (xDY a0) (xDp r) :=
 lib_itoa (enter_Itoa Tryd.laysM171) (itoa_of (Any.strconv_Itoa Tryd.laysM171) tab10) h
noncomputable def I61 : Info := { body := (Tryd.f61.body).getD .skip, nt := 5, results := [.tmp 2], keep := [0, 4], live := [], modes := [] }
theorem fk61 : FnOk Tryd.prog 61 Tryd.f61 I61 := ⟨Tryd.func61, by kernel_rfl, by kernel_rfl, by kernel_rfl, by kernel_rfl⟩
theorem p61_e_0 (a0 : Int) (r1 : Str) : rE I61 (xCr a0) [] [xDp r1] = dn (xB0 r1) [AbC 109 (xDY a0) (xDp r1)] := by kernel_rfl
theorem c61_e {N : Nat} : ∀ a0 r, xCt N a0 = some r → RE Tryd.f61 I61 (xCr a0) (xB0 r) := fun a0 r h =>
 bE h fun r1 h0 h => dE h fk61 (p61_e_0 a0 r1) (oc (strconv_Itoa_ok h0) on)
theorem impl_FormatInt_ok {N : Nat} {a0 : Int} {r : Str} (h : xCt N  a0 = some r) : AbC 61 (xCr a0) (xB0 r) :=
 AbsCalls.of_reach fk61 rfl rfl (Nat.le_of_ble_eq_true rfl) (c61_e a0 r h)
theorem strings_Join_ok {N : Nat} {a0 : List Str} {a1 : Str} {r : Str} (h : strings_Join N a0 a1 = some r) : AbC 110 (xDZ a0 a1) (xDq r) :=
 lib_join (enter_Join Tryd.lays156) (fun a c s w => Any.strings_Join_none Tryd.lays156 Tryd.Builder_Extra_156 a c s w) (fun b o c xs s w h1 h2 h3 h4 h5 => Any.strings_Join Tryd.lays156 Tryd.Builder_Extra_156 b o c xs s w h1 h2 h3 h4 h5) h
noncomputable def I64 : Info := { body := (Tryd.f64.body).getD .skip, nt := 8, results := [.tmp 4], keep := [0, 2, 8], live := [], modes := [] }
theorem fk64 : FnOk Tryd.prog 64 Tryd.f64 I64 := ⟨Tryd.func64, by kernel_rfl, by kernel_rfl, by kernel_rfl, by kernel_rfl⟩
theorem p64_e_0 (a0 : List Str) (a1 r1 : Str) : rE I64 (xDr a0 a1) [] [xDq r1] = dn (xC2 r1) [AbC 110 (xDZ a0 a1) (xDq r1)] := by kernel_rfl
theorem c64_e {N : Nat} : ∀ a0 a1 r, xDQ N a0 a1 = some r → RE Tryd.f64 I64 (xDr a0 a1) (xC2 r) := fun a0 a1 r h =>
 bE h fun r1 h0 h => dE h fk64 (p64_e_0 a0 a1 r1) (oc (strings_Join_ok h0) on)
theorem impl_Join_ok {N : Nat} {a0 : List Str} {a1 : Str} {r : Str} (h : xDQ N  a0 a1 = some r) : AbC 64 (xDr a0 a1) (xC2 r) :=
 AbsCalls.of_reach fk64 rfl rfl (Nat.le_of_ble_eq_true rfl) (c64_e a0 a1 r h)
noncomputable def I95 : Info := { body := (Tryd.f95.body).getD .skip, nt := 21, results := [.tmp 2], keep := [0, 2, 4, 8, 10, 18, 24, 26, 32, 38, 3], live := [], modes := [] }
theorem fk95 : FnOk Tryd.prog 95 Tryd.f95 I95 := ⟨Tryd.func95, by kernel_rfl, by kernel_rfl, by kernel_rfl, by kernel_rfl⟩
theorem p95_e_0 (a0 : Exp) : rE I95 (xAw a0) [Y, Y] [] = dn (xAr 0) [(((Exp.kind a0) : Int) == 7) = true, (((Exp.kind a0) : Int) == 7) = true] := by kernel_rfl
theorem p95_e_1 (a0 : Exp) : rE I95 (xAw a0) [F, Y, Y] [] = dn (xAr 0) [(((Exp.kind a0) : Int) == 7) = false, (((Exp.kind a0) : Int) == 8) = true, (((Exp.kind a0) : Int) == 8) = true] := by kernel_rfl
theorem p95_e_2 (a0 : Exp) : rE I95 (xAw a0) [F, F, Y] [] = dn (xAr 0) [(((Exp.kind a0) : Int) == 7) = false, (((Exp.kind a0) : Int) == 8) = false, (((Exp.kind a0) : Int) == 9) = true] := by kernel_rfl
theorem p95_e_3 (a0 : Exp) : rE I95 (xAw a0) [F, F, F, Y, Y, Y] [] = dn (xAr 1) [(((Exp.kind a0) : Int) == 7) = false, (((Exp.kind a0) : Int) == 8) = false, (((Exp.kind a0) : Int) == 9) = false, (((Exp.kind a0) : Int) == 6) = true, (((Exp.n a0) : Int) == 4) = true, (((Exp.n a0) : Int) == 4) = true] := by kernel_rfl
theorem p95_e_4 (a0 : Exp) : rE I95 (xAw a0) [F, F, F, Y, F, Y] [] = dn (xAr 1) [(((Exp.kind a0) : Int) == 7) = false, (((Exp.kind a0) : Int) == 8) = false, (((Exp.kind a0) : Int) == 9) = false, (((Exp.kind a0) : Int) == 6) = true, (((Exp.n a0) : Int) == 4) = false, (((Exp.n a0) : Int) == 5) = true] := by kernel_rfl
theorem p95_e_5 (a0 : Exp) : rE I95 (xAw a0) [F, F, F, Y, F, F, Y, Y] [] = dn (xAr 2) [(((Exp.kind a0) : Int) == 7) = false, (((Exp.kind a0) : Int) == 8) = false, (((Exp.kind a0) : Int) == 9) = false, (((Exp.kind a0) : Int) == 6) = true, (((Exp.n a0) : Int) == 4) = false, (((Exp.n a0) : Int) == 5) = false, (((Exp.n a0) : Int) == 1) = true, (((Exp.n a0) : Int) == 1) = true] := by kernel_rfl
theorem p95_e_6 (a0 : Exp) : rE I95 (xAw a0) [F, F, F, Y, F, F, F, Y] [] = dn (xAr 2) [(((Exp.kind a0) : Int) == 7) = false, (((Exp.kind a0) : Int) == 8) = false, (((Exp.kind a0) : Int) == 9) = false, (((Exp.kind a0) : Int) == 6) = true, (((Exp.n a0) : Int) == 4) = false, (((Exp.n a0) : Int) == 5) = false, (((Exp.n a0) : Int) == 1) = false, (((Exp.n a0) : Int) == 2) = true] := by kernel_rfl
theorem p95_e_7 (a0 : Exp) : rE I95 (xAw a0) [F, F, F, Y, F, F, F, F, Y] [] = dn (xAr 3) [(((Exp.kind a0) : Int) == 7) = false, (((Exp.kind a0) : Int) == 8) = false, (((Exp.kind a0) : Int) == 9) = false, (((Exp.kind a0) : Int) == 6) = true, (((Exp.n a0) : Int) == 4) = false, (((Exp.n a0) : Int) == 5) = false, (((Exp.n a0) : Int) == 1) = false, (((Exp.n a0) : Int) == 2) = false, (((Exp.n a0) : Int) == 3) = true] := by kernel_rfl
theorem p95_e_8 (a0 : Exp) : rE I95 (xAw a0) [F, F, F, Y, F, F, F, F, F] [] = dn (xAr 4) [(((Exp.kind a0) : Int) == 7) = false, (((Exp.kind a0) : Int) == 8) = false, (((Exp.kind a0) : Int) == 9) = false, (((Exp.kind a0) : Int) == 6) = true, (((Exp.n a0) : Int) == 4) = false, (((Exp.n a0) : Int) == 5) = false, (((Exp.n a0) : Int) == 1) = false, (((Exp.n a0) : Int) == 2) = false, (((Exp.n a0) : Int) == 3) = false] := by kernel_rfl
theorem p95_e_9 (a0 : Exp) : rE I95 (xAw a0) [F, F, F, F] [] = dn (xAr 4) [(((Exp.kind a0) : Int) == 7) = false, (((Exp.kind a0) : Int) == 8) = false, (((Exp.kind a0) : Int) == 9) = false, (((Exp.kind a0) : Int) == 6) = false] := by kernel_rfl
theorem c95_e {N : Nat} : ∀ a0 r, xCD N a0 = some r → RE Tryd.f95 I95 (xAw a0) (xAr r) := fun a0 r h =>
 cE h (fun h0 h => dE h fk95 (p95_e_0 a0) (oc h0 (oc h0 on))) fun h0 h =>
 cE h (fun h1 h => dE h fk95 (p95_e_1 a0) (oc h0 (oc h1 (oc h1 on)))) fun h1 h =>
 cE h (fun h2 h => dE h fk95 (p95_e_2 a0) (oc h0 (oc h1 (oc h2 on)))) fun h2 h =>
 cE h (fun h3 h => cE h (fun h4 h => dE h fk95 (p95_e_3 a0) (oc h0 (oc h1 (oc h2 (oc h3 (oc h4 (oc h4 on))))))) fun h4 h =>
 cE h (fun h5 h => dE h fk95 (p95_e_4 a0) (oc h0 (oc h1 (oc h2 (oc h3 (oc h4 (oc h5 on))))))) fun h5 h =>
 cE h (fun h6 h => dE h fk95 (p95_e_5 a0) (oc h0 (oc h1 (oc h2 (oc h3 (oc h4 (oc h5 (oc h6 (oc h6 on))))))))) fun h6 h =>
 cE h (fun h7 h => dE h fk95 (p95_e_6 a0) (oc h0 (oc h1 (oc h2 (oc h3 (oc h4 (oc h5 (oc h6 (oc h7 on))))))))) fun h7 h =>
 cE h (fun h8 h => dE h fk95 (p95_e_7 a0) (oc h0 (oc h1 (oc h2 (oc h3 (oc h4 (oc h5 (oc h6 (oc h7 (oc h8 on)))))))))) fun h8 h =>
 dE h fk95 (p95_e_8 a0) (oc h0 (oc h1 (oc h2 (oc h3 (oc h4 (oc h5 (oc h6 (oc h7 (oc h8 on)))))))))) fun h3 h =>
 dE h fk95 (p95_e_9 a0) (oc h0 (oc h1 (oc h2 (oc h3 on))))
theorem xCI {N : Nat} {a0 : Exp} {r : Int} (h : xCD N  a0 = some r) : AbC 95 (xAw a0) (xAr r) :=
 AbsCalls.of_reach fk95 rfl rfl (Nat.le_of_ble_eq_true rfl) (c95_e a0 r h)
noncomputable def I97 : Info := { body := (Tryd.f97.body).getD .skip, nt := 11, results := [.tmp 2], keep := [0, 4, 10], live := [], modes := [] }
theorem fk97 : FnOk Tryd.prog 97 Tryd.f97 I97 := ⟨Tryd.func97, by kernel_rfl, by kernel_rfl, by kernel_rfl, by kernel_rfl⟩
theorem p97_e_0 (a0 : Int) (r1 : Bool) : rE I97 (xBQ a0) [Y] [xAq r1] = dn (xBn [63]) [AbC 73 (xAU a0 1 5) (xAq r1), (!r1) = true] := by kernel_rfl
theorem p97_e_1 (a0 : Int) (r1 : Bool) : rE I97 (xBQ a0) [F] [xAq r1] = dn (xBn (gD [[43], [45], [42], [60], [61, 61]] (tN (W (a0 - 1))) Ty.str.dflt)) [AbC 73 (xAU a0 1 5) (xAq r1), (!r1) = false, (0 : Int) ≤ (W (a0 - 1)) ∧ (W (a0 - 1)) < (Ln [[43], [45], [42], [60], [61, 61]])] := by kernel_rfl
theorem c97_e {N : Nat} : ∀ a0 r, xCJ N a0 = some r → RE Tryd.f97 I97 (xBQ a0) (xBn r) := fun a0 r h =>
 bE h fun r1 h0 h => cE h (fun h1 h => dE h fk97 (p97_e_0 a0 r1) (oc (xBv h0) (oc h1 on))) fun h1 h =>
 iE h fun h2 h => dE h fk97 (p97_e_1 a0 r1) (oc (xBv h0) (oc h1 (oc h2 on)))
theorem xDI {N : Nat} {a0 : Int} {r : Str} (h : xCJ N  a0 = some r) : AbC 97 (xBQ a0) (xBn r) :=
 AbsCalls.of_reach fk97 rfl rfl (Nat.le_of_ble_eq_true rfl) (c97_e a0 r h)
def G96 (q : Exp → Int → Option (Str)) : Prop := ∀ a0 a1 r, q a0 a1 = some r → AbC 96 (xBa a0 a1) (xAG r)
def G56 (q : Exp → Option (Str)) : Prop := ∀ a0 r, q a0 = some r → AbC 56 (xAn a0) (xAf r)
def G94 (q : (List Exp) → Option (Str)) : Prop := ∀ a0 r, q a0 = some r → AbC 94 (xB2 a0) (xBi r)
noncomputable def I96 : Info := { body := (Tryd.f96.body).getD .skip, nt := 16, results := [.tmp 4], keep := [0, 2, 4, 8, 10, 22, 5], live := [], modes := [] }
theorem fk96 : FnOk Tryd.prog 96 Tryd.f96 I96 := ⟨Tryd.func96, by kernel_rfl, by kernel_rfl, by kernel_rfl, by kernel_rfl⟩
theorem p96_e_0 (a0 : Exp) (a1 : Int) (r1 : Str) (r2 : Int) : rE I96 (xBa a0 a1) [Y] [xAf r1, xAr r2] = dn (xAG (([40] ++ r1) ++ [41])) [AbC 56 (xAn a0) (xAf r1), AbC 95 (xAw a0) (xAr r2), (decide ((r2 : Int) < a1)) = true, Ln [40] + Ln r1 ≤ Lim, Ln ([40] ++ r1) + Ln [41] ≤ Lim] := by kernel_rfl
theorem p96_e_1 (a0 : Exp) (a1 : Int) (r1 : Str) (r2 : Int) : rE I96 (xBa a0 a1) [F] [xAf r1, xAr r2] = dn (xAG r1) [AbC 56 (xAn a0) (xAf r1), AbC 95 (xAw a0) (xAr r2), (decide ((r2 : Int) < a1)) = false] := by kernel_rfl
theorem c96_e {N : Nat} {q0 : Exp → Int → Option (Str)} (g0 : G96 q0) {q1 : Exp → Option (Str)} (g1 : G56 q1) {q2 : (List Exp) → Option (Str)} (g2 : G94 q2) : ∀ a0 a1 r, xBU N q0 q1 q2 a0 a1 = some r → RE Tryd.f96 I96 (xBa a0 a1) (xAG r) := fun a0 a1 r h =>
 bE h fun r1 h0 h => bE h fun r2 h1 h => cE h (fun h2 h => iE h fun h3 h => iE h fun h4 h => dE h fk96 (p96_e_0 a0 a1 r1 r2) (oc (g1 _ _ h0) (oc (xCI h1) (oc h2 (oc h3 (oc h4 on)))))) fun h2 h =>
 dE h fk96 (p96_e_1 a0 a1 r1 r2) (oc (g1 _ _ h0) (oc (xCI h1) (oc h2 on)))
theorem xDT {N : Nat} {q0 : Exp → Int → Option (Str)} (g0 : G96 q0) {q1 : Exp → Option (Str)} (g1 : G56 q1) {q2 : (List Exp) → Option (Str)} (g2 : G94 q2) {a0 : Exp} {a1 : Int} {r : Str} (h : xBU N q0 q1 q2 a0 a1 = some r) : AbC 96 (xBa a0 a1) (xAG r) :=
 AbsCalls.of_reach fk96 rfl rfl (Nat.le_of_ble_eq_true rfl) (c96_e g0 g1 g2 a0 a1 r h)
noncomputable def I56 : Info := { body := (Tryd.f56.body).getD .skip, nt := 124, results := [.tmp 2], keep := [0, 2, 4, 6, 8, 12, 14, 24, 36, 44, 58, 78, 116, 160, 208, 3], live := [], modes := [(22, [(16, .take, false)])] }
theorem fk56 : FnOk Tryd.prog 56 Tryd.f56 I56 := ⟨Tryd.func56, by kernel_rfl, by kernel_rfl, by kernel_rfl, by kernel_rfl⟩
theorem p56_e_0 (a0 : Exp) (r1 : Str) : rE I56 (xAn a0) [Y] [xB0 r1] = dn (xAf r1) [(((Exp.kind a0) : Int) == 1) = true, AbC 61 (xCr (Exp.n a0)) (xB0 r1)] := by kernel_rfl
theorem p56_e_1 (a0 : Exp) : rE I56 (xAn a0) [F, Y] [] = dn (xAf (([34] ++ (Exp.text a0)) ++ [34])) [(((Exp.kind a0) : Int) == 1) = false, (((Exp.kind a0) : Int) == 2) = true, Ln [34] + Ln (Exp.text a0) ≤ Lim, Ln ([34] ++ (Exp.text a0)) + Ln [34] ≤ Lim] := by kernel_rfl
theorem p56_e_2 (a0 : Exp) : rE I56 (xAn a0) [F, F, Y] [] = dn (xAf (Exp.text a0)) [(((Exp.kind a0) : Int) == 1) = false, (((Exp.kind a0) : Int) == 2) = false, (((Exp.kind a0) : Int) == 3) = true] := by kernel_rfl
theorem p56_e_3 (a0 : Exp) (r1 : Str) : rE I56 (xAn a0) [F, F, F, Y] [xBi r1] = dn (xAf (([91] ++ r1) ++ [93])) [(((Exp.kind a0) : Int) == 1) = false, (((Exp.kind a0) : Int) == 2) = false, (((Exp.kind a0) : Int) == 3) = false, (((Exp.kind a0) : Int) == 4) = true, AbC 94 (xB2 (Exp.args a0)) (xBi r1), Ln [91] + Ln r1 ≤ Lim, Ln ([91] ++ r1) + Ln [93] ≤ Lim] := by kernel_rfl
theorem p56_e_4 (a0 : Exp) (r1 : Str) : rE I56 (xAn a0) [F, F, F, F, Y] [xBi r1] = dn (xAf ((((Exp.text a0) ++ [40]) ++ r1) ++ [41])) [(((Exp.kind a0) : Int) == 1) = false, (((Exp.kind a0) : Int) == 2) = false, (((Exp.kind a0) : Int) == 3) = false, (((Exp.kind a0) : Int) == 4) = false, (((Exp.kind a0) : Int) == 5) = true, Ln (Exp.text a0) + Ln [40] ≤ Lim, AbC 94 (xB2 (Exp.args a0)) (xBi r1), Ln ((Exp.text a0) ++ [40]) + Ln r1 ≤ Lim, Ln (((Exp.text a0) ++ [40]) ++ r1) + Ln [41] ≤ Lim] := by kernel_rfl
theorem p56_e_5 (a0 : Exp) (r1 r2 : Str) : rE I56 (xAn a0) [F, F, F, F, F, Y] [xAf r1, xAf r2] = dn (xAf ((((([108, 101, 116, 32] ++ (Exp.text a0)) ++ [32, 61, 32]) ++ r1) ++ [32, 105, 110, 32]) ++ r2)) [(((Exp.kind a0) : Int) == 1) = false, (((Exp.kind a0) : Int) == 2) = false, (((Exp.kind a0) : Int) == 3) = false, (((Exp.kind a0) : Int) == 4) = false, (((Exp.kind a0) : Int) == 5) = false, (((Exp.kind a0) : Int) == 7) = true, Ln [108, 101, 116, 32] + Ln (Exp.text a0) ≤ Lim, Ln ([108, 101, 116, 32] ++ (Exp.text a0)) + Ln [32, 61, 32] ≤ Lim, (0 : Int) ≤ 0 ∧ (0 : Int) < (Ln (Exp.args a0)), AbC 56 (xAn (gD (Exp.args a0) (tN 0) Ty.exp.dflt)) (xAf r1), Ln (([108, 101, 116, 32] ++ (Exp.text a0)) ++ [32, 61, 32]) + Ln r1 ≤ Lim, Ln ((([108, 101, 116, 32] ++ (Exp.text a0)) ++ [32, 61, 32]) ++ r1) + Ln [32, 105, 110, 32] ≤ Lim, (0 : Int) ≤ 1 ∧ (1 : Int) < (Ln (Exp.args a0)), AbC 56 (xAn (gD (Exp.args a0) (tN 1) Ty.exp.dflt)) (xAf r2), Ln (((([108, 101, 116, 32] ++ (Exp.text a0)) ++ [32, 61, 32]) ++ r1) ++ [32, 105, 110, 32]) + Ln r2 ≤ Lim] := by kernel_rfl
theorem p56_e_6 (a0 : Exp) (r1 r2 r3 : Str) : rE I56 (xAn a0) [F, F, F, F, F, F, Y] [xAf r1, xAf r2, xAf r3] = dn (xAf ((((([105, 102, 32] ++ r1) ++ [32, 116, 104, 101, 110, 32]) ++ r2) ++ [32, 101, 108, 115, 101, 32]) ++ r3)) [(((Exp.kind a0) : Int) == 1) = false, (((Exp.kind a0) : Int) == 2) = false, (((Exp.kind a0) : Int) == 3) = false, (((Exp.kind a0) : Int) == 4) = false, (((Exp.kind a0) : Int) == 5) = false, (((Exp.kind a0) : Int) == 7) = false, (((Exp.kind a0) : Int) == 8) = true, (0 : Int) ≤ 0 ∧ (0 : Int) < (Ln (Exp.args a0)), AbC 56 (xAn (gD (Exp.args a0) (tN 0) Ty.exp.dflt)) (xAf r1), Ln [105, 102, 32] + Ln r1 ≤ Lim, Ln ([105, 102, 32] ++ r1) + Ln [32, 116, 104, 101, 110, 32] ≤ Lim, (0 : Int) ≤ 1 ∧ (1 : Int) < (Ln (Exp.args a0)), AbC 56 (xAn (gD (Exp.args a0) (tN 1) Ty.exp.dflt)) (xAf r2), Ln (([105, 102, 32] ++ r1) ++ [32, 116, 104, 101, 110, 32]) + Ln r2 ≤ Lim, Ln ((([105, 102, 32] ++ r1) ++ [32, 116, 104, 101, 110, 32]) ++ r2) + Ln [32, 101, 108, 115, 101, 32] ≤ Lim, (0 : Int) ≤ 2 ∧ (2 : Int) < (Ln (Exp.args a0)), AbC 56 (xAn (gD (Exp.args a0) (tN 2) Ty.exp.dflt)) (xAf r3), Ln (((([105, 102, 32] ++ r1) ++ [32, 116, 104, 101, 110, 32]) ++ r2) ++ [32, 101, 108, 115, 101, 32]) + Ln r3 ≤ Lim] := by kernel_rfl
theorem p56_e_7 (a0 : Exp) (r1 r2 : Str) : rE I56 (xAn a0) [F, F, F, F, F, F, F, Y] [xAf r1, xAf r2] = dn (xAf ((((([102, 111, 114, 32] ++ (Exp.text a0)) ++ [32, 105, 110, 32]) ++ r1) ++ [32, 100, 111, 32]) ++ r2)) [(((Exp.kind a0) : Int) == 1) = false, (((Exp.kind a0) : Int) == 2) = false, (((Exp.kind a0) : Int) == 3) = false, (((Exp.kind a0) : Int) == 4) = false, (((Exp.kind a0) : Int) == 5) = false, (((Exp.kind a0) : Int) == 7) = false, (((Exp.kind a0) : Int) == 8) = false, (((Exp.kind a0) : Int) == 9) = true, Ln [102, 111, 114, 32] + Ln (Exp.text a0) ≤ Lim, Ln ([102, 111, 114, 32] ++ (Exp.text a0)) + Ln [32, 105, 110, 32] ≤ Lim, (0 : Int) ≤ 0 ∧ (0 : Int) < (Ln (Exp.args a0)), AbC 56 (xAn (gD (Exp.args a0) (tN 0) Ty.exp.dflt)) (xAf r1), Ln (([102, 111, 114, 32] ++ (Exp.text a0)) ++ [32, 105, 110, 32]) + Ln r1 ≤ Lim, Ln ((([102, 111, 114, 32] ++ (Exp.text a0)) ++ [32, 105, 110, 32]) ++ r1) + Ln [32, 100, 111, 32] ≤ Lim, (0 : Int) ≤ 1 ∧ (1 : Int) < (Ln (Exp.args a0)), AbC 56 (xAn (gD (Exp.args a0) (tN 1) Ty.exp.dflt)) (xAf r2), Ln (((([102, 111, 114, 32] ++ (Exp.text a0)) ++ [32, 105, 110, 32]) ++ r1) ++ [32, 100, 111, 32]) + Ln r2 ≤ Lim] := by kernel_rfl
theorem p56_e_8 (a0 : Exp) (r1 : Int) (r2 r3 r4 : Str) : rE I56 (xAn a0) [F, F, F, F, F, F, F, F, Y] [xAr r1, xAG r2, xBn r3, xAG r4] = dn (xAf ((((r2 ++ [32]) ++ r3) ++ [32]) ++ r4)) [(((Exp.kind a0) : Int) == 1) = false, (((Exp.kind a0) : Int) == 2) = false, (((Exp.kind a0) : Int) == 3) = false, (((Exp.kind a0) : Int) == 4) = false, (((Exp.kind a0) : Int) == 5) = false, (((Exp.kind a0) : Int) == 7) = false, (((Exp.kind a0) : Int) == 8) = false, (((Exp.kind a0) : Int) == 9) = false, AbC 95 (xAw a0) (xAr r1), ((r1 : Int) == 1) = true, (0 : Int) ≤ 0 ∧ (0 : Int) < (Ln (Exp.args a0)), AbC 96 (xBa (gD (Exp.args a0) (tN 0) Ty.exp.dflt) 2) (xAG r2), Ln r2 + Ln [32] ≤ Lim, AbC 97 (xBQ (Exp.n a0)) (xBn r3), Ln (r2 ++ [32]) + Ln r3 ≤ Lim, Ln ((r2 ++ [32]) ++ r3) + Ln [32] ≤ Lim, (0 : Int) ≤ 1 ∧ (1 : Int) < (Ln (Exp.args a0)), AbC 96 (xBa (gD (Exp.args a0) (tN 1) Ty.exp.dflt) (W (r1 + 1))) (xAG r4), Ln (((r2 ++ [32]) ++ r3) ++ [32]) + Ln r4 ≤ Lim] := by kernel_rfl
theorem p56_e_9 (a0 : Exp) (r1 : Int) (r2 r3 r4 : Str) : rE I56 (xAn a0) [F, F, F, F, F, F, F, F, F] [xAr r1, xAG r2, xBn r3, xAG r4] = dn (xAf ((((r2 ++ [32]) ++ r3) ++ [32]) ++ r4)) [(((Exp.kind a0) : Int) == 1) = false, (((Exp.kind a0) : Int) == 2) = false, (((Exp.kind a0) : Int) == 3) = false, (((Exp.kind a0) : Int) == 4) = false, (((Exp.kind a0) : Int) == 5) = false, (((Exp.kind a0) : Int) == 7) = false, (((Exp.kind a0) : Int) == 8) = false, (((Exp.kind a0) : Int) == 9) = false, AbC 95 (xAw a0) (xAr r1), ((r1 : Int) == 1) = false, (0 : Int) ≤ 0 ∧ (0 : Int) < (Ln (Exp.args a0)), AbC 96 (xBa (gD (Exp.args a0) (tN 0) Ty.exp.dflt) r1) (xAG r2), Ln r2 + Ln [32] ≤ Lim, AbC 97 (xBQ (Exp.n a0)) (xBn r3), Ln (r2 ++ [32]) + Ln r3 ≤ Lim, Ln ((r2 ++ [32]) ++ r3) + Ln [32] ≤ Lim, (0 : Int) ≤ 1 ∧ (1 : Int) < (Ln (Exp.args a0)), AbC 96 (xBa (gD (Exp.args a0) (tN 1) Ty.exp.dflt) (W (r1 + 1))) (xAG r4), Ln (((r2 ++ [32]) ++ r3) ++ [32]) + Ln r4 ≤ Lim] := by kernel_rfl
theorem c56_e {N : Nat} {q0 : Exp → Int → Option (Str)} (g0 : G96 q0) {q1 : Exp → Option (Str)} (g1 : G56 q1) {q2 : (List Exp) → Option (Str)} (g2 : G94 q2) : ∀ a0 r, xAL N q0 q1 q2 a0 = some r → RE Tryd.f56 I56 (xAn a0) (xAf r) := fun a0 r h =>
 cE h (fun h0 h => bE h fun r1 h1 h => dE h fk56 (p56_e_0 a0 r1) (oc h0 (oc (impl_FormatInt_ok h1) on))) fun h0 h =>
 cE h (fun h1 h => iE h fun h2 h => iE h fun h3 h => dE h fk56 (p56_e_1 a0) (oc h0 (oc h1 (oc h2 (oc h3 on))))) fun h1 h =>
 cE h (fun h2 h => dE h fk56 (p56_e_2 a0) (oc h0 (oc h1 (oc h2 on)))) fun h2 h =>
 cE h (fun h3 h => bE h fun r1 h4 h => iE h fun h5 h => iE h fun h6 h => dE h fk56 (p56_e_3 a0 r1) (oc h0 (oc h1 (oc h2 (oc h3 (oc (g2 _ _ h4) (oc h5 (oc h6 on)))))))) fun h3 h =>
 cE h (fun h4 h => iE h fun h5 h => bE h fun r1 h6 h => iE h fun h7 h => iE h fun h8 h => dE h fk56 (p56_e_4 a0 r1) (oc h0 (oc h1 (oc h2 (oc h3 (oc h4 (oc h5 (oc (g2 _ _ h6) (oc h7 (oc h8 on)))))))))) fun h4 h =>
 cE h (fun h5 h => iE h fun h6 h => iE h fun h7 h => iE h fun h8 h => bE h fun r1 h9 h => iE h fun h10 h => iE h fun h11 h => iE h fun h12 h => bE h fun r2 h13 h => iE h fun h14 h => dE h fk56 (p56_e_5 a0 r1 r2) (oc h0 (oc h1 (oc h2 (oc h3 (oc h4 (oc h5 (oc h6 (oc h7 (oc h8 (oc (g1 _ _ h9) (oc h10 (oc h11 (oc h12 (oc (g1 _ _ h13) (oc h14 on)))))))))))))))) fun h5 h =>
 cE h (fun h6 h => iE h fun h7 h => bE h fun r1 h8 h => iE h fun h9 h => iE h fun h10 h => iE h fun h11 h => bE h fun r2 h12 h => iE h fun h13 h => iE h fun h14 h => iE h fun h15 h => bE h fun r3 h16 h => iE h fun h17 h => dE h fk56 (p56_e_6 a0 r1 r2 r3) (oc h0 (oc h1 (oc h2 (oc h3 (oc h4 (oc h5 (oc h6 (oc h7 (oc (g1 _ _ h8) (oc h9 (oc h10 (oc h11 (oc (g1 _ _ h12) (oc h13 (oc h14 (oc h15 (oc (g1 _ _ h16) (oc h17 on))))))))))))))))))) fun h6 h =>
 cE h (fun h7 h => iE h fun h8 h => iE h fun h9 h => iE h fun h10 h => bE h fun r1 h11 h => iE h fun h12 h => iE h fun h13 h => iE h fun h14 h => bE h fun r2 h15 h => iE h fun h16 h => dE h fk56 (p56_e_7 a0 r1 r2) (oc h0 (oc h1 (oc h2 (oc h3 (oc h4 (oc h5 (oc h6 (oc h7 (oc h8 (oc h9 (oc h10 (oc (g1 _ _ h11) (oc h12 (oc h13 (oc h14 (oc (g1 _ _ h15) (oc h16 on)))))))))))))))))) fun h7 h =>
 bE h fun r1 h8 h => cE h (fun h9 h => iE h fun h10 h => bE h fun r2 h11 h => iE h fun h12 h => bE h fun r3 h13 h => iE h fun h14 h => iE h fun h15 h => iE h fun h16 h => bE h fun r4 h17 h => iE h fun h18 h => dE h fk56 (p56_e_8 a0 r1 r2 r3 r4) (oc h0 (oc h1 (oc h2 (oc h3 (oc h4 (oc h5 (oc h6 (oc h7 (oc (xCI h8) (oc h9 (oc h10 (oc (g0 _ _ _ h11) (oc h12 (oc (xDI h13) (oc h14 (oc h15 (oc h16 (oc (g0 _ _ _ h17) (oc h18 on)))))))))))))))))))) fun h9 h =>
 iE h fun h10 h => bE h fun r2 h11 h => iE h fun h12 h => bE h fun r3 h13 h => iE h fun h14 h => iE h fun h15 h => iE h fun h16 h => bE h fun r4 h17 h => iE h fun h18 h => dE h fk56 (p56_e_9 a0 r1 r2 r3 r4) (oc h0 (oc h1 (oc h2 (oc h3 (oc h4 (oc h5 (oc h6 (oc h7 (oc (xCI h8) (oc h9 (oc h10 (oc (g0 _ _ _ h11) (oc h12 (oc (xDI h13) (oc h14 (oc h15 (oc h16 (oc (g0 _ _ _ h17) (oc h18 on)))))))))))))))))))
theorem xEi {N : Nat} {q0 : Exp → Int → Option (Str)} (g0 : G96 q0) {q1 : Exp → Option (Str)} (g1 : G56 q1) {q2 : (List Exp) → Option (Str)} (g2 : G94 q2) {a0 : Exp} {r : Str} (h : xAL N q0 q1 q2 a0 = some r) : AbC 56 (xAn a0) (xAf r) :=
 AbsCalls.of_reach fk56 rfl rfl (Nat.le_of_ble_eq_true rfl) (c56_e g0 g1 g2 a0 r h)
noncomputable def I94 : Info := { body := (Tryd.f94.body).getD .skip, nt := 21, results := [.tmp 2], keep := [0, 4, 6, 10, 14, 16, 18, 20, 11], live := [(3, [6, 14, 16, 18])], modes := [(5, [(0, .take, false)]), (6, [(1, .take, false)])] }
theorem fk94 : FnOk Tryd.prog 94 Tryd.f94 I94 := ⟨Tryd.func94, by kernel_rfl, by kernel_rfl, by kernel_rfl, by kernel_rfl⟩
def S94_3 (x3 : List Str) (x7 : List Exp) (x8 x9 : Int) : St := [(6, .v false [.sl .own .str x3]), (14, .v false [.sl .ro .exp x7]), (16, .v false [.int .i64 x8]), (18, .v false [.int .i64 x9])]
theorem p94_3_0 (x3 : List Str) (x7 : List Exp) (x8 x9 : Int) (r1 : Str) : rS 3 I94 (S94_3 x3 x7 x8 x9) [Y] [xAf r1] = st 3 I94 (S94_3 (x3 ++ [r1]) x7 x8 (W (x9 + 1))) [(decide ((x9 : Int) < x8)) = true, (0 : Int) ≤ x9 ∧ x9 < (Ln x7), AbC 56 (xAn (gD x7 (tN x9) Ty.exp.dflt)) (xAf r1), Ln x3 + Ln [r1] ≤ Lim] := by kernel_rfl
theorem p94_3_1 (x3 : List Str) (x7 : List Exp) (x8 x9 : Int) (r1 : Str) : rS 3 I94 (S94_3 x3 x7 x8 x9) [F] [xC2 r1] = dn (xBi r1) [(decide ((x9 : Int) < x8)) = false, AbC 64 (xDr x3 [44, 32]) (xC2 r1)] := by kernel_rfl
theorem p94_e_2 (a0 : List Exp) : rE I94 (xB2 a0) [] [] = st 3 I94 (S94_3 [] a0 (Ln a0 : Int) 0) [] := by kernel_rfl
theorem c94_3 {N : Nat} {q0 : Exp → Int → Option (Str)} (g0 : G96 q0) {q1 : Exp → Option (Str)} (g1 : G56 q1) {q2 : (List Exp) → Option (Str)} (g2 : G94 q2) : ∀ n x3 x7 x8 x9 r, xBK N q0 q1 q2 n x3 x7 x8 x9 = some r → RS Tryd.f94 I94 3 (S94_3 x3 x7 x8 x9) (xBi r) := by
 intro n
 induction n with
 | zero => exact fun _ _ _ _ _ h => nE h
 | succ n ih =>
  exact fun x3 x7 x8 x9 r h =>
   cE h (fun h0 h => iE h fun h1 h => bE h fun r1 h2 h => iE h fun h3 h => tS fk94 (p94_3_0 x3 x7 x8 x9 r1) (oc h0 (oc h1 (oc (g1 _ _ h2) (oc h3 on)))) (ih _ _ _ _ _ h)) fun h0 h =>
   bE h fun r1 h1 h => dS h fk94 (p94_3_1 x3 x7 x8 x9 r1) (oc h0 (oc (impl_Join_ok h1) on))
theorem c94_e {N : Nat} {q0 : Exp → Int → Option (Str)} (g0 : G96 q0) {q1 : Exp → Option (Str)} (g1 : G56 q1) {q2 : (List Exp) → Option (Str)} (g2 : G94 q2) : ∀ a0 r, xCW N q0 q1 q2 a0 = some r → RE Tryd.f94 I94 (xB2 a0) (xBi r) := fun a0 r h =>
 tE fk94 (p94_e_2 a0) on (c94_3 g0 g1 g2 _ _ _ _ _ _ h)
theorem xD4 {N : Nat} {q0 : Exp → Int → Option (Str)} (g0 : G96 q0) {q1 : Exp → Option (Str)} (g1 : G56 q1) {q2 : (List Exp) → Option (Str)} (g2 : G94 q2) {a0 : List Exp} {r : Str} (h : xCW N q0 q1 q2 a0 = some r) : AbC 94 (xB2 a0) (xBi r) :=
 AbsCalls.of_reach fk94 rfl rfl (Nat.le_of_ble_eq_true rfl) (c94_e g0 g1 g2 a0 r h)
theorem xD3 {N : Nat} : ∀ d, G96 (xAa N d).c_impl_enclosed ∧ G56 (xAa N d).c_impl_source ∧ G94 (xAa N d).c_impl_sources := by
 intro d
 induction d with
 | zero => exact ⟨fun _ _ _ h => nE h, fun _ _ h => nE h, fun _ _ h => nE h⟩
 | succ d ih =>
  obtain ⟨ih0, ih1, ih2⟩ := ih
  exact ⟨fun _ _ _ h => xDT (N := N) ih0 ih1 ih2 h, fun _ _ h => xEi (N := N) ih0 ih1 ih2 h, fun _ _ h => xD4 (N := N) ih0 ih1 ih2 h⟩
theorem impl_source_ok {N : Nat} {a0 : Exp} {r : Str} (h : xEh N a0 = some r) : AbC 56 (xAn a0) (xAf r) := (xD3 N).2.1 _ r h
noncomputable def I19 : Info := { body := (Tryd.f19.body).getD .skip, nt := 8, results := [.tmp 2], keep := [0, 2, 4, 10, 3], live := [], modes := [] }
theorem fk19 : FnOk Tryd.prog 19 Tryd.f19 I19 := ⟨Tryd.func19, by kernel_rfl, by kernel_rfl, by kernel_rfl, by kernel_rfl⟩
theorem p19_e_0 (a0 : Exp) (r1 : Bool) : rE I19 (xBh a0) [Y] [xAR r1] = dn (xAN []) [AbC 55 (xBb a0) (xAR r1), (!r1) = true] := by kernel_rfl
theorem p19_e_1 (a0 : Exp) (r1 : Bool) (r2 : Str) : rE I19 (xBh a0) [F] [xAR r1, xAf r2] = dn (xAN r2) [AbC 55 (xBb a0) (xAR r1), (!r1) = false, AbC 56 (xAn a0) (xAf r2)] := by kernel_rfl
theorem c19_e {N : Nat} : ∀ a0 r, xBZ N a0 = some r → RE Tryd.f19 I19 (xBh a0) (xAN r) := fun a0 r h =>
 bE h fun r1 h0 h => cE h (fun h1 h => dE h fk19 (p19_e_0 a0 r1) (oc (xDd h0) (oc h1 on))) fun h1 h =>
 bE h fun r2 h2 h => dE h fk19 (p19_e_1 a0 r1 r2) (oc (xDd h0) (oc h1 (oc (impl_source_ok h2) on)))
theorem xCH {N : Nat} {a0 : Exp} {r : Str} (h : xBZ N  a0 = some r) : AbC 19 (xBh a0) (xAN r) :=
 AbsCalls.of_reach fk19 rfl rfl (Nat.le_of_ble_eq_true rfl) (c19_e a0 r h)
def G20 (q : Exp → Exp → Option (Bool)) : Prop := ∀ a0 a1 r, q a0 a1 = some r → AbC 20 (xAX a0 a1) (xAy r)
def G57 (q : (List Exp) → (List Exp) → Option (Bool)) : Prop := ∀ a0 a1 r, q a0 a1 = some r → AbC 57 (xBL a0 a1) (xA2 r)
noncomputable def I20 : Info := { body := (Tryd.f20.body).getD .skip, nt := 26, results := [.tmp 4], keep := [0, 2, 4, 6, 8, 18, 28, 38, 50, 5, 7], live := [], modes := [] }
theorem fk20 : FnOk Tryd.prog 20 Tryd.f20 I20 := ⟨Tryd.func20, by kernel_rfl, by kernel_rfl, by kernel_rfl, by kernel_rfl⟩
theorem p20_e_0 (a0 a1 : Exp) : rE I20 (xAX a0 a1) [Y] [] = dn (xAy false) [(((Exp.kind a0) : Int) != (Exp.kind a1)) = true] := by kernel_rfl
theorem p20_e_1 (a0 a1 : Exp) : rE I20 (xAX a0 a1) [F, Y] [] = dn (xAy false) [(((Exp.kind a0) : Int) != (Exp.kind a1)) = false, (((Exp.n a0) : Int) != (Exp.n a1)) = true] := by kernel_rfl
theorem p20_e_2 (a0 a1 : Exp) : rE I20 (xAX a0 a1) [F, F, Y] [] = dn (xAy false) [(((Exp.kind a0) : Int) != (Exp.kind a1)) = false, (((Exp.n a0) : Int) != (Exp.n a1)) = false, (!(((Exp.text a0) : Str) == (Exp.text a1))) = true] := by kernel_rfl
theorem p20_e_3 (a0 a1 : Exp) (r1 : Bool) : rE I20 (xAX a0 a1) [F, F, F, Y] [xA2 r1] = dn (xAy false) [(((Exp.kind a0) : Int) != (Exp.kind a1)) = false, (((Exp.n a0) : Int) != (Exp.n a1)) = false, (!(((Exp.text a0) : Str) == (Exp.text a1))) = false, AbC 57 (xBL (Exp.args a0) (Exp.args a1)) (xA2 r1), (!r1) = true] := by kernel_rfl
theorem p20_e_4 (a0 a1 : Exp) (r1 : Bool) : rE I20 (xAX a0 a1) [F, F, F, F] [xA2 r1] = dn (xAy true) [(((Exp.kind a0) : Int) != (Exp.kind a1)) = false, (((Exp.n a0) : Int) != (Exp.n a1)) = false, (!(((Exp.text a0) : Str) == (Exp.text a1))) = false, AbC 57 (xBL (Exp.args a0) (Exp.args a1)) (xA2 r1), (!r1) = false] := by kernel_rfl
theorem c20_e {N : Nat} {q0 : Exp → Exp → Option (Bool)} (g0 : G20 q0) {q1 : (List Exp) → (List Exp) → Option (Bool)} (g1 : G57 q1) : ∀ a0 a1 r, xCf N q0 q1 a0 a1 = some r → RE Tryd.f20 I20 (xAX a0 a1) (xAy r) := fun a0 a1 r h =>
 cE h (fun h0 h => dE h fk20 (p20_e_0 a0 a1) (oc h0 on)) fun h0 h =>
 cE h (fun h1 h => dE h fk20 (p20_e_1 a0 a1) (oc h0 (oc h1 on))) fun h1 h =>
 cE h (fun h2 h => dE h fk20 (p20_e_2 a0 a1) (oc h0 (oc h1 (oc h2 on)))) fun h2 h =>
 bE h fun r1 h3 h => cE h (fun h4 h => dE h fk20 (p20_e_3 a0 a1 r1) (oc h0 (oc h1 (oc h2 (oc (g1 _ _ _ h3) (oc h4 on)))))) fun h4 h =>
 dE h fk20 (p20_e_4 a0 a1 r1) (oc h0 (oc h1 (oc h2 (oc (g1 _ _ _ h3) (oc h4 on)))))
theorem xEk {N : Nat} {q0 : Exp → Exp → Option (Bool)} (g0 : G20 q0) {q1 : (List Exp) → (List Exp) → Option (Bool)} (g1 : G57 q1) {a0 : Exp} {a1 : Exp} {r : Bool} (h : xCf N q0 q1 a0 a1 = some r) : AbC 20 (xAX a0 a1) (xAy r) :=
 AbsCalls.of_reach fk20 rfl rfl (Nat.le_of_ble_eq_true rfl) (c20_e g0 g1 a0 a1 r h)
noncomputable def I57 : Info := { body := (Tryd.f57.body).getD .skip, nt := 27, results := [.tmp 4], keep := [0, 2, 8, 10, 20, 28, 52], live := [(4, [0, 2, 10])], modes := [] }
theorem fk57 : FnOk Tryd.prog 57 Tryd.f57 I57 := ⟨Tryd.func57, by kernel_rfl, by kernel_rfl, by kernel_rfl, by kernel_rfl⟩
def S57_4 (x0 x1 : List Exp) (x5 : Int) : St := [(0, .v false [.sl .ro .exp x0]), (2, .v false [.sl .ro .exp x1]), (10, .v false [.int .i64 x5])]
theorem p57_4_0 (x0 x1 : List Exp) (x5 : Int) (r1 : Bool) : rS 4 I57 (S57_4 x0 x1 x5) [Y, Y] [xAy r1] = dn (xA2 false) [(decide ((x5 : Int) < (Ln x0 : Int))) = true, (0 : Int) ≤ x5 ∧ x5 < (Ln x0), (0 : Int) ≤ x5 ∧ x5 < (Ln x1), AbC 20 (xAX (gD x0 (tN x5) Ty.exp.dflt) (gD x1 (tN x5) Ty.exp.dflt)) (xAy r1), (!r1) = true] := by kernel_rfl
theorem p57_4_1 (x0 x1 : List Exp) (x5 : Int) (r1 : Bool) : rS 4 I57 (S57_4 x0 x1 x5) [Y, F] [xAy r1] = st 4 I57 (S57_4 x0 x1 (W (x5 + 1))) [(decide ((x5 : Int) < (Ln x0 : Int))) = true, (0 : Int) ≤ x5 ∧ x5 < (Ln x0), (0 : Int) ≤ x5 ∧ x5 < (Ln x1), AbC 20 (xAX (gD x0 (tN x5) Ty.exp.dflt) (gD x1 (tN x5) Ty.exp.dflt)) (xAy r1), (!r1) = false] := by kernel_rfl
theorem p57_4_2 (x0 x1 : List Exp) (x5 : Int) : rS 4 I57 (S57_4 x0 x1 x5) [F] [] = dn (xA2 true) [(decide ((x5 : Int) < (Ln x0 : Int))) = false] := by kernel_rfl
theorem p57_e_3 (a0 a1 : List Exp) : rE I57 (xBL a0 a1) [Y] [] = dn (xA2 false) [(((Ln a0 : Int) : Int) != (Ln a1 : Int)) = true] := by kernel_rfl
theorem p57_e_4 (a0 a1 : List Exp) : rE I57 (xBL a0 a1) [F] [] = st 4 I57 (S57_4 a0 a1 0) [(((Ln a0 : Int) : Int) != (Ln a1 : Int)) = false] := by kernel_rfl
theorem c57_4 {N : Nat} {q0 : Exp → Exp → Option (Bool)} (g0 : G20 q0) {q1 : (List Exp) → (List Exp) → Option (Bool)} (g1 : G57 q1) : ∀ n x0 x1 x5 r, xB3 N q0 q1 n x0 x1 x5 = some r → RS Tryd.f57 I57 4 (S57_4 x0 x1 x5) (xA2 r) := by
 intro n
 induction n with
 | zero => exact fun _ _ _ _ h => nE h
 | succ n ih =>
  exact fun x0 x1 x5 r h =>
   cE h (fun h0 h => iE h fun h1 h => iE h fun h2 h => bE h fun r1 h3 h => cE h (fun h4 h => dS h fk57 (p57_4_0 x0 x1 x5 r1) (oc h0 (oc h1 (oc h2 (oc (g0 _ _ _ h3) (oc h4 on)))))) fun h4 h =>
   tS fk57 (p57_4_1 x0 x1 x5 r1) (oc h0 (oc h1 (oc h2 (oc (g0 _ _ _ h3) (oc h4 on))))) (ih _ _ _ _ h)) fun h0 h =>
   dS h fk57 (p57_4_2 x0 x1 x5) (oc h0 on)
theorem c57_e {N : Nat} {q0 : Exp → Exp → Option (Bool)} (g0 : G20 q0) {q1 : (List Exp) → (List Exp) → Option (Bool)} (g1 : G57 q1) : ∀ a0 a1 r, xB4 N q0 q1 a0 a1 = some r → RE Tryd.f57 I57 (xBL a0 a1) (xA2 r) := fun a0 a1 r h =>
 cE h (fun h0 h => dE h fk57 (p57_e_3 a0 a1) (oc h0 on)) fun h0 h =>
 tE fk57 (p57_e_4 a0 a1) (oc h0 on) (c57_4 g0 g1 _ _ _ _ _ h)
theorem xD5 {N : Nat} {q0 : Exp → Exp → Option (Bool)} (g0 : G20 q0) {q1 : (List Exp) → (List Exp) → Option (Bool)} (g1 : G57 q1) {a0 : List Exp} {a1 : List Exp} {r : Bool} (h : xB4 N q0 q1 a0 a1 = some r) : AbC 57 (xBL a0 a1) (xA2 r) :=
 AbsCalls.of_reach fk57 rfl rfl (Nat.le_of_ble_eq_true rfl) (c57_e g0 g1 a0 a1 r h)
theorem laws_eqExpr_fix_ok {N : Nat} : ∀ d, G20 (xAM N d).c_laws_eqExpr ∧ G57 (xAM N d).c_laws_eqExprS := by
 intro d
 induction d with
 | zero => exact ⟨fun _ _ _ h => nE h, fun _ _ _ h => nE h⟩
 | succ d ih =>
  obtain ⟨ih0, ih1⟩ := ih
  exact ⟨fun _ _ _ h => xEk (N := N) ih0 ih1 h, fun _ _ _ h => xD5 (N := N) ih0 ih1 h⟩
theorem xEd {N : Nat} {a0 : Exp} {a1 : Exp} {r : Bool} (h : xEj N a0 a1 = some r) : AbC 20 (xAX a0 a1) (xAy r) := (laws_eqExpr_fix_ok N).1 _ _ r h
noncomputable def I5 : Info := { body := (Tryd.f5.body).getD .skip, nt := 27, results := [.tmp 2], keep := [0, 2, 4, 6, 8, 10, 12, 22, 42, 52, 3, 11], live := [], modes := [(8, [(0, .take, false), (1, .take, false)])] }
theorem fk5 : FnOk Tryd.prog 5 Tryd.f5 I5 := ⟨Tryd.func5, by kernel_rfl, by kernel_rfl, by kernel_rfl, by kernel_rfl⟩
theorem p5_e_0 (a0 : Exp) (r1 : Int) : rE I5 (xAV a0) [Y] [xAu r1] = dn (xAW true) [AbC 16 (xAY a0 1048576) (xAu r1), (decide ((r1 : Int) < 0)) = true] := by kernel_rfl
theorem p5_e_1 (a0 : Exp) (r1 : Int) (r2 : Exp) (r3 : Str) (r4 : Exp) (r5 : Str) : rE I5 (xAV a0) [F, Y] [xAu r1, xAp r2, xAQ r3, xAp r4, xAN r5] = dn (xAW false) [AbC 16 (xAY a0 1048576) (xAu r1), (decide ((r1 : Int) < 0)) = false, AbC 18 (xAP a0) (xAp r2), AbC 17 (xBj r2) (xAQ r3), AbC 18 (xAP a0) (xAp r4), AbC 19 (xBh r4) (xAN r5), (!((r5 : Str) == r3)) = true] := by kernel_rfl
theorem p5_e_2 (a0 : Exp) (r1 : Int) (r2 : Exp) (r3 : Str) (r4 : Exp) (r5 : Str) (r6 : Exp) (r7 : Bool) : rE I5 (xAV a0) [F, F, Y] [xAu r1, xAp r2, xAQ r3, xAp r4, xAN r5, xAp r6, xAy r7] = dn (xAW false) [AbC 16 (xAY a0 1048576) (xAu r1), (decide ((r1 : Int) < 0)) = false, AbC 18 (xAP a0) (xAp r2), AbC 17 (xBj r2) (xAQ r3), AbC 18 (xAP a0) (xAp r4), AbC 19 (xBh r4) (xAN r5), (!((r5 : Str) == r3)) = false, AbC 18 (xAP a0) (xAp r6), AbC 20 (xAX r4 r6) (xAy r7), (!r7) = true] := by kernel_rfl
theorem p5_e_3 (a0 : Exp) (r1 : Int) (r2 : Exp) (r3 : Str) (r4 : Exp) (r5 : Str) (r6 : Exp) (r7 : Bool) : rE I5 (xAV a0) [F, F, F] [xAu r1, xAp r2, xAQ r3, xAp r4, xAN r5, xAp r6, xAy r7] = dn (xAW true) [AbC 16 (xAY a0 1048576) (xAu r1), (decide ((r1 : Int) < 0)) = false, AbC 18 (xAP a0) (xAp r2), AbC 17 (xBj r2) (xAQ r3), AbC 18 (xAP a0) (xAp r4), AbC 19 (xBh r4) (xAN r5), (!((r5 : Str) == r3)) = false, AbC 18 (xAP a0) (xAp r6), AbC 20 (xAX r4 r6) (xAy r7), (!r7) = false] := by kernel_rfl
theorem c5_e {N : Nat} : ∀ a0 r, xBr N a0 = some r → RE Tryd.f5 I5 (xAV a0) (xAW r) := fun a0 r h =>
 bE h fun r1 h0 h => cE h (fun h1 h => dE h fk5 (p5_e_0 a0 r1) (oc (xC0 h0) (oc h1 on))) fun h1 h =>
 bE h fun r2 h2 h => bE h fun r3 h3 h => bE h fun r4 h4 h => bE h fun r5 h5 h => cE h (fun h6 h => dE h fk5 (p5_e_1 a0 r1 r2 r3 r4 r5) (oc (xC0 h0) (oc h1 (oc (xBD h2) (oc (xCN h3) (oc (xBD h4) (oc (xCH h5) (oc h6 on)))))))) fun h6 h =>
 bE h fun r6 h7 h => bE h fun r7 h8 h => cE h (fun h9 h => dE h fk5 (p5_e_2 a0 r1 r2 r3 r4 r5 r6 r7) (oc (xC0 h0) (oc h1 (oc (xBD h2) (oc (xCN h3) (oc (xBD h4) (oc (xCH h5) (oc h6 (oc (xBD h7) (oc (xEd h8) (oc h9 on))))))))))) fun h9 h =>
 dE h fk5 (p5_e_3 a0 r1 r2 r3 r4 r5 r6 r7) (oc (xC0 h0) (oc h1 (oc (xBD h2) (oc (xCN h3) (oc (xBD h4) (oc (xCH h5) (oc h6 (oc (xBD h7) (oc (xEd h8) (oc h9 on))))))))))
theorem laws_FnExactFormatExpr_ok {N : Nat} {a0 : Exp} {r : Bool} (h : xBr N  a0 = some r) : AbC 5 (xAV a0) (xAW r) :=
 AbsCalls.of_reach fk5 rfl rfl (Nat.le_of_ble_eq_true rfl) (c5_e a0 r h)
end Go.Ab.T
end
section
namespace Go.Ab
set_option linter.unusedVariables false
def Big (p : Nat → Prop) : Prop := ∃ k, ∀ N, k ≤ N → p N
def Big2 (p : Nat → Nat → Prop) : Prop := ∃ k, ∀ N n, k ≤ N → k ≤ n → p N n
theorem Big.imp {p q : Nat → Prop} (h : Big p) (f : ∀ N, p N → q N) : Big q := h.elim fun k hk => ⟨k, fun N hN => f N (hk N hN)⟩
theorem Big2.imp {p q : Nat → Nat → Prop} (h : Big2 p) (f : ∀ N n, p N n → q N n) : Big2 q := h.elim fun k hk => ⟨k, fun N n h1 h2 => f N n (hk N n h1 h2)⟩
theorem Big2.of {p : Nat → Nat → Prop} (h : ∀ N n, p N n) : Big2 p := ⟨0, fun N n _ _ => h N n⟩
theorem Big.and {p q : Nat → Prop} (h : Big p) (h' : Big q) : Big fun N => p N ∧ q N := by
  obtain ⟨a, ha⟩ := h; obtain ⟨b, hb⟩ := h'
  exact ⟨max a b, fun N hN => ⟨ha N (by omega), hb N (by omega)⟩⟩
theorem Big2.and {p q : Nat → Nat → Prop} (h : Big2 p) (h' : Big2 q) : Big2 fun N n => p N n ∧ q N n := by
  obtain ⟨a, ha⟩ := h; obtain ⟨b, hb⟩ := h'
  exact ⟨max a b, fun N n h1 h2 => ⟨ha N n (by omega) (by omega), hb N n (by omega) (by omega)⟩⟩
theorem Big.two {p : Nat → Prop} (h : Big p) : Big2 fun N _ => p N := h.elim fun k hk => ⟨k, fun N _ h _ => hk N h⟩
theorem Big2.diag {p : Nat → Nat → Prop} (h : Big2 p) : Big fun N => p N N := h.elim fun k hk => ⟨k, fun N h => hk N N h h⟩
theorem Big2.succ {p : Nat → Nat → Prop} (h : Big2 fun N n => p N (n + 1)) : Big2 p := by
  obtain ⟨k, hk⟩ := h
  refine ⟨k + 1, fun N n h1 h2 => ?_⟩
  obtain ⟨m, rfl⟩ : ∃ m, n = m + 1 := ⟨n - 1, by omega⟩
  exact hk N m (by omega) (by omega)
theorem Big2.list {α : Type} {p : α → Nat → Nat → Prop} {l : List α} (h : ∀ x ∈ l, Big2 (p x)) : Big2 fun N n => ∀ x ∈ l, p x N n := by
  induction l with
  | nil => exact .of fun N n x hx => by cases hx
  | cons a l ih =>
    refine ((h a List.mem_cons_self).and (ih fun x hx => h x (List.mem_cons_of_mem _ hx))).imp fun N n ⟨h1, h2⟩ x hx => ?_
    rcases List.mem_cons.1 hx with rfl | hx
    · exact h1
    · exact h2 x hx
theorem Big.get {p : Nat → Prop} (h : Big p) : ∃ N, p N := h.elim fun k hk => ⟨k, hk k (Nat.le_refl k)⟩
def I64 (x : Int) : Prop := -9223372036854775808 ≤ x ∧ x ≤ 9223372036854775807
theorem wrap_i64_def (x : Int) : IntKind.i64.wrap x = if x % 18446744073709551616 ≥ 9223372036854775808 then x % 18446744073709551616 - 18446744073709551616 else x % 18446744073709551616 := by
  show (if (true && decide (x % 18446744073709551616 ≥ 9223372036854775808)) = true then x % 18446744073709551616 - 18446744073709551616 else x % 18446744073709551616) = _
  simp only [Bool.true_and, decide_eq_true_eq]
theorem wrap_u8_def (x : Int) : IntKind.u8.wrap x = x % 256 := by
  show (if (false && decide (x % 256 ≥ 128)) = true then x % 256 - 256 else x % 256) = _
  simp
theorem xCy {x : Int} (h1 : -9223372036854775808 ≤ x) (h2 : x ≤ 9223372036854775807) : IntKind.i64.wrap x = x := by
  rw [wrap_i64_def]
  split <;> omega
theorem wrap_u8 {x : Int} (h1 : 0 ≤ x) (h2 : x ≤ 255) : IntKind.u8.wrap x = x := by
  rw [wrap_u8_def]
  omega
theorem drop_cons {α : Type} {xs : List α} {i : Nat} {x : α} {l : List α} (h : xs.drop i = x :: l) : i < xs.length ∧ xs[i]? = some x ∧ xs.drop (i + 1) = l := by
  have h1 : i < xs.length := by
    rcases Nat.lt_or_ge i xs.length with h1 | h1
    · exact h1
    · rw [List.drop_eq_nil_of_le h1] at h; cases h
  rw [List.drop_eq_getElem_cons h1] at h
  cases h
  exact ⟨h1, by simp [h1], rfl⟩
theorem drop_nil {α : Type} {xs : List α} {i : Nat} (h : xs.drop i = []) : xs.length ≤ i := by simpa using h
end Go.Ab
end
section
namespace Go.Ab
set_option linter.unusedVariables false
inductive DK (K : Nat) : D → Prop where
  | int {k n} (h : (Lit.int k n).wf = true) : DK K (.int k n)
  | bool (b) : DK K (.bool b)
  | str {s : Str} (h : s.length ≤ K) : DK K (.str s)
  | sl {sz rows} (h : rows.length ≤ K) (hr : ∀ r ∈ rows, ∀ x ∈ r, DK K x) : DK K (.sl sz rows)
theorem DFit.dk {d : D} (h : DFit d) : DK maxLen d := by
  induction h with
  | int h => exact .int h
  | bool b => exact .bool b
  | str h => exact .str h
  | sl h _ ih => exact .sl h ih
theorem wf_i64 {n : Int} : (Lit.int .i64 n).wf = true ↔ I64 n := by
  show (decide (_ ≤ n) && decide (n ≤ _)) = true ↔ _
  rw [Bool.and_eq_true, decide_eq_true_eq, decide_eq_true_eq]
  exact Iff.rfl
theorem DK.i64 {K : Nat} {n : Int} : DK K (.int .i64 n) ↔ I64 n := ⟨fun h => by cases h with | int h => exact wf_i64.1 h, fun h => .int (wf_i64.2 h)⟩
theorem DK.str_iff {K : Nat} {s : Str} : DK K (.str s) ↔ s.length ≤ K := ⟨fun h => by cases h; assumption, .str⟩
theorem DK.sl_iff {K sz : Nat} {α : Type} {f : α → List D} {xs : List α} : DK K (.sl sz (xs.map f)) ↔ xs.length ≤ K ∧ ∀ x ∈ xs, ∀ d ∈ f x, DK K d := by
  constructor
  · intro h
    cases h with
    | sl h hr => exact ⟨by simpa using h, fun x hx => hr _ (List.mem_map_of_mem hx)⟩
  · rintro ⟨h, hr⟩
    refine .sl (by simpa using h) fun r hr' => ?_
    obtain ⟨x, hx, rfl⟩ := List.mem_map.1 hr'
    exact hr x hx
def LFit {α : Type} (K : Nat) (p : α → Prop) (l : List α) : Prop := l.length ≤ K ∧ ∀ x ∈ l, p x
def Ty.Fit (K : Nat) (T : Ty) (x : T.den) : Prop := ∀ d ∈ T.toD x, DK K d
def Org.Fit (o : Org) : Prop := I64 o.cell ∧ I64 o.row
def Rowd.Fit (K : Nat) (r : Rowd) : Prop := LFit K I64 r.cells ∧ LFit K Org.Fit r.frm
def Str.Fit (K : Nat) (s : Str) : Prop := s.length ≤ K
def Exp.Fit (K : Nat) (v : Exp) : Prop := ∀ d ∈ Exp.toD v, DK K d
def Fil.Fit (K : Nat) (v : Fil) : Prop := Str.Fit K v.name ∧ I64 v.n
theorem rowd_fit {K : Nat} {r : Rowd} : (∀ d ∈ Rowd.toD r, DK K d) ↔ r.Fit K := by
  simp only [Rowd.toD, List.mem_cons, List.not_mem_nil, or_false, forall_eq_or_imp, forall_eq, DK.sl_iff, DK.i64, Rowd.Fit, LFit, Org.Fit]
theorem fil_fit {K : Nat} {r : Fil} : Ty.Fit K .fil r ↔ r.Fit K := by
  simp only [Ty.Fit, Ty.toD, List.mem_cons, List.not_mem_nil, or_false, forall_eq_or_imp, forall_eq, DK.str_iff, DK.i64, Fil.Fit, Str.Fit]
theorem Exp.fit_iff {K : Nat} {v : Exp} : v.Fit K ↔ I64 v.kind ∧ I64 v.n ∧ Str.Fit K v.text ∧ LFit K (Exp.Fit K) v.args := by
  cases v
  simp only [Exp.Fit, Exp.toD, Exp.toDs_eq, List.mem_cons, List.not_mem_nil, or_false, forall_eq_or_imp, forall_eq, DK.sl_iff, DK.i64, DK.str_iff, Str.Fit, LFit, Exp.kind, Exp.n, Exp.text, Exp.args]
theorem sizeOf_mem_args {l : List Exp} {x : Exp} (h : x ∈ l) (k n : Int) (t : Str) : SizeOf.sizeOf x < SizeOf.sizeOf (Exp.mk k n t l) := by
  have := List.sizeOf_lt_of_mem h
  simp only [Exp.mk.sizeOf_spec]
  omega
theorem Exp.ind {p : Exp → Prop} (h : ∀ k n t l, (∀ x ∈ l, p x) → p (.mk k n t l)) : ∀ v, p v
  | .mk k n t l => h k n t l fun x hx => Exp.ind h x
termination_by v => SizeOf.sizeOf v
decreasing_by exact sizeOf_mem_args hx k n t
theorem cell_int {n : Int} (h : DK maxLen (CV.int .i64 n).toD) : I64 n := DK.i64.1 h
theorem cell_str {s : Str} (h : DK maxLen (CV.str s).toD) : Str.Fit maxLen s := DK.str_iff.1 h
theorem cell_sl {T : Ty} {f : Fl} {xs : List T.den} (h : DK maxLen (CV.sl f T xs).toD) : LFit maxLen (T.Fit maxLen) xs := DK.sl_iff.1 h
end Go.Ab
end
section
namespace Go.Ab
set_option linter.unusedVariables false
theorem xCG {α σ ρ : Type} {L : Nat → Int → σ → Option ρ} (x0 : List α) (g : List α → σ → ρ) (Inv : Nat → σ → Prop)
    (hnil : ∀ n s, Inv x0.length s → L (n + 1) (x0.length : Nat) s = some (g [] s))
    (hcons : ∀ i x l s, x0.drop i = x :: l → i < x0.length → x0[i]? = some x → Inv i s →
      (∃ s', Inv (i + 1) s' ∧ g (x :: l) s = g l s' ∧ ∀ n, L (n + 1) (i : Nat) s = L n ((i + 1 : Nat) : Int) s') ∨ (∀ n, L (n + 1) (i : Nat) s = some (g (x :: l) s))) :
    ∀ n i s, Inv i s → i ≤ x0.length → x0.length < n + i → L n (i : Nat) s = some (g (x0.drop i) s) := by
  intro n
  induction n with
  | zero => intro i s _ h1 h2; omega
  | succ n ih =>
    intro i s hs hi hn
    cases hd : x0.drop i with
    | nil =>
      have := drop_nil hd
      obtain rfl : i = x0.length := by omega
      exact hnil n s hs
    | cons x l =>
      obtain ⟨h1, h2, h3⟩ := drop_cons hd
      rcases hcons i x l s hd h1 h2 hs with ⟨s', h4, h5, h6⟩ | h
      · rw [h6, ih (i + 1) s' h4 (by omega) (by omega), h3, h5]
      · exact h n
theorem xBP {α : Type} {xs : List α} {i : Nat} {x : α} (h : xs[i]? = some x) (d : α) : xs.getD i d = x := by simp [List.getD, h]
theorem xBm {i : Nat} {len : Nat} (h : i < len) (hl : len ≤ 9223372036854775807) : IntKind.i64.wrap ((i : Int) + 1) = ((i + 1 : Nat) : Int) := by
  rw [xCy (by omega) (by omega)]; omega
def left (s : Nat) (l : Int) : Int := if (s : Int) ≤ l then l - s else -1
theorem left_of {s : Nat} {l : Int} (h : (s : Int) ≤ l) : left s l = l - s := by unfold left; rw [if_pos h]
theorem xD0 {s : Nat} {l : Int} (h : ¬ (s : Int) ≤ l) : left s l = -1 := by unfold left; rw [if_neg h]
theorem szThen {s b : Nat} {F : Option Int} {R : Int → Option Int} {l : Int} (hl : s ≤ 9223372036854775807) (h0 : 0 ≤ l) (h1 : l ≤ 1048576)
    (hF : F = bif decide (IntKind.i64.wrap (l - (s : Int)) < 0) then some (-1) else R (IntKind.i64.wrap (l - (s : Int))))
    (hR : ∀ m, 0 ≤ m → m ≤ 1048576 → R m = some (left b m)) : F = some (left (s + b) l) := by
  rw [hF, xCy (by omega) (by omega)]
  by_cases h : (s : Int) ≤ l
  · rw [decide_eq_false (by omega), cond_false, hR _ (by omega) (by omega)]
    unfold left
    split <;> split <;> first | rfl | omega | (congr 1; omega)
  · rw [decide_eq_true (by omega), cond_true, xD0 (by omega)]
theorem left_two {a : Nat} {l : Int} {x : Option Int} (h : x = some (left a l)) : (x.bind fun r1 => bif decide (r1 < 0) then (some (-1) : Option Int) else some r1) = some (left a l) := by
  rw [h, Option.bind_some]
  unfold left
  split
  · rw [decide_eq_false (by omega)]; rfl
  · rfl
section
variable {α : Type} {d : α}
theorem szLoop {L : Nat → List α → Int → Int → Option Int} {sz : α → Int → Option Int} {size : α → Nat} {x0 : List α}
    (hL : ∀ n x1 x5, L (n + 1) x0 x1 x5 = bif decide (x5 < (x0.length : Int)) then (if (0 : Int) ≤ x5 ∧ x5 < (x0.length : Int) then Option.bind (sz (x0.getD x5.toNat d) x1) fun r1 => bif decide (r1 < 0) then some (-1) else L n x0 r1 (IntKind.i64.wrap (x5 + 1)) else none) else some x1)
    (hlen : x0.length ≤ 9223372036854775807) (hsz : ∀ x ∈ x0, ∀ l, 0 ≤ l → l ≤ 1048576 → sz x l = some (left (size x) l)) {n : Nat} (hn : x0.length < n) {l : Int} (h0 : 0 ≤ l) (h1 : l ≤ 1048576) :
    L n x0 l 0 = some (left (x0.map size).sum l) := by
  have key := xCG (L := fun n i s => L n x0 s i) x0 (fun l s => left (l.map size).sum s) (fun _ s => 0 ≤ s ∧ s ≤ 1048576) (fun n s hs => by
      have hs : 0 ≤ s ∧ s ≤ 1048576 := hs
      simp only [hL]; simp [left]; omega)
    (fun i x r s hd hi hx hs => by
      have hs : 0 ≤ s ∧ s ≤ 1048576 := hs
      have hi' : (i : Int) < (x0.length : Int) := by omega
      have hm : x ∈ x0 := List.mem_of_getElem? hx
      by_cases hle : (size x : Int) ≤ s
      · refine .inl ⟨s - size x, by omega, ?_, fun n => ?_⟩
        · simp only [List.map_cons, List.sum_cons, left]
          split <;> split <;> omega
        · simp only [hL, decide_eq_true hi', cond_true, Int.toNat_natCast, xBP hx, hsz x hm s hs.1 hs.2, left_of hle, Option.bind_some, xBm hi hlen]
          rw [if_pos (by omega), decide_eq_false (by omega), cond_false]
      · refine .inr fun n => ?_
        simp only [hL, decide_eq_true hi', cond_true, Int.toNat_natCast, xBP hx, hsz x hm s hs.1 hs.2, xD0 hle, Option.bind_some]
        rw [if_pos (by omega), decide_eq_true (by omega), cond_true]
        simp only [List.map_cons, List.sum_cons, left]
        rw [if_neg (by omega)])
    n 0 l ⟨h0, h1⟩ (by omega) (by omega)
  simpa using key
theorem toLoop {L : Nat → List α → List α → Int → Option (List α)} {to : α → Option α} {re : α → α} {x0 : List α}
    (hL : ∀ n x3 x4, L (n + 1) x0 x3 x4 = bif decide (x4 < (x0.length : Int)) then (if (0 : Int) ≤ x4 ∧ x4 < (x0.length : Int) then Option.bind (to (x0.getD x4.toNat d)) fun r1 => (if (0 : Int) ≤ x4 ∧ x4 < (x3.length : Int) then L n x0 (x3.set x4.toNat (re r1)) (IntKind.i64.wrap (x4 + 1)) else none) else none) else some x3)
    (hlen : x0.length ≤ 9223372036854775807) (hto : ∀ x ∈ x0, ∃ y, to x = some y ∧ re y = x) {n : Nat} (hn : x0.length < n) :
    L n x0 (List.replicate x0.length d) 0 = some x0 := by
  have key := xCG (L := fun n i s => L n x0 s i) x0 (fun _ _ => x0) (fun i s => s = x0.take i ++ List.replicate (x0.length - i) d) (fun n s hs => by
      have hs : s = x0.take x0.length ++ List.replicate (x0.length - x0.length) d := hs
      simp only [hL]; simp [hs])
    (fun i x r s hd hi hx hs => by
      have hs : s = x0.take i ++ List.replicate (x0.length - i) d := hs
      have hi' : (i : Int) < (x0.length : Int) := by omega
      have hm : x ∈ x0 := List.mem_of_getElem? hx
      obtain ⟨y, h1, h2⟩ := hto x hm
      have hsl : s.length = x0.length := by rw [hs]; simp; omega
      refine .inl ⟨s.set i x, ?_, rfl, fun n => ?_⟩
      · show s.set i x = x0.take (i + 1) ++ List.replicate (x0.length - (i + 1)) d
        rw [hs, List.set_append]
        have : (x0.take i).length = i := by simp; omega
        rw [this, if_neg (by omega), List.take_add_one, hx, Option.toList_some, List.append_assoc, Nat.sub_self]
        rw [show x0.length - i = (x0.length - (i + 1)) + 1 from by omega, List.replicate_succ, List.set_cons_zero]
        rfl
      · simp only [hL, decide_eq_true hi', cond_true, Int.toNat_natCast, xBP hx, h1, h2, Option.bind_some, xBm hi hlen, hsl]
        rw [if_pos (by omega), if_pos (by omega)])
    n 0 (List.replicate x0.length d) (by simp) (by omega) (by omega)
  exact key
theorem eqLoop {L : Nat → Int → Option Bool} {x0 : List α} (hend : ∀ n, L (n + 1) (x0.length : Nat) = some true)
    (hcons : ∀ (i : Nat) x n, i < x0.length → x0[i]? = some x → x ∈ x0 → L (n + 1) (i : Nat) = L n ((i + 1 : Nat) : Int)) {n : Nat} (hn : x0.length < n) : L n 0 = some true := by
  have key := xCG (σ := Unit) (L := fun n i _ => L n i) x0 (fun _ _ => true) (fun _ _ => True) (fun n _ _ => hend n)
    (fun i x r s hd hi hx _ => .inl ⟨(), trivial, rfl, fun n => hcons i x n hi hx (List.mem_of_getElem? hx)⟩) n 0 () trivial (by omega) (by omega)
  exact key
end
end Go.Ab
end
section
namespace Go.Ab
set_option linter.unusedVariables false
theorem vk (a b c : Int) (t : Str) (l : List Val) (k : List Str) (r : List Rowd) : (Val.mk a b c t l k r).kind = a := rfl
theorem vs (a b c : Int) (t : Str) (l : List Val) (k : List Str) (r : List Rowd) : (Val.mk a b c t l k r).step = c := rfl
theorem vl (a b c : Int) (t : Str) (l : List Val) (k : List Str) (r : List Rowd) : (Val.mk a b c t l k r).list = l := rfl
theorem ek (a b : Int) (t : Str) (l : List Exp) : (Exp.mk a b t l).kind = a := rfl
theorem en (a b : Int) (t : Str) (l : List Exp) : (Exp.mk a b t l).n = b := rfl
theorem et (a b : Int) (t : Str) (l : List Exp) : (Exp.mk a b t l).text = t := rfl
theorem ea (a b : Int) (t : Str) (l : List Exp) : (Exp.mk a b t l).args = l := rfl
mutual
def Exp.size : Exp → Nat
  | .mk _ _ t a => t.length + (a.length + Exp.sizes a)
def Exp.sizes : List Exp → Nat
  | [] => 0
  | x :: r => Exp.size x + Exp.sizes r
end
theorem Exp.sizes_eq (l : List Exp) : Exp.sizes l = (l.map Exp.size).sum := by
  induction l with
  | nil => rfl
  | cons x l ih => simp [Exp.sizes, ih]
theorem size_mem {α : Type} {f : α → Nat} {l : List α} {x : α} (h : x ∈ l) : f x ≤ (l.map f).sum := by
  induction l with
  | nil => cases h
  | cons a l ih =>
    simp only [List.map_cons, List.sum_cons]
    rcases List.mem_cons.1 h with rfl | h
    · omega
    · have := ih h; omega
theorem Exp.size_eq (e : Exp) : e.size = e.text.length + (e.args.length + (e.args.map Exp.size).sum) := by
  cases e; simp [Exp.size, Exp.sizes_eq, Exp.text, Exp.args]
theorem lfit_size {α : Type} {K M : Nat} {p q : α → Prop} {f : α → Nat} {l : List α} (h : LFit M p l) (hs : l.length + (l.map f).sum ≤ K) (hpq : ∀ x ∈ l, p x → f x ≤ K → q x) : LFit K q l :=
  ⟨by omega, fun x hx => hpq x hx (h.2 x hx) (by have := size_mem (f := f) hx; omega)⟩
theorem Exp.fit_size {K M : Nat} : ∀ e : Exp, e.Fit M → e.size ≤ K → e.Fit K := by
  refine Exp.ind fun k n t l ih h hs => ?_
  rw [Exp.fit_iff] at h ⊢
  obtain ⟨h1, h2, h3, h4⟩ := h
  have hs := hs
  rw [Exp.size_eq] at hs
  exact ⟨h1, h2, show List.length _ ≤ K from by omega, lfit_size h4 (by omega) fun x hx => ih x hx⟩
theorem big_lt (n : Nat) : Big fun N => n < N := ⟨n + 1, fun N h => by omega⟩
end Go.Ab
end
