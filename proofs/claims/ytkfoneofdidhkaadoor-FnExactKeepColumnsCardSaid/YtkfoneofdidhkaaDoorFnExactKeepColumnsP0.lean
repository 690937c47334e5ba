/- The statement FnExactKeepColumns holds: plain functions, certificates, laws. Conditions: none. -/
import Derived.LaidMore
import Derived.Lay
import Derived.SevenTiedAt
import Derived.Shelf.Strings.Split
import Derived.Stop.Joined
import Derived.Test.YtkfoneofdidhkaaDoorCards
import Derived.Test.YtkfoneofdidhkaaDoorChecked
import Derived.Test.YtkfoneofdidhkaaDoorProg
import Derived.Test.YtkfoneofdidhkaaDoorRows
import Derived.Test.YtkfoneofdidhkaaDoorTie
import Derived.Test.YtkfoneofdidhkaaDoorK2
set_option linter.all false
section
namespace Go.Ab
set_option linter.unusedVariables false
def xAI (a0 : List Str) (a1 : Str) : List Arg := [.val (.v false [.sl .ro .str a0]), .val (.v false [.str a1])]
def xAz (r : Int) : CallO := ⟨.v false [.int .i64 r], [], []⟩
def xAy (N : Nat) : Nat → (List Str) → Str → Int → Option (Int)
  | 0, _, _, _ => none
  | n + 1, x0, x1, x5 =>
    bif (decide ((x5 : Int) < (List.length x0 : Int))) then (
      if (0 : Int) ≤ x5 ∧ x5 < (List.length x0) then
      bif (((List.getD x0 (Int.toNat x5) Ty.str.dflt) : Str) == x1) then (
        some x5
      ) else (
        (xAy N n x0 x1 (IntKind.i64.wrap (x5 + 1)))
      )
      else none
    ) else (
      some (-1)
    )
def xAM (N : Nat) (a0 : List Str) (a1 : Str) : Option (Int) :=
  (xAy N N a0 a1 0)
def xAv (a0 : Val) (a1 : Str) : List Arg := [.val (.v true [.int .i64 (Val.kind a0), .int .i64 (Val.n a0), .int .i64 (Val.step a0), .str (Val.text a0), .sl .ro .val (Val.list a0), .sl .ro .str (Val.columns a0), .sl .ro .row (Val.rows a0)]), .val (.v false [.str a1])]
def xAm (r : Int) : CallO := ⟨.v false [.int .i64 r], [], []⟩
def xAA (N : Nat) (a0 : Val) (a1 : Str) : Option (Int) :=
  Option.bind (xAM N (Val.columns a0) a1) fun r1 =>
  some r1
def xAh (a0 : Val) (a1 : Val) : List Arg := [.val (.v true [.int .i64 (Val.kind a0), .int .i64 (Val.n a0), .int .i64 (Val.step a0), .str (Val.text a0), .sl .ro .val (Val.list a0), .sl .ro .str (Val.columns a0), .sl .ro .row (Val.rows a0)]), .val (.v true [.int .i64 (Val.kind a1), .int .i64 (Val.n a1), .int .i64 (Val.step a1), .str (Val.text a1), .sl .ro .val (Val.list a1), .sl .ro .str (Val.columns a1), .sl .ro .row (Val.rows a1)])]
def xAa (r : Val) : CallO := ⟨.v true [.int .i64 (Val.kind r), .int .i64 (Val.n r), .int .i64 (Val.step r), .str (Val.text r), .sl .ro .val (Val.list r), .sl .ro .str (Val.columns r), .sl .ro .row (Val.rows r)], [], []⟩
def xAs (N : Nat) (k12 : (List Str) → Int → Val → Val → Val → Option (Val)) : Nat → (List Str) → Int → Int → Val → Val → Val → Rowd → Option (Val)
  | 0, _, _, _, _, _, _, _ => none
  | n + 1, x7, x10, x12, b3, b4, b8, b11 =>
    bif (decide ((x12 : Int) < (List.length x7 : Int))) then (
      if (0 : Int) ≤ x10 ∧ x10 < (List.length (Val.rows b3)) then
      if (0 : Int) ≤ x12 ∧ x12 < (List.length x7) then
      Option.bind (xAA N b3 (List.getD x7 (Int.toNat x12) Ty.str.dflt)) fun r1 =>
      if (0 : Int) ≤ r1 ∧ r1 < (List.length (Rowd.cells (List.getD (Val.rows b3) (Int.toNat x10) Ty.row.dflt))) then
      if List.length (Rowd.cells b11) + List.length [(List.getD (Rowd.cells (List.getD (Val.rows b3) (Int.toNat x10) Ty.row.dflt)) (Int.toNat r1) Ty.int.dflt)] ≤ Lim then
      (xAs N k12 n x7 x10 (IntKind.i64.wrap (x12 + 1)) b3 b4 b8 (Rowd.mk ((Rowd.cells b11) ++ [(List.getD (Rowd.cells (List.getD (Val.rows b3) (Int.toNat x10) Ty.row.dflt)) (Int.toNat r1) Ty.int.dflt)]) (Rowd.frm b11)))
      else none
      else none
      else none
      else none
    ) else (
      if List.length (Val.rows b8) + List.length [b11] ≤ Lim then
      (k12 x7 (IntKind.i64.wrap (x10 + 1)) b3 b4 (Val.mk (Val.kind b8) (Val.n b8) (Val.step b8) (Val.text b8) (Val.list b8) (Val.columns b8) ((Val.rows b8) ++ [b11])))
      else none
    )
def xAo (N : Nat) : Nat → (List Str) → Int → Val → Val → Val → Option (Val)
  | 0, _, _, _, _, _ => none
  | n + 1, x7, x10, b3, b4, b8 =>
    bif (decide ((x10 : Int) < (List.length (Val.rows b3) : Int))) then (
      if (0 : Int) ≤ x10 ∧ x10 < (List.length (Val.rows b3)) then
      if 0 + List.length (Rowd.frm (List.getD (Val.rows b3) (Int.toNat x10) Ty.row.dflt)) ≤ Lim then
      (xAs N (fun z0 z1 z2 z3 z4 => (xAo N n z0 z1 z2 z3 z4)) N x7 x10 0 b3 b4 b8 (Rowd.mk [] ([] ++ (Rowd.frm (List.getD (Val.rows b3) (Int.toNat x10) Ty.row.dflt)))))
      else none
      else none
    ) else (
      some b8
    )
def xAq (N : Nat) : Nat → (List Str) → Int → Val → Val → Val → Option (Val)
  | 0, _, _, _, _, _ => none
  | n + 1, x7, x9, b3, b4, b8 =>
    bif (decide ((x9 : Int) < (List.length x7 : Int))) then (
      if (0 : Int) ≤ x9 ∧ x9 < (List.length x7) then
      Option.bind (xAA N b3 (List.getD x7 (Int.toNat x9) Ty.str.dflt)) fun r1 =>
      bif (decide ((r1 : Int) < 0)) then (
        Option.bind (yB2 N 7) fun r2 =>
        some r2
      ) else (
        Option.bind (yEn N x7) fun r2 =>
        bif (!r2) then (
          Option.bind (yB2 N 7) fun r3 =>
          some r3
        ) else (
          (xAq N n x7 (IntKind.i64.wrap (x9 + 1)) b3 b4 b8)
        )
      )
      else none
    ) else (
      (xAo N N x7 0 b3 b4 b8)
    )
def xAw (N : Nat) (a0 : Val) (a1 : Val) : Option (Val) :=
  Option.bind (yFU N [(Val.re a0), (Val.re a1)] [2, 5]) fun r1 =>
  bif r1.2 then (
    some r1.1
  ) else (
    Option.bind (yFc N (Val.text a0) 32) fun r2 =>
    (xAq N N r2 0 a1 (Val.mk 0 0 0 [] [] [] []) (Val.mk 5 0 0 [] [] r2 []))
  )
def xAx (a0 : Val) (a1 : Str) : List Arg := [.val (.v true [.int .i64 (Val.kind a0), .int .i64 (Val.n a0), .int .i64 (Val.step a0), .str (Val.text a0), .sl .ro .val (Val.list a0), .sl .ro .str (Val.columns a0), .sl .ro .row (Val.rows a0)]), .val (.v false [.str a1])]
def xAu (r : Int) : CallO := ⟨.v false [.int .i64 r], [], []⟩
def xAE (N : Nat) (a0 : Val) (a1 : Str) : Option (Int) :=
  Option.bind (yFM N (Val.columns a0) a1) fun r1 =>
  some r1
def xAb (a0 : Val) (a1 : Val) : List Arg := [.val (.v true [.int .i64 (Val.kind a0), .int .i64 (Val.n a0), .int .i64 (Val.step a0), .str (Val.text a0), .sl .ro .val (Val.list a0), .sl .ro .str (Val.columns a0), .sl .ro .row (Val.rows a0)]), .val (.v true [.int .i64 (Val.kind a1), .int .i64 (Val.n a1), .int .i64 (Val.step a1), .str (Val.text a1), .sl .ro .val (Val.list a1), .sl .ro .str (Val.columns a1), .sl .ro .row (Val.rows a1)])]
def xAF (r : Val × Bool) : CallO := ⟨.v true [.int .i64 (Val.kind r.1), .int .i64 (Val.n r.1), .int .i64 (Val.step r.1), .str (Val.text r.1), .sl .ro .val (Val.list r.1), .sl .ro .str (Val.columns r.1), .sl .ro .row (Val.rows r.1)], [], []⟩
def xAc (r : Val × Bool) : CallO := ⟨.v true [.int .i64 (Val.kind r.1), .int .i64 (Val.n r.1), .int .i64 (Val.step r.1), .str (Val.text r.1), .sl .own .val (Val.list r.1), .sl .own .str (Val.columns r.1), .sl .own .row (Val.rows r.1)], [], []⟩
def xAd (r : Val × Bool) : CallO := ⟨.v true [.int .i64 (Val.kind r.1), .int .i64 (Val.n r.1), .int .i64 (Val.step r.1), .str (Val.text r.1), .sl .ro .val [], .sl .ro .str [], .sl .ro .row []], [], []⟩
def xAl (r : Val × Bool) : CallO := bif r.2 then xAF r else xAc r
def xAr (N : Nat) (k17 : (List Int) → (List Rowd) → Int → Int → Val → Val → Option (Val × Bool)) : Nat → (List Int) → (List Rowd) → Int → Int → (List Int) → Int → Int → Val → Val → Rowd → Rowd → Option (Val × Bool)
  | 0, _, _, _, _, _, _, _, _, _, _, _ => none
  | n + 1, x8, x56, x57, x58, x67, x68, x69, b4, b7, b13, b14 =>
    bif (decide ((x69 : Int) < x68)) then (
      if (0 : Int) ≤ x69 ∧ x69 < (List.length x67) then
      if (0 : Int) ≤ (List.getD x67 (Int.toNat x69) Ty.int.dflt) ∧ (List.getD x67 (Int.toNat x69) Ty.int.dflt) < (List.length (Rowd.cells b13)) then
      if List.length (Rowd.cells b14) + List.length [(List.getD (Rowd.cells b13) (Int.toNat (List.getD x67 (Int.toNat x69) Ty.int.dflt)) Ty.int.dflt)] ≤ Lim then
      (xAr N k17 n x8 x56 x57 x58 x67 x68 (IntKind.i64.wrap (x69 + 1)) b4 b7 b13 (Rowd.mk ((Rowd.cells b14) ++ [(List.getD (Rowd.cells b13) (Int.toNat (List.getD x67 (Int.toNat x69) Ty.int.dflt)) Ty.int.dflt)]) (Rowd.frm b14)))
      else none
      else none
      else none
    ) else (
      if List.length (Val.rows b7) + List.length [b14] ≤ Lim then
      (k17 x8 x56 x57 (IntKind.i64.wrap (x58 + 1)) b4 (Val.mk (Val.kind b7) (Val.n b7) (Val.step b7) (Val.text b7) (Val.list b7) (Val.columns b7) ((Val.rows b7) ++ [b14])))
      else none
    )
def xAn (N : Nat) : Nat → (List Int) → (List Rowd) → Int → Int → Val → Val → Option (Val × Bool)
  | 0, _, _, _, _, _, _ => none
  | n + 1, x8, x56, x57, x58, b4, b7 =>
    bif (decide ((x58 : Int) < x57)) then (
      if (0 : Int) ≤ x58 ∧ x58 < (List.length x56) then
      if 0 + List.length (Rowd.frm (List.getD x56 (Int.toNat x58) Ty.row.dflt)) ≤ Lim then
      (xAr N (fun z0 z1 z2 z3 z4 z5 => (xAn N n z0 z1 z2 z3 z4 z5)) N x8 x56 x57 x58 x8 (List.length x8 : Int) 0 b4 b7 (List.getD x56 (Int.toNat x58) Ty.row.dflt) (Rowd.mk [] ([] ++ (Rowd.frm (List.getD x56 (Int.toNat x58) Ty.row.dflt)))))
      else none
      else none
    ) else (
      some (b7, false)
    )
def xAp (N : Nat) : Nat → (List Int) → (List Str) → Int → Int → Val → Val → Val → Option (Val × Bool)
  | 0, _, _, _, _, _, _, _ => none
  | n + 1, x8, x33, x34, x35, b3, b4, b7 =>
    bif (decide ((x35 : Int) < x34)) then (
      if (0 : Int) ≤ x35 ∧ x35 < (List.length x33) then
      Option.bind (xAE N b3 (List.getD x33 (Int.toNat x35) Ty.str.dflt)) fun r1 =>
      bif (decide ((r1 : Int) < 0)) then (
        Option.bind (yC9 N 7) fun r2 =>
        some (r2, false)
      ) else (
        if List.length x8 + List.length [r1] ≤ Lim then
        (xAp N n (x8 ++ [r1]) x33 x34 (IntKind.i64.wrap (x35 + 1)) b3 b4 b7)
        else none
      )
      else none
    ) else (
      Option.bind (yEe N (Val.columns b7)) fun r1 =>
      bif (!r1) then (
        Option.bind (yC9 N 7) fun r2 =>
        some (r2, false)
      ) else (
        (xAn N N x8 (Val.rows b3) (List.length (Val.rows b3) : Int) 0 b4 b7)
      )
    )
def xAt (N : Nat) (a0 : Val) (a1 : Val) : Option (Val × Bool) :=
  Option.bind (yE3 N [2, 5] [(Val.re a0), (Val.re a1)]) fun r1 =>
  bif r1.2.2 then (
    if List.isEmpty (Val.list r1.1) = true then
    if List.isEmpty (Val.columns r1.1) = true then
    if List.isEmpty (Val.rows r1.1) = true then
    bif r1.2.1 then (
      some ((Val.mk (Val.kind r1.1) (Val.n r1.1) (Val.step r1.1) (Val.text r1.1) [] [] []), true)
    ) else (
      Option.bind (yE2 N (Val.text a0) 32) fun r2 =>
      (xAp N N [] r2 (List.length r2 : Int) 0 a1 (Val.mk 0 0 0 [] [] [] []) (Val.mk 5 0 0 [] [] r2 []))
    )
    else none
    else none
    else none
  ) else (
    bif r1.2.1 then (
      some (r1.1, false)
    ) else (
      Option.bind (yE2 N (Val.text a0) 32) fun r2 =>
      (xAp N N [] r2 (List.length r2 : Int) 0 a1 (Val.mk 0 0 0 [] [] [] []) (Val.mk 5 0 0 [] [] r2 []))
    )
  )
def xAe (a0 : Val) (a1 : Val) : List Arg := [.val (.v true [.int .i64 (Val.kind a0), .int .i64 (Val.n a0), .int .i64 (Val.step a0), .str (Val.text a0), .sl .ro .val (Val.list a0), .sl .ro .str (Val.columns a0), .sl .ro .row (Val.rows a0)]), .val (.v true [.int .i64 (Val.kind a1), .int .i64 (Val.n a1), .int .i64 (Val.step a1), .str (Val.text a1), .sl .ro .val (Val.list a1), .sl .ro .str (Val.columns a1), .sl .ro .row (Val.rows a1)])]
def xAf (r : Bool) : CallO := ⟨.v false [.bool r], [], []⟩
def xAB (N : Nat) (a0 : Val) (a1 : Val) : Option (Bool) :=
  Option.bind (yFO N a0 1048576) fun r1 =>
  bif (decide ((r1 : Int) < 0)) then (
    some true
  ) else (
    Option.bind (yFO N a1 r1) fun r2 =>
    bif (decide ((r2 : Int) < 0)) then (
      some true
    ) else (
      Option.bind (yBd N a0) fun r3 =>
      Option.bind (yBd N a1) fun r4 =>
      Option.bind (xAw N r3 r4) fun r5 =>
      Option.bind (yBd N a0) fun r6 =>
      Option.bind (yBd N a1) fun r7 =>
      Option.bind (xAt N r6 r7) fun r8 =>
      bif r8.2 then (
        if List.isEmpty (Val.list r8.1) = true then
        if List.isEmpty (Val.columns r8.1) = true then
        if List.isEmpty (Val.rows r8.1) = true then
        Option.bind (yBc N (Val.mk (Val.kind r8.1) (Val.n r8.1) (Val.step r8.1) (Val.text r8.1) [] [] []) r5) fun r9 =>
        bif (!r9) then (
          some false
        ) else (
          Option.bind (yBd N a0) fun r10 =>
          Option.bind (yBc N r6 r10) fun r11 =>
          bif (!r11) then (
            some false
          ) else (
            Option.bind (yBd N a1) fun r12 =>
            Option.bind (yBc N r7 r12) fun r13 =>
            bif (!r13) then (
              some false
            ) else (
              Option.bind (yBC N r6 1) fun r14 =>
              if List.length r14.2.1 = List.length (Val.list r6) then
              if List.length r14.2.2.1 = List.length (Val.columns r6) then
              if List.length r14.2.2.2 = List.length (Val.rows r6) then
              Option.bind (yBC N r7 r14.1) fun r15 =>
              if List.length r15.2.1 = List.length (Val.list r7) then
              if List.length r15.2.2.1 = List.length (Val.columns r7) then
              if List.length r15.2.2.2 = List.length (Val.rows r7) then
              bif (decide ((r15.1 : Int) < 0)) then (
                some false
              ) else (
                Option.bind (yBc N (Val.mk (Val.kind r8.1) (Val.n r8.1) (Val.step r8.1) (Val.text r8.1) [] [] []) r5) fun r16 =>
                bif (!r16) then (
                  some false
                ) else (
                  Option.bind (yDt N (Val.mk (Val.kind r8.1) (Val.n r8.1) (Val.step r8.1) (Val.text r8.1) [] [] []) 1) fun r17 =>
                  Option.bind (yAR N (Val.mk (Val.kind r8.1) (Val.n r8.1) (Val.step r8.1) (Val.text r8.1) [] [] []) 1) fun r18 =>
                  bif (decide ((r18 : Int) < 0)) then (
                    some false
                  ) else (
                    bif ((r18 : Int) != r17) then (
                      some false
                    ) else (
                      Option.bind (yBd N a0) fun r19 =>
                      Option.bind (yBd N a1) fun r20 =>
                      Option.bind (xAt N r19 r20) fun r21 =>
                      bif r21.2 then (
                        if List.isEmpty (Val.list r21.1) = true then
                        if List.isEmpty (Val.columns r21.1) = true then
                        if List.isEmpty (Val.rows r21.1) = true then
                        Option.bind (yBc N (Val.mk (Val.kind r21.1) (Val.n r21.1) (Val.step r21.1) (Val.text r21.1) [] [] []) r5) fun r22 =>
                        bif (!r22) then (
                          some false
                        ) else (
                          Option.bind (yAR N (Val.mk (Val.kind r8.1) (Val.n r8.1) (Val.step r8.1) (Val.text r8.1) [] [] []) 1) fun r23 =>
                          bif (decide ((r23 : Int) < 0)) then (
                            some false
                          ) else (
                            bif ((r23 : Int) != r17) then (
                              some false
                            ) else (
                              some true
                            )
                          )
                        )
                        else none
                        else none
                        else none
                      ) else (
                        Option.bind (yBc N r21.1 r5) fun r22 =>
                        bif (!r22) then (
                          some false
                        ) else (
                          Option.bind (yAR N (Val.mk (Val.kind r8.1) (Val.n r8.1) (Val.step r8.1) (Val.text r8.1) [] [] []) 1) fun r23 =>
                          bif (decide ((r23 : Int) < 0)) then (
                            some false
                          ) else (
                            bif ((r23 : Int) != r17) then (
                              some false
                            ) else (
                              some true
                            )
                          )
                        )
                      )
                    )
                  )
                )
              )
              else none
              else none
              else none
              else none
              else none
              else none
            )
          )
        )
        else none
        else none
        else none
      ) else (
        Option.bind (yBc N r8.1 r5) fun r9 =>
        bif (!r9) then (
          some false
        ) else (
          Option.bind (yBd N a0) fun r10 =>
          Option.bind (yBc N r6 r10) fun r11 =>
          bif (!r11) then (
            some false
          ) else (
            Option.bind (yBd N a1) fun r12 =>
            Option.bind (yBc N r7 r12) fun r13 =>
            bif (!r13) then (
              some false
            ) else (
              Option.bind (yBC N r6 1) fun r14 =>
              if List.length r14.2.1 = List.length (Val.list r6) then
              if List.length r14.2.2.1 = List.length (Val.columns r6) then
              if List.length r14.2.2.2 = List.length (Val.rows r6) then
              Option.bind (yBC N r7 r14.1) fun r15 =>
              if List.length r15.2.1 = List.length (Val.list r7) then
              if List.length r15.2.2.1 = List.length (Val.columns r7) then
              if List.length r15.2.2.2 = List.length (Val.rows r7) then
              bif (decide ((r15.1 : Int) < 0)) then (
                some false
              ) else (
                Option.bind (yBc N r8.1 r5) fun r16 =>
                bif (!r16) then (
                  some false
                ) else (
                  Option.bind (yBC N r8.1 1) fun r17 =>
                  if List.length r17.2.1 = List.length (Val.list r8.1) then
                  if List.length r17.2.2.1 = List.length (Val.columns r8.1) then
                  if List.length r17.2.2.2 = List.length (Val.rows r8.1) then
                  Option.bind (yAR N (Val.mk (Val.kind r8.1) (Val.n r8.1) (Val.step r8.1) (Val.text r8.1) r17.2.1 r17.2.2.1 r17.2.2.2) 1) fun r18 =>
                  bif (decide ((r18 : Int) < 0)) then (
                    some false
                  ) else (
                    bif ((r18 : Int) != r17.1) then (
                      some false
                    ) else (
                      Option.bind (yBd N a0) fun r19 =>
                      Option.bind (yBd N a1) fun r20 =>
                      Option.bind (xAt N r19 r20) fun r21 =>
                      bif r21.2 then (
                        if List.isEmpty (Val.list r21.1) = true then
                        if List.isEmpty (Val.columns r21.1) = true then
                        if List.isEmpty (Val.rows r21.1) = true then
                        Option.bind (yBc N (Val.mk (Val.kind r21.1) (Val.n r21.1) (Val.step r21.1) (Val.text r21.1) [] [] []) r5) fun r22 =>
                        bif (!r22) then (
                          some false
                        ) else (
                          Option.bind (yAR N (Val.mk (Val.kind r8.1) (Val.n r8.1) (Val.step r8.1) (Val.text r8.1) r17.2.1 r17.2.2.1 r17.2.2.2) 1) fun r23 =>
                          bif (decide ((r23 : Int) < 0)) then (
                            some false
                          ) else (
                            bif ((r23 : Int) != r17.1) then (
                              some false
                            ) else (
                              some true
                            )
                          )
                        )
                        else none
                        else none
                        else none
                      ) else (
                        Option.bind (yBc N r21.1 r5) fun r22 =>
                        bif (!r22) then (
                          some false
                        ) else (
                          Option.bind (yAR N (Val.mk (Val.kind r8.1) (Val.n r8.1) (Val.step r8.1) (Val.text r8.1) r17.2.1 r17.2.2.1 r17.2.2.2) 1) fun r23 =>
                          bif (decide ((r23 : Int) < 0)) then (
                            some false
                          ) else (
                            bif ((r23 : Int) != r17.1) then (
                              some false
                            ) else (
                              some true
                            )
                          )
                        )
                      )
                    )
                  )
                  else none
                  else none
                  else none
                )
              )
              else none
              else none
              else none
              else none
              else none
              else none
            )
          )
        )
      )
    )
  )
end Go.Ab
end
section
open Go.Proofs
namespace Go.Ab.T
set_option linter.unusedVariables false
set_option maxRecDepth 100000
noncomputable def I80 : Info := { body := (Tryd.f80.body).getD .skip, nt := 19, results := [.tmp 4], keep := [0, 2, 8, 10, 18, 34], live := [(2, [0, 2, 10])], modes := [] }
theorem fk80 : FnOk Tryd.prog 80 Tryd.f80 I80 := ⟨Tryd.func80, by kernel_rfl, by kernel_rfl, by kernel_rfl, by kernel_rfl⟩
def S80_2 (x0 : List Str) (x1 : Str) (x5 : Int) : St := [(0, .v false [.sl .ro .str x0]), (2, .v false [.str x1]), (10, .v false [.int .i64 x5])]
theorem p80_2_0 (x0 : List Str) (x1 : Str) (x5 : Int) : rS 2 I80 (S80_2 x0 x1 x5) [Y, Y] [] = dn (xAz x5) [(decide ((x5 : Int) < (Ln x0 : Int))) = true, (0 : Int) ≤ x5 ∧ x5 < (Ln x0), (((gD x0 (tN x5) Ty.str.dflt) : Str) == x1) = true] := by kernel_rfl
theorem p80_2_1 (x0 : List Str) (x1 : Str) (x5 : Int) : rS 2 I80 (S80_2 x0 x1 x5) [Y, F] [] = st 2 I80 (S80_2 x0 x1 (W (x5 + 1))) [(decide ((x5 : Int) < (Ln x0 : Int))) = true, (0 : Int) ≤ x5 ∧ x5 < (Ln x0), (((gD x0 (tN x5) Ty.str.dflt) : Str) == x1) = false] := by kernel_rfl
theorem p80_2_2 (x0 : List Str) (x1 : Str) (x5 : Int) : rS 2 I80 (S80_2 x0 x1 x5) [F] [] = dn (xAz (-1)) [(decide ((x5 : Int) < (Ln x0 : Int))) = false] := by kernel_rfl
theorem p80_e_3 (a0 : List Str) (a1 : Str) : rE I80 (xAI a0 a1) [] [] = st 2 I80 (S80_2 a0 a1 0) [] := by kernel_rfl
theorem c80_2 {N : Nat} : ∀ n x0 x1 x5 r, xAy N n x0 x1 x5 = some r → RS Tryd.f80 I80 2 (S80_2 x0 x1 x5) (xAz r) := by
 intro n
 induction n with
 | zero => exact fun _ _ _ _ h => nE h
 | succ n ih =>
  exact fun x0 x1 x5 r h =>
   cE h (fun h0 h => iE h fun h1 h => cE h (fun h2 h => dS h fk80 (p80_2_0 x0 x1 x5) (oc h0 (oc h1 (oc h2 on)))) fun h2 h =>
   tS fk80 (p80_2_1 x0 x1 x5) (oc h0 (oc h1 (oc h2 on))) (ih _ _ _ _ h)) fun h0 h =>
   dS h fk80 (p80_2_2 x0 x1 x5) (oc h0 on)
theorem c80_e {N : Nat} : ∀ a0 a1 r, xAM N a0 a1 = some r → RE Tryd.f80 I80 (xAI a0 a1) (xAz r) := fun a0 a1 r h =>
 tE fk80 (p80_e_3 a0 a1) on (c80_2 _ _ _ _ _ h)
theorem spec_IndexOf_ok {N : Nat} {a0 : List Str} {a1 : Str} {r : Int} (h : xAM N  a0 a1 = some r) : AbC 80 (xAI a0 a1) (xAz r) :=
 AbsCalls.of_reach fk80 rfl rfl (Nat.le_of_ble_eq_true rfl) (c80_e a0 a1 r h)
noncomputable def I47 : Info := { body := (Tryd.f47.body).getD .skip, nt := 9, results := [.tmp 4], keep := [0, 2, 4, 8, 5], live := [], modes := [] }
theorem fk47 : FnOk Tryd.prog 47 Tryd.f47 I47 := ⟨Tryd.func47, by kernel_rfl, by kernel_rfl, by kernel_rfl, by kernel_rfl⟩
theorem p47_e_0 (a0 : Val) (a1 : Str) (r1 : Int) : rE I47 (xAv a0 a1) [] [xAz r1] = dn (xAm r1) [AbC 80 (xAI (Val.columns a0) a1) (xAz r1)] := by kernel_rfl
theorem c47_e {N : Nat} : ∀ a0 a1 r, xAA N a0 a1 = some r → RE Tryd.f47 I47 (xAv a0 a1) (xAm r) := fun a0 a1 r h =>
 bE h fun r1 h0 h => dE h fk47 (p47_e_0 a0 a1 r1) (oc (spec_IndexOf_ok h0) on)
theorem xAD {N : Nat} {a0 : Val} {a1 : Str} {r : Int} (h : xAA N  a0 a1 = some r) : AbC 47 (xAv a0 a1) (xAm r) :=
 AbsCalls.of_reach fk47 rfl rfl (Nat.le_of_ble_eq_true rfl) (c47_e a0 a1 r h)
noncomputable def I14 : Info := { body := (Tryd.f14.body).getD .skip, nt := 95, results := [.cell 4 31], keep := [0, 2, 4, 6, 8, 10, 12, 14, 16, 18, 20, 22, 24, 42, 62, 90, 102, 132, 5, 7, 9, 11, 17, 23], live := [(7, [6, 8, 14, 16, 18, 7, 9, 17]), (12, [6, 8, 14, 16, 20, 7, 9, 17]), (16, [6, 8, 14, 16, 20, 22, 24, 7, 9, 17, 23])], modes := [(1, [(5, .take, false)]), (2, [(0, .take, false)]), (3, [(0, .take, false)]), (4, [(2, .cp, true)]), (9, [(7, .take, false)]), (18, [(1, .take, false)]), (19, [(1, .take, false), (2, .take, false), (4, .take, false)]), (20, [(0, .take, false)])], fcast := [(9, 4, true), (9, 5, true), (9, 6, true)] }
theorem fk14 : FnOk Tryd.prog 14 Tryd.f14 I14 := ⟨Tryd.func14, by kernel_rfl, by kernel_rfl, by kernel_rfl, by kernel_rfl⟩
def S14_7 (x7 : List Str) (x9 : Int) (b3 b4 b8 : Val) : St := [(6, .v false [.ptr 3 0]), (8, .v false [.ptr 4 0]), (14, .v false [.sl .ro .str x7]), (16, .v false [.ptr 8 0]), (18, .v false [.int .i64 x9]), (7, .v true [.int .i64 (Val.kind b3), .int .i64 (Val.n b3), .int .i64 (Val.step b3), .str (Val.text b3), .sl .ro .val (Val.list b3), .sl .ro .str (Val.columns b3), .sl .ro .row (Val.rows b3)]), (9, .v true [.int .i64 (Val.kind b4), .int .i64 (Val.n b4), .int .i64 (Val.step b4), .str (Val.text b4), .sl .own .val (Val.list b4), .sl .own .str (Val.columns b4), .sl .own .row (Val.rows b4)]), (17, .v true [.int .i64 (Val.kind b8), .int .i64 (Val.n b8), .int .i64 (Val.step b8), .str (Val.text b8), .sl .own .val (Val.list b8), .sl .ro .str (Val.columns b8), .sl .own .row (Val.rows b8)])]
def S14_12 (x7 : List Str) (x10 : Int) (b3 b4 b8 : Val) : St := [(6, .v false [.ptr 3 0]), (8, .v false [.ptr 4 0]), (14, .v false [.sl .ro .str x7]), (16, .v false [.ptr 8 0]), (20, .v false [.int .i64 x10]), (7, .v true [.int .i64 (Val.kind b3), .int .i64 (Val.n b3), .int .i64 (Val.step b3), .str (Val.text b3), .sl .ro .val (Val.list b3), .sl .ro .str (Val.columns b3), .sl .ro .row (Val.rows b3)]), (9, .v true [.int .i64 (Val.kind b4), .int .i64 (Val.n b4), .int .i64 (Val.step b4), .str (Val.text b4), .sl .own .val (Val.list b4), .sl .own .str (Val.columns b4), .sl .own .row (Val.rows b4)]), (17, .v true [.int .i64 (Val.kind b8), .int .i64 (Val.n b8), .int .i64 (Val.step b8), .str (Val.text b8), .sl .own .val (Val.list b8), .sl .ro .str (Val.columns b8), .sl .own .row (Val.rows b8)])]
def S14_16 (x7 : List Str) (x10 x12 : Int) (b3 b4 b8 : Val) (b11 : Rowd) : St := [(6, .v false [.ptr 3 0]), (8, .v false [.ptr 4 0]), (14, .v false [.sl .ro .str x7]), (16, .v false [.ptr 8 0]), (20, .v false [.int .i64 x10]), (22, .v false [.ptr 11 0]), (24, .v false [.int .i64 x12]), (7, .v true [.int .i64 (Val.kind b3), .int .i64 (Val.n b3), .int .i64 (Val.step b3), .str (Val.text b3), .sl .ro .val (Val.list b3), .sl .ro .str (Val.columns b3), .sl .ro .row (Val.rows b3)]), (9, .v true [.int .i64 (Val.kind b4), .int .i64 (Val.n b4), .int .i64 (Val.step b4), .str (Val.text b4), .sl .own .val (Val.list b4), .sl .own .str (Val.columns b4), .sl .own .row (Val.rows b4)]), (17, .v true [.int .i64 (Val.kind b8), .int .i64 (Val.n b8), .int .i64 (Val.step b8), .str (Val.text b8), .sl .own .val (Val.list b8), .sl .ro .str (Val.columns b8), .sl .own .row (Val.rows b8)]), (23, .v true [.sl .own .int (Rowd.cells b11), .sl .own .org (Rowd.frm b11)])]
theorem p14_16_0 (x7 : List Str) (x10 x12 : Int) (b3 b4 b8 : Val) (b11 : Rowd) (r1 : Int) : rS 16 I14 (S14_16 x7 x10 x12 b3 b4 b8 b11) [Y] [xAm r1] = st 16 I14 (S14_16 x7 x10 (W (x12 + 1)) b3 b4 b8 (Rowd.mk ((Rowd.cells b11) ++ [(gD (Rowd.cells (gD (Val.rows b3) (tN x10) rd)) (tN r1) Ty.int.dflt)]) (Rowd.frm b11))) [(decide ((x12 : Int) < (Ln x7 : Int))) = true, (0 : Int) ≤ x10 ∧ x10 < (Ln (Val.rows b3)), (0 : Int) ≤ x12 ∧ x12 < (Ln x7), AbC 47 (xAv b3 (gD x7 (tN x12) Ty.str.dflt)) (xAm r1), (0 : Int) ≤ r1 ∧ r1 < (Ln (Rowd.cells (gD (Val.rows b3) (tN x10) rd))), Ln (Rowd.cells b11) + Ln [(gD (Rowd.cells (gD (Val.rows b3) (tN x10) rd)) (tN r1) Ty.int.dflt)] ≤ Lim] := by kernel_rfl
theorem p14_16_1 (x7 : List Str) (x10 x12 : Int) (b3 b4 b8 : Val) (b11 : Rowd) : rS 16 I14 (S14_16 x7 x10 x12 b3 b4 b8 b11) [F] [] = st 12 I14 (S14_12 x7 (W (x10 + 1)) b3 b4 (Val.mk (Val.kind b8) (Val.n b8) (Val.step b8) (Val.text b8) (Val.list b8) (Val.columns b8) ((Val.rows b8) ++ [b11]))) [(decide ((x12 : Int) < (Ln x7 : Int))) = false, Ln (Val.rows b8) + Ln [b11] ≤ Lim] := by kernel_rfl
theorem p14_12_2 (x7 : List Str) (x10 : Int) (b3 b4 b8 : Val) : rS 12 I14 (S14_12 x7 x10 b3 b4 b8) [Y] [] = st 16 I14 (S14_16 x7 x10 0 b3 b4 b8 (Rowd.mk [] ([] ++ (Rowd.frm (gD (Val.rows b3) (tN x10) rd))))) [(decide ((x10 : Int) < (Ln (Val.rows b3) : Int))) = true, (0 : Int) ≤ x10 ∧ x10 < (Ln (Val.rows b3)), 0 + Ln (Rowd.frm (gD (Val.rows b3) (tN x10) rd)) ≤ Lim] := by kernel_rfl
theorem p14_12_3 (x7 : List Str) (x10 : Int) (b3 b4 b8 : Val) : rS 12 I14 (S14_12 x7 x10 b3 b4 b8) [F] [] = dn (xAa b8) [(decide ((x10 : Int) < (Ln (Val.rows b3) : Int))) = false] := by kernel_rfl
theorem p14_7_4 (x7 : List Str) (x9 : Int) (b3 b4 b8 : Val) (r1 : Int) (r2 : Val) : rS 7 I14 (S14_7 x7 x9 b3 b4 b8) [Y, Y, Y] [xAm r1, yA1 r2] = dn (xAa r2) [(decide ((x9 : Int) < (Ln x7 : Int))) = true, (0 : Int) ≤ x9 ∧ x9 < (Ln x7), AbC 47 (xAv b3 (gD x7 (tN x9) Ty.str.dflt)) (xAm r1), (decide ((r1 : Int) < 0)) = true, true = true, AbC 29 (yB9 7) (yA1 r2)] := by kernel_rfl
theorem p14_7_5 (x7 : List Str) (x9 : Int) (b3 b4 b8 : Val) (r1 : Int) (r2 : Bool) (r3 : Val) : rS 7 I14 (S14_7 x7 x9 b3 b4 b8) [Y, F, Y] [xAm r1, yBt r2, yA1 r3] = dn (xAa r3) [(decide ((x9 : Int) < (Ln x7 : Int))) = true, (0 : Int) ≤ x9 ∧ x9 < (Ln x7), AbC 47 (xAv b3 (gD x7 (tN x9) Ty.str.dflt)) (xAm r1), (decide ((r1 : Int) < 0)) = false, AbC 48 (yDn x7) (yBt r2), (!r2) = true, AbC 29 (yB9 7) (yA1 r3)] := by kernel_rfl
theorem p14_7_6 (x7 : List Str) (x9 : Int) (b3 b4 b8 : Val) (r1 : Int) (r2 : Bool) : rS 7 I14 (S14_7 x7 x9 b3 b4 b8) [Y, F, F] [xAm r1, yBt r2] = st 7 I14 (S14_7 x7 (W (x9 + 1)) b3 b4 b8) [(decide ((x9 : Int) < (Ln x7 : Int))) = true, (0 : Int) ≤ x9 ∧ x9 < (Ln x7), AbC 47 (xAv b3 (gD x7 (tN x9) Ty.str.dflt)) (xAm r1), (decide ((r1 : Int) < 0)) = false, AbC 48 (yDn x7) (yBt r2), (!r2) = false] := by kernel_rfl
theorem p14_7_7 (x7 : List Str) (x9 : Int) (b3 b4 b8 : Val) : rS 7 I14 (S14_7 x7 x9 b3 b4 b8) [F] [] = st 12 I14 (S14_12 x7 0 b3 b4 b8) [(decide ((x9 : Int) < (Ln x7 : Int))) = false] := by kernel_rfl
theorem p14_e_8 (a0 a1 : Val) (r1 : Val × Bool) : rE I14 (xAh a0 a1) [Y] [yDg r1] = dn (xAa r1.1) [AbC 26 (yEK [(Val.re a0), (Val.re a1)] [2, 5]) (yDg r1), r1.2 = true] := by kernel_rfl
theorem p14_e_9 (a0 a1 : Val) (r1 : Val × Bool) (r2 : (List Str)) : rE I14 (xAh a0 a1) [F] [yDg r1, yDZ r2] = st 7 I14 (S14_7 r2 0 a1 (Val.mk 0 0 0 [] [] [] []) (Val.mk 5 0 0 [] [] r2 [])) [AbC 26 (yEK [(Val.re a0), (Val.re a1)] [2, 5]) (yDg r1), r1.2 = false, AbC 27 (yEZ (Val.text a0) 32) (yDZ r2)] := by kernel_rfl
theorem c14_16 {N : Nat} {k12 : (List Str) → Int → Val → Val → Val → Option (Val)} (hk12 : ∀ z0 z1 z2 z3 z4 r, k12 z0 z1 z2 z3 z4 = some r → RS Tryd.f14 I14 12 (S14_12 z0 z1 z2 z3 z4) (xAa r)) : ∀ n x7 x10 x12 b3 b4 b8 b11 r, xAs N k12 n x7 x10 x12 b3 b4 b8 b11 = some r → RS Tryd.f14 I14 16 (S14_16 x7 x10 x12 b3 b4 b8 b11) (xAa r) := by
 intro n
 induction n with
 | zero => exact fun _ _ _ _ _ _ _ _ h => nE h
 | succ n ih =>
  exact fun x7 x10 x12 b3 b4 b8 b11 r h =>
   cE h (fun h0 h => iE h fun h1 h => iE h fun h2 h => bE h fun r1 h3 h => iE h fun h4 h => iE h fun h5 h => tS fk14 (p14_16_0 x7 x10 x12 b3 b4 b8 b11 r1) (oc h0 (oc h1 (oc h2 (oc (xAD h3) (oc h4 (oc h5 on)))))) (ih _ _ _ _ _ _ _ _ h)) fun h0 h =>
   iE h fun h1 h => tS fk14 (p14_16_1 x7 x10 x12 b3 b4 b8 b11) (oc h0 (oc h1 on)) (hk12 _ _ _ _ _ _ h)
theorem c14_12 {N : Nat} : ∀ n x7 x10 b3 b4 b8 r, xAo N n x7 x10 b3 b4 b8 = some r → RS Tryd.f14 I14 12 (S14_12 x7 x10 b3 b4 b8) (xAa r) := by
 intro n
 induction n with
 | zero => exact fun _ _ _ _ _ _ h => nE h
 | succ n ih =>
  exact fun x7 x10 b3 b4 b8 r h =>
   cE h (fun h0 h => iE h fun h1 h => iE h fun h2 h => tS fk14 (p14_12_2 x7 x10 b3 b4 b8) (oc h0 (oc h1 (oc h2 on))) (c14_16 ih _ _ _ _ _ _ _ _ _ h)) fun h0 h =>
   dS h fk14 (p14_12_3 x7 x10 b3 b4 b8) (oc h0 on)
theorem c14_7 {N : Nat} : ∀ n x7 x9 b3 b4 b8 r, xAq N n x7 x9 b3 b4 b8 = some r → RS Tryd.f14 I14 7 (S14_7 x7 x9 b3 b4 b8) (xAa r) := by
 intro n
 induction n with
 | zero => exact fun _ _ _ _ _ _ h => nE h
 | succ n ih =>
  exact fun x7 x9 b3 b4 b8 r h =>
   cE h (fun h0 h => iE h fun h1 h => bE h fun r1 h2 h => cE h (fun h3 h => bE h fun r2 h5 h => dS h fk14 (p14_7_4 x7 x9 b3 b4 b8 r1 r2) (oc h0 (oc h1 (oc (xAD h2) (oc h3 (oc rfl (oc (yEG h5) on))))))) fun h3 h =>
   bE h fun r2 h4 h => cE h (fun h5 h => bE h fun r3 h6 h => dS h fk14 (p14_7_5 x7 x9 b3 b4 b8 r1 r2 r3) (oc h0 (oc h1 (oc (xAD h2) (oc h3 (oc (yG9 h4) (oc h5 (oc (yEG h6) on)))))))) fun h5 h =>
   tS fk14 (p14_7_6 x7 x9 b3 b4 b8 r1 r2) (oc h0 (oc h1 (oc (xAD h2) (oc h3 (oc (yG9 h4) (oc h5 on)))))) (ih _ _ _ _ _ _ h)) fun h0 h =>
   tS fk14 (p14_7_7 x7 x9 b3 b4 b8) (oc h0 on) (c14_12 _ _ _ _ _ _ _ h)
theorem c14_e {N : Nat} : ∀ a0 a1 r, xAw N a0 a1 = some r → RE Tryd.f14 I14 (xAh a0 a1) (xAa r) := fun a0 a1 r h =>
 bE h fun r1 h0 h => cE h (fun h1 h => dE h fk14 (p14_e_8 a0 a1 r1) (oc (spec_l7Check_ok h0) (oc h1 on))) fun h1 h =>
 bE h fun r2 h2 h => tE fk14 (p14_e_9 a0 a1 r1 r2) (oc (spec_l7Check_ok h0) (oc h1 (oc (spec_SplitByte_ok h2) on))) (c14_7 _ _ _ _ _ _ _ h)
theorem xAi {N : Nat} {a0 : Val} {a1 : Val} {r : Val} (h : xAw N  a0 a1 = some r) : AbC 14 (xAh a0 a1) (xAa r) :=
 AbsCalls.of_reach fk14 rfl rfl (Nat.le_of_ble_eq_true rfl) (c14_e a0 a1 r h)
noncomputable def I49 : Info := { body := (Tryd.f49.body).getD .skip, nt := 9, results := [.tmp 4], keep := [0, 2, 4, 8, 5], live := [], modes := [] }
theorem fk49 : FnOk Tryd.prog 49 Tryd.f49 I49 := ⟨Tryd.func49, by kernel_rfl, by kernel_rfl, by kernel_rfl, by kernel_rfl⟩
theorem p49_e_0 (a0 : Val) (a1 : Str) (r1 : Int) : rE I49 (xAx a0 a1) [] [yBH r1] = dn (xAu r1) [AbC 82 (yDK (Val.columns a0) a1) (yBH r1)] := by kernel_rfl
theorem c49_e {N : Nat} : ∀ a0 a1 r, xAE N a0 a1 = some r → RE Tryd.f49 I49 (xAx a0 a1) (xAu r) := fun a0 a1 r h =>
 bE h fun r1 h0 h => dE h fk49 (p49_e_0 a0 a1 r1) (oc (yGx h0) on)
theorem xAL {N : Nat} {a0 : Val} {a1 : Str} {r : Int} (h : xAE N  a0 a1 = some r) : AbC 49 (xAx a0 a1) (xAu r) :=
 AbsCalls.of_reach fk49 rfl rfl (Nat.le_of_ble_eq_true rfl) (c49_e a0 a1 r h)
theorem xAN {P : Program} {f : FuncId} {ags : List Arg} {r : Val × Bool} (h : AbsCalls P f ags (xAl r)) (ht : r.2 = true) : AbsCalls P f ags (xAF r) := by
 unfold xAl at h; rw [ht] at h; exact h
theorem xAk {P : Program} {f : FuncId} {ags : List Arg} {r : Val × Bool} (h : AbsCalls P f ags (xAl r)) (ht : r.2 = false) : AbsCalls P f ags (xAc r) := by
 unfold xAl at h; rw [ht] at h; exact h
theorem xAj {P : Program} {f : FuncId} {ags : List Arg} {r : Val × Bool} (h : AbsCalls P f ags (xAl r)) (ht : r.2 = true) (e0 : List.isEmpty (Val.list r.1) = true) (e1 : List.isEmpty (Val.columns r.1) = true) (e2 : List.isEmpty (Val.rows r.1) = true) : AbsCalls P f ags (xAd r) := by
 have h := xAN h ht
 unfold xAF at h; rw [List.isEmpty_iff.1 e0, List.isEmpty_iff.1 e1, List.isEmpty_iff.1 e2] at h; exact h
noncomputable def I15 : Info := { body := (Tryd.f15.body).getD .skip, nt := 92, results := [.cell 4 31], keep := [0, 2, 4, 6, 8, 10, 12, 14, 16, 20, 22, 26, 28, 32, 50, 66, 68, 70, 72, 86, 106, 112, 114, 116, 118, 134, 136, 138, 140, 5, 7, 9, 11, 15, 27, 29], live := [(7, [6, 8, 14, 16, 66, 68, 70, 7, 9, 15]), (17, [8, 14, 16, 112, 114, 116, 9, 15]), (21, [8, 14, 16, 26, 28, 112, 114, 116, 134, 136, 138, 9, 15, 27, 29])], modes := [(1, [(4, .take, true), (5, .take, false)]), (2, [(0, .take, false)]), (3, [(0, .take, false)]), (9, [(1, .take, false)]), (12, [(0, .take, false)]), (13, [(1, .take, false)]), (23, [(1, .take, false), (4, .take, false)]), (24, [(1, .take, false)]), (25, [(1, .take, false), (2, .take, false), (4, .take, false)]), (26, [(1, .take, false)]), (27, [(0, .take, false)])] }
theorem fk15 : FnOk Tryd.prog 15 Tryd.f15 I15 := ⟨Tryd.func15, by kernel_rfl, by kernel_rfl, by kernel_rfl, by kernel_rfl⟩
def S15_7 (x8 : List Int) (x33 : List Str) (x34 x35 : Int) (b3 b4 b7 : Val) : St := [(6, .v false [.ptr 3 0]), (8, .v false [.ptr 4 0]), (14, .v false [.ptr 7 0]), (16, .v false [.sl .own .int x8]), (66, .v false [.sl .bor .str x33]), (68, .v false [.int .i64 x34]), (70, .v false [.int .i64 x35]), (7, .v true [.int .i64 (Val.kind b3), .int .i64 (Val.n b3), .int .i64 (Val.step b3), .str (Val.text b3), .sl .ro .val (Val.list b3), .sl .ro .str (Val.columns b3), .sl .ro .row (Val.rows b3)]), (9, .v true [.int .i64 (Val.kind b4), .int .i64 (Val.n b4), .int .i64 (Val.step b4), .str (Val.text b4), .sl .own .val (Val.list b4), .sl .own .str (Val.columns b4), .sl .own .row (Val.rows b4)]), (15, .v true [.int .i64 (Val.kind b7), .int .i64 (Val.n b7), .int .i64 (Val.step b7), .str (Val.text b7), .sl .own .val (Val.list b7), .sl .own .str (Val.columns b7), .sl .own .row (Val.rows b7)])]
def S15_17 (x8 : List Int) (x56 : List Rowd) (x57 x58 : Int) (b4 b7 : Val) : St := [(8, .v false [.ptr 4 0]), (14, .v false [.ptr 7 0]), (16, .v false [.sl .own .int x8]), (112, .v false [.sl .ro .row x56]), (114, .v false [.int .i64 x57]), (116, .v false [.int .i64 x58]), (9, .v true [.int .i64 (Val.kind b4), .int .i64 (Val.n b4), .int .i64 (Val.step b4), .str (Val.text b4), .sl .own .val (Val.list b4), .sl .own .str (Val.columns b4), .sl .own .row (Val.rows b4)]), (15, .v true [.int .i64 (Val.kind b7), .int .i64 (Val.n b7), .int .i64 (Val.step b7), .str (Val.text b7), .sl .own .val (Val.list b7), .sl .own .str (Val.columns b7), .sl .own .row (Val.rows b7)])]
def S15_21 (x8 : List Int) (x56 : List Rowd) (x57 x58 : Int) (x67 : List Int) (x68 x69 : Int) (b4 b7 : Val) (b13 b14 : Rowd) : St := [(8, .v false [.ptr 4 0]), (14, .v false [.ptr 7 0]), (16, .v false [.sl .own .int x8]), (26, .v false [.ptr 13 0]), (28, .v false [.ptr 14 0]), (112, .v false [.sl .ro .row x56]), (114, .v false [.int .i64 x57]), (116, .v false [.int .i64 x58]), (134, .v false [.sl .bor .int x67]), (136, .v false [.int .i64 x68]), (138, .v false [.int .i64 x69]), (9, .v true [.int .i64 (Val.kind b4), .int .i64 (Val.n b4), .int .i64 (Val.step b4), .str (Val.text b4), .sl .own .val (Val.list b4), .sl .own .str (Val.columns b4), .sl .own .row (Val.rows b4)]), (15, .v true [.int .i64 (Val.kind b7), .int .i64 (Val.n b7), .int .i64 (Val.step b7), .str (Val.text b7), .sl .own .val (Val.list b7), .sl .own .str (Val.columns b7), .sl .own .row (Val.rows b7)]), (27, .v true [.sl .ro .int (Rowd.cells b13), .sl .ro .org (Rowd.frm b13)]), (29, .v true [.sl .own .int (Rowd.cells b14), .sl .own .org (Rowd.frm b14)])]
theorem p15_21_0 (x8 : List Int) (x56 : List Rowd) (x57 x58 : Int) (x67 : List Int) (x68 x69 : Int) (b4 b7 : Val) (b13 b14 : Rowd) : rS 21 I15 (S15_21 x8 x56 x57 x58 x67 x68 x69 b4 b7 b13 b14) [Y] [] = st 21 I15 (S15_21 x8 x56 x57 x58 x67 x68 (W (x69 + 1)) b4 b7 b13 (Rowd.mk ((Rowd.cells b14) ++ [(gD (Rowd.cells b13) (tN (gD x67 (tN x69) Ty.int.dflt)) Ty.int.dflt)]) (Rowd.frm b14))) [(decide ((x69 : Int) < x68)) = true, (0 : Int) ≤ x69 ∧ x69 < (Ln x67), (0 : Int) ≤ (gD x67 (tN x69) Ty.int.dflt) ∧ (gD x67 (tN x69) Ty.int.dflt) < (Ln (Rowd.cells b13)), Ln (Rowd.cells b14) + Ln [(gD (Rowd.cells b13) (tN (gD x67 (tN x69) Ty.int.dflt)) Ty.int.dflt)] ≤ Lim] := by kernel_rfl
theorem p15_21_1 (x8 : List Int) (x56 : List Rowd) (x57 x58 : Int) (x67 : List Int) (x68 x69 : Int) (b4 b7 : Val) (b13 b14 : Rowd) : rS 21 I15 (S15_21 x8 x56 x57 x58 x67 x68 x69 b4 b7 b13 b14) [F] [] = st 17 I15 (S15_17 x8 x56 x57 (W (x58 + 1)) b4 (Val.mk (Val.kind b7) (Val.n b7) (Val.step b7) (Val.text b7) (Val.list b7) (Val.columns b7) ((Val.rows b7) ++ [b14]))) [(decide ((x69 : Int) < x68)) = false, Ln (Val.rows b7) + Ln [b14] ≤ Lim] := by kernel_rfl
theorem p15_17_2 (x8 : List Int) (x56 : List Rowd) (x57 x58 : Int) (b4 b7 : Val) : rS 17 I15 (S15_17 x8 x56 x57 x58 b4 b7) [Y] [] = st 21 I15 (S15_21 x8 x56 x57 x58 x8 (Ln x8 : Int) 0 b4 b7 (gD x56 (tN x58) rd) (Rowd.mk [] ([] ++ (Rowd.frm (gD x56 (tN x58) rd))))) [(decide ((x58 : Int) < x57)) = true, (0 : Int) ≤ x58 ∧ x58 < (Ln x56), 0 + Ln (Rowd.frm (gD x56 (tN x58) rd)) ≤ Lim] := by kernel_rfl
theorem p15_17_3 (x8 : List Int) (x56 : List Rowd) (x57 x58 : Int) (b4 b7 : Val) : rS 17 I15 (S15_17 x8 x56 x57 x58 b4 b7) [F] [] = dn (xAl (b7, false)) [(decide ((x58 : Int) < x57)) = false] := by kernel_rfl
theorem p15_7_4 (x8 : List Int) (x33 : List Str) (x34 x35 : Int) (b3 b4 b7 : Val) (r1 : Int) (r2 : Val) : rS 7 I15 (S15_7 x8 x33 x34 x35 b3 b4 b7) [Y, Y] [xAu r1, yBG r2] = dn (xAl (r2, false)) [(decide ((x35 : Int) < x34)) = true, (0 : Int) ≤ x35 ∧ x35 < (Ln x33), AbC 49 (xAx b3 (gD x33 (tN x35) Ty.str.dflt)) (xAu r1), (decide ((r1 : Int) < 0)) = true, AbC 37 (yCV 7) (yBG r2)] := by kernel_rfl
theorem p15_7_5 (x8 : List Int) (x33 : List Str) (x34 x35 : Int) (b3 b4 b7 : Val) (r1 : Int) : rS 7 I15 (S15_7 x8 x33 x34 x35 b3 b4 b7) [Y, F] [xAu r1] = st 7 I15 (S15_7 (x8 ++ [r1]) x33 x34 (W (x35 + 1)) b3 b4 b7) [(decide ((x35 : Int) < x34)) = true, (0 : Int) ≤ x35 ∧ x35 < (Ln x33), AbC 49 (xAx b3 (gD x33 (tN x35) Ty.str.dflt)) (xAu r1), (decide ((r1 : Int) < 0)) = false, Ln x8 + Ln [r1] ≤ Lim] := by kernel_rfl
theorem p15_7_6 (x8 : List Int) (x33 : List Str) (x34 x35 : Int) (b3 b4 b7 : Val) (r1 : Bool) (r2 : Val) : rS 7 I15 (S15_7 x8 x33 x34 x35 b3 b4 b7) [F, Y] [yBq r1, yBG r2] = dn (xAl (r2, false)) [(decide ((x35 : Int) < x34)) = false, AbC 50 (yDi (Val.columns b7)) (yBq r1), (!r1) = true, AbC 37 (yCV 7) (yBG r2)] := by kernel_rfl
theorem p15_7_7 (x8 : List Int) (x33 : List Str) (x34 x35 : Int) (b3 b4 b7 : Val) (r1 : Bool) : rS 7 I15 (S15_7 x8 x33 x34 x35 b3 b4 b7) [F, F] [yBq r1] = st 17 I15 (S15_17 x8 (Val.rows b3) (Ln (Val.rows b3) : Int) 0 b4 b7) [(decide ((x35 : Int) < x34)) = false, AbC 50 (yDi (Val.columns b7)) (yBq r1), (!r1) = false] := by kernel_rfl
theorem p15_e_8 (a0 a1 : Val) (r1 : Val × Bool × Bool) : rE I15 (xAb a0 a1) [Y] [impl_kindError_roE r1] = dn (xAl ((Val.mk (Val.kind r1.1) (Val.n r1.1) (Val.step r1.1) (Val.text r1.1) [] [] []), true)) [AbC 34 (yCm [2, 5] [(Val.re a0), (Val.re a1)]) (impl_kindError_roE r1), r1.2.1 = true] := by kernel_rfl
theorem p15_e_9 (a0 a1 : Val) (r1 : Val × Bool × Bool) (r2 : (List Str)) : rE I15 (xAb a0 a1) [F] [impl_kindError_roE r1, yER r2] = st 7 I15 (S15_7 [] r2 (Ln r2 : Int) 0 a1 (Val.mk 0 0 0 [] [] [] []) (Val.mk 5 0 0 [] [] r2 [])) [AbC 34 (yCm [2, 5] [(Val.re a0), (Val.re a1)]) (impl_kindError_roE r1), r1.2.1 = false, AbC 35 (yEQ (Val.text a0) 32) (yER r2)] := by kernel_rfl
theorem p15_e_10 (a0 a1 : Val) (r1 : Val × Bool × Bool) : rE I15 (xAb a0 a1) [Y] [yFN r1] = dn (xAl (r1.1, false)) [AbC 34 (yCm [2, 5] [(Val.re a0), (Val.re a1)]) (yFN r1), r1.2.1 = true] := by kernel_rfl
theorem p15_e_11 (a0 a1 : Val) (r1 : Val × Bool × Bool) (r2 : (List Str)) : rE I15 (xAb a0 a1) [F] [yFN r1, yER r2] = st 7 I15 (S15_7 [] r2 (Ln r2 : Int) 0 a1 (Val.mk 0 0 0 [] [] [] []) (Val.mk 5 0 0 [] [] r2 [])) [AbC 34 (yCm [2, 5] [(Val.re a0), (Val.re a1)]) (yFN r1), r1.2.1 = false, AbC 35 (yEQ (Val.text a0) 32) (yER r2)] := by kernel_rfl
theorem c15_21 {N : Nat} {k17 : (List Int) → (List Rowd) → Int → Int → Val → Val → Option (Val × Bool)} (hk17 : ∀ z0 z1 z2 z3 z4 z5 r, k17 z0 z1 z2 z3 z4 z5 = some r → RS Tryd.f15 I15 17 (S15_17 z0 z1 z2 z3 z4 z5) (xAl r)) : ∀ n x8 x56 x57 x58 x67 x68 x69 b4 b7 b13 b14 r, xAr N k17 n x8 x56 x57 x58 x67 x68 x69 b4 b7 b13 b14 = some r → RS Tryd.f15 I15 21 (S15_21 x8 x56 x57 x58 x67 x68 x69 b4 b7 b13 b14) (xAl r) := by
 intro n
 induction n with
 | zero => exact fun _ _ _ _ _ _ _ _ _ _ _ _ h => nE h
 | succ n ih =>
  exact fun x8 x56 x57 x58 x67 x68 x69 b4 b7 b13 b14 r h =>
   cE h (fun h0 h => iE h fun h1 h => iE h fun h2 h => iE h fun h3 h => tS fk15 (p15_21_0 x8 x56 x57 x58 x67 x68 x69 b4 b7 b13 b14) (oc h0 (oc h1 (oc h2 (oc h3 on)))) (ih _ _ _ _ _ _ _ _ _ _ _ _ h)) fun h0 h =>
   iE h fun h1 h => tS fk15 (p15_21_1 x8 x56 x57 x58 x67 x68 x69 b4 b7 b13 b14) (oc h0 (oc h1 on)) (hk17 _ _ _ _ _ _ _ h)
theorem c15_17 {N : Nat} : ∀ n x8 x56 x57 x58 b4 b7 r, xAn N n x8 x56 x57 x58 b4 b7 = some r → RS Tryd.f15 I15 17 (S15_17 x8 x56 x57 x58 b4 b7) (xAl r) := by
 intro n
 induction n with
 | zero => exact fun _ _ _ _ _ _ _ h => nE h
 | succ n ih =>
  exact fun x8 x56 x57 x58 b4 b7 r h =>
   cE h (fun h0 h => iE h fun h1 h => iE h fun h2 h => tS fk15 (p15_17_2 x8 x56 x57 x58 b4 b7) (oc h0 (oc h1 (oc h2 on))) (c15_21 ih _ _ _ _ _ _ _ _ _ _ _ _ _ h)) fun h0 h =>
   dS h fk15 (p15_17_3 x8 x56 x57 x58 b4 b7) (oc h0 on)
theorem c15_7 {N : Nat} : ∀ n x8 x33 x34 x35 b3 b4 b7 r, xAp N n x8 x33 x34 x35 b3 b4 b7 = some r → RS Tryd.f15 I15 7 (S15_7 x8 x33 x34 x35 b3 b4 b7) (xAl r) := by
 intro n
 induction n with
 | zero => exact fun _ _ _ _ _ _ _ _ h => nE h
 | succ n ih =>
  exact fun x8 x33 x34 x35 b3 b4 b7 r h =>
   cE h (fun h0 h => iE h fun h1 h => bE h fun r1 h2 h => cE h (fun h3 h => bE h fun r2 h4 h => dS h fk15 (p15_7_4 x8 x33 x34 x35 b3 b4 b7 r1 r2) (oc h0 (oc h1 (oc (xAL h2) (oc h3 (oc (yFL h4) on)))))) fun h3 h =>
   iE h fun h4 h => tS fk15 (p15_7_5 x8 x33 x34 x35 b3 b4 b7 r1) (oc h0 (oc h1 (oc (xAL h2) (oc h3 (oc h4 on))))) (ih _ _ _ _ _ _ _ _ h)) fun h0 h =>
   bE h fun r1 h1 h => cE h (fun h2 h => bE h fun r2 h3 h => dS h fk15 (p15_7_6 x8 x33 x34 x35 b3 b4 b7 r1 r2) (oc h0 (oc (yGY h1) (oc h2 (oc (yFL h3) on))))) fun h2 h =>
   tS fk15 (p15_7_7 x8 x33 x34 x35 b3 b4 b7 r1) (oc h0 (oc (yGY h1) (oc h2 on))) (c15_17 _ _ _ _ _ _ _ _ h)
theorem c15_e {N : Nat} : ∀ a0 a1 r, xAt N a0 a1 = some r → RE Tryd.f15 I15 (xAb a0 a1) (xAl r) := fun a0 a1 r h =>
 bE h fun r1 h0 h => cE h (fun h1 h => iE h fun h2 h => iE h fun h3 h => iE h fun h4 h => cE h (fun h5 h => dE h fk15 (p15_e_8 a0 a1 r1) (oc (impl_kindError_toE (impl_kindError_ok h0) h1 h2 h3 h4) (oc h5 on))) fun h5 h =>
 bE h fun r2 h6 h => tE fk15 (p15_e_9 a0 a1 r1 r2) (oc (impl_kindError_toE (impl_kindError_ok h0) h1 h2 h3 h4) (oc h5 (oc (impl_SplitByte_ok h6) on))) (c15_7 _ _ _ _ _ _ _ _ _ h)) fun h1 h =>
 cE h (fun h2 h => dE h fk15 (p15_e_10 a0 a1 r1) (oc (impl_kindError_toO (impl_kindError_ok h0) h1) (oc h2 on))) fun h2 h =>
 bE h fun r2 h3 h => tE fk15 (p15_e_11 a0 a1 r1 r2) (oc (impl_kindError_toO (impl_kindError_ok h0) h1) (oc h2 (oc (impl_SplitByte_ok h3) on))) (c15_7 _ _ _ _ _ _ _ _ _ h)
theorem xAg {N : Nat} {a0 : Val} {a1 : Val} {r : Val × Bool} (h : xAt N  a0 a1 = some r) : AbC 15 (xAb a0 a1) (xAl r) :=
 AbsCalls.of_reach fk15 rfl rfl (Nat.le_of_ble_eq_true rfl) (c15_e a0 a1 r h)
end Go.Ab.T
end
section
open Go.Proofs
namespace Go.Ab.T
set_option linter.unusedVariables false
set_option maxRecDepth 100000
noncomputable def I4 : Info := { body := (Tryd.f4.body).getD .skip, nt := 92, results := [.tmp 4], keep := [0, 2, 4, 6, 8, 10, 12, 14, 16, 18, 20, 22, 24, 26, 36, 46, 78, 88, 98, 126, 142, 148, 166, 176, 182, 5, 7, 13, 15, 17, 19, 27], live := [], modes := [(8, [(1, .cp, true), (3, .cp, true), (4, .take, false)]), (11, [(2, .take, true)]), (19, [(0, .ref, false), (2, .ref, false)]), (20, [(0, .ref, false), (2, .ref, false)]), (21, [(2, .take, false)]), (24, [(0, .ref, false), (2, .ref, false)]), (31, [(4, .take, true)])] }
theorem fk4 : FnOk Tryd.prog 4 Tryd.f4 I4 := ⟨Tryd.func4, by kernel_rfl, by kernel_rfl, by kernel_rfl, by kernel_rfl⟩
theorem p4_e_0 (a0 a1 : Val) (r1 : Int) : rE I4 (xAe a0 a1) [Y] [yAM r1] = dn (xAf true) [AbC 7 (yA4 a0 1048576) (yAM r1), (decide ((r1 : Int) < 0)) = true] := by kernel_rfl
theorem p4_e_1 (a0 a1 : Val) (r1 r2 : Int) : rE I4 (xAe a0 a1) [F, Y] [yAM r1, yAM r2] = dn (xAf true) [AbC 7 (yA4 a0 1048576) (yAM r1), (decide ((r1 : Int) < 0)) = false, AbC 7 (yA4 a1 r1) (yAM r2), (decide ((r2 : Int) < 0)) = true] := by kernel_rfl
theorem p4_e_2 (a0 a1 : Val) (r1 r2 : Int) (r3 r4 r5 r6 r7 : Val) (r8 : Val × Bool) (r9 : Bool) : rE I4 (xAe a0 a1) [F, F, Y] [yAM r1, yAM r2, yCG r3, yCG r4, xAa r5, yCG r6, yCG r7, xAd r8, yAx r9] = dn (xAf false) [AbC 7 (yA4 a0 1048576) (yAM r1), (decide ((r1 : Int) < 0)) = false, AbC 7 (yA4 a1 r1) (yAM r2), (decide ((r2 : Int) < 0)) = false, AbC 9 (yDb a0) (yCG r3), AbC 9 (yDb a1) (yCG r4), AbC 14 (xAh r3 r4) (xAa r5), AbC 9 (yDb a0) (yCG r6), AbC 9 (yDb a1) (yCG r7), AbC 15 (xAb r6 r7) (xAd r8), AbC 11 (yAJ (Val.mk (Val.kind r8.1) (Val.n r8.1) (Val.step r8.1) (Val.text r8.1) [] [] []) r5) (yAx r9), (!r9) = true] := by kernel_rfl
theorem p4_e_3 (a0 a1 : Val) (r1 r2 : Int) (r3 r4 r5 r6 r7 : Val) (r8 : Val × Bool) (r9 : Bool) (r10 : Val) (r11 : Bool) : rE I4 (xAe a0 a1) [F, F, F, Y] [yAM r1, yAM r2, yCG r3, yCG r4, xAa r5, yCG r6, yCG r7, xAd r8, yAx r9, yCG r10, yAx r11] = dn (xAf false) [AbC 7 (yA4 a0 1048576) (yAM r1), (decide ((r1 : Int) < 0)) = false, AbC 7 (yA4 a1 r1) (yAM r2), (decide ((r2 : Int) < 0)) = false, AbC 9 (yDb a0) (yCG r3), AbC 9 (yDb a1) (yCG r4), AbC 14 (xAh r3 r4) (xAa r5), AbC 9 (yDb a0) (yCG r6), AbC 9 (yDb a1) (yCG r7), AbC 15 (xAb r6 r7) (xAd r8), AbC 11 (yAJ (Val.mk (Val.kind r8.1) (Val.n r8.1) (Val.step r8.1) (Val.text r8.1) [] [] []) r5) (yAx r9), (!r9) = false, AbC 9 (yDb a0) (yCG r10), AbC 11 (yAJ r6 r10) (yAx r11), (!r11) = true] := by kernel_rfl
theorem p4_e_4 (a0 a1 : Val) (r1 r2 : Int) (r3 r4 r5 r6 r7 : Val) (r8 : Val × Bool) (r9 : Bool) (r10 : Val) (r11 : Bool) (r12 : Val) (r13 : Bool) : rE I4 (xAe a0 a1) [F, F, F, F, Y] [yAM r1, yAM r2, yCG r3, yCG r4, xAa r5, yCG r6, yCG r7, xAd r8, yAx r9, yCG r10, yAx r11, yCG r12, yAx r13] = dn (xAf false) [AbC 7 (yA4 a0 1048576) (yAM r1), (decide ((r1 : Int) < 0)) = false, AbC 7 (yA4 a1 r1) (yAM r2), (decide ((r2 : Int) < 0)) = false, AbC 9 (yDb a0) (yCG r3), AbC 9 (yDb a1) (yCG r4), AbC 14 (xAh r3 r4) (xAa r5), AbC 9 (yDb a0) (yCG r6), AbC 9 (yDb a1) (yCG r7), AbC 15 (xAb r6 r7) (xAd r8), AbC 11 (yAJ (Val.mk (Val.kind r8.1) (Val.n r8.1) (Val.step r8.1) (Val.text r8.1) [] [] []) r5) (yAx r9), (!r9) = false, AbC 9 (yDb a0) (yCG r10), AbC 11 (yAJ r6 r10) (yAx r11), (!r11) = false, AbC 9 (yDb a1) (yCG r12), AbC 11 (yAJ r7 r12) (yAx r13), (!r13) = true] := by kernel_rfl
theorem p4_e_5 (a0 a1 : Val) (r1 r2 : Int) (r3 r4 r5 r6 r7 : Val) (r8 : Val × Bool) (r9 : Bool) (r10 : Val) (r11 : Bool) (r12 : Val) (r13 : Bool) (r14 : Int × (List Val) × (List Str) × (List Rowd)) (r15 : Int × (List Val) × (List Str) × (List Rowd)) : rE I4 (xAe a0 a1) [F, F, F, F, F, Y, Y] [yAM r1, yAM r2, yCG r3, yCG r4, xAa r5, yCG r6, yCG r7, xAd r8, yAx r9, yCG r10, yAx r11, yCG r12, yAx r13, yEU r14, yEU r15] = dn (xAf false) [AbC 7 (yA4 a0 1048576) (yAM r1), (decide ((r1 : Int) < 0)) = false, AbC 7 (yA4 a1 r1) (yAM r2), (decide ((r2 : Int) < 0)) = false, AbC 9 (yDb a0) (yCG r3), AbC 9 (yDb a1) (yCG r4), AbC 14 (xAh r3 r4) (xAa r5), AbC 9 (yDb a0) (yCG r6), AbC 9 (yDb a1) (yCG r7), AbC 15 (xAb r6 r7) (xAd r8), AbC 11 (yAJ (Val.mk (Val.kind r8.1) (Val.n r8.1) (Val.step r8.1) (Val.text r8.1) [] [] []) r5) (yAx r9), (!r9) = false, AbC 9 (yDb a0) (yCG r10), AbC 11 (yAJ r6 r10) (yAx r11), (!r11) = false, AbC 9 (yDb a1) (yCG r12), AbC 11 (yAJ r7 r12) (yAx r13), (!r13) = false, AbC 12 (yET r6 1) (yEU r14), Ln r14.2.1 = Ln (Val.list r6), Ln r14.2.2.1 = Ln (Val.columns r6), Ln r14.2.2.2 = Ln (Val.rows r6), AbC 12 (yET r7 r14.1) (yEU r15), Ln r15.2.1 = Ln (Val.list r7), Ln r15.2.2.1 = Ln (Val.columns r7), Ln r15.2.2.2 = Ln (Val.rows r7), (decide ((r15.1 : Int) < 0)) = true, true = true] := by kernel_rfl
theorem p4_e_6 (a0 a1 : Val) (r1 r2 : Int) (r3 r4 r5 r6 r7 : Val) (r8 : Val × Bool) (r9 : Bool) (r10 : Val) (r11 : Bool) (r12 : Val) (r13 : Bool) (r14 : Int × (List Val) × (List Str) × (List Rowd)) (r15 : Int × (List Val) × (List Str) × (List Rowd)) (r16 : Bool) : rE I4 (xAe a0 a1) [F, F, F, F, F, F, Y] [yAM r1, yAM r2, yCG r3, yCG r4, xAa r5, yCG r6, yCG r7, xAd r8, yAx r9, yCG r10, yAx r11, yCG r12, yAx r13, yEU r14, yEU r15, yAx r16] = dn (xAf false) [AbC 7 (yA4 a0 1048576) (yAM r1), (decide ((r1 : Int) < 0)) = false, AbC 7 (yA4 a1 r1) (yAM r2), (decide ((r2 : Int) < 0)) = false, AbC 9 (yDb a0) (yCG r3), AbC 9 (yDb a1) (yCG r4), AbC 14 (xAh r3 r4) (xAa r5), AbC 9 (yDb a0) (yCG r6), AbC 9 (yDb a1) (yCG r7), AbC 15 (xAb r6 r7) (xAd r8), AbC 11 (yAJ (Val.mk (Val.kind r8.1) (Val.n r8.1) (Val.step r8.1) (Val.text r8.1) [] [] []) r5) (yAx r9), (!r9) = false, AbC 9 (yDb a0) (yCG r10), AbC 11 (yAJ r6 r10) (yAx r11), (!r11) = false, AbC 9 (yDb a1) (yCG r12), AbC 11 (yAJ r7 r12) (yAx r13), (!r13) = false, AbC 12 (yET r6 1) (yEU r14), Ln r14.2.1 = Ln (Val.list r6), Ln r14.2.2.1 = Ln (Val.columns r6), Ln r14.2.2.2 = Ln (Val.rows r6), AbC 12 (yET r7 r14.1) (yEU r15), Ln r15.2.1 = Ln (Val.list r7), Ln r15.2.2.1 = Ln (Val.columns r7), Ln r15.2.2.2 = Ln (Val.rows r7), (decide ((r15.1 : Int) < 0)) = false, AbC 11 (yAJ (Val.mk (Val.kind r8.1) (Val.n r8.1) (Val.step r8.1) (Val.text r8.1) [] [] []) r5) (yAx r16), (!r16) = true] := by kernel_rfl
theorem p4_e_7 (a0 a1 : Val) (r1 r2 : Int) (r3 r4 r5 r6 r7 : Val) (r8 : Val × Bool) (r9 : Bool) (r10 : Val) (r11 : Bool) (r12 : Val) (r13 : Bool) (r14 : Int × (List Val) × (List Str) × (List Rowd)) (r15 : Int × (List Val) × (List Str) × (List Rowd)) (r16 : Bool) (r17 r18 : Int) : rE I4 (xAe a0 a1) [F, F, F, F, F, F, F, Y] [yAM r1, yAM r2, yCG r3, yCG r4, xAa r5, yCG r6, yCG r7, xAd r8, yAx r9, yCG r10, yAx r11, yCG r12, yAx r13, yEU r14, yEU r15, yAx r16, yEr r17, yCr r18] = dn (xAf false) [AbC 7 (yA4 a0 1048576) (yAM r1), (decide ((r1 : Int) < 0)) = false, AbC 7 (yA4 a1 r1) (yAM r2), (decide ((r2 : Int) < 0)) = false, AbC 9 (yDb a0) (yCG r3), AbC 9 (yDb a1) (yCG r4), AbC 14 (xAh r3 r4) (xAa r5), AbC 9 (yDb a0) (yCG r6), AbC 9 (yDb a1) (yCG r7), AbC 15 (xAb r6 r7) (xAd r8), AbC 11 (yAJ (Val.mk (Val.kind r8.1) (Val.n r8.1) (Val.step r8.1) (Val.text r8.1) [] [] []) r5) (yAx r9), (!r9) = false, AbC 9 (yDb a0) (yCG r10), AbC 11 (yAJ r6 r10) (yAx r11), (!r11) = false, AbC 9 (yDb a1) (yCG r12), AbC 11 (yAJ r7 r12) (yAx r13), (!r13) = false, AbC 12 (yET r6 1) (yEU r14), Ln r14.2.1 = Ln (Val.list r6), Ln r14.2.2.1 = Ln (Val.columns r6), Ln r14.2.2.2 = Ln (Val.rows r6), AbC 12 (yET r7 r14.1) (yEU r15), Ln r15.2.1 = Ln (Val.list r7), Ln r15.2.2.1 = Ln (Val.columns r7), Ln r15.2.2.2 = Ln (Val.rows r7), (decide ((r15.1 : Int) < 0)) = false, AbC 11 (yAJ (Val.mk (Val.kind r8.1) (Val.n r8.1) (Val.step r8.1) (Val.text r8.1) [] [] []) r5) (yAx r16), (!r16) = false, AbC 12 (yEq (Val.mk (Val.kind r8.1) (Val.n r8.1) (Val.step r8.1) (Val.text r8.1) [] [] []) 1) (yEr r17), AbC 13 (yCq (Val.mk (Val.kind r8.1) (Val.n r8.1) (Val.step r8.1) (Val.text r8.1) [] [] []) 1) (yCr r18), (decide ((r18 : Int) < 0)) = true] := by kernel_rfl
theorem p4_e_8 (a0 a1 : Val) (r1 r2 : Int) (r3 r4 r5 r6 r7 : Val) (r8 : Val × Bool) (r9 : Bool) (r10 : Val) (r11 : Bool) (r12 : Val) (r13 : Bool) (r14 : Int × (List Val) × (List Str) × (List Rowd)) (r15 : Int × (List Val) × (List Str) × (List Rowd)) (r16 : Bool) (r17 r18 : Int) : rE I4 (xAe a0 a1) [F, F, F, F, F, F, F, F, Y] [yAM r1, yAM r2, yCG r3, yCG r4, xAa r5, yCG r6, yCG r7, xAd r8, yAx r9, yCG r10, yAx r11, yCG r12, yAx r13, yEU r14, yEU r15, yAx r16, yEr r17, yCr r18] = dn (xAf false) [AbC 7 (yA4 a0 1048576) (yAM r1), (decide ((r1 : Int) < 0)) = false, AbC 7 (yA4 a1 r1) (yAM r2), (decide ((r2 : Int) < 0)) = false, AbC 9 (yDb a0) (yCG r3), AbC 9 (yDb a1) (yCG r4), AbC 14 (xAh r3 r4) (xAa r5), AbC 9 (yDb a0) (yCG r6), AbC 9 (yDb a1) (yCG r7), AbC 15 (xAb r6 r7) (xAd r8), AbC 11 (yAJ (Val.mk (Val.kind r8.1) (Val.n r8.1) (Val.step r8.1) (Val.text r8.1) [] [] []) r5) (yAx r9), (!r9) = false, AbC 9 (yDb a0) (yCG r10), AbC 11 (yAJ r6 r10) (yAx r11), (!r11) = false, AbC 9 (yDb a1) (yCG r12), AbC 11 (yAJ r7 r12) (yAx r13), (!r13) = false, AbC 12 (yET r6 1) (yEU r14), Ln r14.2.1 = Ln (Val.list r6), Ln r14.2.2.1 = Ln (Val.columns r6), Ln r14.2.2.2 = Ln (Val.rows r6), AbC 12 (yET r7 r14.1) (yEU r15), Ln r15.2.1 = Ln (Val.list r7), Ln r15.2.2.1 = Ln (Val.columns r7), Ln r15.2.2.2 = Ln (Val.rows r7), (decide ((r15.1 : Int) < 0)) = false, AbC 11 (yAJ (Val.mk (Val.kind r8.1) (Val.n r8.1) (Val.step r8.1) (Val.text r8.1) [] [] []) r5) (yAx r16), (!r16) = false, AbC 12 (yEq (Val.mk (Val.kind r8.1) (Val.n r8.1) (Val.step r8.1) (Val.text r8.1) [] [] []) 1) (yEr r17), AbC 13 (yCq (Val.mk (Val.kind r8.1) (Val.n r8.1) (Val.step r8.1) (Val.text r8.1) [] [] []) 1) (yCr r18), (decide ((r18 : Int) < 0)) = false, ((r18 : Int) != r17) = true] := by kernel_rfl
theorem p4_e_9 (a0 a1 : Val) (r1 r2 : Int) (r3 r4 r5 r6 r7 : Val) (r8 : Val × Bool) (r9 : Bool) (r10 : Val) (r11 : Bool) (r12 : Val) (r13 : Bool) (r14 : Int × (List Val) × (List Str) × (List Rowd)) (r15 : Int × (List Val) × (List Str) × (List Rowd)) (r16 : Bool) (r17 r18 : Int) (r19 r20 : Val) (r21 : Val × Bool) (r22 : Bool) : rE I4 (xAe a0 a1) [F, F, F, F, F, F, F, F, F, Y] [yAM r1, yAM r2, yCG r3, yCG r4, xAa r5, yCG r6, yCG r7, xAd r8, yAx r9, yCG r10, yAx r11, yCG r12, yAx r13, yEU r14, yEU r15, yAx r16, yEr r17, yCr r18, yCG r19, yCG r20, xAd r21, yAx r22] = dn (xAf false) [AbC 7 (yA4 a0 1048576) (yAM r1), (decide ((r1 : Int) < 0)) = false, AbC 7 (yA4 a1 r1) (yAM r2), (decide ((r2 : Int) < 0)) = false, AbC 9 (yDb a0) (yCG r3), AbC 9 (yDb a1) (yCG r4), AbC 14 (xAh r3 r4) (xAa r5), AbC 9 (yDb a0) (yCG r6), AbC 9 (yDb a1) (yCG r7), AbC 15 (xAb r6 r7) (xAd r8), AbC 11 (yAJ (Val.mk (Val.kind r8.1) (Val.n r8.1) (Val.step r8.1) (Val.text r8.1) [] [] []) r5) (yAx r9), (!r9) = false, AbC 9 (yDb a0) (yCG r10), AbC 11 (yAJ r6 r10) (yAx r11), (!r11) = false, AbC 9 (yDb a1) (yCG r12), AbC 11 (yAJ r7 r12) (yAx r13), (!r13) = false, AbC 12 (yET r6 1) (yEU r14), Ln r14.2.1 = Ln (Val.list r6), Ln r14.2.2.1 = Ln (Val.columns r6), Ln r14.2.2.2 = Ln (Val.rows r6), AbC 12 (yET r7 r14.1) (yEU r15), Ln r15.2.1 = Ln (Val.list r7), Ln r15.2.2.1 = Ln (Val.columns r7), Ln r15.2.2.2 = Ln (Val.rows r7), (decide ((r15.1 : Int) < 0)) = false, AbC 11 (yAJ (Val.mk (Val.kind r8.1) (Val.n r8.1) (Val.step r8.1) (Val.text r8.1) [] [] []) r5) (yAx r16), (!r16) = false, AbC 12 (yEq (Val.mk (Val.kind r8.1) (Val.n r8.1) (Val.step r8.1) (Val.text r8.1) [] [] []) 1) (yEr r17), AbC 13 (yCq (Val.mk (Val.kind r8.1) (Val.n r8.1) (Val.step r8.1) (Val.text r8.1) [] [] []) 1) (yCr r18), (decide ((r18 : Int) < 0)) = false, ((r18 : Int) != r17) = false, AbC 9 (yDb a0) (yCG r19), AbC 9 (yDb a1) (yCG r20), AbC 15 (xAb r19 r20) (xAd r21), AbC 11 (yAJ (Val.mk (Val.kind r21.1) (Val.n r21.1) (Val.step r21.1) (Val.text r21.1) [] [] []) r5) (yAx r22), (!r22) = true] := by kernel_rfl
theorem p4_e_10 (a0 a1 : Val) (r1 r2 : Int) (r3 r4 r5 r6 r7 : Val) (r8 : Val × Bool) (r9 : Bool) (r10 : Val) (r11 : Bool) (r12 : Val) (r13 : Bool) (r14 : Int × (List Val) × (List Str) × (List Rowd)) (r15 : Int × (List Val) × (List Str) × (List Rowd)) (r16 : Bool) (r17 r18 : Int) (r19 r20 : Val) (r21 : Val × Bool) (r22 : Bool) (r23 : Int) : rE I4 (xAe a0 a1) [F, F, F, F, F, F, F, F, F, F, Y] [yAM r1, yAM r2, yCG r3, yCG r4, xAa r5, yCG r6, yCG r7, xAd r8, yAx r9, yCG r10, yAx r11, yCG r12, yAx r13, yEU r14, yEU r15, yAx r16, yEr r17, yCr r18, yCG r19, yCG r20, xAd r21, yAx r22, yCr r23] = dn (xAf false) [AbC 7 (yA4 a0 1048576) (yAM r1), (decide ((r1 : Int) < 0)) = false, AbC 7 (yA4 a1 r1) (yAM r2), (decide ((r2 : Int) < 0)) = false, AbC 9 (yDb a0) (yCG r3), AbC 9 (yDb a1) (yCG r4), AbC 14 (xAh r3 r4) (xAa r5), AbC 9 (yDb a0) (yCG r6), AbC 9 (yDb a1) (yCG r7), AbC 15 (xAb r6 r7) (xAd r8), AbC 11 (yAJ (Val.mk (Val.kind r8.1) (Val.n r8.1) (Val.step r8.1) (Val.text r8.1) [] [] []) r5) (yAx r9), (!r9) = false, AbC 9 (yDb a0) (yCG r10), AbC 11 (yAJ r6 r10) (yAx r11), (!r11) = false, AbC 9 (yDb a1) (yCG r12), AbC 11 (yAJ r7 r12) (yAx r13), (!r13) = false, AbC 12 (yET r6 1) (yEU r14), Ln r14.2.1 = Ln (Val.list r6), Ln r14.2.2.1 = Ln (Val.columns r6), Ln r14.2.2.2 = Ln (Val.rows r6), AbC 12 (yET r7 r14.1) (yEU r15), Ln r15.2.1 = Ln (Val.list r7), Ln r15.2.2.1 = Ln (Val.columns r7), Ln r15.2.2.2 = Ln (Val.rows r7), (decide ((r15.1 : Int) < 0)) = false, AbC 11 (yAJ (Val.mk (Val.kind r8.1) (Val.n r8.1) (Val.step r8.1) (Val.text r8.1) [] [] []) r5) (yAx r16), (!r16) = false, AbC 12 (yEq (Val.mk (Val.kind r8.1) (Val.n r8.1) (Val.step r8.1) (Val.text r8.1) [] [] []) 1) (yEr r17), AbC 13 (yCq (Val.mk (Val.kind r8.1) (Val.n r8.1) (Val.step r8.1) (Val.text r8.1) [] [] []) 1) (yCr r18), (decide ((r18 : Int) < 0)) = false, ((r18 : Int) != r17) = false, AbC 9 (yDb a0) (yCG r19), AbC 9 (yDb a1) (yCG r20), AbC 15 (xAb r19 r20) (xAd r21), AbC 11 (yAJ (Val.mk (Val.kind r21.1) (Val.n r21.1) (Val.step r21.1) (Val.text r21.1) [] [] []) r5) (yAx r22), (!r22) = false, AbC 13 (yCq (Val.mk (Val.kind r8.1) (Val.n r8.1) (Val.step r8.1) (Val.text r8.1) [] [] []) 1) (yCr r23), (decide ((r23 : Int) < 0)) = true] := by kernel_rfl
theorem p4_e_11 (a0 a1 : Val) (r1 r2 : Int) (r3 r4 r5 r6 r7 : Val) (r8 : Val × Bool) (r9 : Bool) (r10 : Val) (r11 : Bool) (r12 : Val) (r13 : Bool) (r14 : Int × (List Val) × (List Str) × (List Rowd)) (r15 : Int × (List Val) × (List Str) × (List Rowd)) (r16 : Bool) (r17 r18 : Int) (r19 r20 : Val) (r21 : Val × Bool) (r22 : Bool) (r23 : Int) : rE I4 (xAe a0 a1) [F, F, F, F, F, F, F, F, F, F, F, Y] [yAM r1, yAM r2, yCG r3, yCG r4, xAa r5, yCG r6, yCG r7, xAd r8, yAx r9, yCG r10, yAx r11, yCG r12, yAx r13, yEU r14, yEU r15, yAx r16, yEr r17, yCr r18, yCG r19, yCG r20, xAd r21, yAx r22, yCr r23] = dn (xAf false) [AbC 7 (yA4 a0 1048576) (yAM r1), (decide ((r1 : Int) < 0)) = false, AbC 7 (yA4 a1 r1) (yAM r2), (decide ((r2 : Int) < 0)) = false, AbC 9 (yDb a0) (yCG r3), AbC 9 (yDb a1) (yCG r4), AbC 14 (xAh r3 r4) (xAa r5), AbC 9 (yDb a0) (yCG r6), AbC 9 (yDb a1) (yCG r7), AbC 15 (xAb r6 r7) (xAd r8), AbC 11 (yAJ (Val.mk (Val.kind r8.1) (Val.n r8.1) (Val.step r8.1) (Val.text r8.1) [] [] []) r5) (yAx r9), (!r9) = false, AbC 9 (yDb a0) (yCG r10), AbC 11 (yAJ r6 r10) (yAx r11), (!r11) = false, AbC 9 (yDb a1) (yCG r12), AbC 11 (yAJ r7 r12) (yAx r13), (!r13) = false, AbC 12 (yET r6 1) (yEU r14), Ln r14.2.1 = Ln (Val.list r6), Ln r14.2.2.1 = Ln (Val.columns r6), Ln r14.2.2.2 = Ln (Val.rows r6), AbC 12 (yET r7 r14.1) (yEU r15), Ln r15.2.1 = Ln (Val.list r7), Ln r15.2.2.1 = Ln (Val.columns r7), Ln r15.2.2.2 = Ln (Val.rows r7), (decide ((r15.1 : Int) < 0)) = false, AbC 11 (yAJ (Val.mk (Val.kind r8.1) (Val.n r8.1) (Val.step r8.1) (Val.text r8.1) [] [] []) r5) (yAx r16), (!r16) = false, AbC 12 (yEq (Val.mk (Val.kind r8.1) (Val.n r8.1) (Val.step r8.1) (Val.text r8.1) [] [] []) 1) (yEr r17), AbC 13 (yCq (Val.mk (Val.kind r8.1) (Val.n r8.1) (Val.step r8.1) (Val.text r8.1) [] [] []) 1) (yCr r18), (decide ((r18 : Int) < 0)) = false, ((r18 : Int) != r17) = false, AbC 9 (yDb a0) (yCG r19), AbC 9 (yDb a1) (yCG r20), AbC 15 (xAb r19 r20) (xAd r21), AbC 11 (yAJ (Val.mk (Val.kind r21.1) (Val.n r21.1) (Val.step r21.1) (Val.text r21.1) [] [] []) r5) (yAx r22), (!r22) = false, AbC 13 (yCq (Val.mk (Val.kind r8.1) (Val.n r8.1) (Val.step r8.1) (Val.text r8.1) [] [] []) 1) (yCr r23), (decide ((r23 : Int) < 0)) = false, ((r23 : Int) != r17) = true] := by kernel_rfl
theorem p4_e_12 (a0 a1 : Val) (r1 r2 : Int) (r3 r4 r5 r6 r7 : Val) (r8 : Val × Bool) (r9 : Bool) (r10 : Val) (r11 : Bool) (r12 : Val) (r13 : Bool) (r14 : Int × (List Val) × (List Str) × (List Rowd)) (r15 : Int × (List Val) × (List Str) × (List Rowd)) (r16 : Bool) (r17 r18 : Int) (r19 r20 : Val) (r21 : Val × Bool) (r22 : Bool) (r23 : Int) : rE I4 (xAe a0 a1) [F, F, F, F, F, F, F, F, F, F, F, F] [yAM r1, yAM r2, yCG r3, yCG r4, xAa r5, yCG r6, yCG r7, xAd r8, yAx r9, yCG r10, yAx r11, yCG r12, yAx r13, yEU r14, yEU r15, yAx r16, yEr r17, yCr r18, yCG r19, yCG r20, xAd r21, yAx r22, yCr r23] = dn (xAf true) [AbC 7 (yA4 a0 1048576) (yAM r1), (decide ((r1 : Int) < 0)) = false, AbC 7 (yA4 a1 r1) (yAM r2), (decide ((r2 : Int) < 0)) = false, AbC 9 (yDb a0) (yCG r3), AbC 9 (yDb a1) (yCG r4), AbC 14 (xAh r3 r4) (xAa r5), AbC 9 (yDb a0) (yCG r6), AbC 9 (yDb a1) (yCG r7), AbC 15 (xAb r6 r7) (xAd r8), AbC 11 (yAJ (Val.mk (Val.kind r8.1) (Val.n r8.1) (Val.step r8.1) (Val.text r8.1) [] [] []) r5) (yAx r9), (!r9) = false, AbC 9 (yDb a0) (yCG r10), AbC 11 (yAJ r6 r10) (yAx r11), (!r11) = false, AbC 9 (yDb a1) (yCG r12), AbC 11 (yAJ r7 r12) (yAx r13), (!r13) = false, AbC 12 (yET r6 1) (yEU r14), Ln r14.2.1 = Ln (Val.list r6), Ln r14.2.2.1 = Ln (Val.columns r6), Ln r14.2.2.2 = Ln (Val.rows r6), AbC 12 (yET r7 r14.1) (yEU r15), Ln r15.2.1 = Ln (Val.list r7), Ln r15.2.2.1 = Ln (Val.columns r7), Ln r15.2.2.2 = Ln (Val.rows r7), (decide ((r15.1 : Int) < 0)) = false, AbC 11 (yAJ (Val.mk (Val.kind r8.1) (Val.n r8.1) (Val.step r8.1) (Val.text r8.1) [] [] []) r5) (yAx r16), (!r16) = false, AbC 12 (yEq (Val.mk (Val.kind r8.1) (Val.n r8.1) (Val.step r8.1) (Val.text r8.1) [] [] []) 1) (yEr r17), AbC 13 (yCq (Val.mk (Val.kind r8.1) (Val.n r8.1) (Val.step r8.1) (Val.text r8.1) [] [] []) 1) (yCr r18), (decide ((r18 : Int) < 0)) = false, ((r18 : Int) != r17) = false, AbC 9 (yDb a0) (yCG r19), AbC 9 (yDb a1) (yCG r20), AbC 15 (xAb r19 r20) (xAd r21), AbC 11 (yAJ (Val.mk (Val.kind r21.1) (Val.n r21.1) (Val.step r21.1) (Val.text r21.1) [] [] []) r5) (yAx r22), (!r22) = false, AbC 13 (yCq (Val.mk (Val.kind r8.1) (Val.n r8.1) (Val.step r8.1) (Val.text r8.1) [] [] []) 1) (yCr r23), (decide ((r23 : Int) < 0)) = false, ((r23 : Int) != r17) = false] := by kernel_rfl
theorem p4_e_13 (a0 a1 : Val) (r1 r2 : Int) (r3 r4 r5 r6 r7 : Val) (r8 : Val × Bool) (r9 : Bool) (r10 : Val) (r11 : Bool) (r12 : Val) (r13 : Bool) (r14 : Int × (List Val) × (List Str) × (List Rowd)) (r15 : Int × (List Val) × (List Str) × (List Rowd)) (r16 : Bool) (r17 r18 : Int) (r19 r20 : Val) (r21 : Val × Bool) (r22 : Bool) : rE I4 (xAe a0 a1) [F, F, F, F, F, F, F, F, F, Y] [yAM r1, yAM r2, yCG r3, yCG r4, xAa r5, yCG r6, yCG r7, xAd r8, yAx r9, yCG r10, yAx r11, yCG r12, yAx r13, yEU r14, yEU r15, yAx r16, yEr r17, yCr r18, yCG r19, yCG r20, xAc r21, yAx r22] = dn (xAf false) [AbC 7 (yA4 a0 1048576) (yAM r1), (decide ((r1 : Int) < 0)) = false, AbC 7 (yA4 a1 r1) (yAM r2), (decide ((r2 : Int) < 0)) = false, AbC 9 (yDb a0) (yCG r3), AbC 9 (yDb a1) (yCG r4), AbC 14 (xAh r3 r4) (xAa r5), AbC 9 (yDb a0) (yCG r6), AbC 9 (yDb a1) (yCG r7), AbC 15 (xAb r6 r7) (xAd r8), AbC 11 (yAJ (Val.mk (Val.kind r8.1) (Val.n r8.1) (Val.step r8.1) (Val.text r8.1) [] [] []) r5) (yAx r9), (!r9) = false, AbC 9 (yDb a0) (yCG r10), AbC 11 (yAJ r6 r10) (yAx r11), (!r11) = false, AbC 9 (yDb a1) (yCG r12), AbC 11 (yAJ r7 r12) (yAx r13), (!r13) = false, AbC 12 (yET r6 1) (yEU r14), Ln r14.2.1 = Ln (Val.list r6), Ln r14.2.2.1 = Ln (Val.columns r6), Ln r14.2.2.2 = Ln (Val.rows r6), AbC 12 (yET r7 r14.1) (yEU r15), Ln r15.2.1 = Ln (Val.list r7), Ln r15.2.2.1 = Ln (Val.columns r7), Ln r15.2.2.2 = Ln (Val.rows r7), (decide ((r15.1 : Int) < 0)) = false, AbC 11 (yAJ (Val.mk (Val.kind r8.1) (Val.n r8.1) (Val.step r8.1) (Val.text r8.1) [] [] []) r5) (yAx r16), (!r16) = false, AbC 12 (yEq (Val.mk (Val.kind r8.1) (Val.n r8.1) (Val.step r8.1) (Val.text r8.1) [] [] []) 1) (yEr r17), AbC 13 (yCq (Val.mk (Val.kind r8.1) (Val.n r8.1) (Val.step r8.1) (Val.text r8.1) [] [] []) 1) (yCr r18), (decide ((r18 : Int) < 0)) = false, ((r18 : Int) != r17) = false, AbC 9 (yDb a0) (yCG r19), AbC 9 (yDb a1) (yCG r20), AbC 15 (xAb r19 r20) (xAc r21), AbC 11 (yAJ r21.1 r5) (yAx r22), (!r22) = true] := by kernel_rfl
theorem p4_e_14 (a0 a1 : Val) (r1 r2 : Int) (r3 r4 r5 r6 r7 : Val) (r8 : Val × Bool) (r9 : Bool) (r10 : Val) (r11 : Bool) (r12 : Val) (r13 : Bool) (r14 : Int × (List Val) × (List Str) × (List Rowd)) (r15 : Int × (List Val) × (List Str) × (List Rowd)) (r16 : Bool) (r17 r18 : Int) (r19 r20 : Val) (r21 : Val × Bool) (r22 : Bool) (r23 : Int) : rE I4 (xAe a0 a1) [F, F, F, F, F, F, F, F, F, F, Y] [yAM r1, yAM r2, yCG r3, yCG r4, xAa r5, yCG r6, yCG r7, xAd r8, yAx r9, yCG r10, yAx r11, yCG r12, yAx r13, yEU r14, yEU r15, yAx r16, yEr r17, yCr r18, yCG r19, yCG r20, xAc r21, yAx r22, yCr r23] = dn (xAf false) [AbC 7 (yA4 a0 1048576) (yAM r1), (decide ((r1 : Int) < 0)) = false, AbC 7 (yA4 a1 r1) (yAM r2), (decide ((r2 : Int) < 0)) = false, AbC 9 (yDb a0) (yCG r3), AbC 9 (yDb a1) (yCG r4), AbC 14 (xAh r3 r4) (xAa r5), AbC 9 (yDb a0) (yCG r6), AbC 9 (yDb a1) (yCG r7), AbC 15 (xAb r6 r7) (xAd r8), AbC 11 (yAJ (Val.mk (Val.kind r8.1) (Val.n r8.1) (Val.step r8.1) (Val.text r8.1) [] [] []) r5) (yAx r9), (!r9) = false, AbC 9 (yDb a0) (yCG r10), AbC 11 (yAJ r6 r10) (yAx r11), (!r11) = false, AbC 9 (yDb a1) (yCG r12), AbC 11 (yAJ r7 r12) (yAx r13), (!r13) = false, AbC 12 (yET r6 1) (yEU r14), Ln r14.2.1 = Ln (Val.list r6), Ln r14.2.2.1 = Ln (Val.columns r6), Ln r14.2.2.2 = Ln (Val.rows r6), AbC 12 (yET r7 r14.1) (yEU r15), Ln r15.2.1 = Ln (Val.list r7), Ln r15.2.2.1 = Ln (Val.columns r7), Ln r15.2.2.2 = Ln (Val.rows r7), (decide ((r15.1 : Int) < 0)) = false, AbC 11 (yAJ (Val.mk (Val.kind r8.1) (Val.n r8.1) (Val.step r8.1) (Val.text r8.1) [] [] []) r5) (yAx r16), (!r16) = false, AbC 12 (yEq (Val.mk (Val.kind r8.1) (Val.n r8.1) (Val.step r8.1) (Val.text r8.1) [] [] []) 1) (yEr r17), AbC 13 (yCq (Val.mk (Val.kind r8.1) (Val.n r8.1) (Val.step r8.1) (Val.text r8.1) [] [] []) 1) (yCr r18), (decide ((r18 : Int) < 0)) = false, ((r18 : Int) != r17) = false, AbC 9 (yDb a0) (yCG r19), AbC 9 (yDb a1) (yCG r20), AbC 15 (xAb r19 r20) (xAc r21), AbC 11 (yAJ r21.1 r5) (yAx r22), (!r22) = false, AbC 13 (yCq (Val.mk (Val.kind r8.1) (Val.n r8.1) (Val.step r8.1) (Val.text r8.1) [] [] []) 1) (yCr r23), (decide ((r23 : Int) < 0)) = true] := by kernel_rfl
theorem p4_e_15 (a0 a1 : Val) (r1 r2 : Int) (r3 r4 r5 r6 r7 : Val) (r8 : Val × Bool) (r9 : Bool) (r10 : Val) (r11 : Bool) (r12 : Val) (r13 : Bool) (r14 : Int × (List Val) × (List Str) × (List Rowd)) (r15 : Int × (List Val) × (List Str) × (List Rowd)) (r16 : Bool) (r17 r18 : Int) (r19 r20 : Val) (r21 : Val × Bool) (r22 : Bool) (r23 : Int) : rE I4 (xAe a0 a1) [F, F, F, F, F, F, F, F, F, F, F, Y] [yAM r1, yAM r2, yCG r3, yCG r4, xAa r5, yCG r6, yCG r7, xAd r8, yAx r9, yCG r10, yAx r11, yCG r12, yAx r13, yEU r14, yEU r15, yAx r16, yEr r17, yCr r18, yCG r19, yCG r20, xAc r21, yAx r22, yCr r23] = dn (xAf false) [AbC 7 (yA4 a0 1048576) (yAM r1), (decide ((r1 : Int) < 0)) = false, AbC 7 (yA4 a1 r1) (yAM r2), (decide ((r2 : Int) < 0)) = false, AbC 9 (yDb a0) (yCG r3), AbC 9 (yDb a1) (yCG r4), AbC 14 (xAh r3 r4) (xAa r5), AbC 9 (yDb a0) (yCG r6), AbC 9 (yDb a1) (yCG r7), AbC 15 (xAb r6 r7) (xAd r8), AbC 11 (yAJ (Val.mk (Val.kind r8.1) (Val.n r8.1) (Val.step r8.1) (Val.text r8.1) [] [] []) r5) (yAx r9), (!r9) = false, AbC 9 (yDb a0) (yCG r10), AbC 11 (yAJ r6 r10) (yAx r11), (!r11) = false, AbC 9 (yDb a1) (yCG r12), AbC 11 (yAJ r7 r12) (yAx r13), (!r13) = false, AbC 12 (yET r6 1) (yEU r14), Ln r14.2.1 = Ln (Val.list r6), Ln r14.2.2.1 = Ln (Val.columns r6), Ln r14.2.2.2 = Ln (Val.rows r6), AbC 12 (yET r7 r14.1) (yEU r15), Ln r15.2.1 = Ln (Val.list r7), Ln r15.2.2.1 = Ln (Val.columns r7), Ln r15.2.2.2 = Ln (Val.rows r7), (decide ((r15.1 : Int) < 0)) = false, AbC 11 (yAJ (Val.mk (Val.kind r8.1) (Val.n r8.1) (Val.step r8.1) (Val.text r8.1) [] [] []) r5) (yAx r16), (!r16) = false, AbC 12 (yEq (Val.mk (Val.kind r8.1) (Val.n r8.1) (Val.step r8.1) (Val.text r8.1) [] [] []) 1) (yEr r17), AbC 13 (yCq (Val.mk (Val.kind r8.1) (Val.n r8.1) (Val.step r8.1) (Val.text r8.1) [] [] []) 1) (yCr r18), (decide ((r18 : Int) < 0)) = false, ((r18 : Int) != r17) = false, AbC 9 (yDb a0) (yCG r19), AbC 9 (yDb a1) (yCG r20), AbC 15 (xAb r19 r20) (xAc r21), AbC 11 (yAJ r21.1 r5) (yAx r22), (!r22) = false, AbC 13 (yCq (Val.mk (Val.kind r8.1) (Val.n r8.1) (Val.step r8.1) (Val.text r8.1) [] [] []) 1) (yCr r23), (decide ((r23 : Int) < 0)) = false, ((r23 : Int) != r17) = true] := by kernel_rfl
theorem p4_e_16 (a0 a1 : Val) (r1 r2 : Int) (r3 r4 r5 r6 r7 : Val) (r8 : Val × Bool) (r9 : Bool) (r10 : Val) (r11 : Bool) (r12 : Val) (r13 : Bool) (r14 : Int × (List Val) × (List Str) × (List Rowd)) (r15 : Int × (List Val) × (List Str) × (List Rowd)) (r16 : Bool) (r17 r18 : Int) (r19 r20 : Val) (r21 : Val × Bool) (r22 : Bool) (r23 : Int) : rE I4 (xAe a0 a1) [F, F, F, F, F, F, F, F, F, F, F, F] [yAM r1, yAM r2, yCG r3, yCG r4, xAa r5, yCG r6, yCG r7, xAd r8, yAx r9, yCG r10, yAx r11, yCG r12, yAx r13, yEU r14, yEU r15, yAx r16, yEr r17, yCr r18, yCG r19, yCG r20, xAc r21, yAx r22, yCr r23] = dn (xAf true) [AbC 7 (yA4 a0 1048576) (yAM r1), (decide ((r1 : Int) < 0)) = false, AbC 7 (yA4 a1 r1) (yAM r2), (decide ((r2 : Int) < 0)) = false, AbC 9 (yDb a0) (yCG r3), AbC 9 (yDb a1) (yCG r4), AbC 14 (xAh r3 r4) (xAa r5), AbC 9 (yDb a0) (yCG r6), AbC 9 (yDb a1) (yCG r7), AbC 15 (xAb r6 r7) (xAd r8), AbC 11 (yAJ (Val.mk (Val.kind r8.1) (Val.n r8.1) (Val.step r8.1) (Val.text r8.1) [] [] []) r5) (yAx r9), (!r9) = false, AbC 9 (yDb a0) (yCG r10), AbC 11 (yAJ r6 r10) (yAx r11), (!r11) = false, AbC 9 (yDb a1) (yCG r12), AbC 11 (yAJ r7 r12) (yAx r13), (!r13) = false, AbC 12 (yET r6 1) (yEU r14), Ln r14.2.1 = Ln (Val.list r6), Ln r14.2.2.1 = Ln (Val.columns r6), Ln r14.2.2.2 = Ln (Val.rows r6), AbC 12 (yET r7 r14.1) (yEU r15), Ln r15.2.1 = Ln (Val.list r7), Ln r15.2.2.1 = Ln (Val.columns r7), Ln r15.2.2.2 = Ln (Val.rows r7), (decide ((r15.1 : Int) < 0)) = false, AbC 11 (yAJ (Val.mk (Val.kind r8.1) (Val.n r8.1) (Val.step r8.1) (Val.text r8.1) [] [] []) r5) (yAx r16), (!r16) = false, AbC 12 (yEq (Val.mk (Val.kind r8.1) (Val.n r8.1) (Val.step r8.1) (Val.text r8.1) [] [] []) 1) (yEr r17), AbC 13 (yCq (Val.mk (Val.kind r8.1) (Val.n r8.1) (Val.step r8.1) (Val.text r8.1) [] [] []) 1) (yCr r18), (decide ((r18 : Int) < 0)) = false, ((r18 : Int) != r17) = false, AbC 9 (yDb a0) (yCG r19), AbC 9 (yDb a1) (yCG r20), AbC 15 (xAb r19 r20) (xAc r21), AbC 11 (yAJ r21.1 r5) (yAx r22), (!r22) = false, AbC 13 (yCq (Val.mk (Val.kind r8.1) (Val.n r8.1) (Val.step r8.1) (Val.text r8.1) [] [] []) 1) (yCr r23), (decide ((r23 : Int) < 0)) = false, ((r23 : Int) != r17) = false] := by kernel_rfl
theorem p4_e_17 (a0 a1 : Val) (r1 r2 : Int) (r3 r4 r5 r6 r7 : Val) (r8 : Val × Bool) (r9 : Bool) : rE I4 (xAe a0 a1) [F, F, Y] [yAM r1, yAM r2, yCG r3, yCG r4, xAa r5, yCG r6, yCG r7, xAc r8, yAx r9] = dn (xAf false) [AbC 7 (yA4 a0 1048576) (yAM r1), (decide ((r1 : Int) < 0)) = false, AbC 7 (yA4 a1 r1) (yAM r2), (decide ((r2 : Int) < 0)) = false, AbC 9 (yDb a0) (yCG r3), AbC 9 (yDb a1) (yCG r4), AbC 14 (xAh r3 r4) (xAa r5), AbC 9 (yDb a0) (yCG r6), AbC 9 (yDb a1) (yCG r7), AbC 15 (xAb r6 r7) (xAc r8), AbC 11 (yAJ r8.1 r5) (yAx r9), (!r9) = true] := by kernel_rfl
theorem p4_e_18 (a0 a1 : Val) (r1 r2 : Int) (r3 r4 r5 r6 r7 : Val) (r8 : Val × Bool) (r9 : Bool) (r10 : Val) (r11 : Bool) : rE I4 (xAe a0 a1) [F, F, F, Y] [yAM r1, yAM r2, yCG r3, yCG r4, xAa r5, yCG r6, yCG r7, xAc r8, yAx r9, yCG r10, yAx r11] = dn (xAf false) [AbC 7 (yA4 a0 1048576) (yAM r1), (decide ((r1 : Int) < 0)) = false, AbC 7 (yA4 a1 r1) (yAM r2), (decide ((r2 : Int) < 0)) = false, AbC 9 (yDb a0) (yCG r3), AbC 9 (yDb a1) (yCG r4), AbC 14 (xAh r3 r4) (xAa r5), AbC 9 (yDb a0) (yCG r6), AbC 9 (yDb a1) (yCG r7), AbC 15 (xAb r6 r7) (xAc r8), AbC 11 (yAJ r8.1 r5) (yAx r9), (!r9) = false, AbC 9 (yDb a0) (yCG r10), AbC 11 (yAJ r6 r10) (yAx r11), (!r11) = true] := by kernel_rfl
theorem p4_e_19 (a0 a1 : Val) (r1 r2 : Int) (r3 r4 r5 r6 r7 : Val) (r8 : Val × Bool) (r9 : Bool) (r10 : Val) (r11 : Bool) (r12 : Val) (r13 : Bool) : rE I4 (xAe a0 a1) [F, F, F, F, Y] [yAM r1, yAM r2, yCG r3, yCG r4, xAa r5, yCG r6, yCG r7, xAc r8, yAx r9, yCG r10, yAx r11, yCG r12, yAx r13] = dn (xAf false) [AbC 7 (yA4 a0 1048576) (yAM r1), (decide ((r1 : Int) < 0)) = false, AbC 7 (yA4 a1 r1) (yAM r2), (decide ((r2 : Int) < 0)) = false, AbC 9 (yDb a0) (yCG r3), AbC 9 (yDb a1) (yCG r4), AbC 14 (xAh r3 r4) (xAa r5), AbC 9 (yDb a0) (yCG r6), AbC 9 (yDb a1) (yCG r7), AbC 15 (xAb r6 r7) (xAc r8), AbC 11 (yAJ r8.1 r5) (yAx r9), (!r9) = false, AbC 9 (yDb a0) (yCG r10), AbC 11 (yAJ r6 r10) (yAx r11), (!r11) = false, AbC 9 (yDb a1) (yCG r12), AbC 11 (yAJ r7 r12) (yAx r13), (!r13) = true] := by kernel_rfl
theorem p4_e_20 (a0 a1 : Val) (r1 r2 : Int) (r3 r4 r5 r6 r7 : Val) (r8 : Val × Bool) (r9 : Bool) (r10 : Val) (r11 : Bool) (r12 : Val) (r13 : Bool) (r14 : Int × (List Val) × (List Str) × (List Rowd)) (r15 : Int × (List Val) × (List Str) × (List Rowd)) : rE I4 (xAe a0 a1) [F, F, F, F, F, Y, Y] [yAM r1, yAM r2, yCG r3, yCG r4, xAa r5, yCG r6, yCG r7, xAc r8, yAx r9, yCG r10, yAx r11, yCG r12, yAx r13, yEU r14, yEU r15] = dn (xAf false) [AbC 7 (yA4 a0 1048576) (yAM r1), (decide ((r1 : Int) < 0)) = false, AbC 7 (yA4 a1 r1) (yAM r2), (decide ((r2 : Int) < 0)) = false, AbC 9 (yDb a0) (yCG r3), AbC 9 (yDb a1) (yCG r4), AbC 14 (xAh r3 r4) (xAa r5), AbC 9 (yDb a0) (yCG r6), AbC 9 (yDb a1) (yCG r7), AbC 15 (xAb r6 r7) (xAc r8), AbC 11 (yAJ r8.1 r5) (yAx r9), (!r9) = false, AbC 9 (yDb a0) (yCG r10), AbC 11 (yAJ r6 r10) (yAx r11), (!r11) = false, AbC 9 (yDb a1) (yCG r12), AbC 11 (yAJ r7 r12) (yAx r13), (!r13) = false, AbC 12 (yET r6 1) (yEU r14), Ln r14.2.1 = Ln (Val.list r6), Ln r14.2.2.1 = Ln (Val.columns r6), Ln r14.2.2.2 = Ln (Val.rows r6), AbC 12 (yET r7 r14.1) (yEU r15), Ln r15.2.1 = Ln (Val.list r7), Ln r15.2.2.1 = Ln (Val.columns r7), Ln r15.2.2.2 = Ln (Val.rows r7), (decide ((r15.1 : Int) < 0)) = true, true = true] := by kernel_rfl
theorem p4_e_21 (a0 a1 : Val) (r1 r2 : Int) (r3 r4 r5 r6 r7 : Val) (r8 : Val × Bool) (r9 : Bool) (r10 : Val) (r11 : Bool) (r12 : Val) (r13 : Bool) (r14 : Int × (List Val) × (List Str) × (List Rowd)) (r15 : Int × (List Val) × (List Str) × (List Rowd)) (r16 : Bool) : rE I4 (xAe a0 a1) [F, F, F, F, F, F, Y] [yAM r1, yAM r2, yCG r3, yCG r4, xAa r5, yCG r6, yCG r7, xAc r8, yAx r9, yCG r10, yAx r11, yCG r12, yAx r13, yEU r14, yEU r15, yAx r16] = dn (xAf false) [AbC 7 (yA4 a0 1048576) (yAM r1), (decide ((r1 : Int) < 0)) = false, AbC 7 (yA4 a1 r1) (yAM r2), (decide ((r2 : Int) < 0)) = false, AbC 9 (yDb a0) (yCG r3), AbC 9 (yDb a1) (yCG r4), AbC 14 (xAh r3 r4) (xAa r5), AbC 9 (yDb a0) (yCG r6), AbC 9 (yDb a1) (yCG r7), AbC 15 (xAb r6 r7) (xAc r8), AbC 11 (yAJ r8.1 r5) (yAx r9), (!r9) = false, AbC 9 (yDb a0) (yCG r10), AbC 11 (yAJ r6 r10) (yAx r11), (!r11) = false, AbC 9 (yDb a1) (yCG r12), AbC 11 (yAJ r7 r12) (yAx r13), (!r13) = false, AbC 12 (yET r6 1) (yEU r14), Ln r14.2.1 = Ln (Val.list r6), Ln r14.2.2.1 = Ln (Val.columns r6), Ln r14.2.2.2 = Ln (Val.rows r6), AbC 12 (yET r7 r14.1) (yEU r15), Ln r15.2.1 = Ln (Val.list r7), Ln r15.2.2.1 = Ln (Val.columns r7), Ln r15.2.2.2 = Ln (Val.rows r7), (decide ((r15.1 : Int) < 0)) = false, AbC 11 (yAJ r8.1 r5) (yAx r16), (!r16) = true] := by kernel_rfl
theorem p4_e_22 (a0 a1 : Val) (r1 r2 : Int) (r3 r4 r5 r6 r7 : Val) (r8 : Val × Bool) (r9 : Bool) (r10 : Val) (r11 : Bool) (r12 : Val) (r13 : Bool) (r14 : Int × (List Val) × (List Str) × (List Rowd)) (r15 : Int × (List Val) × (List Str) × (List Rowd)) (r16 : Bool) (r17 : Int × (List Val) × (List Str) × (List Rowd)) (r18 : Int) : rE I4 (xAe a0 a1) [F, F, F, F, F, F, F, Y] [yAM r1, yAM r2, yCG r3, yCG r4, xAa r5, yCG r6, yCG r7, xAc r8, yAx r9, yCG r10, yAx r11, yCG r12, yAx r13, yEU r14, yEU r15, yAx r16, yEU r17, yCr r18] = dn (xAf false) [AbC 7 (yA4 a0 1048576) (yAM r1), (decide ((r1 : Int) < 0)) = false, AbC 7 (yA4 a1 r1) (yAM r2), (decide ((r2 : Int) < 0)) = false, AbC 9 (yDb a0) (yCG r3), AbC 9 (yDb a1) (yCG r4), AbC 14 (xAh r3 r4) (xAa r5), AbC 9 (yDb a0) (yCG r6), AbC 9 (yDb a1) (yCG r7), AbC 15 (xAb r6 r7) (xAc r8), AbC 11 (yAJ r8.1 r5) (yAx r9), (!r9) = false, AbC 9 (yDb a0) (yCG r10), AbC 11 (yAJ r6 r10) (yAx r11), (!r11) = false, AbC 9 (yDb a1) (yCG r12), AbC 11 (yAJ r7 r12) (yAx r13), (!r13) = false, AbC 12 (yET r6 1) (yEU r14), Ln r14.2.1 = Ln (Val.list r6), Ln r14.2.2.1 = Ln (Val.columns r6), Ln r14.2.2.2 = Ln (Val.rows r6), AbC 12 (yET r7 r14.1) (yEU r15), Ln r15.2.1 = Ln (Val.list r7), Ln r15.2.2.1 = Ln (Val.columns r7), Ln r15.2.2.2 = Ln (Val.rows r7), (decide ((r15.1 : Int) < 0)) = false, AbC 11 (yAJ r8.1 r5) (yAx r16), (!r16) = false, AbC 12 (yET r8.1 1) (yEU r17), Ln r17.2.1 = Ln (Val.list r8.1), Ln r17.2.2.1 = Ln (Val.columns r8.1), Ln r17.2.2.2 = Ln (Val.rows r8.1), AbC 13 (yCq (Val.mk (Val.kind r8.1) (Val.n r8.1) (Val.step r8.1) (Val.text r8.1) r17.2.1 r17.2.2.1 r17.2.2.2) 1) (yCr r18), (decide ((r18 : Int) < 0)) = true] := by kernel_rfl
theorem p4_e_23 (a0 a1 : Val) (r1 r2 : Int) (r3 r4 r5 r6 r7 : Val) (r8 : Val × Bool) (r9 : Bool) (r10 : Val) (r11 : Bool) (r12 : Val) (r13 : Bool) (r14 : Int × (List Val) × (List Str) × (List Rowd)) (r15 : Int × (List Val) × (List Str) × (List Rowd)) (r16 : Bool) (r17 : Int × (List Val) × (List Str) × (List Rowd)) (r18 : Int) : rE I4 (xAe a0 a1) [F, F, F, F, F, F, F, F, Y] [yAM r1, yAM r2, yCG r3, yCG r4, xAa r5, yCG r6, yCG r7, xAc r8, yAx r9, yCG r10, yAx r11, yCG r12, yAx r13, yEU r14, yEU r15, yAx r16, yEU r17, yCr r18] = dn (xAf false) [AbC 7 (yA4 a0 1048576) (yAM r1), (decide ((r1 : Int) < 0)) = false, AbC 7 (yA4 a1 r1) (yAM r2), (decide ((r2 : Int) < 0)) = false, AbC 9 (yDb a0) (yCG r3), AbC 9 (yDb a1) (yCG r4), AbC 14 (xAh r3 r4) (xAa r5), AbC 9 (yDb a0) (yCG r6), AbC 9 (yDb a1) (yCG r7), AbC 15 (xAb r6 r7) (xAc r8), AbC 11 (yAJ r8.1 r5) (yAx r9), (!r9) = false, AbC 9 (yDb a0) (yCG r10), AbC 11 (yAJ r6 r10) (yAx r11), (!r11) = false, AbC 9 (yDb a1) (yCG r12), AbC 11 (yAJ r7 r12) (yAx r13), (!r13) = false, AbC 12 (yET r6 1) (yEU r14), Ln r14.2.1 = Ln (Val.list r6), Ln r14.2.2.1 = Ln (Val.columns r6), Ln r14.2.2.2 = Ln (Val.rows r6), AbC 12 (yET r7 r14.1) (yEU r15), Ln r15.2.1 = Ln (Val.list r7), Ln r15.2.2.1 = Ln (Val.columns r7), Ln r15.2.2.2 = Ln (Val.rows r7), (decide ((r15.1 : Int) < 0)) = false, AbC 11 (yAJ r8.1 r5) (yAx r16), (!r16) = false, AbC 12 (yET r8.1 1) (yEU r17), Ln r17.2.1 = Ln (Val.list r8.1), Ln r17.2.2.1 = Ln (Val.columns r8.1), Ln r17.2.2.2 = Ln (Val.rows r8.1), AbC 13 (yCq (Val.mk (Val.kind r8.1) (Val.n r8.1) (Val.step r8.1) (Val.text r8.1) r17.2.1 r17.2.2.1 r17.2.2.2) 1) (yCr r18), (decide ((r18 : Int) < 0)) = false, ((r18 : Int) != r17.1) = true] := by kernel_rfl
theorem p4_e_24 (a0 a1 : Val) (r1 r2 : Int) (r3 r4 r5 r6 r7 : Val) (r8 : Val × Bool) (r9 : Bool) (r10 : Val) (r11 : Bool) (r12 : Val) (r13 : Bool) (r14 : Int × (List Val) × (List Str) × (List Rowd)) (r15 : Int × (List Val) × (List Str) × (List Rowd)) (r16 : Bool) (r17 : Int × (List Val) × (List Str) × (List Rowd)) (r18 : Int) (r19 r20 : Val) (r21 : Val × Bool) (r22 : Bool) : rE I4 (xAe a0 a1) [F, F, F, F, F, F, F, F, F, Y] [yAM r1, yAM r2, yCG r3, yCG r4, xAa r5, yCG r6, yCG r7, xAc r8, yAx r9, yCG r10, yAx r11, yCG r12, yAx r13, yEU r14, yEU r15, yAx r16, yEU r17, yCr r18, yCG r19, yCG r20, xAd r21, yAx r22] = dn (xAf false) [AbC 7 (yA4 a0 1048576) (yAM r1), (decide ((r1 : Int) < 0)) = false, AbC 7 (yA4 a1 r1) (yAM r2), (decide ((r2 : Int) < 0)) = false, AbC 9 (yDb a0) (yCG r3), AbC 9 (yDb a1) (yCG r4), AbC 14 (xAh r3 r4) (xAa r5), AbC 9 (yDb a0) (yCG r6), AbC 9 (yDb a1) (yCG r7), AbC 15 (xAb r6 r7) (xAc r8), AbC 11 (yAJ r8.1 r5) (yAx r9), (!r9) = false, AbC 9 (yDb a0) (yCG r10), AbC 11 (yAJ r6 r10) (yAx r11), (!r11) = false, AbC 9 (yDb a1) (yCG r12), AbC 11 (yAJ r7 r12) (yAx r13), (!r13) = false, AbC 12 (yET r6 1) (yEU r14), Ln r14.2.1 = Ln (Val.list r6), Ln r14.2.2.1 = Ln (Val.columns r6), Ln r14.2.2.2 = Ln (Val.rows r6), AbC 12 (yET r7 r14.1) (yEU r15), Ln r15.2.1 = Ln (Val.list r7), Ln r15.2.2.1 = Ln (Val.columns r7), Ln r15.2.2.2 = Ln (Val.rows r7), (decide ((r15.1 : Int) < 0)) = false, AbC 11 (yAJ r8.1 r5) (yAx r16), (!r16) = false, AbC 12 (yET r8.1 1) (yEU r17), Ln r17.2.1 = Ln (Val.list r8.1), Ln r17.2.2.1 = Ln (Val.columns r8.1), Ln r17.2.2.2 = Ln (Val.rows r8.1), AbC 13 (yCq (Val.mk (Val.kind r8.1) (Val.n r8.1) (Val.step r8.1) (Val.text r8.1) r17.2.1 r17.2.2.1 r17.2.2.2) 1) (yCr r18), (decide ((r18 : Int) < 0)) = false, ((r18 : Int) != r17.1) = false, AbC 9 (yDb a0) (yCG r19), AbC 9 (yDb a1) (yCG r20), AbC 15 (xAb r19 r20) (xAd r21), AbC 11 (yAJ (Val.mk (Val.kind r21.1) (Val.n r21.1) (Val.step r21.1) (Val.text r21.1) [] [] []) r5) (yAx r22), (!r22) = true] := by kernel_rfl
theorem p4_e_25 (a0 a1 : Val) (r1 r2 : Int) (r3 r4 r5 r6 r7 : Val) (r8 : Val × Bool) (r9 : Bool) (r10 : Val) (r11 : Bool) (r12 : Val) (r13 : Bool) (r14 : Int × (List Val) × (List Str) × (List Rowd)) (r15 : Int × (List Val) × (List Str) × (List Rowd)) (r16 : Bool) (r17 : Int × (List Val) × (List Str) × (List Rowd)) (r18 : Int) (r19 r20 : Val) (r21 : Val × Bool) (r22 : Bool) (r23 : Int) : rE I4 (xAe a0 a1) [F, F, F, F, F, F, F, F, F, F, Y] [yAM r1, yAM r2, yCG r3, yCG r4, xAa r5, yCG r6, yCG r7, xAc r8, yAx r9, yCG r10, yAx r11, yCG r12, yAx r13, yEU r14, yEU r15, yAx r16, yEU r17, yCr r18, yCG r19, yCG r20, xAd r21, yAx r22, yCr r23] = dn (xAf false) [AbC 7 (yA4 a0 1048576) (yAM r1), (decide ((r1 : Int) < 0)) = false, AbC 7 (yA4 a1 r1) (yAM r2), (decide ((r2 : Int) < 0)) = false, AbC 9 (yDb a0) (yCG r3), AbC 9 (yDb a1) (yCG r4), AbC 14 (xAh r3 r4) (xAa r5), AbC 9 (yDb a0) (yCG r6), AbC 9 (yDb a1) (yCG r7), AbC 15 (xAb r6 r7) (xAc r8), AbC 11 (yAJ r8.1 r5) (yAx r9), (!r9) = false, AbC 9 (yDb a0) (yCG r10), AbC 11 (yAJ r6 r10) (yAx r11), (!r11) = false, AbC 9 (yDb a1) (yCG r12), AbC 11 (yAJ r7 r12) (yAx r13), (!r13) = false, AbC 12 (yET r6 1) (yEU r14), Ln r14.2.1 = Ln (Val.list r6), Ln r14.2.2.1 = Ln (Val.columns r6), Ln r14.2.2.2 = Ln (Val.rows r6), AbC 12 (yET r7 r14.1) (yEU r15), Ln r15.2.1 = Ln (Val.list r7), Ln r15.2.2.1 = Ln (Val.columns r7), Ln r15.2.2.2 = Ln (Val.rows r7), (decide ((r15.1 : Int) < 0)) = false, AbC 11 (yAJ r8.1 r5) (yAx r16), (!r16) = false, AbC 12 (yET r8.1 1) (yEU r17), Ln r17.2.1 = Ln (Val.list r8.1), Ln r17.2.2.1 = Ln (Val.columns r8.1), Ln r17.2.2.2 = Ln (Val.rows r8.1), AbC 13 (yCq (Val.mk (Val.kind r8.1) (Val.n r8.1) (Val.step r8.1) (Val.text r8.1) r17.2.1 r17.2.2.1 r17.2.2.2) 1) (yCr r18), (decide ((r18 : Int) < 0)) = false, ((r18 : Int) != r17.1) = false, AbC 9 (yDb a0) (yCG r19), AbC 9 (yDb a1) (yCG r20), AbC 15 (xAb r19 r20) (xAd r21), AbC 11 (yAJ (Val.mk (Val.kind r21.1) (Val.n r21.1) (Val.step r21.1) (Val.text r21.1) [] [] []) r5) (yAx r22), (!r22) = false, AbC 13 (yCq (Val.mk (Val.kind r8.1) (Val.n r8.1) (Val.step r8.1) (Val.text r8.1) r17.2.1 r17.2.2.1 r17.2.2.2) 1) (yCr r23), (decide ((r23 : Int) < 0)) = true] := by kernel_rfl
theorem p4_e_26 (a0 a1 : Val) (r1 r2 : Int) (r3 r4 r5 r6 r7 : Val) (r8 : Val × Bool) (r9 : Bool) (r10 : Val) (r11 : Bool) (r12 : Val) (r13 : Bool) (r14 : Int × (List Val) × (List Str) × (List Rowd)) (r15 : Int × (List Val) × (List Str) × (List Rowd)) (r16 : Bool) (r17 : Int × (List Val) × (List Str) × (List Rowd)) (r18 : Int) (r19 r20 : Val) (r21 : Val × Bool) (r22 : Bool) (r23 : Int) : rE I4 (xAe a0 a1) [F, F, F, F, F, F, F, F, F, F, F, Y] [yAM r1, yAM r2, yCG r3, yCG r4, xAa r5, yCG r6, yCG r7, xAc r8, yAx r9, yCG r10, yAx r11, yCG r12, yAx r13, yEU r14, yEU r15, yAx r16, yEU r17, yCr r18, yCG r19, yCG r20, xAd r21, yAx r22, yCr r23] = dn (xAf false) [AbC 7 (yA4 a0 1048576) (yAM r1), (decide ((r1 : Int) < 0)) = false, AbC 7 (yA4 a1 r1) (yAM r2), (decide ((r2 : Int) < 0)) = false, AbC 9 (yDb a0) (yCG r3), AbC 9 (yDb a1) (yCG r4), AbC 14 (xAh r3 r4) (xAa r5), AbC 9 (yDb a0) (yCG r6), AbC 9 (yDb a1) (yCG r7), AbC 15 (xAb r6 r7) (xAc r8), AbC 11 (yAJ r8.1 r5) (yAx r9), (!r9) = false, AbC 9 (yDb a0) (yCG r10), AbC 11 (yAJ r6 r10) (yAx r11), (!r11) = false, AbC 9 (yDb a1) (yCG r12), AbC 11 (yAJ r7 r12) (yAx r13), (!r13) = false, AbC 12 (yET r6 1) (yEU r14), Ln r14.2.1 = Ln (Val.list r6), Ln r14.2.2.1 = Ln (Val.columns r6), Ln r14.2.2.2 = Ln (Val.rows r6), AbC 12 (yET r7 r14.1) (yEU r15), Ln r15.2.1 = Ln (Val.list r7), Ln r15.2.2.1 = Ln (Val.columns r7), Ln r15.2.2.2 = Ln (Val.rows r7), (decide ((r15.1 : Int) < 0)) = false, AbC 11 (yAJ r8.1 r5) (yAx r16), (!r16) = false, AbC 12 (yET r8.1 1) (yEU r17), Ln r17.2.1 = Ln (Val.list r8.1), Ln r17.2.2.1 = Ln (Val.columns r8.1), Ln r17.2.2.2 = Ln (Val.rows r8.1), AbC 13 (yCq (Val.mk (Val.kind r8.1) (Val.n r8.1) (Val.step r8.1) (Val.text r8.1) r17.2.1 r17.2.2.1 r17.2.2.2) 1) (yCr r18), (decide ((r18 : Int) < 0)) = false, ((r18 : Int) != r17.1) = false, AbC 9 (yDb a0) (yCG r19), AbC 9 (yDb a1) (yCG r20), AbC 15 (xAb r19 r20) (xAd r21), AbC 11 (yAJ (Val.mk (Val.kind r21.1) (Val.n r21.1) (Val.step r21.1) (Val.text r21.1) [] [] []) r5) (yAx r22), (!r22) = false, AbC 13 (yCq (Val.mk (Val.kind r8.1) (Val.n r8.1) (Val.step r8.1) (Val.text r8.1) r17.2.1 r17.2.2.1 r17.2.2.2) 1) (yCr r23), (decide ((r23 : Int) < 0)) = false, ((r23 : Int) != r17.1) = true] := by kernel_rfl
theorem p4_e_27 (a0 a1 : Val) (r1 r2 : Int) (r3 r4 r5 r6 r7 : Val) (r8 : Val × Bool) (r9 : Bool) (r10 : Val) (r11 : Bool) (r12 : Val) (r13 : Bool) (r14 : Int × (List Val) × (List Str) × (List Rowd)) (r15 : Int × (List Val) × (List Str) × (List Rowd)) (r16 : Bool) (r17 : Int × (List Val) × (List Str) × (List Rowd)) (r18 : Int) (r19 r20 : Val) (r21 : Val × Bool) (r22 : Bool) (r23 : Int) : rE I4 (xAe a0 a1) [F, F, F, F, F, F, F, F, F, F, F, F] [yAM r1, yAM r2, yCG r3, yCG r4, xAa r5, yCG r6, yCG r7, xAc r8, yAx r9, yCG r10, yAx r11, yCG r12, yAx r13, yEU r14, yEU r15, yAx r16, yEU r17, yCr r18, yCG r19, yCG r20, xAd r21, yAx r22, yCr r23] = dn (xAf true) [AbC 7 (yA4 a0 1048576) (yAM r1), (decide ((r1 : Int) < 0)) = false, AbC 7 (yA4 a1 r1) (yAM r2), (decide ((r2 : Int) < 0)) = false, AbC 9 (yDb a0) (yCG r3), AbC 9 (yDb a1) (yCG r4), AbC 14 (xAh r3 r4) (xAa r5), AbC 9 (yDb a0) (yCG r6), AbC 9 (yDb a1) (yCG r7), AbC 15 (xAb r6 r7) (xAc r8), AbC 11 (yAJ r8.1 r5) (yAx r9), (!r9) = false, AbC 9 (yDb a0) (yCG r10), AbC 11 (yAJ r6 r10) (yAx r11), (!r11) = false, AbC 9 (yDb a1) (yCG r12), AbC 11 (yAJ r7 r12) (yAx r13), (!r13) = false, AbC 12 (yET r6 1) (yEU r14), Ln r14.2.1 = Ln (Val.list r6), Ln r14.2.2.1 = Ln (Val.columns r6), Ln r14.2.2.2 = Ln (Val.rows r6), AbC 12 (yET r7 r14.1) (yEU r15), Ln r15.2.1 = Ln (Val.list r7), Ln r15.2.2.1 = Ln (Val.columns r7), Ln r15.2.2.2 = Ln (Val.rows r7), (decide ((r15.1 : Int) < 0)) = false, AbC 11 (yAJ r8.1 r5) (yAx r16), (!r16) = false, AbC 12 (yET r8.1 1) (yEU r17), Ln r17.2.1 = Ln (Val.list r8.1), Ln r17.2.2.1 = Ln (Val.columns r8.1), Ln r17.2.2.2 = Ln (Val.rows r8.1), AbC 13 (yCq (Val.mk (Val.kind r8.1) (Val.n r8.1) (Val.step r8.1) (Val.text r8.1) r17.2.1 r17.2.2.1 r17.2.2.2) 1) (yCr r18), (decide ((r18 : Int) < 0)) = false, ((r18 : Int) != r17.1) = false, AbC 9 (yDb a0) (yCG r19), AbC 9 (yDb a1) (yCG r20), AbC 15 (xAb r19 r20) (xAd r21), AbC 11 (yAJ (Val.mk (Val.kind r21.1) (Val.n r21.1) (Val.step r21.1) (Val.text r21.1) [] [] []) r5) (yAx r22), (!r22) = false, AbC 13 (yCq (Val.mk (Val.kind r8.1) (Val.n r8.1) (Val.step r8.1) (Val.text r8.1) r17.2.1 r17.2.2.1 r17.2.2.2) 1) (yCr r23), (decide ((r23 : Int) < 0)) = false, ((r23 : Int) != r17.1) = false] := by kernel_rfl
theorem p4_e_28 (a0 a1 : Val) (r1 r2 : Int) (r3 r4 r5 r6 r7 : Val) (r8 : Val × Bool) (r9 : Bool) (r10 : Val) (r11 : Bool) (r12 : Val) (r13 : Bool) (r14 : Int × (List Val) × (List Str) × (List Rowd)) (r15 : Int × (List Val) × (List Str) × (List Rowd)) (r16 : Bool) (r17 : Int × (List Val) × (List Str) × (List Rowd)) (r18 : Int) (r19 r20 : Val) (r21 : Val × Bool) (r22 : Bool) : rE I4 (xAe a0 a1) [F, F, F, F, F, F, F, F, F, Y] [yAM r1, yAM r2, yCG r3, yCG r4, xAa r5, yCG r6, yCG r7, xAc r8, yAx r9, yCG r10, yAx r11, yCG r12, yAx r13, yEU r14, yEU r15, yAx r16, yEU r17, yCr r18, yCG r19, yCG r20, xAc r21, yAx r22] = dn (xAf false) [AbC 7 (yA4 a0 1048576) (yAM r1), (decide ((r1 : Int) < 0)) = false, AbC 7 (yA4 a1 r1) (yAM r2), (decide ((r2 : Int) < 0)) = false, AbC 9 (yDb a0) (yCG r3), AbC 9 (yDb a1) (yCG r4), AbC 14 (xAh r3 r4) (xAa r5), AbC 9 (yDb a0) (yCG r6), AbC 9 (yDb a1) (yCG r7), AbC 15 (xAb r6 r7) (xAc r8), AbC 11 (yAJ r8.1 r5) (yAx r9), (!r9) = false, AbC 9 (yDb a0) (yCG r10), AbC 11 (yAJ r6 r10) (yAx r11), (!r11) = false, AbC 9 (yDb a1) (yCG r12), AbC 11 (yAJ r7 r12) (yAx r13), (!r13) = false, AbC 12 (yET r6 1) (yEU r14), Ln r14.2.1 = Ln (Val.list r6), Ln r14.2.2.1 = Ln (Val.columns r6), Ln r14.2.2.2 = Ln (Val.rows r6), AbC 12 (yET r7 r14.1) (yEU r15), Ln r15.2.1 = Ln (Val.list r7), Ln r15.2.2.1 = Ln (Val.columns r7), Ln r15.2.2.2 = Ln (Val.rows r7), (decide ((r15.1 : Int) < 0)) = false, AbC 11 (yAJ r8.1 r5) (yAx r16), (!r16) = false, AbC 12 (yET r8.1 1) (yEU r17), Ln r17.2.1 = Ln (Val.list r8.1), Ln r17.2.2.1 = Ln (Val.columns r8.1), Ln r17.2.2.2 = Ln (Val.rows r8.1), AbC 13 (yCq (Val.mk (Val.kind r8.1) (Val.n r8.1) (Val.step r8.1) (Val.text r8.1) r17.2.1 r17.2.2.1 r17.2.2.2) 1) (yCr r18), (decide ((r18 : Int) < 0)) = false, ((r18 : Int) != r17.1) = false, AbC 9 (yDb a0) (yCG r19), AbC 9 (yDb a1) (yCG r20), AbC 15 (xAb r19 r20) (xAc r21), AbC 11 (yAJ r21.1 r5) (yAx r22), (!r22) = true] := by kernel_rfl
theorem p4_e_29 (a0 a1 : Val) (r1 r2 : Int) (r3 r4 r5 r6 r7 : Val) (r8 : Val × Bool) (r9 : Bool) (r10 : Val) (r11 : Bool) (r12 : Val) (r13 : Bool) (r14 : Int × (List Val) × (List Str) × (List Rowd)) (r15 : Int × (List Val) × (List Str) × (List Rowd)) (r16 : Bool) (r17 : Int × (List Val) × (List Str) × (List Rowd)) (r18 : Int) (r19 r20 : Val) (r21 : Val × Bool) (r22 : Bool) (r23 : Int) : rE I4 (xAe a0 a1) [F, F, F, F, F, F, F, F, F, F, Y] [yAM r1, yAM r2, yCG r3, yCG r4, xAa r5, yCG r6, yCG r7, xAc r8, yAx r9, yCG r10, yAx r11, yCG r12, yAx r13, yEU r14, yEU r15, yAx r16, yEU r17, yCr r18, yCG r19, yCG r20, xAc r21, yAx r22, yCr r23] = dn (xAf false) [AbC 7 (yA4 a0 1048576) (yAM r1), (decide ((r1 : Int) < 0)) = false, AbC 7 (yA4 a1 r1) (yAM r2), (decide ((r2 : Int) < 0)) = false, AbC 9 (yDb a0) (yCG r3), AbC 9 (yDb a1) (yCG r4), AbC 14 (xAh r3 r4) (xAa r5), AbC 9 (yDb a0) (yCG r6), AbC 9 (yDb a1) (yCG r7), AbC 15 (xAb r6 r7) (xAc r8), AbC 11 (yAJ r8.1 r5) (yAx r9), (!r9) = false, AbC 9 (yDb a0) (yCG r10), AbC 11 (yAJ r6 r10) (yAx r11), (!r11) = false, AbC 9 (yDb a1) (yCG r12), AbC 11 (yAJ r7 r12) (yAx r13), (!r13) = false, AbC 12 (yET r6 1) (yEU r14), Ln r14.2.1 = Ln (Val.list r6), Ln r14.2.2.1 = Ln (Val.columns r6), Ln r14.2.2.2 = Ln (Val.rows r6), AbC 12 (yET r7 r14.1) (yEU r15), Ln r15.2.1 = Ln (Val.list r7), Ln r15.2.2.1 = Ln (Val.columns r7), Ln r15.2.2.2 = Ln (Val.rows r7), (decide ((r15.1 : Int) < 0)) = false, AbC 11 (yAJ r8.1 r5) (yAx r16), (!r16) = false, AbC 12 (yET r8.1 1) (yEU r17), Ln r17.2.1 = Ln (Val.list r8.1), Ln r17.2.2.1 = Ln (Val.columns r8.1), Ln r17.2.2.2 = Ln (Val.rows r8.1), AbC 13 (yCq (Val.mk (Val.kind r8.1) (Val.n r8.1) (Val.step r8.1) (Val.text r8.1) r17.2.1 r17.2.2.1 r17.2.2.2) 1) (yCr r18), (decide ((r18 : Int) < 0)) = false, ((r18 : Int) != r17.1) = false, AbC 9 (yDb a0) (yCG r19), AbC 9 (yDb a1) (yCG r20), AbC 15 (xAb r19 r20) (xAc r21), AbC 11 (yAJ r21.1 r5) (yAx r22), (!r22) = false, AbC 13 (yCq (Val.mk (Val.kind r8.1) (Val.n r8.1) (Val.step r8.1) (Val.text r8.1) r17.2.1 r17.2.2.1 r17.2.2.2) 1) (yCr r23), (decide ((r23 : Int) < 0)) = true] := by kernel_rfl
theorem p4_e_30 (a0 a1 : Val) (r1 r2 : Int) (r3 r4 r5 r6 r7 : Val) (r8 : Val × Bool) (r9 : Bool) (r10 : Val) (r11 : Bool) (r12 : Val) (r13 : Bool) (r14 : Int × (List Val) × (List Str) × (List Rowd)) (r15 : Int × (List Val) × (List Str) × (List Rowd)) (r16 : Bool) (r17 : Int × (List Val) × (List Str) × (List Rowd)) (r18 : Int) (r19 r20 : Val) (r21 : Val × Bool) (r22 : Bool) (r23 : Int) : rE I4 (xAe a0 a1) [F, F, F, F, F, F, F, F, F, F, F, Y] [yAM r1, yAM r2, yCG r3, yCG r4, xAa r5, yCG r6, yCG r7, xAc r8, yAx r9, yCG r10, yAx r11, yCG r12, yAx r13, yEU r14, yEU r15, yAx r16, yEU r17, yCr r18, yCG r19, yCG r20, xAc r21, yAx r22, yCr r23] = dn (xAf false) [AbC 7 (yA4 a0 1048576) (yAM r1), (decide ((r1 : Int) < 0)) = false, AbC 7 (yA4 a1 r1) (yAM r2), (decide ((r2 : Int) < 0)) = false, AbC 9 (yDb a0) (yCG r3), AbC 9 (yDb a1) (yCG r4), AbC 14 (xAh r3 r4) (xAa r5), AbC 9 (yDb a0) (yCG r6), AbC 9 (yDb a1) (yCG r7), AbC 15 (xAb r6 r7) (xAc r8), AbC 11 (yAJ r8.1 r5) (yAx r9), (!r9) = false, AbC 9 (yDb a0) (yCG r10), AbC 11 (yAJ r6 r10) (yAx r11), (!r11) = false, AbC 9 (yDb a1) (yCG r12), AbC 11 (yAJ r7 r12) (yAx r13), (!r13) = false, AbC 12 (yET r6 1) (yEU r14), Ln r14.2.1 = Ln (Val.list r6), Ln r14.2.2.1 = Ln (Val.columns r6), Ln r14.2.2.2 = Ln (Val.rows r6), AbC 12 (yET r7 r14.1) (yEU r15), Ln r15.2.1 = Ln (Val.list r7), Ln r15.2.2.1 = Ln (Val.columns r7), Ln r15.2.2.2 = Ln (Val.rows r7), (decide ((r15.1 : Int) < 0)) = false, AbC 11 (yAJ r8.1 r5) (yAx r16), (!r16) = false, AbC 12 (yET r8.1 1) (yEU r17), Ln r17.2.1 = Ln (Val.list r8.1), Ln r17.2.2.1 = Ln (Val.columns r8.1), Ln r17.2.2.2 = Ln (Val.rows r8.1), AbC 13 (yCq (Val.mk (Val.kind r8.1) (Val.n r8.1) (Val.step r8.1) (Val.text r8.1) r17.2.1 r17.2.2.1 r17.2.2.2) 1) (yCr r18), (decide ((r18 : Int) < 0)) = false, ((r18 : Int) != r17.1) = false, AbC 9 (yDb a0) (yCG r19), AbC 9 (yDb a1) (yCG r20), AbC 15 (xAb r19 r20) (xAc r21), AbC 11 (yAJ r21.1 r5) (yAx r22), (!r22) = false, AbC 13 (yCq (Val.mk (Val.kind r8.1) (Val.n r8.1) (Val.step r8.1) (Val.text r8.1) r17.2.1 r17.2.2.1 r17.2.2.2) 1) (yCr r23), (decide ((r23 : Int) < 0)) = false, ((r23 : Int) != r17.1) = true] := by kernel_rfl
theorem p4_e_31 (a0 a1 : Val) (r1 r2 : Int) (r3 r4 r5 r6 r7 : Val) (r8 : Val × Bool) (r9 : Bool) (r10 : Val) (r11 : Bool) (r12 : Val) (r13 : Bool) (r14 : Int × (List Val) × (List Str) × (List Rowd)) (r15 : Int × (List Val) × (List Str) × (List Rowd)) (r16 : Bool) (r17 : Int × (List Val) × (List Str) × (List Rowd)) (r18 : Int) (r19 r20 : Val) (r21 : Val × Bool) (r22 : Bool) (r23 : Int) : rE I4 (xAe a0 a1) [F, F, F, F, F, F, F, F, F, F, F, F] [yAM r1, yAM r2, yCG r3, yCG r4, xAa r5, yCG r6, yCG r7, xAc r8, yAx r9, yCG r10, yAx r11, yCG r12, yAx r13, yEU r14, yEU r15, yAx r16, yEU r17, yCr r18, yCG r19, yCG r20, xAc r21, yAx r22, yCr r23] = dn (xAf true) [AbC 7 (yA4 a0 1048576) (yAM r1), (decide ((r1 : Int) < 0)) = false, AbC 7 (yA4 a1 r1) (yAM r2), (decide ((r2 : Int) < 0)) = false, AbC 9 (yDb a0) (yCG r3), AbC 9 (yDb a1) (yCG r4), AbC 14 (xAh r3 r4) (xAa r5), AbC 9 (yDb a0) (yCG r6), AbC 9 (yDb a1) (yCG r7), AbC 15 (xAb r6 r7) (xAc r8), AbC 11 (yAJ r8.1 r5) (yAx r9), (!r9) = false, AbC 9 (yDb a0) (yCG r10), AbC 11 (yAJ r6 r10) (yAx r11), (!r11) = false, AbC 9 (yDb a1) (yCG r12), AbC 11 (yAJ r7 r12) (yAx r13), (!r13) = false, AbC 12 (yET r6 1) (yEU r14), Ln r14.2.1 = Ln (Val.list r6), Ln r14.2.2.1 = Ln (Val.columns r6), Ln r14.2.2.2 = Ln (Val.rows r6), AbC 12 (yET r7 r14.1) (yEU r15), Ln r15.2.1 = Ln (Val.list r7), Ln r15.2.2.1 = Ln (Val.columns r7), Ln r15.2.2.2 = Ln (Val.rows r7), (decide ((r15.1 : Int) < 0)) = false, AbC 11 (yAJ r8.1 r5) (yAx r16), (!r16) = false, AbC 12 (yET r8.1 1) (yEU r17), Ln r17.2.1 = Ln (Val.list r8.1), Ln r17.2.2.1 = Ln (Val.columns r8.1), Ln r17.2.2.2 = Ln (Val.rows r8.1), AbC 13 (yCq (Val.mk (Val.kind r8.1) (Val.n r8.1) (Val.step r8.1) (Val.text r8.1) r17.2.1 r17.2.2.1 r17.2.2.2) 1) (yCr r18), (decide ((r18 : Int) < 0)) = false, ((r18 : Int) != r17.1) = false, AbC 9 (yDb a0) (yCG r19), AbC 9 (yDb a1) (yCG r20), AbC 15 (xAb r19 r20) (xAc r21), AbC 11 (yAJ r21.1 r5) (yAx r22), (!r22) = false, AbC 13 (yCq (Val.mk (Val.kind r8.1) (Val.n r8.1) (Val.step r8.1) (Val.text r8.1) r17.2.1 r17.2.2.1 r17.2.2.2) 1) (yCr r23), (decide ((r23 : Int) < 0)) = false, ((r23 : Int) != r17.1) = false] := by kernel_rfl
theorem c4_e {N : Nat} : ∀ a0 a1 r, xAB N a0 a1 = some r → RE Tryd.f4 I4 (xAe a0 a1) (xAf r) := fun a0 a1 r h =>
 bE h fun r1 h0 h => cE h (fun h1 h => dE h fk4 (p4_e_0 a0 a1 r1) (oc (laws_szValue_ok h0) (oc h1 on))) fun h1 h =>
 bE h fun r2 h2 h => cE h (fun h3 h => dE h fk4 (p4_e_1 a0 a1 r1 r2) (oc (laws_szValue_ok h0) (oc h1 (oc (laws_szValue_ok h2) (oc h3 on))))) fun h3 h =>
 bE h fun r3 h4 h => bE h fun r4 h5 h => bE h fun r5 h6 h => bE h fun r6 h7 h => bE h fun r7 h8 h => bE h fun r8 h9 h => cE h (fun h10 h => iE h fun h11 h => iE h fun h12 h => iE h fun h13 h => bE h fun r9 h14 h => cE h (fun h15 h => dE h fk4 (p4_e_2 a0 a1 r1 r2 r3 r4 r5 r6 r7 r8 r9) (oc (laws_szValue_ok h0) (oc h1 (oc (laws_szValue_ok h2) (oc h3 (oc (laws_toValue_ok h4) (oc (laws_toValue_ok h5) (oc (xAi h6) (oc (laws_toValue_ok h7) (oc (laws_toValue_ok h8) (oc (xAj (xAg h9) h10 h11 h12 h13) (oc (laws_eqValue_ok h14) (oc h15 on))))))))))))) fun h15 h =>
 bE h fun r10 h16 h => bE h fun r11 h17 h => cE h (fun h18 h => dE h fk4 (p4_e_3 a0 a1 r1 r2 r3 r4 r5 r6 r7 r8 r9 r10 r11) (oc (laws_szValue_ok h0) (oc h1 (oc (laws_szValue_ok h2) (oc h3 (oc (laws_toValue_ok h4) (oc (laws_toValue_ok h5) (oc (xAi h6) (oc (laws_toValue_ok h7) (oc (laws_toValue_ok h8) (oc (xAj (xAg h9) h10 h11 h12 h13) (oc (laws_eqValue_ok h14) (oc h15 (oc (laws_toValue_ok h16) (oc (laws_eqValue_ok h17) (oc h18 on)))))))))))))))) fun h18 h =>
 bE h fun r12 h19 h => bE h fun r13 h20 h => cE h (fun h21 h => dE h fk4 (p4_e_4 a0 a1 r1 r2 r3 r4 r5 r6 r7 r8 r9 r10 r11 r12 r13) (oc (laws_szValue_ok h0) (oc h1 (oc (laws_szValue_ok h2) (oc h3 (oc (laws_toValue_ok h4) (oc (laws_toValue_ok h5) (oc (xAi h6) (oc (laws_toValue_ok h7) (oc (laws_toValue_ok h8) (oc (xAj (xAg h9) h10 h11 h12 h13) (oc (laws_eqValue_ok h14) (oc h15 (oc (laws_toValue_ok h16) (oc (laws_eqValue_ok h17) (oc h18 (oc (laws_toValue_ok h19) (oc (laws_eqValue_ok h20) (oc h21 on))))))))))))))))))) fun h21 h =>
 bE h fun r14 h22 h => iE h fun h23 h => iE h fun h24 h => iE h fun h25 h => bE h fun r15 h26 h => iE h fun h27 h => iE h fun h28 h => iE h fun h29 h => cE h (fun h30 h => dE h fk4 (p4_e_5 a0 a1 r1 r2 r3 r4 r5 r6 r7 r8 r9 r10 r11 r12 r13 r14 r15) (oc (laws_szValue_ok h0) (oc h1 (oc (laws_szValue_ok h2) (oc h3 (oc (laws_toValue_ok h4) (oc (laws_toValue_ok h5) (oc (xAi h6) (oc (laws_toValue_ok h7) (oc (laws_toValue_ok h8) (oc (xAj (xAg h9) h10 h11 h12 h13) (oc (laws_eqValue_ok h14) (oc h15 (oc (laws_toValue_ok h16) (oc (laws_eqValue_ok h17) (oc h18 (oc (laws_toValue_ok h19) (oc (laws_eqValue_ok h20) (oc h21 (oc (laws_markValue_ok h22) (oc h23 (oc h24 (oc h25 (oc (laws_markValue_ok h26) (oc h27 (oc h28 (oc h29 (oc h30 (oc rfl on))))))))))))))))))))))))))))) fun h30 h =>
 bE h fun r16 h31 h => cE h (fun h32 h => dE h fk4 (p4_e_6 a0 a1 r1 r2 r3 r4 r5 r6 r7 r8 r9 r10 r11 r12 r13 r14 r15 r16) (oc (laws_szValue_ok h0) (oc h1 (oc (laws_szValue_ok h2) (oc h3 (oc (laws_toValue_ok h4) (oc (laws_toValue_ok h5) (oc (xAi h6) (oc (laws_toValue_ok h7) (oc (laws_toValue_ok h8) (oc (xAj (xAg h9) h10 h11 h12 h13) (oc (laws_eqValue_ok h14) (oc h15 (oc (laws_toValue_ok h16) (oc (laws_eqValue_ok h17) (oc h18 (oc (laws_toValue_ok h19) (oc (laws_eqValue_ok h20) (oc h21 (oc (laws_markValue_ok h22) (oc h23 (oc h24 (oc h25 (oc (laws_markValue_ok h26) (oc h27 (oc h28 (oc h29 (oc h30 (oc (laws_eqValue_ok h31) (oc h32 on)))))))))))))))))))))))))))))) fun h32 h =>
 bE h fun r17 h33 h => bE h fun r18 h34 h => cE h (fun h35 h => dE h fk4 (p4_e_7 a0 a1 r1 r2 r3 r4 r5 r6 r7 r8 r9 r10 r11 r12 r13 r14 r15 r16 r17 r18) (oc (laws_szValue_ok h0) (oc h1 (oc (laws_szValue_ok h2) (oc h3 (oc (laws_toValue_ok h4) (oc (laws_toValue_ok h5) (oc (xAi h6) (oc (laws_toValue_ok h7) (oc (laws_toValue_ok h8) (oc (xAj (xAg h9) h10 h11 h12 h13) (oc (laws_eqValue_ok h14) (oc h15 (oc (laws_toValue_ok h16) (oc (laws_eqValue_ok h17) (oc h18 (oc (laws_toValue_ok h19) (oc (laws_eqValue_ok h20) (oc h21 (oc (laws_markValue_ok h22) (oc h23 (oc h24 (oc h25 (oc (laws_markValue_ok h26) (oc h27 (oc h28 (oc h29 (oc h30 (oc (laws_eqValue_ok h31) (oc h32 (oc (laws_markValue_E_ok h33) (oc (laws_heldValue_ok h34) (oc h35 on))))))))))))))))))))))))))))))))) fun h35 h =>
 cE h (fun h36 h => dE h fk4 (p4_e_8 a0 a1 r1 r2 r3 r4 r5 r6 r7 r8 r9 r10 r11 r12 r13 r14 r15 r16 r17 r18) (oc (laws_szValue_ok h0) (oc h1 (oc (laws_szValue_ok h2) (oc h3 (oc (laws_toValue_ok h4) (oc (laws_toValue_ok h5) (oc (xAi h6) (oc (laws_toValue_ok h7) (oc (laws_toValue_ok h8) (oc (xAj (xAg h9) h10 h11 h12 h13) (oc (laws_eqValue_ok h14) (oc h15 (oc (laws_toValue_ok h16) (oc (laws_eqValue_ok h17) (oc h18 (oc (laws_toValue_ok h19) (oc (laws_eqValue_ok h20) (oc h21 (oc (laws_markValue_ok h22) (oc h23 (oc h24 (oc h25 (oc (laws_markValue_ok h26) (oc h27 (oc h28 (oc h29 (oc h30 (oc (laws_eqValue_ok h31) (oc h32 (oc (laws_markValue_E_ok h33) (oc (laws_heldValue_ok h34) (oc h35 (oc h36 on)))))))))))))))))))))))))))))))))) fun h36 h =>
 bE h fun r19 h37 h => bE h fun r20 h38 h => bE h fun r21 h39 h => cE h (fun h40 h => iE h fun h41 h => iE h fun h42 h => iE h fun h43 h => bE h fun r22 h44 h => cE h (fun h45 h => dE h fk4 (p4_e_9 a0 a1 r1 r2 r3 r4 r5 r6 r7 r8 r9 r10 r11 r12 r13 r14 r15 r16 r17 r18 r19 r20 r21 r22) (oc (laws_szValue_ok h0) (oc h1 (oc (laws_szValue_ok h2) (oc h3 (oc (laws_toValue_ok h4) (oc (laws_toValue_ok h5) (oc (xAi h6) (oc (laws_toValue_ok h7) (oc (laws_toValue_ok h8) (oc (xAj (xAg h9) h10 h11 h12 h13) (oc (laws_eqValue_ok h14) (oc h15 (oc (laws_toValue_ok h16) (oc (laws_eqValue_ok h17) (oc h18 (oc (laws_toValue_ok h19) (oc (laws_eqValue_ok h20) (oc h21 (oc (laws_markValue_ok h22) (oc h23 (oc h24 (oc h25 (oc (laws_markValue_ok h26) (oc h27 (oc h28 (oc h29 (oc h30 (oc (laws_eqValue_ok h31) (oc h32 (oc (laws_markValue_E_ok h33) (oc (laws_heldValue_ok h34) (oc h35 (oc h36 (oc (laws_toValue_ok h37) (oc (laws_toValue_ok h38) (oc (xAj (xAg h39) h40 h41 h42 h43) (oc (laws_eqValue_ok h44) (oc h45 on))))))))))))))))))))))))))))))))))))))) fun h45 h =>
 bE h fun r23 h46 h => cE h (fun h47 h => dE h fk4 (p4_e_10 a0 a1 r1 r2 r3 r4 r5 r6 r7 r8 r9 r10 r11 r12 r13 r14 r15 r16 r17 r18 r19 r20 r21 r22 r23) (oc (laws_szValue_ok h0) (oc h1 (oc (laws_szValue_ok h2) (oc h3 (oc (laws_toValue_ok h4) (oc (laws_toValue_ok h5) (oc (xAi h6) (oc (laws_toValue_ok h7) (oc (laws_toValue_ok h8) (oc (xAj (xAg h9) h10 h11 h12 h13) (oc (laws_eqValue_ok h14) (oc h15 (oc (laws_toValue_ok h16) (oc (laws_eqValue_ok h17) (oc h18 (oc (laws_toValue_ok h19) (oc (laws_eqValue_ok h20) (oc h21 (oc (laws_markValue_ok h22) (oc h23 (oc h24 (oc h25 (oc (laws_markValue_ok h26) (oc h27 (oc h28 (oc h29 (oc h30 (oc (laws_eqValue_ok h31) (oc h32 (oc (laws_markValue_E_ok h33) (oc (laws_heldValue_ok h34) (oc h35 (oc h36 (oc (laws_toValue_ok h37) (oc (laws_toValue_ok h38) (oc (xAj (xAg h39) h40 h41 h42 h43) (oc (laws_eqValue_ok h44) (oc h45 (oc (laws_heldValue_ok h46) (oc h47 on))))))))))))))))))))))))))))))))))))))))) fun h47 h =>
 cE h (fun h48 h => dE h fk4 (p4_e_11 a0 a1 r1 r2 r3 r4 r5 r6 r7 r8 r9 r10 r11 r12 r13 r14 r15 r16 r17 r18 r19 r20 r21 r22 r23) (oc (laws_szValue_ok h0) (oc h1 (oc (laws_szValue_ok h2) (oc h3 (oc (laws_toValue_ok h4) (oc (laws_toValue_ok h5) (oc (xAi h6) (oc (laws_toValue_ok h7) (oc (laws_toValue_ok h8) (oc (xAj (xAg h9) h10 h11 h12 h13) (oc (laws_eqValue_ok h14) (oc h15 (oc (laws_toValue_ok h16) (oc (laws_eqValue_ok h17) (oc h18 (oc (laws_toValue_ok h19) (oc (laws_eqValue_ok h20) (oc h21 (oc (laws_markValue_ok h22) (oc h23 (oc h24 (oc h25 (oc (laws_markValue_ok h26) (oc h27 (oc h28 (oc h29 (oc h30 (oc (laws_eqValue_ok h31) (oc h32 (oc (laws_markValue_E_ok h33) (oc (laws_heldValue_ok h34) (oc h35 (oc h36 (oc (laws_toValue_ok h37) (oc (laws_toValue_ok h38) (oc (xAj (xAg h39) h40 h41 h42 h43) (oc (laws_eqValue_ok h44) (oc h45 (oc (laws_heldValue_ok h46) (oc h47 (oc h48 on)))))))))))))))))))))))))))))))))))))))))) fun h48 h =>
 dE h fk4 (p4_e_12 a0 a1 r1 r2 r3 r4 r5 r6 r7 r8 r9 r10 r11 r12 r13 r14 r15 r16 r17 r18 r19 r20 r21 r22 r23) (oc (laws_szValue_ok h0) (oc h1 (oc (laws_szValue_ok h2) (oc h3 (oc (laws_toValue_ok h4) (oc (laws_toValue_ok h5) (oc (xAi h6) (oc (laws_toValue_ok h7) (oc (laws_toValue_ok h8) (oc (xAj (xAg h9) h10 h11 h12 h13) (oc (laws_eqValue_ok h14) (oc h15 (oc (laws_toValue_ok h16) (oc (laws_eqValue_ok h17) (oc h18 (oc (laws_toValue_ok h19) (oc (laws_eqValue_ok h20) (oc h21 (oc (laws_markValue_ok h22) (oc h23 (oc h24 (oc h25 (oc (laws_markValue_ok h26) (oc h27 (oc h28 (oc h29 (oc h30 (oc (laws_eqValue_ok h31) (oc h32 (oc (laws_markValue_E_ok h33) (oc (laws_heldValue_ok h34) (oc h35 (oc h36 (oc (laws_toValue_ok h37) (oc (laws_toValue_ok h38) (oc (xAj (xAg h39) h40 h41 h42 h43) (oc (laws_eqValue_ok h44) (oc h45 (oc (laws_heldValue_ok h46) (oc h47 (oc h48 on)))))))))))))))))))))))))))))))))))))))))) fun h40 h =>
 bE h fun r22 h41 h => cE h (fun h42 h => dE h fk4 (p4_e_13 a0 a1 r1 r2 r3 r4 r5 r6 r7 r8 r9 r10 r11 r12 r13 r14 r15 r16 r17 r18 r19 r20 r21 r22) (oc (laws_szValue_ok h0) (oc h1 (oc (laws_szValue_ok h2) (oc h3 (oc (laws_toValue_ok h4) (oc (laws_toValue_ok h5) (oc (xAi h6) (oc (laws_toValue_ok h7) (oc (laws_toValue_ok h8) (oc (xAj (xAg h9) h10 h11 h12 h13) (oc (laws_eqValue_ok h14) (oc h15 (oc (laws_toValue_ok h16) (oc (laws_eqValue_ok h17) (oc h18 (oc (laws_toValue_ok h19) (oc (laws_eqValue_ok h20) (oc h21 (oc (laws_markValue_ok h22) (oc h23 (oc h24 (oc h25 (oc (laws_markValue_ok h26) (oc h27 (oc h28 (oc h29 (oc h30 (oc (laws_eqValue_ok h31) (oc h32 (oc (laws_markValue_E_ok h33) (oc (laws_heldValue_ok h34) (oc h35 (oc h36 (oc (laws_toValue_ok h37) (oc (laws_toValue_ok h38) (oc (xAk (xAg h39) h40) (oc (laws_eqValue_ok h41) (oc h42 on))))))))))))))))))))))))))))))))))))))) fun h42 h =>
 bE h fun r23 h43 h => cE h (fun h44 h => dE h fk4 (p4_e_14 a0 a1 r1 r2 r3 r4 r5 r6 r7 r8 r9 r10 r11 r12 r13 r14 r15 r16 r17 r18 r19 r20 r21 r22 r23) (oc (laws_szValue_ok h0) (oc h1 (oc (laws_szValue_ok h2) (oc h3 (oc (laws_toValue_ok h4) (oc (laws_toValue_ok h5) (oc (xAi h6) (oc (laws_toValue_ok h7) (oc (laws_toValue_ok h8) (oc (xAj (xAg h9) h10 h11 h12 h13) (oc (laws_eqValue_ok h14) (oc h15 (oc (laws_toValue_ok h16) (oc (laws_eqValue_ok h17) (oc h18 (oc (laws_toValue_ok h19) (oc (laws_eqValue_ok h20) (oc h21 (oc (laws_markValue_ok h22) (oc h23 (oc h24 (oc h25 (oc (laws_markValue_ok h26) (oc h27 (oc h28 (oc h29 (oc h30 (oc (laws_eqValue_ok h31) (oc h32 (oc (laws_markValue_E_ok h33) (oc (laws_heldValue_ok h34) (oc h35 (oc h36 (oc (laws_toValue_ok h37) (oc (laws_toValue_ok h38) (oc (xAk (xAg h39) h40) (oc (laws_eqValue_ok h41) (oc h42 (oc (laws_heldValue_ok h43) (oc h44 on))))))))))))))))))))))))))))))))))))))))) fun h44 h =>
 cE h (fun h45 h => dE h fk4 (p4_e_15 a0 a1 r1 r2 r3 r4 r5 r6 r7 r8 r9 r10 r11 r12 r13 r14 r15 r16 r17 r18 r19 r20 r21 r22 r23) (oc (laws_szValue_ok h0) (oc h1 (oc (laws_szValue_ok h2) (oc h3 (oc (laws_toValue_ok h4) (oc (laws_toValue_ok h5) (oc (xAi h6) (oc (laws_toValue_ok h7) (oc (laws_toValue_ok h8) (oc (xAj (xAg h9) h10 h11 h12 h13) (oc (laws_eqValue_ok h14) (oc h15 (oc (laws_toValue_ok h16) (oc (laws_eqValue_ok h17) (oc h18 (oc (laws_toValue_ok h19) (oc (laws_eqValue_ok h20) (oc h21 (oc (laws_markValue_ok h22) (oc h23 (oc h24 (oc h25 (oc (laws_markValue_ok h26) (oc h27 (oc h28 (oc h29 (oc h30 (oc (laws_eqValue_ok h31) (oc h32 (oc (laws_markValue_E_ok h33) (oc (laws_heldValue_ok h34) (oc h35 (oc h36 (oc (laws_toValue_ok h37) (oc (laws_toValue_ok h38) (oc (xAk (xAg h39) h40) (oc (laws_eqValue_ok h41) (oc h42 (oc (laws_heldValue_ok h43) (oc h44 (oc h45 on)))))))))))))))))))))))))))))))))))))))))) fun h45 h =>
 dE h fk4 (p4_e_16 a0 a1 r1 r2 r3 r4 r5 r6 r7 r8 r9 r10 r11 r12 r13 r14 r15 r16 r17 r18 r19 r20 r21 r22 r23) (oc (laws_szValue_ok h0) (oc h1 (oc (laws_szValue_ok h2) (oc h3 (oc (laws_toValue_ok h4) (oc (laws_toValue_ok h5) (oc (xAi h6) (oc (laws_toValue_ok h7) (oc (laws_toValue_ok h8) (oc (xAj (xAg h9) h10 h11 h12 h13) (oc (laws_eqValue_ok h14) (oc h15 (oc (laws_toValue_ok h16) (oc (laws_eqValue_ok h17) (oc h18 (oc (laws_toValue_ok h19) (oc (laws_eqValue_ok h20) (oc h21 (oc (laws_markValue_ok h22) (oc h23 (oc h24 (oc h25 (oc (laws_markValue_ok h26) (oc h27 (oc h28 (oc h29 (oc h30 (oc (laws_eqValue_ok h31) (oc h32 (oc (laws_markValue_E_ok h33) (oc (laws_heldValue_ok h34) (oc h35 (oc h36 (oc (laws_toValue_ok h37) (oc (laws_toValue_ok h38) (oc (xAk (xAg h39) h40) (oc (laws_eqValue_ok h41) (oc h42 (oc (laws_heldValue_ok h43) (oc h44 (oc h45 on)))))))))))))))))))))))))))))))))))))))))) fun h10 h =>
 bE h fun r9 h11 h => cE h (fun h12 h => dE h fk4 (p4_e_17 a0 a1 r1 r2 r3 r4 r5 r6 r7 r8 r9) (oc (laws_szValue_ok h0) (oc h1 (oc (laws_szValue_ok h2) (oc h3 (oc (laws_toValue_ok h4) (oc (laws_toValue_ok h5) (oc (xAi h6) (oc (laws_toValue_ok h7) (oc (laws_toValue_ok h8) (oc (xAk (xAg h9) h10) (oc (laws_eqValue_ok h11) (oc h12 on))))))))))))) fun h12 h =>
 bE h fun r10 h13 h => bE h fun r11 h14 h => cE h (fun h15 h => dE h fk4 (p4_e_18 a0 a1 r1 r2 r3 r4 r5 r6 r7 r8 r9 r10 r11) (oc (laws_szValue_ok h0) (oc h1 (oc (laws_szValue_ok h2) (oc h3 (oc (laws_toValue_ok h4) (oc (laws_toValue_ok h5) (oc (xAi h6) (oc (laws_toValue_ok h7) (oc (laws_toValue_ok h8) (oc (xAk (xAg h9) h10) (oc (laws_eqValue_ok h11) (oc h12 (oc (laws_toValue_ok h13) (oc (laws_eqValue_ok h14) (oc h15 on)))))))))))))))) fun h15 h =>
 bE h fun r12 h16 h => bE h fun r13 h17 h => cE h (fun h18 h => dE h fk4 (p4_e_19 a0 a1 r1 r2 r3 r4 r5 r6 r7 r8 r9 r10 r11 r12 r13) (oc (laws_szValue_ok h0) (oc h1 (oc (laws_szValue_ok h2) (oc h3 (oc (laws_toValue_ok h4) (oc (laws_toValue_ok h5) (oc (xAi h6) (oc (laws_toValue_ok h7) (oc (laws_toValue_ok h8) (oc (xAk (xAg h9) h10) (oc (laws_eqValue_ok h11) (oc h12 (oc (laws_toValue_ok h13) (oc (laws_eqValue_ok h14) (oc h15 (oc (laws_toValue_ok h16) (oc (laws_eqValue_ok h17) (oc h18 on))))))))))))))))))) fun h18 h =>
 bE h fun r14 h19 h => iE h fun h20 h => iE h fun h21 h => iE h fun h22 h => bE h fun r15 h23 h => iE h fun h24 h => iE h fun h25 h => iE h fun h26 h => cE h (fun h27 h => dE h fk4 (p4_e_20 a0 a1 r1 r2 r3 r4 r5 r6 r7 r8 r9 r10 r11 r12 r13 r14 r15) (oc (laws_szValue_ok h0) (oc h1 (oc (laws_szValue_ok h2) (oc h3 (oc (laws_toValue_ok h4) (oc (laws_toValue_ok h5) (oc (xAi h6) (oc (laws_toValue_ok h7) (oc (laws_toValue_ok h8) (oc (xAk (xAg h9) h10) (oc (laws_eqValue_ok h11) (oc h12 (oc (laws_toValue_ok h13) (oc (laws_eqValue_ok h14) (oc h15 (oc (laws_toValue_ok h16) (oc (laws_eqValue_ok h17) (oc h18 (oc (laws_markValue_ok h19) (oc h20 (oc h21 (oc h22 (oc (laws_markValue_ok h23) (oc h24 (oc h25 (oc h26 (oc h27 (oc rfl on))))))))))))))))))))))))))))) fun h27 h =>
 bE h fun r16 h28 h => cE h (fun h29 h => dE h fk4 (p4_e_21 a0 a1 r1 r2 r3 r4 r5 r6 r7 r8 r9 r10 r11 r12 r13 r14 r15 r16) (oc (laws_szValue_ok h0) (oc h1 (oc (laws_szValue_ok h2) (oc h3 (oc (laws_toValue_ok h4) (oc (laws_toValue_ok h5) (oc (xAi h6) (oc (laws_toValue_ok h7) (oc (laws_toValue_ok h8) (oc (xAk (xAg h9) h10) (oc (laws_eqValue_ok h11) (oc h12 (oc (laws_toValue_ok h13) (oc (laws_eqValue_ok h14) (oc h15 (oc (laws_toValue_ok h16) (oc (laws_eqValue_ok h17) (oc h18 (oc (laws_markValue_ok h19) (oc h20 (oc h21 (oc h22 (oc (laws_markValue_ok h23) (oc h24 (oc h25 (oc h26 (oc h27 (oc (laws_eqValue_ok h28) (oc h29 on)))))))))))))))))))))))))))))) fun h29 h =>
 bE h fun r17 h30 h => iE h fun h31 h => iE h fun h32 h => iE h fun h33 h => bE h fun r18 h34 h => cE h (fun h35 h => dE h fk4 (p4_e_22 a0 a1 r1 r2 r3 r4 r5 r6 r7 r8 r9 r10 r11 r12 r13 r14 r15 r16 r17 r18) (oc (laws_szValue_ok h0) (oc h1 (oc (laws_szValue_ok h2) (oc h3 (oc (laws_toValue_ok h4) (oc (laws_toValue_ok h5) (oc (xAi h6) (oc (laws_toValue_ok h7) (oc (laws_toValue_ok h8) (oc (xAk (xAg h9) h10) (oc (laws_eqValue_ok h11) (oc h12 (oc (laws_toValue_ok h13) (oc (laws_eqValue_ok h14) (oc h15 (oc (laws_toValue_ok h16) (oc (laws_eqValue_ok h17) (oc h18 (oc (laws_markValue_ok h19) (oc h20 (oc h21 (oc h22 (oc (laws_markValue_ok h23) (oc h24 (oc h25 (oc h26 (oc h27 (oc (laws_eqValue_ok h28) (oc h29 (oc (laws_markValue_ok h30) (oc h31 (oc h32 (oc h33 (oc (laws_heldValue_ok h34) (oc h35 on)))))))))))))))))))))))))))))))))))) fun h35 h =>
 cE h (fun h36 h => dE h fk4 (p4_e_23 a0 a1 r1 r2 r3 r4 r5 r6 r7 r8 r9 r10 r11 r12 r13 r14 r15 r16 r17 r18) (oc (laws_szValue_ok h0) (oc h1 (oc (laws_szValue_ok h2) (oc h3 (oc (laws_toValue_ok h4) (oc (laws_toValue_ok h5) (oc (xAi h6) (oc (laws_toValue_ok h7) (oc (laws_toValue_ok h8) (oc (xAk (xAg h9) h10) (oc (laws_eqValue_ok h11) (oc h12 (oc (laws_toValue_ok h13) (oc (laws_eqValue_ok h14) (oc h15 (oc (laws_toValue_ok h16) (oc (laws_eqValue_ok h17) (oc h18 (oc (laws_markValue_ok h19) (oc h20 (oc h21 (oc h22 (oc (laws_markValue_ok h23) (oc h24 (oc h25 (oc h26 (oc h27 (oc (laws_eqValue_ok h28) (oc h29 (oc (laws_markValue_ok h30) (oc h31 (oc h32 (oc h33 (oc (laws_heldValue_ok h34) (oc h35 (oc h36 on))))))))))))))))))))))))))))))))))))) fun h36 h =>
 bE h fun r19 h37 h => bE h fun r20 h38 h => bE h fun r21 h39 h => cE h (fun h40 h => iE h fun h41 h => iE h fun h42 h => iE h fun h43 h => bE h fun r22 h44 h => cE h (fun h45 h => dE h fk4 (p4_e_24 a0 a1 r1 r2 r3 r4 r5 r6 r7 r8 r9 r10 r11 r12 r13 r14 r15 r16 r17 r18 r19 r20 r21 r22) (oc (laws_szValue_ok h0) (oc h1 (oc (laws_szValue_ok h2) (oc h3 (oc (laws_toValue_ok h4) (oc (laws_toValue_ok h5) (oc (xAi h6) (oc (laws_toValue_ok h7) (oc (laws_toValue_ok h8) (oc (xAk (xAg h9) h10) (oc (laws_eqValue_ok h11) (oc h12 (oc (laws_toValue_ok h13) (oc (laws_eqValue_ok h14) (oc h15 (oc (laws_toValue_ok h16) (oc (laws_eqValue_ok h17) (oc h18 (oc (laws_markValue_ok h19) (oc h20 (oc h21 (oc h22 (oc (laws_markValue_ok h23) (oc h24 (oc h25 (oc h26 (oc h27 (oc (laws_eqValue_ok h28) (oc h29 (oc (laws_markValue_ok h30) (oc h31 (oc h32 (oc h33 (oc (laws_heldValue_ok h34) (oc h35 (oc h36 (oc (laws_toValue_ok h37) (oc (laws_toValue_ok h38) (oc (xAj (xAg h39) h40 h41 h42 h43) (oc (laws_eqValue_ok h44) (oc h45 on)))))))))))))))))))))))))))))))))))))))))) fun h45 h =>
 bE h fun r23 h46 h => cE h (fun h47 h => dE h fk4 (p4_e_25 a0 a1 r1 r2 r3 r4 r5 r6 r7 r8 r9 r10 r11 r12 r13 r14 r15 r16 r17 r18 r19 r20 r21 r22 r23) (oc (laws_szValue_ok h0) (oc h1 (oc (laws_szValue_ok h2) (oc h3 (oc (laws_toValue_ok h4) (oc (laws_toValue_ok h5) (oc (xAi h6) (oc (laws_toValue_ok h7) (oc (laws_toValue_ok h8) (oc (xAk (xAg h9) h10) (oc (laws_eqValue_ok h11) (oc h12 (oc (laws_toValue_ok h13) (oc (laws_eqValue_ok h14) (oc h15 (oc (laws_toValue_ok h16) (oc (laws_eqValue_ok h17) (oc h18 (oc (laws_markValue_ok h19) (oc h20 (oc h21 (oc h22 (oc (laws_markValue_ok h23) (oc h24 (oc h25 (oc h26 (oc h27 (oc (laws_eqValue_ok h28) (oc h29 (oc (laws_markValue_ok h30) (oc h31 (oc h32 (oc h33 (oc (laws_heldValue_ok h34) (oc h35 (oc h36 (oc (laws_toValue_ok h37) (oc (laws_toValue_ok h38) (oc (xAj (xAg h39) h40 h41 h42 h43) (oc (laws_eqValue_ok h44) (oc h45 (oc (laws_heldValue_ok h46) (oc h47 on)))))))))))))))))))))))))))))))))))))))))))) fun h47 h =>
 cE h (fun h48 h => dE h fk4 (p4_e_26 a0 a1 r1 r2 r3 r4 r5 r6 r7 r8 r9 r10 r11 r12 r13 r14 r15 r16 r17 r18 r19 r20 r21 r22 r23) (oc (laws_szValue_ok h0) (oc h1 (oc (laws_szValue_ok h2) (oc h3 (oc (laws_toValue_ok h4) (oc (laws_toValue_ok h5) (oc (xAi h6) (oc (laws_toValue_ok h7) (oc (laws_toValue_ok h8) (oc (xAk (xAg h9) h10) (oc (laws_eqValue_ok h11) (oc h12 (oc (laws_toValue_ok h13) (oc (laws_eqValue_ok h14) (oc h15 (oc (laws_toValue_ok h16) (oc (laws_eqValue_ok h17) (oc h18 (oc (laws_markValue_ok h19) (oc h20 (oc h21 (oc h22 (oc (laws_markValue_ok h23) (oc h24 (oc h25 (oc h26 (oc h27 (oc (laws_eqValue_ok h28) (oc h29 (oc (laws_markValue_ok h30) (oc h31 (oc h32 (oc h33 (oc (laws_heldValue_ok h34) (oc h35 (oc h36 (oc (laws_toValue_ok h37) (oc (laws_toValue_ok h38) (oc (xAj (xAg h39) h40 h41 h42 h43) (oc (laws_eqValue_ok h44) (oc h45 (oc (laws_heldValue_ok h46) (oc h47 (oc h48 on))))))))))))))))))))))))))))))))))))))))))))) fun h48 h =>
 dE h fk4 (p4_e_27 a0 a1 r1 r2 r3 r4 r5 r6 r7 r8 r9 r10 r11 r12 r13 r14 r15 r16 r17 r18 r19 r20 r21 r22 r23) (oc (laws_szValue_ok h0) (oc h1 (oc (laws_szValue_ok h2) (oc h3 (oc (laws_toValue_ok h4) (oc (laws_toValue_ok h5) (oc (xAi h6) (oc (laws_toValue_ok h7) (oc (laws_toValue_ok h8) (oc (xAk (xAg h9) h10) (oc (laws_eqValue_ok h11) (oc h12 (oc (laws_toValue_ok h13) (oc (laws_eqValue_ok h14) (oc h15 (oc (laws_toValue_ok h16) (oc (laws_eqValue_ok h17) (oc h18 (oc (laws_markValue_ok h19) (oc h20 (oc h21 (oc h22 (oc (laws_markValue_ok h23) (oc h24 (oc h25 (oc h26 (oc h27 (oc (laws_eqValue_ok h28) (oc h29 (oc (laws_markValue_ok h30) (oc h31 (oc h32 (oc h33 (oc (laws_heldValue_ok h34) (oc h35 (oc h36 (oc (laws_toValue_ok h37) (oc (laws_toValue_ok h38) (oc (xAj (xAg h39) h40 h41 h42 h43) (oc (laws_eqValue_ok h44) (oc h45 (oc (laws_heldValue_ok h46) (oc h47 (oc h48 on))))))))))))))))))))))))))))))))))))))))))))) fun h40 h =>
 bE h fun r22 h41 h => cE h (fun h42 h => dE h fk4 (p4_e_28 a0 a1 r1 r2 r3 r4 r5 r6 r7 r8 r9 r10 r11 r12 r13 r14 r15 r16 r17 r18 r19 r20 r21 r22) (oc (laws_szValue_ok h0) (oc h1 (oc (laws_szValue_ok h2) (oc h3 (oc (laws_toValue_ok h4) (oc (laws_toValue_ok h5) (oc (xAi h6) (oc (laws_toValue_ok h7) (oc (laws_toValue_ok h8) (oc (xAk (xAg h9) h10) (oc (laws_eqValue_ok h11) (oc h12 (oc (laws_toValue_ok h13) (oc (laws_eqValue_ok h14) (oc h15 (oc (laws_toValue_ok h16) (oc (laws_eqValue_ok h17) (oc h18 (oc (laws_markValue_ok h19) (oc h20 (oc h21 (oc h22 (oc (laws_markValue_ok h23) (oc h24 (oc h25 (oc h26 (oc h27 (oc (laws_eqValue_ok h28) (oc h29 (oc (laws_markValue_ok h30) (oc h31 (oc h32 (oc h33 (oc (laws_heldValue_ok h34) (oc h35 (oc h36 (oc (laws_toValue_ok h37) (oc (laws_toValue_ok h38) (oc (xAk (xAg h39) h40) (oc (laws_eqValue_ok h41) (oc h42 on)))))))))))))))))))))))))))))))))))))))))) fun h42 h =>
 bE h fun r23 h43 h => cE h (fun h44 h => dE h fk4 (p4_e_29 a0 a1 r1 r2 r3 r4 r5 r6 r7 r8 r9 r10 r11 r12 r13 r14 r15 r16 r17 r18 r19 r20 r21 r22 r23) (oc (laws_szValue_ok h0) (oc h1 (oc (laws_szValue_ok h2) (oc h3 (oc (laws_toValue_ok h4) (oc (laws_toValue_ok h5) (oc (xAi h6) (oc (laws_toValue_ok h7) (oc (laws_toValue_ok h8) (oc (xAk (xAg h9) h10) (oc (laws_eqValue_ok h11) (oc h12 (oc (laws_toValue_ok h13) (oc (laws_eqValue_ok h14) (oc h15 (oc (laws_toValue_ok h16) (oc (laws_eqValue_ok h17) (oc h18 (oc (laws_markValue_ok h19) (oc h20 (oc h21 (oc h22 (oc (laws_markValue_ok h23) (oc h24 (oc h25 (oc h26 (oc h27 (oc (laws_eqValue_ok h28) (oc h29 (oc (laws_markValue_ok h30) (oc h31 (oc h32 (oc h33 (oc (laws_heldValue_ok h34) (oc h35 (oc h36 (oc (laws_toValue_ok h37) (oc (laws_toValue_ok h38) (oc (xAk (xAg h39) h40) (oc (laws_eqValue_ok h41) (oc h42 (oc (laws_heldValue_ok h43) (oc h44 on)))))))))))))))))))))))))))))))))))))))))))) fun h44 h =>
 cE h (fun h45 h => dE h fk4 (p4_e_30 a0 a1 r1 r2 r3 r4 r5 r6 r7 r8 r9 r10 r11 r12 r13 r14 r15 r16 r17 r18 r19 r20 r21 r22 r23) (oc (laws_szValue_ok h0) (oc h1 (oc (laws_szValue_ok h2) (oc h3 (oc (laws_toValue_ok h4) (oc (laws_toValue_ok h5) (oc (xAi h6) (oc (laws_toValue_ok h7) (oc (laws_toValue_ok h8) (oc (xAk (xAg h9) h10) (oc (laws_eqValue_ok h11) (oc h12 (oc (laws_toValue_ok h13) (oc (laws_eqValue_ok h14) (oc h15 (oc (laws_toValue_ok h16) (oc (laws_eqValue_ok h17) (oc h18 (oc (laws_markValue_ok h19) (oc h20 (oc h21 (oc h22 (oc (laws_markValue_ok h23) (oc h24 (oc h25 (oc h26 (oc h27 (oc (laws_eqValue_ok h28) (oc h29 (oc (laws_markValue_ok h30) (oc h31 (oc h32 (oc h33 (oc (laws_heldValue_ok h34) (oc h35 (oc h36 (oc (laws_toValue_ok h37) (oc (laws_toValue_ok h38) (oc (xAk (xAg h39) h40) (oc (laws_eqValue_ok h41) (oc h42 (oc (laws_heldValue_ok h43) (oc h44 (oc h45 on))))))))))))))))))))))))))))))))))))))))))))) fun h45 h =>
 dE h fk4 (p4_e_31 a0 a1 r1 r2 r3 r4 r5 r6 r7 r8 r9 r10 r11 r12 r13 r14 r15 r16 r17 r18 r19 r20 r21 r22 r23) (oc (laws_szValue_ok h0) (oc h1 (oc (laws_szValue_ok h2) (oc h3 (oc (laws_toValue_ok h4) (oc (laws_toValue_ok h5) (oc (xAi h6) (oc (laws_toValue_ok h7) (oc (laws_toValue_ok h8) (oc (xAk (xAg h9) h10) (oc (laws_eqValue_ok h11) (oc h12 (oc (laws_toValue_ok h13) (oc (laws_eqValue_ok h14) (oc h15 (oc (laws_toValue_ok h16) (oc (laws_eqValue_ok h17) (oc h18 (oc (laws_markValue_ok h19) (oc h20 (oc h21 (oc h22 (oc (laws_markValue_ok h23) (oc h24 (oc h25 (oc h26 (oc h27 (oc (laws_eqValue_ok h28) (oc h29 (oc (laws_markValue_ok h30) (oc h31 (oc h32 (oc h33 (oc (laws_heldValue_ok h34) (oc h35 (oc h36 (oc (laws_toValue_ok h37) (oc (laws_toValue_ok h38) (oc (xAk (xAg h39) h40) (oc (laws_eqValue_ok h41) (oc h42 (oc (laws_heldValue_ok h43) (oc h44 (oc h45 on))))))))))))))))))))))))))))))))))))))))))))
theorem laws_FnExactKeepColumns_ok {N : Nat} {a0 : Val} {a1 : Val} {r : Bool} (h : xAB N  a0 a1 = some r) : AbC 4 (xAe a0 a1) (xAf r) :=
 AbsCalls.of_reach fk4 rfl rfl (Nat.le_of_ble_eq_true rfl) (c4_e a0 a1 r h)
end Go.Ab.T
end
section
namespace Go.Ab
set_option linter.unusedVariables false
set_option linter.unusedSimpArgs false
theorem opG_ok : ∀ {l : List Val}, (opG l).2.1 = false → ∀ x ∈ l, yDJ x = true
  | [], _, x, hx => by cases hx
  | v :: r, h, x, hx => by
    simp only [opG] at h
    cases hv : yDJ v
    · rw [hv] at h; cases h
    · cases hk : (v.kind == 6)
      · rw [hv, hk] at h
        rcases List.mem_cons.1 hx with rfl | hx
        · exact hv
        · exact opG_ok (l := r) h x hx
      · rw [hv, hk] at h; cases h
theorem kindG_ok {ks : List Int} {l : List Val} (h : (kindG ks l).2.1 = false) : (∀ x ∈ l, yDJ x = true) ∧ kb l ks = false := by
  unfold kindG at h
  cases h1 : (opG l).2.1
  · rw [h1] at h
    cases h2 : kb l ks
    · exact ⟨opG_ok h1, rfl⟩
    · rw [h2] at h; cases h
  · rw [h1] at h; simp only [cond_true] at h; rw [h1] at h; cases h
theorem table_rows {v : Val} (hv : yDJ v = true) (hk : v.kind = 5) : ∀ r ∈ v.rows, r.cells.length = v.columns.length := by
  rw [valOk_eq, hk] at hv
  simp only [show ((5 : Int) == 1) = false from rfl, show ((5 : Int) == 2) = false from rfl, show ((5 : Int) == 4) = false from rfl, show ((5 : Int) == 6) = false from rfl, show ((5 : Int) == 5) = true from rfl, cond_true, cond_false, Bool.and_eq_true, tableOk] at hv
  obtain ⟨_, _, _, _, _, _, h⟩ := hv
  intro r hr
  obtain ⟨i, hi⟩ := List.getElem?_of_mem hr
  have := allI_true h i r hi
  simp only [rowP, Bool.and_eq_true, beq_iff_eq] at this
  exact this.1
theorem idxS_range {s : Str} : ∀ {xs : List Str} {j : Nat}, idxS xs s j = -1 ∨ ((j : Int) ≤ idxS xs s j ∧ idxS xs s j < (j : Int) + xs.length)
  | [], j => .inl rfl
  | x :: r, j => by
    simp only [idxS, List.length_cons]
    cases (x == s)
    · simp only [cond_false]
      rcases idxS_range (s := s) (xs := r) (j := j + 1) with h | ⟨h1, h2⟩
      · exact .inl h
      · exact .inr ⟨by omega, by omega⟩
    · simp only [cond_true]
      exact .inr ⟨by omega, by omega⟩
theorem spec_IndexOf_eq {N : Nat} {xs : List Str} {s : Str} (hl : xs.length ≤ 9223372036854775807) (hn : xs.length < N) : xAM N xs s = some (idxS xs s 0) :=
  yEv (L := fun n i _ => xAy N n xs s i) xs (fun l q => idxS l s q) (fun i q => q = i) (fun n q _ => by simp [xAy, idxS])
    (fun i x l q hd hi hx hq => by
      have hi' : (i : Int) < (xs.length : Int) := by omega
      have hq : q = i := hq
      subst hq
      cases h1 : x == s
      · refine .inl ⟨q + 1, rfl, by simp only [idxS, h1, cond_false], fun n => ?_⟩
        simp only [xAy, decide_eq_true hi', cond_true, Int.toNat_natCast, yAp hx, h1, cond_false, yAk hi hl]
        rw [if_pos (by omega)]
      · refine .inr fun n => ?_
        simp only [xAy, decide_eq_true hi', cond_true, Int.toNat_natCast, yAp hx, h1]
        rw [if_pos (by omega)]
        simp only [idxS, h1, cond_true]) N 0 0 rfl (by omega) (by omega)
theorem xAK {N : Nat} {v : Val} {s : Str} (hl : v.columns.length ≤ 9223372036854775807) (hn : v.columns.length < N) : xAE N v s = some (idxS v.columns s 0) := by
  simp only [xAE, impl_IndexOf_eq hl hn, Option.bind_some]
theorem xAC {N : Nat} {v : Val} {s : Str} (hl : v.columns.length ≤ 9223372036854775807) (hn : v.columns.length < N) : xAA N v s = some (idxS v.columns s 0) := by
  simp only [xAA, spec_IndexOf_eq hl hn, Option.bind_some]
end Go.Ab
end
section
namespace Go.Ab
set_option linter.unusedVariables false
set_option linter.unusedSimpArgs false
theorem kb2 {a b : Val} {x y : Int} (h : kb [a, b] [x, y] = false) : a.kind = x ∧ b.kind = y := by
  simp only [kb, Bool.or_eq_false_iff, bne_eq_false_iff_eq] at h
  exact ⟨h.1, h.2.1⟩
end Go.Ab
end
section
namespace Go.Ab
set_option linter.unusedVariables false
theorem cutAcc_ne_nil {c : UInt8} {l : Str} : yCU c [] l ≠ [] := by
  obtain ⟨h, t, e, _⟩ := cutAcc_pre c l []
  rw [e]; exact List.cons_ne_nil _ _
end Go.Ab
end
section
namespace Go.Ab
set_option linter.unusedVariables false
set_option linter.unusedSimpArgs false
def atR (at_ : List Int) (r : Rowd) : Rowd := ⟨at_.map fun k => r.cells.getD k.toNat Ty.int.dflt, r.frm⟩
theorem impl_keep_row {N K : Nat} {k17 : List Int → List Rowd → Int → Int → Val → Val → Option (Val × Bool)} {at_ x8 : List Int} {X : List Rowd} {a1 a2 : Int} {z b : Val} {r : Rowd} {f : List Org} (hl : at_.length ≤ K) (hK : K ≤ 137438953472) (hN : K < N) (hb : b.rows.length ≤ K)
    (hr : ∀ k ∈ at_, 0 ≤ k ∧ k < (r.cells.length : Int)) :
    xAr N k17 N x8 X a1 a2 at_ at_.length 0 z b r (Rowd.mk [] f) = k17 x8 X a1 (IntKind.i64.wrap (a2 + 1)) z (.mk b.kind b.n b.step b.text b.list b.columns (b.rows ++ [⟨at_.map fun k => r.cells.getD k.toNat Ty.int.dflt, f⟩])) := by
  have key : ∀ (n i : Nat) (q : List Int), q.length = i → i ≤ at_.length → at_.length < n + i → xAr N k17 n x8 X a1 a2 at_ at_.length (i : Nat) z b r (Rowd.mk q f) =
      k17 x8 X a1 (IntKind.i64.wrap (a2 + 1)) z (.mk b.kind b.n b.step b.text b.list b.columns (b.rows ++ [⟨q ++ (at_.drop i).map fun k => r.cells.getD k.toNat Ty.int.dflt, f⟩])) := by
    intro n
    induction n with
    | zero => intro i q _ h1 h2; omega
    | succ n ih =>
      intro i q hq hi hn
      cases hd : at_.drop i with
      | nil =>
        have hi2 : i = at_.length := by have := drop_nil hd; omega
        subst hi2
        simp only [xAr, Int.lt_irrefl, decide_false, cond_false, List.map_nil, List.append_nil]
        rw [if_pos (by simp only [List.length_cons, List.length_nil]; unfold Lim; omega)]
      | cons y l =>
        obtain ⟨h1, h2, h3⟩ := yGu hd
        have hi' : (i : Int) < (at_.length : Int) := by omega
        have hy := hr y (List.mem_of_getElem? h2)
        have := ih (i + 1) (q ++ [r.cells.getD y.toNat Ty.int.dflt]) (by simp [hq]) (by omega) (by omega)
        rw [h3] at this
        simp only [xAr, decide_eq_true hi', cond_true, Int.toNat_natCast, yAp h2, yAk h1 (by omega : at_.length ≤ _)]
        rw [if_pos (by omega), if_pos hy, if_pos (by simp only [List.length_cons, List.length_nil]; unfold Lim; omega), this]
        simp
  have := key N 0 [] rfl (Nat.zero_le _) (by omega)
  simpa using this
theorem spec_keep_row {N K : Nat} {k12 : List Str → Int → Val → Val → Val → Option Val} {cs : List Str} {j : Nat} {v z b : Val} {r : Rowd} {f : List Org} (hl : cs.length ≤ K) (hK : K ≤ 137438953472) (hN : K < N) (hb : b.rows.length ≤ K) (hc : v.columns.length ≤ K)
    (hj : v.rows[j]? = some r) (hr : ∀ s ∈ cs, 0 ≤ idxS v.columns s 0 ∧ idxS v.columns s 0 < (r.cells.length : Int)) :
    xAs N k12 N cs (j : Nat) 0 v z b (Rowd.mk [] f) = k12 cs (IntKind.i64.wrap ((j : Nat) + 1)) v z (.mk b.kind b.n b.step b.text b.list b.columns (b.rows ++ [⟨cs.map fun s => r.cells.getD (idxS v.columns s 0).toNat Ty.int.dflt, f⟩])) := by
  have hjl := (List.getElem?_eq_some_iff.1 hj).1
  have key : ∀ (n i : Nat) (q : List Int), q.length = i → i ≤ cs.length → cs.length < n + i → xAs N k12 n cs (j : Nat) (i : Nat) v z b (Rowd.mk q f) =
      k12 cs (IntKind.i64.wrap ((j : Nat) + 1)) v z (.mk b.kind b.n b.step b.text b.list b.columns (b.rows ++ [⟨q ++ (cs.drop i).map fun s => r.cells.getD (idxS v.columns s 0).toNat Ty.int.dflt, f⟩])) := by
    intro n
    induction n with
    | zero => intro i q _ h1 h2; omega
    | succ n ih =>
      intro i q hq hi hn
      cases hd : cs.drop i with
      | nil =>
        have hi2 : i = cs.length := by have := drop_nil hd; omega
        subst hi2
        simp only [xAs, Int.lt_irrefl, decide_false, cond_false, List.map_nil, List.append_nil]
        rw [if_pos (by simp only [List.length_cons, List.length_nil]; unfold Lim; omega)]
      | cons y l =>
        obtain ⟨h1, h2, h3⟩ := yGu hd
        have hi' : (i : Int) < (cs.length : Int) := by omega
        have hy := hr y (List.mem_of_getElem? h2)
        have := ih (i + 1) (q ++ [r.cells.getD (idxS v.columns y 0).toNat Ty.int.dflt]) (by simp [hq]) (by omega) (by omega)
        rw [h3] at this
        simp only [xAs, decide_eq_true hi', cond_true, Int.toNat_natCast, yAp h2, yAp hj, yAk h1 (by omega : cs.length ≤ _), xAC (N := N) (v := v) (s := y) (by omega) (by omega), Option.bind_some]
        rw [if_pos (by omega), if_pos (by omega), if_pos hy, if_pos (by simp only [List.length_cons, List.length_nil]; unfold Lim; omega), this]
        simp
  have := key N 0 [] rfl (Nat.zero_le _) (by omega)
  simpa using this
theorem impl_keep_loop {N K : Nat} {rs : List Rowd} {at_ : List Int} {z : Val} {cs : List Str} (hl : rs.length ≤ K) (ha : at_.length ≤ K) (hK : K ≤ 137438953472) (hN : K < N) (hf : ∀ r ∈ rs, r.frm.length ≤ K) (hr : ∀ r ∈ rs, ∀ k ∈ at_, 0 ≤ k ∧ k < (r.cells.length : Int)) :
    xAn N N at_ rs rs.length 0 z (.mk 5 0 0 [] [] cs []) = some (.mk 5 0 0 [] [] cs (rs.map (atR at_)), false) :=
  yEv (L := fun m i q => xAn N m at_ rs rs.length i z (.mk 5 0 0 [] [] cs q)) rs (fun l q => (Val.mk 5 0 0 [] [] cs (q ++ l.map (atR at_)), false)) (fun i q => q.length = i) (fun m q _ => by simp [xAn])
    (fun i x l q hd hi hx hq => by
      have hq : q.length = i := hq
      have hi' : (i : Int) < (rs.length : Int) := by omega
      have hm := List.mem_of_getElem? hx
      have hfx := hf x hm
      have inner := fun m => impl_keep_row (N := N) (k17 := fun z0 z1 z2 z3 z4 z5 => xAn N m z0 z1 z2 z3 z4 z5) (at_ := at_) (x8 := at_) (X := rs) (a1 := rs.length) (a2 := (i : Nat)) (z := z) (b := .mk 5 0 0 [] [] cs q) (r := x) (f := [] ++ x.frm) ha hK hN (by rw [vr]; omega) (hr x hm)
      simp only [vk, vn, vs, vt, vl, vc, vr] at inner
      refine .inl ⟨q ++ [atR at_ x], by simp [hq], by simp, fun m => ?_⟩
      simp only [xAn, decide_eq_true hi', cond_true, Int.toNat_natCast, yAp hx, inner, yAk hi (by omega : rs.length ≤ _)]
      rw [if_pos (by omega), if_pos (by unfold Lim; omega)]; rfl) N 0 [] rfl (by omega) (by omega)
theorem spec_keep_loop {N K : Nat} {v z : Val} {cs : List Str} (hl : v.rows.length ≤ K) (ha : cs.length ≤ K) (hc : v.columns.length ≤ K) (hK : K ≤ 137438953472) (hN : K < N) (hf : ∀ r ∈ v.rows, r.frm.length ≤ K)
    (hr : ∀ r ∈ v.rows, ∀ s ∈ cs, 0 ≤ idxS v.columns s 0 ∧ idxS v.columns s 0 < (r.cells.length : Int)) :
    xAo N N cs 0 v z (.mk 5 0 0 [] [] cs []) = some (.mk 5 0 0 [] [] cs (v.rows.map (atR (cs.map fun s => idxS v.columns s 0)))) :=
  yEv (L := fun m i q => xAo N m cs i v z (.mk 5 0 0 [] [] cs q)) v.rows (fun l q => Val.mk 5 0 0 [] [] cs (q ++ l.map (atR (cs.map fun s => idxS v.columns s 0)))) (fun i q => q.length = i) (fun m q _ => by simp [xAo])
    (fun i x l q hd hi hx hq => by
      have hq : q.length = i := hq
      have hi' : (i : Int) < (v.rows.length : Int) := by omega
      have hm := List.mem_of_getElem? hx
      have hfx := hf x hm
      have inner := fun m => spec_keep_row (N := N) (k12 := fun z0 z1 z2 z3 z4 => xAo N m z0 z1 z2 z3 z4) (cs := cs) (j := i) (v := v) (z := z) (b := .mk 5 0 0 [] [] cs q) (r := x) (f := [] ++ x.frm) ha hK hN (by rw [vr]; omega) hc hx (hr x hm)
      simp only [vk, vn, vs, vt, vl, vc, vr] at inner
      refine .inl ⟨q ++ [atR (cs.map fun s => idxS v.columns s 0) x], by simp [hq], by simp, fun m => ?_⟩
      simp only [xAo, decide_eq_true hi', cond_true, Int.toNat_natCast, yAp hx, inner, yAk hi (by omega : v.rows.length ≤ _)]
      rw [if_pos (by omega), if_pos (by unfold Lim; omega)]
      simp only [atR, List.map_map, List.nil_append]; rfl) N 0 [] rfl (by omega) (by omega)
def xAG (cols : List Str) (s : Str) : Bool := !decide (idxS cols s 0 < 0)
def keepR (cs : List Str) (v : Val) : Val := bif cs.all (xAG v.columns) && distinct cs then .mk 5 0 0 [] [] cs (v.rows.map (atR (cs.map fun s => idxS v.columns s 0))) else errV 7
theorem impl_keep_cols {N K : Nat} {v z : Val} {cs : List Str} (hl : cs.length ≤ K) (hc : v.columns.length ≤ K) (hK : K ≤ 137438953472) (hN : K < N)
    (hb : ∀ at_, at_ = cs.map (fun s => idxS v.columns s 0) → (∀ s ∈ cs, xAG v.columns s = true) → xAn N N at_ v.rows v.rows.length 0 z (.mk 5 0 0 [] [] cs []) = some (.mk 5 0 0 [] [] cs (v.rows.map (atR at_)), false)) :
    xAp N N [] cs cs.length 0 v z (.mk 5 0 0 [] [] cs []) = some (keepR cs v, false) := by
  have key : ∀ (n i : Nat) (q : List Int), q = (cs.take i).map (fun s => idxS v.columns s 0) → (∀ s ∈ cs.take i, xAG v.columns s = true) → i ≤ cs.length → cs.length < n + i →
      xAp N n q cs cs.length (i : Nat) v z (.mk 5 0 0 [] [] cs []) = some (keepR cs v, false) := by
    intro n
    induction n with
    | zero => intro i q _ _ h1 h2; omega
    | succ n ih =>
      intro i q hq hok hi hn
      cases hd : cs.drop i with
      | nil =>
        have hi2 : i = cs.length := by have := drop_nil hd; omega
        subst hi2
        rw [List.take_length] at hq hok
        have hall : cs.all (xAG v.columns) = true := List.all_eq_true.2 hok
        simp only [xAp, Int.lt_irrefl, decide_false, cond_false, vc, yGX (N := N) (xs := cs) (by omega) (by omega), Option.bind_some, yC9, hb q hq hok, keepR, hall, Bool.true_and]
        subst hq
        cases distinct cs <;> rfl
      | cons y l =>
        obtain ⟨h1, h2, h3⟩ := yGu hd
        have hi' : (i : Int) < (cs.length : Int) := by omega
        have htk : cs.take (i + 1) = cs.take i ++ [y] := by rw [List.take_add_one, h2]; rfl
        have hql : q.length ≤ K := by rw [hq, List.length_map, List.length_take]; omega
        by_cases hneg : idxS v.columns y 0 < 0
        · have hall : cs.all (xAG v.columns) = false := by
            rw [List.all_eq_false]
            exact ⟨y, List.mem_of_getElem? h2, by simp [xAG, hneg]⟩
          simp only [xAp, decide_eq_true hi', cond_true, Int.toNat_natCast, yAp h2, xAK (N := N) (v := v) (s := y) (by omega) (by omega), Option.bind_some, decide_eq_true hneg, yC9, keepR, hall, Bool.false_and, cond_false]
          rw [if_pos (by omega)]; rfl
        · have hok' : ∀ s ∈ cs.take (i + 1), xAG v.columns s = true := by
            rw [htk]; intro s hs
            rcases List.mem_append.1 hs with hs | hs
            · exact hok s hs
            · obtain rfl := List.mem_singleton.1 hs
              simp [xAG, hneg]
          have := ih (i + 1) (q ++ [idxS v.columns y 0]) (by rw [htk, hq]; simp) hok' (by omega) (by omega)
          simp only [xAp, decide_eq_true hi', cond_true, Int.toNat_natCast, yAp h2, xAK (N := N) (v := v) (s := y) (by omega) (by omega), Option.bind_some, decide_eq_false hneg, cond_false, yAk h1 (by omega : cs.length ≤ _)]
          rw [if_pos (by omega), if_pos (by simp only [List.length_cons, List.length_nil]; unfold Lim; omega), this]
  exact key N 0 [] rfl (fun s hs => by simp at hs) (Nat.zero_le _) (by omega)
theorem spec_keep_cols {N K : Nat} {v z : Val} {cs : List Str} (hne : cs ≠ []) (hl : cs.length ≤ K) (hc : v.columns.length ≤ K) (hK : K ≤ 137438953472) (hN : K < N)
    (hb : (∀ s ∈ cs, xAG v.columns s = true) → xAo N N cs 0 v z (.mk 5 0 0 [] [] cs []) = some (.mk 5 0 0 [] [] cs (v.rows.map (atR (cs.map fun s => idxS v.columns s 0))))) :
    xAq N N cs 0 v z (.mk 5 0 0 [] [] cs []) = some (keepR cs v) := by
  have key : ∀ (n i : Nat), (∀ s ∈ cs.take i, xAG v.columns s = true) → (i = 0 ∨ distinct cs = true) → i ≤ cs.length → cs.length < n + i →
      xAq N n cs (i : Nat) v z (.mk 5 0 0 [] [] cs []) = some (keepR cs v) := by
    intro n
    induction n with
    | zero => intro i _ _ h1 h2; omega
    | succ n ih =>
      intro i hok hdi hi hn
      cases hd : cs.drop i with
      | nil =>
        have hi2 : i = cs.length := by have := drop_nil hd; omega
        subst hi2
        rw [List.take_length] at hok
        have hall : cs.all (xAG v.columns) = true := List.all_eq_true.2 hok
        have hdd : distinct cs = true := by
          rcases hdi with h | h
          · exact absurd (List.length_eq_zero_iff.1 h) hne
          · exact h
        simp only [xAq, Int.lt_irrefl, decide_false, cond_false, hb hok, keepR, hall, hdd, Bool.true_and, cond_true]
      | cons y l =>
        obtain ⟨h1, h2, h3⟩ := yGu hd
        have hi' : (i : Int) < (cs.length : Int) := by omega
        have htk : cs.take (i + 1) = cs.take i ++ [y] := by rw [List.take_add_one, h2]; rfl
        by_cases hneg : idxS v.columns y 0 < 0
        · have hall : cs.all (xAG v.columns) = false := by
            rw [List.all_eq_false]
            exact ⟨y, List.mem_of_getElem? h2, by simp [xAG, hneg]⟩
          simp only [xAq, decide_eq_true hi', cond_true, Int.toNat_natCast, yAp h2, xAC (N := N) (v := v) (s := y) (by omega) (by omega), Option.bind_some, decide_eq_true hneg, yB2, keepR, hall, Bool.false_and, cond_false]
          rw [if_pos (by omega)]; rfl
        · cases hdd : distinct cs
          · simp only [xAq, decide_eq_true hi', cond_true, Int.toNat_natCast, yAp h2, xAC (N := N) (v := v) (s := y) (by omega) (by omega), Option.bind_some, decide_eq_false hneg, cond_false, yG8 (N := N) (xs := cs) (by omega) (by omega), hdd, Bool.not_false, yB2, keepR, Bool.and_false]
            rw [if_pos (by omega)]; rfl
          · have hok' : ∀ s ∈ cs.take (i + 1), xAG v.columns s = true := by
              rw [htk]; intro s hs
              rcases List.mem_append.1 hs with hs | hs
              · exact hok s hs
              · obtain rfl := List.mem_singleton.1 hs
                simp [xAG, hneg]
            have := ih (i + 1) hok' (.inr hdd) (by omega) (by omega)
            simp only [xAq, decide_eq_true hi', cond_true, Int.toNat_natCast, yAp h2, xAC (N := N) (v := v) (s := y) (by omega) (by omega), Option.bind_some, decide_eq_false hneg, cond_false, yG8 (N := N) (xs := cs) (by omega) (by omega), hdd, Bool.not_true, yAk h1 (by omega : cs.length ≤ _), this]
            rw [if_pos (by omega)]
  exact key N 0 (fun s hs => by simp at hs) (.inl rfl) (Nat.zero_le _) (by omega)
def keepG (a v : Val) : Val × Bool := bif (kindG [2, 5] [a, v]).2.1 then ((kindG [2, 5] [a, v]).1, (kindG [2, 5] [a, v]).2.2) else (keepR (yCU 32 [] a.text) v, false)
theorem idx_lt {cols : List Str} {s : Str} (h : xAG cols s = true) : 0 ≤ idxS cols s 0 ∧ idxS cols s 0 < (cols.length : Int) := by
  have h0 : ¬ idxS cols s 0 < 0 := by simpa [xAG] using h
  rcases idxS_range (s := s) (xs := cols) (j := 0) with h | ⟨_, h⟩ <;> omega
theorem keep_eq {K : Nat} (hK : 24 ≤ K ∧ K ≤ 4294967000) {a v : Val} (ha : a.Fit K) (hv : v.Fit K) : Big fun N => xAt N a v = some (keepG a v) ∧ xAw N a v = some (keepG a v).1 := by
  obtain ⟨_, _, _, h5, _, _, _⟩ := Val.fit_iff.1 ha
  obtain ⟨_, _, _, _, _, h6, h7⟩ := Val.fit_iff.1 hv
  have ht : a.text.length ≤ K := h5
  have hcl : v.columns.length ≤ K := h6.1
  have hrl : v.rows.length ≤ K := h7.1
  refine ((kindError_eq (by omega) (vs := [a, v]) (ks := [2, 5]) (two_fit ha hv) (by simp; omega) rfl).and (yGj (K + 1))).imp fun N ⟨⟨h1, h2⟩, hN⟩ => ?_
  obtain ⟨e1, e2, e3, _⟩ := flat_kindG (ks := [2, 5]) (two_fit ha hv)
  have hlen : (yCU 32 [] a.text).length ≤ K + 1 := Nat.le_trans cutAcc_len (by omega)
  have s1 := impl_SplitByte_eq (N := N) (s := a.text) (by omega)
  have s2 := spec_SplitByte_eq (N := N) (s := a.text) ht (by omega) hN
  cases g1 : (kindG [2, 5] [a, v]).2.1
  · have htag := kindG_tag g1
    obtain ⟨g2, g3⟩ := kindG_ok g1
    have hrows := table_rows (g2 v (by simp)) (kb2 g3).2
    have hat : (∀ s ∈ yCU 32 [] a.text, xAG v.columns s = true) → ∀ r ∈ v.rows, ∀ s ∈ yCU 32 [] a.text, 0 ≤ idxS v.columns s 0 ∧ idxS v.columns s 0 < (r.cells.length : Int) := fun h r hr s hs => by
      rw [hrows r hr]; exact idx_lt (h s hs)
    have hfr : ∀ r ∈ v.rows, r.frm.length ≤ K + 1 := fun r hr => Nat.le_trans (h7.2 r hr).2.1 (by omega)
    have l1 := impl_keep_cols (N := N) (K := K + 1) (v := v) (z := Val.mk 0 0 0 [] [] [] []) (cs := yCU 32 [] a.text) hlen (by omega) (by omega) hN (fun at_ e h => impl_keep_loop (K := K + 1) (by omega) (by rw [e, List.length_map]; exact hlen) (by omega) hN hfr (fun r hr k hk => by
      subst e; obtain ⟨s, hs, rfl⟩ := List.mem_map.1 hk; exact hat h r hr s hs))
    have l2 := spec_keep_cols (N := N) (K := K + 1) (v := v) (z := Val.mk 0 0 0 [] [] [] []) (cs := yCU 32 [] a.text) cutAcc_ne_nil hlen (by omega) (by omega) hN (fun h => spec_keep_loop (K := K + 1) (by omega) hlen (by omega) (by omega) hN hfr (hat h))
    refine ⟨?_, ?_⟩
    · simp only [xAt, Val.re_eq, h1, Option.bind_some, g1, htag, cond_false, s1, l1, keepG]
    · simp only [xAw, Val.re_eq, h2, Option.bind_some, g1, cond_false, s2, l2, keepG]
  · refine ⟨?_, ?_⟩
    · simp only [xAt, Val.re_eq, h1, Option.bind_some, e1, e2, e3, List.isEmpty_nil, if_true, flat_eta e1 e2 e3, g1, cond_true, keepG]
      cases (kindG [2, 5] [a, v]).2.2 <;> rfl
    · simp only [xAw, Val.re_eq, h2, Option.bind_some, g1, cond_true, keepG]
theorem table_ok {v : Val} (hv : yDJ v = true) (hk : v.kind = 5) : colsOk v.columns = true ∧ v.rows.length ≤ 12 := by
  rw [valOk_eq, hk] at hv
  simp only [show ((5 : Int) == 1) = false from rfl, show ((5 : Int) == 2) = false from rfl, show ((5 : Int) == 4) = false from rfl, show ((5 : Int) == 6) = false from rfl, show ((5 : Int) == 5) = true from rfl, cond_true, cond_false, Bool.and_eq_true, tableOk, decide_eq_true_eq] at hv
  obtain ⟨_, _, _, _, h1, h2, _⟩ := hv
  exact ⟨h1, h2⟩
theorem idxS_mem {s : Str} : ∀ {xs : List Str} {j : Nat}, 0 ≤ idxS xs s j → s ∈ xs
  | [], j, h => by simp [idxS] at h
  | x :: r, j, h => by
    simp only [idxS] at h
    cases hx : x == s
    · rw [hx] at h; exact List.mem_cons_of_mem _ (idxS_mem h)
    · rw [beq_iff_eq] at hx; subst hx; exact List.mem_cons_self
theorem len_le_sum {l : List Str} (h : ∀ s ∈ l, 1 ≤ s.length) : l.length ≤ (l.map List.length).sum := by
  induction l with
  | nil => exact Nat.le_refl _
  | cons x l ih =>
    have h1 := h x List.mem_cons_self
    have h2 := ih fun s hs => h s (List.mem_cons_of_mem _ hs)
    simp only [List.length_cons, List.map_cons, List.sum_cons]; omega
theorem keepG_good {a v : Val} (ha : a.Fit 1048576) (hv : v.Fit 1048576) : Good1 1048576 (keepG a v) := by
  obtain ⟨_, _, _, h5, _, _, _⟩ := Val.fit_iff.1 ha
  obtain ⟨_, _, _, _, _, h6, h7⟩ := Val.fit_iff.1 hv
  have ht : a.text.length ≤ 1048576 := h5
  unfold keepG
  cases g1 : (kindG [2, 5] [a, v]).2.1
  · obtain ⟨g2, g3⟩ := kindG_ok g1
    obtain ⟨hc, hr⟩ := table_ok (g2 v (by simp)) (kb2 g3).2
    simp only [cond_false]
    unfold keepR
    cases hk : ((yCU 32 [] a.text).all (xAG v.columns) && distinct (yCU 32 [] a.text))
    · exact Flat.good (flat_err (yFK (by omega) (by omega)))
    · simp only [Bool.and_eq_true] at hk
      have hin := List.all_eq_true.1 hk.1
      have hne : ∀ s ∈ yCU 32 [] a.text, 1 ≤ s.length := fun s hs => by
        have hm := idxS_mem (idx_lt (hin s hs)).1
        obtain ⟨j, hj⟩ := List.getElem?_of_mem hm
        unfold colsOk at hc
        simp only [Bool.and_eq_true] at hc
        have := allI_true hc.1 j s hj
        unfold yFJ at this
        simp only [Bool.and_eq_true, decide_eq_true_eq] at this
        omega
      have hl : (yCU 32 [] a.text).length ≤ 1048576 := by
        have e1 := len_le_sum hne
        have e2 := cutAcc_sum (c := 32) (l := a.text) (pre := [])
        simp only [List.length_nil] at e2
        omega
      simp only [cond_true]
      refine ⟨tblV_fit ⟨hl, fun x hx => by have := cutAcc_mem hx; simp only [List.length_nil] at this; show x.length ≤ _; omega⟩ ⟨by simp only [List.length_map]; omega, fun r hm => ?_⟩, ?_, fun h => by cases h⟩
      · obtain ⟨x, hx, rfl⟩ := List.mem_map.1 hm
        have hx7 := h7.2 x hx
        refine ⟨⟨by simp only [atR, List.length_map]; omega, fun n hn => ?_⟩, hx7.2⟩
        simp only [atR] at hn
        obtain ⟨k, _, rfl⟩ := List.mem_map.1 hn
        rcases Nat.lt_or_ge k.toNat x.cells.length with hk | hk
        · have : x.cells.getD k.toNat Ty.int.dflt = x.cells[k.toNat] := by simp [List.getD, hk]
          rw [this]
          exact hx7.1.2 _ (List.getElem_mem hk)
        · have : x.cells.getD k.toNat Ty.int.dflt = 0 := by simp [List.getD, List.getElem?_eq_none hk]; rfl
          rw [this]
          exact yFK (by omega) (by omega)
      · show (Val.mk 5 0 0 [] [] _ _).cnt ≤ _
        rw [tblV_cnt, List.map_map]
        have := sum_le_const (f := cRow ∘ atR ((yCU 32 [] a.text).map fun s => idxS v.columns s 0)) (l := v.rows) (a := 4000000) (fun x hx => by
          have e1 : x.frm.length ≤ 1048576 := (h7.2 x hx).2.1
          have e2 := sum_le_const (f := cOrg) (l := x.frm) (a := 2) (fun _ _ => Nat.le_refl _)
          simp only [Function.comp, atR, cRow, cOne_sum, List.length_map]; omega)
        omega
  · exact Flat.good (kindG_flat (two_fit ha hv))
theorem xAJ (a0 a1 : Val) (f0 : ∀ z ∈ [CV.int .i64 (Val.kind a0), .int .i64 (Val.n a0), .int .i64 (Val.step a0), .str (Val.text a0), .sl .ro .val (Val.list a0), .sl .ro .str (Val.columns a0), .sl .ro .row (Val.rows a0)], DFit z.toD)
    (f1 : ∀ z ∈ [CV.int .i64 (Val.kind a1), .int .i64 (Val.n a1), .int .i64 (Val.step a1), .str (Val.text a1), .sl .ro .val (Val.list a1), .sl .ro .str (Val.columns a1), .sl .ro .row (Val.rows a1)], DFit z.toD) : ∃ N, xAB N a0 a1 = some true := by
  obtain ⟨N, h⟩ := law2_true (I := xAt) (S := xAw) (r := keepG a0 a1) f0 f1 fun h0 h1 hs => ⟨keepG_good h0 h1, keep_eq (by omega) h0 h1⟩
  exact ⟨N, h⟩
end Go.Ab
end
section
namespace Go.Proofs.YtkfoneofdidhkaaDoor
open Go.Ab Go.ChangeShapes Go.WideShapes Go.ChangeAt Go.RowKit
set_option linter.unusedVariables false
theorem own : ownKnob Tryd.prog.godebug = none := by kernel_rfl
theorem laidOut : laidOutB Tryd.prog = true := by kernel_rfl
theorem xAH : ktChk Tryd.prog [(3, .int), (9, .str), (26, .val), (85, .row), (127, .org)] = true := by kernel_rfl
set_option maxRecDepth 100000 in
theorem fnExactKeepColumns_lifted (os : Os) (started : os.Started) (H : Type) (enc : TypeId × Value → H) :
    ReturnsInHanded {} Tryd.checked os 4 .any (fun w args => (Rows.fnExactKeepColumnsSpec.pre enc Tryd.prog Tryd.f4 Rows.fnExactKeepColumnsRow.domain false w args ∧ laidMetH Tryd.prog Rows.fnExactKeepColumnsRow.laid w) ∧ sizedMet enc Tryd.prog Tryd.f4 (OpenSpec.ofChange Rows.fnExactKeepColumnsSpec) false w args)
      (Rows.fnExactKeepColumnsSpec.post enc Tryd.prog Tryd.f4 false true false false) := by
  refine returnsInHanded_of_change_and (C := Tryd.checked) (X := fun w _ => laidMetH Tryd.prog Rows.fnExactKeepColumnsRow.laid w) (fun _ _ _ hh h => h.of_heap hh) own started (by kernel_rfl) Tryd.func4
    (ChangeSpec.witness_shaped (enc := enc) (C := Tryd.checked) (os := os) (X := fun w _ => laidMetH Tryd.prog Rows.fnExactKeepColumnsRow.laid w) false (World.laidAll Tryd.prog os Rows.fnExactKeepColumnsRow.laid) #[.agg #[.int .i64 0, .int .i64 0, .int .i64 0, .string ByteArray.empty, .slice none 0 0, .slice none 0 0, .slice none 0 0], .agg #[.int .i64 0, .int .i64 0, .int .i64 0, .string ByteArray.empty, .slice none 0 0, .slice none 0 0, .slice none 0 0]] 8 (World.laidAll_os _ _ _)
      (World.shaped_of_ZipB (by kernel_rfl) (by kernel_rfl)) (by kernel_rfl) (by kernel_rfl) (by kernel_rfl)
      (by rw [MakeChecks.laidMetH_plain _ _ _ (by kernel_rfl)]; exact laidMet_laidAll _ (by kernel_rfl) (by kernel_rfl))) ?_
  intro W base args ds gs before hval0 hW hcnd _ hL _
  have hval : ∀ (j : Nat) t v, Tryd.f4.params[j]? = some t → args[j]? = some v → Value.okWide Tryd.prog W .any base t v := hval0
  have hW' := hW
  obtain ⟨p, q, hA0, hV, rfl, hfz, hnd⟩ := hW
  have hA : DataW.TrodAll enc Tryd.prog W 0 (fun _ => true) true Tryd.f4.params.toList args.toList ds p := hA0
  rw [Tryd.params4] at hA hval
  obtain ⟨v0, vs0, d0, ds0, p0, q0, hargs, rfl, rfl, h0, r0⟩ := trodAll_cons hA
  obtain ⟨v1, vs1, d1, ds1, p1, q1, rfl, rfl, rfl, h1, r1⟩ := trodAll_cons r0
  obtain ⟨rfl, rfl, rfl⟩ := trodAll_nil r1
  obtain rfl : args = #[v0, v1] := by cases args; simp_all
  obtain ⟨rfl, rfl⟩ := trodVars_none hV
  have lt0 : ∀ x ∈ p0, x.block < W.heap.size := by obtain ⟨m, hm⟩ := h0; exact DataW.trod_lt m _ _ _ hm
  have lt1 : ∀ x ∈ p1, x.block < W.heap.size := by obtain ⟨m, hm⟩ := h1; exact DataW.trod_lt m _ _ _ hm
  obtain ⟨z0, e0, f0, vr0⟩ := vr_of xAH (g := true) (t := 26) (ns := [.inl (.int .i64), .inl (.int .i64), .inl (.int .i64), .inl .str, .inr .val, .inr .str, .inr .row]) (by kernel_rfl) (hval 0 26 v0 rfl rfl) h0
  obtain ⟨x0_0, _, rfl, e0_0⟩ := AreOf.int_inv e0
  obtain ⟨x0_1, _, rfl, e0_1⟩ := AreOf.int_inv e0_0
  obtain ⟨x0_2, _, rfl, e0_2⟩ := AreOf.int_inv e0_1
  obtain ⟨x0_3, _, rfl, e0_3⟩ := AreOf.str_inv e0_2
  obtain ⟨x0_4, _, rfl, e0_4⟩ := AreOf.sl_inv e0_3
  obtain ⟨x0_5, _, rfl, e0_5⟩ := AreOf.sl_inv e0_4
  obtain ⟨x0_6, _, rfl, e0_6⟩ := AreOf.sl_inv e0_5
  obtain rfl := e0_6.nil_inv
  obtain ⟨z1, e1, f1, vr1⟩ := vr_of xAH (g := true) (t := 26) (ns := [.inl (.int .i64), .inl (.int .i64), .inl (.int .i64), .inl .str, .inr .val, .inr .str, .inr .row]) (by kernel_rfl) (hval 1 26 v1 rfl rfl) h1
  obtain ⟨x1_0, _, rfl, e1_0⟩ := AreOf.int_inv e1
  obtain ⟨x1_1, _, rfl, e1_1⟩ := AreOf.int_inv e1_0
  obtain ⟨x1_2, _, rfl, e1_2⟩ := AreOf.int_inv e1_1
  obtain ⟨x1_3, _, rfl, e1_3⟩ := AreOf.str_inv e1_2
  obtain ⟨x1_4, _, rfl, e1_4⟩ := AreOf.sl_inv e1_3
  obtain ⟨x1_5, _, rfl, e1_5⟩ := AreOf.sl_inv e1_4
  obtain ⟨x1_6, _, rfl, e1_6⟩ := AreOf.sl_inv e1_5
  obtain rfl := e1_6.nil_inv
  obtain ⟨N, hF⟩ := xAJ (Val.mk x0_0 x0_1 x0_2 x0_3 x0_4 x0_5 x0_6) (Val.mk x1_0 x1_1 x1_2 x1_3 x1_4 x1_5 x1_6) f0 f1
  clear hA0 hval0
  refine (calls_of T.fk4 (T.laws_FnExactKeepColumns_ok hF) (W := W) (args := #[v0, v1]) ⟨vr0 _, vr1 _, trivial⟩).mono fun e W' ⟨he, bel⟩ => ?_
  subst he
  exact ⟨_, rfl, _, _, _, [], _, [], hW', trodAll_mk1 (shut_bool Tryd.underlying4 _), (trodAll_cons_mk (Below.trod laidOut (by kernel_rfl) (of_decide_eq_true (by kernel_rfl)) h0 bel lt0) (trodAll_cons_mk (Below.trod laidOut (by kernel_rfl) (of_decide_eq_true (by kernel_rfl)) h1 bel lt1) trodAll_mk0)), rfl, bel.frame _, fun h => by cases h⟩
theorem fnExactKeepColumns_proved : Rows.FnExactKeepColumnsSaid :=
  OpenClaim.holds_of_wide 4 Tryd.f4 rfl rfl rfl rfl rfl rfl rfl ⟨rfl, rfl, rfl, rfl, rfl⟩ rfl rfl rfl rfl rfl (by kernel_rfl) Tryd.func4 (by kernel_rfl)
    (of_decide_eq_true (by kernel_rfl)) (by unfold Func.isWrapper; first | (rw [if_pos (by decide +kernel)]; kernel_rfl) | (rw [if_neg (by decide +kernel)]; exact ⟨rfl, rfl⟩))
    (fun os started H enc _ => fnExactKeepColumns_lifted os started H enc)
theorem fnExactKeepColumns_card : Rows.FnExactKeepColumnsCardSaid :=
  Claim7.holds_tied_plain_at .later [] Rows.fnExactKeepColumnsCard.laidKinds true Rows.fnExactKeepColumnsCard.stood.harness false fnExactKeepColumns_proved (fun _ h => by cases h) (by kernel_rfl) (fun _ h => by cases h) fnExactKeepColumns_row_tie rfl ⟨rfl, rfl⟩ (by kernel_rfl) rfl
    (fun f fn hf hfn => by
      obtain rfl : f = 4 := Option.some.inj ((show Tryd.prog.funcNamed Rows.fnExactKeepColumnsRow.func = some 4 by kernel_rfl).symm.trans hf) |>.symm
      obtain rfl : fn = Tryd.f4 := (Option.some.inj (Tryd.func4.symm.trans hfn)).symm
      exact ⟨by kernel_rfl, fun j t ht => by
        rw [Tryd.params4] at ht
        have hm : t ∈ [26, 26] := by simpa using Array.mem_of_getElem? ht
        have hall : ([26, 26].all fun u => !Tryd.prog.wantsStandIn u) = true := by kernel_rfl
        exact (show Tryd.prog.wantsStandIn t = false by simpa using List.all_eq_true.1 hall t hm)⟩)
    (by kernel_rfl)
end Go.Proofs.YtkfoneofdidhkaaDoor
end
