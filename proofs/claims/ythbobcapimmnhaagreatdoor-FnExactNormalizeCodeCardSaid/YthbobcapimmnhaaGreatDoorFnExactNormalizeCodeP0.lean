/- The statement FnExactNormalizeCode holds: plain functions, certificates, laws. Conditions: none. -/
import Derived.LaidMore
import Derived.Lay
import Derived.Lib.AtoiErrMem
import Derived.Lib.LaidTab
import Derived.OpenVars
import Derived.SevenTiedAt
import Derived.Shelf.Abstract
import Derived.Shelf.Small.Strs
import Derived.Shelf.Strconv.ErrVarAll
import Derived.Shelf.Strconv.Itoa3
import Derived.Shelf.Strings.OnBuilder
import Derived.Shelf.Strings.Prefix
import Derived.Shelf.Strings.Search1
import Derived.Shelf.Strings.Split
import Derived.Stop.Joined
import Derived.Stop.LaidErr
import Derived.Test.YthbobcapimmnhaaGreatDoorCards
import Derived.Test.YthbobcapimmnhaaGreatDoorChecked
import Derived.Test.YthbobcapimmnhaaGreatDoorProg
import Derived.Test.YthbobcapimmnhaaGreatDoorRows
import Derived.Test.YthbobcapimmnhaaGreatDoorTie
import Derived.WalkKit
import Derived.Test.YthbobcapimmnhaaGreatDoorL2
set_option linter.all false
section
namespace Go.Ab
set_option linter.unusedVariables false
def xB9 (a0 : Int) : List Arg := [.val (.v false [.int .u8 a0])]
def xA1 (r : Bool) : CallO := ⟨.v false [.bool r], [], []⟩
def xEZ (N : Nat) (a0 : Int) : Option (Bool) :=
  bif (decide ((a0 : Int) ≥ 97)) then (
    some (decide ((a0 : Int) ≤ 122))
  ) else (
    some false
  )
def xBU (a0 : Int) : List Arg := [.val (.v false [.int .u8 a0])]
def xAV (r : Bool) : CallO := ⟨.v false [.bool r], [], []⟩
def xET (N : Nat) (a0 : Int) : Option (Bool) :=
  bif (decide ((a0 : Int) ≥ 48)) then (
    some (decide ((a0 : Int) ≤ 57))
  ) else (
    some false
  )
def xCO (a0 : Int) : List Arg := [.val (.v false [.int .i64 a0])]
def xBe (r : Str) : CallO := ⟨.v false [.str r], [], []⟩
def xCm (N : Nat) : Nat → Int → Bool → Str → Option (Str)
  | 0, _, _, _ => none
  | n + 1, x0, x3, x4 =>
    bif ((x0 : Int) != 0) then (
      bif (decide (((Int.tmod x0 10) : Int) < 0)) then (
        if List.length (List.map (fun n => UInt8.ofNat (Int.toNat n)) [(IntKind.u8.wrap ((IntKind.i64.wrap (48 + (IntKind.i64.wrap (0 - (Int.tmod x0 10)))))))]) + List.length x4 ≤ Lim then
        (xCm N n (IntKind.i64.wrap (Int.tdiv x0 10)) x3 ((List.map (fun n => UInt8.ofNat (Int.toNat n)) [(IntKind.u8.wrap ((IntKind.i64.wrap (48 + (IntKind.i64.wrap (0 - (Int.tmod x0 10)))))))]) ++ x4))
        else none
      ) else (
        if List.length (List.map (fun n => UInt8.ofNat (Int.toNat n)) [(IntKind.u8.wrap ((IntKind.i64.wrap (48 + (Int.tmod x0 10)))))]) + List.length x4 ≤ Lim then
        (xCm N n (IntKind.i64.wrap (Int.tdiv x0 10)) x3 ((List.map (fun n => UInt8.ofNat (Int.toNat n)) [(IntKind.u8.wrap ((IntKind.i64.wrap (48 + (Int.tmod x0 10)))))]) ++ x4))
        else none
      )
    ) else (
      bif x3 then (
        if List.length [45] + List.length x4 ≤ Lim then
        some ([45] ++ x4)
        else none
      ) else (
        some x4
      )
    )
def xEj (N : Nat) (a0 : Int) : Option (Str) :=
  bif ((a0 : Int) == 0) then (
    some [48]
  ) else (
    (xCm N N a0 (decide ((a0 : Int) < 0)) [])
  )
def xCM (a0 : Str) (a1 : Int) : List Arg := [.val (.v false [.str a0]), .val (.v false [.int .i64 a1])]
def xBE (r : Int × Bool) : CallO := ⟨.tup [(false, [.int .i64 r.1]), (false, [.bool r.2])], [], []⟩
def xDa (N : Nat) : Nat → Str → Bool → Str → Int → Int → Option (Int × Bool)
  | 0, _, _, _, _, _ => none
  | n + 1, x0, x6, x7, x8, x9 =>
    bif (decide ((x9 : Int) < (List.length x7 : Int))) then (
      if (0 : Int) ≤ x9 ∧ x9 < (List.length x7) then
      bif (decide ((((List.getD x7 (Int.toNat x9) 0).toNat : Int) : Int) < 48)) then (
        some (0, false)
      ) else (
        bif (decide ((((List.getD x7 (Int.toNat x9) 0).toNat : Int) : Int) > 57)) then (
          some (0, false)
        ) else (
          (xDa N n x0 x6 x7 (IntKind.i64.wrap ((IntKind.i64.wrap (10 * x8)) + (IntKind.i64.wrap ((IntKind.u8.wrap (((List.getD x7 (Int.toNat x9) 0).toNat : Int) - 48)))))) (IntKind.i64.wrap (x9 + 1)))
        )
      )
      else none
    ) else (
      bif x6 then (
        Option.bind (xEj N (IntKind.i64.wrap (0 - x8))) fun r1 =>
        bif (!((r1 : Str) == x0)) then (
          some (0, false)
        ) else (
          some ((IntKind.i64.wrap (0 - x8)), true)
        )
      ) else (
        Option.bind (xEj N x8) fun r1 =>
        bif (!((r1 : Str) == x0)) then (
          some (0, false)
        ) else (
          some (x8, true)
        )
      )
    )
def xF9 (N : Nat) (a0 : Str) (a1 : Int) : Option (Int × Bool) :=
  bif (decide (((List.length a0 : Int) : Int) > 0)) then (
    if (0 : Int) ≤ 0 ∧ (0 : Int) < (List.length a0) then
    bif ((((List.getD a0 (Int.toNat 0) 0).toNat : Int) : Int) == 45) then (
      if (0 : Int) ≤ (1 : Int) ∧ (1 : Int) ≤ (List.length a0) then
      bif (decide (((List.length (List.drop (Int.toNat (1 : Int)) a0) : Int) : Int) < 1)) then (
        some (0, false)
      ) else (
        bif (decide (((List.length (List.drop (Int.toNat (1 : Int)) a0) : Int) : Int) > a1)) then (
          some (0, false)
        ) else (
          (xDa N N a0 ((((List.getD a0 (Int.toNat 0) 0).toNat : Int) : Int) == 45) (List.drop (Int.toNat (1 : Int)) a0) 0 0)
        )
      )
      else none
    ) else (
      bif (decide (((List.length a0 : Int) : Int) < 1)) then (
        some (0, false)
      ) else (
        bif (decide (((List.length a0 : Int) : Int) > a1)) then (
          some (0, false)
        ) else (
          (xDa N N a0 ((((List.getD a0 (Int.toNat 0) 0).toNat : Int) : Int) == 45) a0 0 0)
        )
      )
    )
    else none
  ) else (
    bif (decide (((List.length a0 : Int) : Int) < 1)) then (
      some (0, false)
    ) else (
      bif (decide (((List.length a0 : Int) : Int) > a1)) then (
        some (0, false)
      ) else (
        (xDa N N a0 false a0 0 0)
      )
    )
  )
def xC5 (a0 : Str) : List Arg := [.val (.v false [.str a0])]
def xBw (r : Int × Bool) : CallO := ⟨.tup [(false, [.int .i64 r.1]), (false, [.bool r.2])], [], []⟩
def xEB (N : Nat) (a0 : Str) : Option (Int × Bool) :=
  Option.bind (xF9 N a0 12) fun r1 =>
  some (r1.1, r1.2)
def xCD (a0 : Str) : List Arg := [.val (.v false [.str a0])]
def xAY (r : Bool) : CallO := ⟨.v false [.bool r], [], []⟩
def xCE (N : Nat) : Nat → Str → Int → Option (Bool)
  | 0, _, _ => none
  | n + 1, x0, x3 =>
    bif (decide ((x3 : Int) < (List.length x0 : Int))) then (
      if (0 : Int) ≤ x3 ∧ x3 < (List.length x0) then
      bif (decide ((((List.getD x0 (Int.toNat x3) 0).toNat : Int) : Int) < 32)) then (
        some false
      ) else (
        bif (decide ((((List.getD x0 (Int.toNat x3) 0).toNat : Int) : Int) > 126)) then (
          some false
        ) else (
          bif ((((List.getD x0 (Int.toNat x3) 0).toNat : Int) : Int) == 34) then (
            some false
          ) else (
            (xCE N n x0 (IntKind.i64.wrap (x3 + 1)))
          )
        )
      )
      else none
    ) else (
      some (decide (((List.length x0 : Int) : Int) ≤ 20))
    )
def xD4 (N : Nat) (a0 : Str) : Option (Bool) :=
  (xCE N N a0 0)
def xBp (a0 : Str) (a1 : Int) : List Arg := [.val (.v false [.str a0]), .val (.v false [.int .i64 a1])]
def xBi (r : Int) : CallO := ⟨.v false [.int .i64 r], [], []⟩
def xFu (N : Nat) (a0 : Str) (a1 : Int) : Option (Int) :=
  if (0 : Int) ≤ a1 ∧ a1 < (List.length a0) then
  bif ((((List.getD a0 (Int.toNat a1) 0).toNat : Int) : Int) == 40) then (
    some 1
  ) else (
    bif ((((List.getD a0 (Int.toNat a1) 0).toNat : Int) : Int) == 41) then (
      some 1
    ) else (
      bif ((((List.getD a0 (Int.toNat a1) 0).toNat : Int) : Int) == 91) then (
        some 1
      ) else (
        bif ((((List.getD a0 (Int.toNat a1) 0).toNat : Int) : Int) == 93) then (
          some 1
        ) else (
          bif ((((List.getD a0 (Int.toNat a1) 0).toNat : Int) : Int) == 44) then (
            some 1
          ) else (
            bif ((((List.getD a0 (Int.toNat a1) 0).toNat : Int) : Int) == 43) then (
              some 1
            ) else (
              bif ((((List.getD a0 (Int.toNat a1) 0).toNat : Int) : Int) == 45) then (
                some 1
              ) else (
                bif ((((List.getD a0 (Int.toNat a1) 0).toNat : Int) : Int) == 42) then (
                  some 1
                ) else (
                  bif ((((List.getD a0 (Int.toNat a1) 0).toNat : Int) : Int) == 60) then (
                    some 1
                  ) else (
                    bif ((((List.getD a0 (Int.toNat a1) 0).toNat : Int) : Int) == 61) then (
                      bif (decide (((IntKind.i64.wrap (a1 + 1)) : Int) < (List.length a0 : Int))) then (
                        if (0 : Int) ≤ (IntKind.i64.wrap (a1 + 1)) ∧ (IntKind.i64.wrap (a1 + 1)) < (List.length a0) then
                        bif ((((List.getD a0 (Int.toNat (IntKind.i64.wrap (a1 + 1))) 0).toNat : Int) : Int) == 61) then (
                          some 2
                        ) else (
                          some 1
                        )
                        else none
                      ) else (
                        some 1
                      )
                    ) else (
                      some 0
                    )
                  )
                )
              )
            )
          )
        )
      )
    )
  )
  else none
def xDC (a0 : Str) (a1 : Int) : List Arg := [.val (.v false [.str a0]), .val (.v false [.int .i64 a1])]
def xAQ (r : Tok × Int) : CallO := ⟨.tup [(true, [.int .i64 (Tok.kind r.1), .int .i64 (Tok.n r.1), .int .i64 (Tok.pos r.1), .str (Tok.text r.1)]), (false, [.int .i64 r.2])], [], []⟩
def xDD (N : Nat) : Nat → Str → Int → Int → Tok → Tok → Option (Tok × Int)
  | 0, _, _, _, _, _ => none
  | n + 1, x0, x1, x7, b4, b6 =>
    bif (decide ((x7 : Int) < (List.length x0 : Int))) then (
      if (0 : Int) ≤ x7 ∧ x7 < (List.length x0) then
      Option.bind (xEZ N ((List.getD x0 (Int.toNat x7) 0).toNat : Int)) fun r1 =>
      bif r1 then (
        (xDD N n x0 x1 (IntKind.i64.wrap (x7 + 1)) b4 b6)
      ) else (
        Option.bind (xET N ((List.getD x0 (Int.toNat x7) 0).toNat : Int)) fun r2 =>
        bif r2 then (
          (xDD N n x0 x1 (IntKind.i64.wrap (x7 + 1)) b4 b6)
        ) else (
          if (0 : Int) ≤ x1 ∧ x1 ≤ x7 ∧ x7 ≤ (List.length x0) then
          bif (decide (((IntKind.i64.wrap (x7 - x1)) : Int) > 8)) then (
            some ((Tok.mk 1 (Tok.n b6) (Tok.pos b6) (List.drop (Int.toNat x1) (List.take (Int.toNat x7) x0))), 0)
          ) else (
            some ((Tok.mk 1 (Tok.n b6) (Tok.pos b6) (List.drop (Int.toNat x1) (List.take (Int.toNat x7) x0))), (IntKind.i64.wrap (x7 - x1)))
          )
          else none
        )
      )
      else none
    ) else (
      if (0 : Int) ≤ x1 ∧ x1 ≤ x7 ∧ x7 ≤ (List.length x0) then
      bif (decide (((IntKind.i64.wrap (x7 - x1)) : Int) > 8)) then (
        some ((Tok.mk 1 (Tok.n b6) (Tok.pos b6) (List.drop (Int.toNat x1) (List.take (Int.toNat x7) x0))), 0)
      ) else (
        some ((Tok.mk 1 (Tok.n b6) (Tok.pos b6) (List.drop (Int.toNat x1) (List.take (Int.toNat x7) x0))), (IntKind.i64.wrap (x7 - x1)))
      )
      else none
    )
def xDi (N : Nat) : Nat → Str → Int → Int → Tok → Tok → Option (Tok × Int)
  | 0, _, _, _, _, _ => none
  | n + 1, x0, x1, x7, b4, b6 =>
    bif (decide ((x7 : Int) < (List.length x0 : Int))) then (
      if (0 : Int) ≤ x7 ∧ x7 < (List.length x0) then
      Option.bind (xET N ((List.getD x0 (Int.toNat x7) 0).toNat : Int)) fun r1 =>
      bif r1 then (
        (xDi N n x0 x1 (IntKind.i64.wrap (x7 + 1)) b4 b6)
      ) else (
        if (0 : Int) ≤ x1 ∧ x1 ≤ x7 ∧ x7 ≤ (List.length x0) then
        Option.bind (xEB N (List.drop (Int.toNat x1) (List.take (Int.toNat x7) x0))) fun r2 =>
        bif (!r2.2) then (
          some ((Tok.mk 2 r2.1 (Tok.pos b6) (Tok.text b6)), 0)
        ) else (
          bif (decide ((r2.1 : Int) > 1000000000)) then (
            some ((Tok.mk 2 r2.1 (Tok.pos b6) (Tok.text b6)), 0)
          ) else (
            some ((Tok.mk 2 r2.1 (Tok.pos b6) (Tok.text b6)), (IntKind.i64.wrap (x7 - x1)))
          )
        )
        else none
      )
      else none
    ) else (
      if (0 : Int) ≤ x1 ∧ x1 ≤ x7 ∧ x7 ≤ (List.length x0) then
      Option.bind (xEB N (List.drop (Int.toNat x1) (List.take (Int.toNat x7) x0))) fun r1 =>
      bif (!r1.2) then (
        some ((Tok.mk 2 r1.1 (Tok.pos b6) (Tok.text b6)), 0)
      ) else (
        bif (decide ((r1.1 : Int) > 1000000000)) then (
          some ((Tok.mk 2 r1.1 (Tok.pos b6) (Tok.text b6)), 0)
        ) else (
          some ((Tok.mk 2 r1.1 (Tok.pos b6) (Tok.text b6)), (IntKind.i64.wrap (x7 - x1)))
        )
      )
      else none
    )
def xEx (N : Nat) : Nat → Str → Int → Int → Tok → Tok → Option (Tok × Int)
  | 0, _, _, _, _, _ => none
  | n + 1, x0, x1, x7, b4, b6 =>
    bif (decide ((x7 : Int) < (List.length x0 : Int))) then (
      if (0 : Int) ≤ x7 ∧ x7 < (List.length x0) then
      bif ((((List.getD x0 (Int.toNat x7) 0).toNat : Int) : Int) != 34) then (
        (xEx N n x0 x1 (IntKind.i64.wrap (x7 + 1)) b4 b6)
      ) else (
        if (0 : Int) ≤ (IntKind.i64.wrap (x1 + 1)) ∧ (IntKind.i64.wrap (x1 + 1)) ≤ x7 ∧ x7 ≤ (List.length x0) then
        bif ((x7 : Int) == (List.length x0 : Int)) then (
          some ((Tok.mk 3 (Tok.n b6) (Tok.pos b6) (List.drop (Int.toNat (IntKind.i64.wrap (x1 + 1))) (List.take (Int.toNat x7) x0))), 0)
        ) else (
          Option.bind (xD4 N (List.drop (Int.toNat (IntKind.i64.wrap (x1 + 1))) (List.take (Int.toNat x7) x0))) fun r1 =>
          bif (!r1) then (
            some ((Tok.mk 3 (Tok.n b6) (Tok.pos b6) (List.drop (Int.toNat (IntKind.i64.wrap (x1 + 1))) (List.take (Int.toNat x7) x0))), 0)
          ) else (
            some ((Tok.mk 3 (Tok.n b6) (Tok.pos b6) (List.drop (Int.toNat (IntKind.i64.wrap (x1 + 1))) (List.take (Int.toNat x7) x0))), (IntKind.i64.wrap ((IntKind.i64.wrap (x7 + 1)) - x1)))
          )
        )
        else none
      )
      else none
    ) else (
      if (0 : Int) ≤ (IntKind.i64.wrap (x1 + 1)) ∧ (IntKind.i64.wrap (x1 + 1)) ≤ x7 ∧ x7 ≤ (List.length x0) then
      bif ((x7 : Int) == (List.length x0 : Int)) then (
        some ((Tok.mk 3 (Tok.n b6) (Tok.pos b6) (List.drop (Int.toNat (IntKind.i64.wrap (x1 + 1))) (List.take (Int.toNat x7) x0))), 0)
      ) else (
        Option.bind (xD4 N (List.drop (Int.toNat (IntKind.i64.wrap (x1 + 1))) (List.take (Int.toNat x7) x0))) fun r1 =>
        bif (!r1) then (
          some ((Tok.mk 3 (Tok.n b6) (Tok.pos b6) (List.drop (Int.toNat (IntKind.i64.wrap (x1 + 1))) (List.take (Int.toNat x7) x0))), 0)
        ) else (
          some ((Tok.mk 3 (Tok.n b6) (Tok.pos b6) (List.drop (Int.toNat (IntKind.i64.wrap (x1 + 1))) (List.take (Int.toNat x7) x0))), (IntKind.i64.wrap ((IntKind.i64.wrap (x7 + 1)) - x1)))
        )
      )
      else none
    )
def xGb (N : Nat) (a0 : Str) (a1 : Int) : Option (Tok × Int) :=
  if (0 : Int) ≤ a1 ∧ a1 < (List.length a0) then
  Option.bind (xEZ N ((List.getD a0 (Int.toNat a1) 0).toNat : Int)) fun r1 =>
  bif r1 then (
    (xDD N N a0 a1 a1 (Tok.mk 0 0 0 []) (Tok.mk 0 0 a1 []))
  ) else (
    Option.bind (xET N ((List.getD a0 (Int.toNat a1) 0).toNat : Int)) fun r2 =>
    bif r2 then (
      (xDi N N a0 a1 a1 (Tok.mk 0 0 0 []) (Tok.mk 0 0 a1 []))
    ) else (
      bif ((((List.getD a0 (Int.toNat a1) 0).toNat : Int) : Int) == 34) then (
        (xEx N N a0 a1 (IntKind.i64.wrap (a1 + 1)) (Tok.mk 0 0 0 []) (Tok.mk 0 0 a1 []))
      ) else (
        Option.bind (xFu N a0 a1) fun r3 =>
        if (0 : Int) ≤ a1 ∧ a1 ≤ (IntKind.i64.wrap (a1 + r3)) ∧ (IntKind.i64.wrap (a1 + r3)) ≤ (List.length a0) then
        some ((Tok.mk 4 0 a1 (List.drop (Int.toNat a1) (List.take (Int.toNat (IntKind.i64.wrap (a1 + r3))) a0))), (IntKind.i64.wrap ((IntKind.i64.wrap (a1 + r3)) - a1)))
        else none
      )
    )
  )
  else none
def xBH (a0 : Str) : List Arg := [.val (.v false [.str a0])]
def xAG (r : (List Tok) × Int) : CallO := ⟨.tup [(false, [.sl .own .tok r.1]), (false, [.int .i64 r.2])], [], []⟩
def xDN (N : Nat) : Nat → Str → (List Tok) → Int → Option ((List Tok) × Int)
  | 0, _, _, _ => none
  | n + 1, x0, x4, x5 =>
    bif (decide ((x5 : Int) < (List.length x0 : Int))) then (
      if (0 : Int) ≤ x5 ∧ x5 < (List.length x0) then
      bif ((((List.getD x0 (Int.toNat x5) 0).toNat : Int) : Int) == 32) then (
        (xDN N n x0 x4 (IntKind.i64.wrap (x5 + 1)))
      ) else (
        Option.bind (xGb N x0 x5) fun r1 =>
        bif ((r1.2 : Int) == 0) then (
          some ([], x5)
        ) else (
          bif (((List.length x4 : Int) : Int) == 60) then (
            some ([], x5)
          ) else (
            if List.length x4 + List.length [r1.1] ≤ Lim then
            (xDN N n x0 (x4 ++ [r1.1]) (IntKind.i64.wrap (x5 + r1.2)))
            else none
          )
        )
      )
      else none
    ) else (
      some (x4, (-1))
    )
def xEX (N : Nat) (a0 : Str) : Option ((List Tok) × Int) :=
  bif (decide (((List.length a0 : Int) : Int) > 120)) then (
    some ([], 120)
  ) else (
    (xDN N N a0 [] 0)
  )
def xBo (a0 : Tok) (a1 : Str) : List Arg := [.val (.v true [.int .i64 (Tok.kind a0), .int .i64 (Tok.n a0), .int .i64 (Tok.pos a0), .str (Tok.text a0)]), .val (.v false [.str a1])]
def xAE (r : Bool) : CallO := ⟨.v false [.bool r], [], []⟩
def xDc (N : Nat) (a0 : Tok) (a1 : Str) : Option (Bool) :=
  bif (((Tok.kind a0) : Int) == 4) then (
    some (((Tok.text a0) : Str) == a1)
  ) else (
    some false
  )
def xEt (a0 : Tok) (a1 : Str) : List Arg := [.val (.v true [.int .i64 (Tok.kind a0), .int .i64 (Tok.n a0), .int .i64 (Tok.pos a0), .str (Tok.text a0)]), .val (.v false [.str a1])]
def xDV (r : Bool) : CallO := ⟨.v false [.bool r], [], []⟩
def xE3 (N : Nat) (a0 : Tok) (a1 : Str) : Option (Bool) :=
  bif (((Tok.kind a0) : Int) == 1) then (
    some (((Tok.text a0) : Str) == a1)
  ) else (
    some false
  )
def xAo (a0 : Rdr) (a1 : Str) : List Arg := [.box [.sl .ro .tok (Rdr.toks a0), .int .i64 (Rdr.i a0), .int .i64 (Rdr.fin a0), .int .i64 (Rdr.bad a0)], .val (.v false [.str a1])]
def xAf (r : Bool × Rdr) : CallO := ⟨.v false [.bool r.1], [[.sl .ro .tok (Rdr.toks r.2), .int .i64 (Rdr.i r.2), .int .i64 (Rdr.fin r.2), .int .i64 (Rdr.bad r.2)]], []⟩
def xBD (N : Nat) (a0 : Rdr) (a1 : Str) : Option (Bool × Rdr) :=
  bif (decide (((Rdr.bad a0) : Int) < 0)) then (
    bif (decide (((Rdr.i a0) : Int) < (List.length (Rdr.toks a0) : Int))) then (
      if (0 : Int) ≤ (Rdr.i a0) ∧ (Rdr.i a0) < (List.length (Rdr.toks a0)) then
      Option.bind (xDc N (List.getD (Rdr.toks a0) (Int.toNat (Rdr.i a0)) Ty.tok.dflt) a1) fun r1 =>
      bif r1 then (
        some (true, a0)
      ) else (
        Option.bind (xE3 N (List.getD (Rdr.toks a0) (Int.toNat (Rdr.i a0)) Ty.tok.dflt) a1) fun r2 =>
        some (r2, a0)
      )
      else none
    ) else (
      some (false, a0)
    )
  ) else (
    some (false, a0)
  )
def xEw (a0 : Str) : List Arg := [.val (.v false [.str a0])]
def xBk (r : Bool) : CallO := ⟨.v false [.bool r], [], []⟩
def xCZ (N : Nat) : Nat → Str → Int → Option (Bool)
  | 0, _, _ => none
  | n + 1, x0, x3 =>
    bif (decide ((x3 : Int) < (List.length x0 : Int))) then (
      if (0 : Int) ≤ x3 ∧ x3 < (List.length x0) then
      bif (decide ((((List.getD x0 (Int.toNat x3) 0).toNat : Int) : Int) ≥ 97)) then (
        bif (decide ((((List.getD x0 (Int.toNat x3) 0).toNat : Int) : Int) ≥ 48)) then (
          bif (!(decide ((((List.getD x0 (Int.toNat x3) 0).toNat : Int) : Int) ≤ 122))) then (
            bif ((x3 : Int) == 0) then (
              some false
            ) else (
              bif (!(decide ((((List.getD x0 (Int.toNat x3) 0).toNat : Int) : Int) ≤ 57))) then (
                some false
              ) else (
                (xCZ N n x0 (IntKind.i64.wrap (x3 + 1)))
              )
            )
          ) else (
            (xCZ N n x0 (IntKind.i64.wrap (x3 + 1)))
          )
        ) else (
          bif (!(decide ((((List.getD x0 (Int.toNat x3) 0).toNat : Int) : Int) ≤ 122))) then (
            bif ((x3 : Int) == 0) then (
              some false
            ) else (
              some false
            )
          ) else (
            (xCZ N n x0 (IntKind.i64.wrap (x3 + 1)))
          )
        )
      ) else (
        bif (decide ((((List.getD x0 (Int.toNat x3) 0).toNat : Int) : Int) ≥ 48)) then (
          bif ((x3 : Int) == 0) then (
            some false
          ) else (
            bif (!(decide ((((List.getD x0 (Int.toNat x3) 0).toNat : Int) : Int) ≤ 57))) then (
              some false
            ) else (
              (xCZ N n x0 (IntKind.i64.wrap (x3 + 1)))
            )
          )
        ) else (
          bif ((x3 : Int) == 0) then (
            some false
          ) else (
            some false
          )
        )
      )
      else none
    ) else (
      some (decide (((List.length x0 : Int) : Int) > 0))
    )
def xGm (N : Nat) (a0 : Str) : Option (Bool) :=
  (xCZ N N a0 0)
def xEH : List Arg := []
def xEh (r : (List Str)) : CallO := ⟨.v false [.sl .own .str r], [], []⟩
def xFt (N : Nat) : Option ((List Str)) :=
  some [[108, 101, 116], [105, 110], [105, 102], [116, 104, 101, 110], [101, 108, 115, 101], [102, 111, 114], [100, 111], [108, 101, 110], [115, 117, 109], [116, 97, 107, 101], [115, 107, 105, 112], [114, 97, 110, 103, 101], [110, 116, 104], [119, 104, 101, 114, 101], [107, 101, 101, 112], [97, 100, 100], [103, 114, 111, 117, 112], [106, 111, 105, 110], [99, 111, 108, 117, 109, 110], [114, 111, 119, 115], [99, 108, 111, 99, 107], [99, 104, 97, 110, 99, 101], [102, 105, 108, 101], [116, 97, 98, 108, 101]]
def xFQ (a0 : List Str) (a1 : Str) : List Arg := [.val (.v false [.sl .ro .str a0]), .val (.v false [.str a1])]
def xEE (r : Bool) : CallO := ⟨.v false [.bool r], [], []⟩
def xED (N : Nat) : Nat → (List Str) → Str → Int → Option (Bool)
  | 0, _, _, _ => none
  | n + 1, x0, x1, x5 =>
    bif (decide ((x5 : Int) < (List.length x0 : Int))) then (
      if (0 : Int) ≤ x5 ∧ x5 < (List.length x0) then
      bif (((List.getD x0 (Int.toNat x5) Ty.str.dflt) : Str) == x1) then (
        some true
      ) else (
        (xED N n x0 x1 (IntKind.i64.wrap (x5 + 1)))
      )
      else none
    ) else (
      some false
    )
def xHb (N : Nat) (a0 : List Str) (a1 : Str) : Option (Bool) :=
  (xED N N a0 a1 0)
def xEG (a0 : Str) : List Arg := [.val (.v false [.str a0])]
def xEe (r : Bool) : CallO := ⟨.v false [.bool r], [], []⟩
def xEN (N : Nat) (a0 : Str) : Option (Bool) :=
  Option.bind (xFt N) fun r1 =>
  Option.bind (xHb N r1 a0) fun r2 =>
  some r2
def xA4 (a0 : Str) : List Arg := [.val (.v false [.str a0])]
def xAz (r : Bool) : CallO := ⟨.v false [.bool r], [], []⟩
def xC4 (N : Nat) (a0 : Str) : Option (Bool) :=
  Option.bind (xGm N a0) fun r1 =>
  bif r1 then (
    bif (decide (((List.length a0 : Int) : Int) ≤ 8)) then (
      Option.bind (xEN N a0) fun r2 =>
      some (!r2)
    ) else (
      some false
    )
  ) else (
    some false
  )
def xBs (a0 : Rdr) : List Arg := [.box [.sl .ro .tok (Rdr.toks a0), .int .i64 (Rdr.i a0), .int .i64 (Rdr.fin a0), .int .i64 (Rdr.bad a0)]]
def xAH (r : Exp × Rdr) : CallO := ⟨.v true [.int .i64 (Exp.kind r.1), .int .i64 (Exp.n r.1), .str (Exp.text r.1), .sl .own .exp (Exp.args r.1)], [[.sl .ro .tok (Rdr.toks r.2), .int .i64 (Rdr.i r.2), .int .i64 (Rdr.fin r.2), .int .i64 (Rdr.bad r.2)]], []⟩
def xBT (N : Nat) (a0 : Rdr) : Option (Exp × Rdr) :=
  bif (decide (((Rdr.bad a0) : Int) < 0)) then (
    bif (decide (((Rdr.i a0) : Int) < (List.length (Rdr.toks a0) : Int))) then (
      if (0 : Int) ≤ (Rdr.i a0) ∧ (Rdr.i a0) < (List.length (Rdr.toks a0)) then
      some ((Exp.mk 0 0 [] []), (Rdr.mk (Rdr.toks a0) (Rdr.i a0) (Rdr.fin a0) (Tok.pos (List.getD (Rdr.toks a0) (Int.toNat (Rdr.i a0)) Ty.tok.dflt))))
      else none
    ) else (
      some ((Exp.mk 0 0 [] []), (Rdr.mk (Rdr.toks a0) (Rdr.i a0) (Rdr.fin a0) (Rdr.fin a0)))
    )
  ) else (
    some ((Exp.mk 0 0 [] []), a0)
  )
def xDg (a0 : Rdr) : List Arg := [.box [.sl .ro .tok (Rdr.toks a0), .int .i64 (Rdr.i a0), .int .i64 (Rdr.fin a0), .int .i64 (Rdr.bad a0)]]
def xCG (r : Str × Rdr) : CallO := ⟨.v false [.str r.1], [[.sl .ro .tok (Rdr.toks r.2), .int .i64 (Rdr.i r.2), .int .i64 (Rdr.fin r.2), .int .i64 (Rdr.bad r.2)]], []⟩
def xDn (N : Nat) (a0 : Rdr) : Option (Str × Rdr) :=
  bif (decide (((Rdr.bad a0) : Int) ≥ 0)) then (
    Option.bind (xBT N a0) fun r1 =>
    some ([], r1.2)
  ) else (
    bif (decide (((Rdr.i a0) : Int) ≥ (List.length (Rdr.toks a0) : Int))) then (
      Option.bind (xBT N a0) fun r1 =>
      some ([], r1.2)
    ) else (
      if (0 : Int) ≤ (Rdr.i a0) ∧ (Rdr.i a0) < (List.length (Rdr.toks a0)) then
      bif (((Tok.kind (List.getD (Rdr.toks a0) (Int.toNat (Rdr.i a0)) Ty.tok.dflt)) : Int) != 1) then (
        Option.bind (xBT N a0) fun r1 =>
        some ([], r1.2)
      ) else (
        Option.bind (xC4 N (Tok.text (List.getD (Rdr.toks a0) (Int.toNat (Rdr.i a0)) Ty.tok.dflt))) fun r1 =>
        bif (!r1) then (
          Option.bind (xBT N a0) fun r2 =>
          some ([], r2.2)
        ) else (
          if (0 : Int) ≤ (IntKind.i64.wrap ((IntKind.i64.wrap ((Rdr.i a0) + 1)) - 1)) ∧ (IntKind.i64.wrap ((IntKind.i64.wrap ((Rdr.i a0) + 1)) - 1)) < (List.length (Rdr.toks a0)) then
          some ((Tok.text (List.getD (Rdr.toks a0) (Int.toNat (IntKind.i64.wrap ((IntKind.i64.wrap ((Rdr.i a0) + 1)) - 1))) Ty.tok.dflt)), (Rdr.mk (Rdr.toks a0) (IntKind.i64.wrap ((Rdr.i a0) + 1)) (Rdr.fin a0) (Rdr.bad a0)))
          else none
        )
      )
      else none
    )
  )
def xBJ (a0 : Rdr) (a1 : Str) : List Arg := [.box [.sl .ro .tok (Rdr.toks a0), .int .i64 (Rdr.i a0), .int .i64 (Rdr.fin a0), .int .i64 (Rdr.bad a0)], .val (.v false [.str a1])]
def xAO (r : Rdr) : CallO := ⟨.tup [], [[.sl .ro .tok (Rdr.toks r), .int .i64 (Rdr.i r), .int .i64 (Rdr.fin r), .int .i64 (Rdr.bad r)]], []⟩
def xBx (N : Nat) (a0 : Rdr) (a1 : Str) : Option (Rdr) :=
  Option.bind (xBD N a0 a1) fun r1 =>
  bif (!r1.1) then (
    Option.bind (xBT N r1.2) fun r2 =>
    some r2.2
  ) else (
    some (Rdr.mk (Rdr.toks r1.2) (IntKind.i64.wrap ((Rdr.i r1.2) + 1)) (Rdr.fin r1.2) (Rdr.bad r1.2))
  )
def xFD (a0 : Int) : List Arg := [.val (.v false [.int .i64 a0])]
def xE4 (r : Exp) : CallO := ⟨.v true [.int .i64 (Exp.kind r), .int .i64 (Exp.n r), .str (Exp.text r), .sl .own .exp (Exp.args r)], [], []⟩
def xHy (N : Nat) (a0 : Int) : Option (Exp) :=
  some (Exp.mk 1 a0 [] [])
def xFr (a0 : Str) : List Arg := [.val (.v false [.str a0])]
def xER (r : Exp) : CallO := ⟨.v true [.int .i64 (Exp.kind r), .int .i64 (Exp.n r), .str (Exp.text r), .sl .own .exp (Exp.args r)], [], []⟩
def xG3 (N : Nat) (a0 : Str) : Option (Exp) :=
  some (Exp.mk 3 0 a0 [])
def xAr (a0 : Str) : List Arg := [.val (.v false [.str a0])]
def xAj (r : Int) : CallO := ⟨.v false [.int .i64 r], [], []⟩
def xCf (N : Nat) (a0 : Str) : Option (Int) :=
  bif ((a0 : Str) == [99, 108, 111, 99, 107]) then (
    some 0
  ) else (
    bif ((a0 : Str) == [108, 101, 110]) then (
      some 1
    ) else (
      bif ((a0 : Str) == [115, 117, 109]) then (
        some 1
      ) else (
        bif ((a0 : Str) == [114, 111, 119, 115]) then (
          some 1
        ) else (
          bif ((a0 : Str) == [99, 104, 97, 110, 99, 101]) then (
            some 1
          ) else (
            bif ((a0 : Str) == [102, 105, 108, 101]) then (
              some 1
            ) else (
              bif ((a0 : Str) == [116, 97, 107, 101]) then (
                some 2
              ) else (
                bif ((a0 : Str) == [115, 107, 105, 112]) then (
                  some 2
                ) else (
                  bif ((a0 : Str) == [114, 97, 110, 103, 101]) then (
                    some 2
                  ) else (
                    bif ((a0 : Str) == [110, 116, 104]) then (
                      some 2
                    ) else (
                      bif ((a0 : Str) == [107, 101, 101, 112]) then (
                        some 2
                      ) else (
                        bif ((a0 : Str) == [99, 111, 108, 117, 109, 110]) then (
                          some 2
                        ) else (
                          bif ((a0 : Str) == [116, 97, 98, 108, 101]) then (
                            some 2
                          ) else (
                            bif ((a0 : Str) == [119, 104, 101, 114, 101]) then (
                              some 3
                            ) else (
                              bif ((a0 : Str) == [103, 114, 111, 117, 112]) then (
                                some 3
                              ) else (
                                bif ((a0 : Str) == [106, 111, 105, 110]) then (
                                  some 3
                                ) else (
                                  bif ((a0 : Str) == [97, 100, 100]) then (
                                    some 4
                                  ) else (
                                    some (-1)
                                  )
                                )
                              )
                            )
                          )
                        )
                      )
                    )
                  )
                )
              )
            )
          )
        )
      )
    )
  )
def xDA (a0 : Int) (a1 : Exp) (a2 : Exp) : List Arg := [.val (.v false [.int .i64 a0]), .val (.v true [.int .i64 (Exp.kind a1), .int .i64 (Exp.n a1), .str (Exp.text a1), .sl .ro .exp (Exp.args a1)]), .val (.v true [.int .i64 (Exp.kind a2), .int .i64 (Exp.n a2), .str (Exp.text a2), .sl .ro .exp (Exp.args a2)])]
def xBS (r : Exp) : CallO := ⟨.v true [.int .i64 (Exp.kind r), .int .i64 (Exp.n r), .str (Exp.text r), .sl .tip .exp (Exp.args r)], [], []⟩
def xDX (N : Nat) (a0 : Int) (a1 : Exp) (a2 : Exp) : Option (Exp) :=
  some (Exp.mk 6 a0 [] [(Exp.re a1), (Exp.re a2)])
def xDG (a0 : Rdr) (a1 : Str) : List Arg := [.box [.sl .ro .tok (Rdr.toks a0), .int .i64 (Rdr.i a0), .int .i64 (Rdr.fin a0), .int .i64 (Rdr.bad a0)], .val (.v false [.str a1])]
def xCb (r : (List Exp) × Rdr) : CallO := ⟨.v false [.sl .tip .exp r.1], [[.sl .ro .tok (Rdr.toks r.2), .int .i64 (Rdr.i r.2), .int .i64 (Rdr.fin r.2), .int .i64 (Rdr.bad r.2)]], []⟩
def xEu (N : Nat) (q0 : Rdr → Str → Option ((List Exp) × Rdr)) (q1 : Rdr → Option (Exp × Rdr)) (q2 : Rdr → Option (Exp × Rdr)) (q3 : Rdr → Option (Exp × Rdr)) (q4 : Rdr → Option (Exp × Rdr)) (q5 : Rdr → Option (Exp × Rdr)) : Nat → Str → (List Exp) → Rdr → Option ((List Exp) × Rdr)
  | 0, _, _, _ => none
  | n + 1, x1, x5, b0 =>
    bif (decide (((Rdr.bad b0) : Int) < 0)) then (
      Option.bind (q3 b0) fun r1 =>
      if List.length x5 + List.length [(Exp.re r1.1)] ≤ Lim then
      Option.bind (xBD N r1.2 [44]) fun r2 =>
      bif (!r2.1) then (
        Option.bind (xBx N r2.2 x1) fun r3 =>
        some ((x5 ++ [(Exp.re r1.1)]), r3)
      ) else (
        (xEu N q0 q1 q2 q3 q4 q5 n x1 (x5 ++ [(Exp.re r1.1)]) (Rdr.mk (Rdr.toks r2.2) (IntKind.i64.wrap ((Rdr.i r2.2) + 1)) (Rdr.fin r2.2) (Rdr.bad r2.2)))
      )
      else none
    ) else (
      Option.bind (xBx N b0 x1) fun r1 =>
      some (x5, r1)
    )
def xDu (N : Nat) (q0 : Rdr → Str → Option ((List Exp) × Rdr)) (q1 : Rdr → Option (Exp × Rdr)) (q2 : Rdr → Option (Exp × Rdr)) (q3 : Rdr → Option (Exp × Rdr)) (q4 : Rdr → Option (Exp × Rdr)) (q5 : Rdr → Option (Exp × Rdr)) (a0 : Rdr) (a1 : Str) : Option ((List Exp) × Rdr) :=
  Option.bind (xBD N a0 a1) fun r1 =>
  bif r1.1 then (
    some ([], (Rdr.mk (Rdr.toks r1.2) (IntKind.i64.wrap ((Rdr.i r1.2) + 1)) (Rdr.fin r1.2) (Rdr.bad r1.2)))
  ) else (
    (xEu N q0 q1 q2 q3 q4 q5 N a1 [] r1.2)
  )
def xBr (a0 : Rdr) : List Arg := [.box [.sl .ro .tok (Rdr.toks a0), .int .i64 (Rdr.i a0), .int .i64 (Rdr.fin a0), .int .i64 (Rdr.bad a0)]]
def xBa (r : Exp × Rdr) : CallO := ⟨.v true [.int .i64 (Exp.kind r.1), .int .i64 (Exp.n r.1), .str (Exp.text r.1), .sl .ro .exp (Exp.args r.1)], [[.sl .ro .tok (Rdr.toks r.2), .int .i64 (Rdr.i r.2), .int .i64 (Rdr.fin r.2), .int .i64 (Rdr.bad r.2)]], []⟩
def xDv (N : Nat) (q0 : Rdr → Str → Option ((List Exp) × Rdr)) (q1 : Rdr → Option (Exp × Rdr)) (q2 : Rdr → Option (Exp × Rdr)) (q3 : Rdr → Option (Exp × Rdr)) (q4 : Rdr → Option (Exp × Rdr)) (q5 : Rdr → Option (Exp × Rdr)) (a0 : Rdr) : Option (Exp × Rdr) :=
  bif (decide (((Rdr.bad a0) : Int) ≥ 0)) then (
    Option.bind (xBT N a0) fun r1 =>
    some (r1.1, r1.2)
  ) else (
    bif (decide (((Rdr.i a0) : Int) ≥ (List.length (Rdr.toks a0) : Int))) then (
      Option.bind (xBT N a0) fun r1 =>
      some (r1.1, r1.2)
    ) else (
      if (0 : Int) ≤ (Rdr.i a0) ∧ (Rdr.i a0) < (List.length (Rdr.toks a0)) then
      bif (((Tok.kind (List.getD (Rdr.toks a0) (Int.toNat (Rdr.i a0)) Ty.tok.dflt)) : Int) == 2) then (
        Option.bind (xHy N (Tok.n (List.getD (Rdr.toks a0) (Int.toNat (Rdr.i a0)) Ty.tok.dflt))) fun r1 =>
        some (r1, (Rdr.mk (Rdr.toks a0) (IntKind.i64.wrap ((Rdr.i a0) + 1)) (Rdr.fin a0) (Rdr.bad a0)))
      ) else (
        bif (((Tok.kind (List.getD (Rdr.toks a0) (Int.toNat (Rdr.i a0)) Ty.tok.dflt)) : Int) == 3) then (
          some ((Exp.mk 2 0 (Tok.text (List.getD (Rdr.toks a0) (Int.toNat (Rdr.i a0)) Ty.tok.dflt)) []), (Rdr.mk (Rdr.toks a0) (IntKind.i64.wrap ((Rdr.i a0) + 1)) (Rdr.fin a0) (Rdr.bad a0)))
        ) else (
          bif (((Tok.kind (List.getD (Rdr.toks a0) (Int.toNat (Rdr.i a0)) Ty.tok.dflt)) : Int) == 1) then (
            Option.bind (xC4 N (Tok.text (List.getD (Rdr.toks a0) (Int.toNat (Rdr.i a0)) Ty.tok.dflt))) fun r1 =>
            bif r1 then (
              Option.bind (xG3 N (Tok.text (List.getD (Rdr.toks a0) (Int.toNat (Rdr.i a0)) Ty.tok.dflt))) fun r2 =>
              some (r2, (Rdr.mk (Rdr.toks a0) (IntKind.i64.wrap ((Rdr.i a0) + 1)) (Rdr.fin a0) (Rdr.bad a0)))
            ) else (
              Option.bind (xCf N (Tok.text (List.getD (Rdr.toks a0) (Int.toNat (Rdr.i a0)) Ty.tok.dflt))) fun r2 =>
              bif (decide ((r2 : Int) ≥ 0)) then (
                Option.bind (xBx N (Rdr.mk (Rdr.toks a0) (IntKind.i64.wrap ((Rdr.i a0) + 1)) (Rdr.fin a0) (Rdr.bad a0)) [40]) fun r3 =>
                Option.bind (q0 r3 [41]) fun r4 =>
                some ((Exp.mk 5 0 (Tok.text (List.getD (Rdr.toks a0) (Int.toNat (Rdr.i a0)) Ty.tok.dflt)) r4.1), r4.2)
              ) else (
                Option.bind (xDc N (List.getD (Rdr.toks a0) (Int.toNat (Rdr.i a0)) Ty.tok.dflt) [91]) fun r3 =>
                bif r3 then (
                  Option.bind (q0 (Rdr.mk (Rdr.toks a0) (IntKind.i64.wrap ((Rdr.i a0) + 1)) (Rdr.fin a0) (Rdr.bad a0)) [93]) fun r4 =>
                  some ((Exp.mk 4 0 [] r4.1), r4.2)
                ) else (
                  Option.bind (xDc N (List.getD (Rdr.toks a0) (Int.toNat (Rdr.i a0)) Ty.tok.dflt) [40]) fun r4 =>
                  bif r4 then (
                    Option.bind (q3 (Rdr.mk (Rdr.toks a0) (IntKind.i64.wrap ((Rdr.i a0) + 1)) (Rdr.fin a0) (Rdr.bad a0))) fun r5 =>
                    Option.bind (xBx N r5.2 [41]) fun r6 =>
                    some (r5.1, r6)
                  ) else (
                    Option.bind (xBT N a0) fun r5 =>
                    some (r5.1, r5.2)
                  )
                )
              )
            )
          ) else (
            Option.bind (xDc N (List.getD (Rdr.toks a0) (Int.toNat (Rdr.i a0)) Ty.tok.dflt) [91]) fun r1 =>
            bif r1 then (
              Option.bind (q0 (Rdr.mk (Rdr.toks a0) (IntKind.i64.wrap ((Rdr.i a0) + 1)) (Rdr.fin a0) (Rdr.bad a0)) [93]) fun r2 =>
              some ((Exp.mk 4 0 [] r2.1), r2.2)
            ) else (
              Option.bind (xDc N (List.getD (Rdr.toks a0) (Int.toNat (Rdr.i a0)) Ty.tok.dflt) [40]) fun r2 =>
              bif r2 then (
                Option.bind (q3 (Rdr.mk (Rdr.toks a0) (IntKind.i64.wrap ((Rdr.i a0) + 1)) (Rdr.fin a0) (Rdr.bad a0))) fun r3 =>
                Option.bind (xBx N r3.2 [41]) fun r4 =>
                some (r3.1, r4)
              ) else (
                Option.bind (xBT N a0) fun r3 =>
                some (r3.1, r3.2)
              )
            )
          )
        )
      )
      else none
    )
  )
def xDe (a0 : Rdr) : List Arg := [.box [.sl .ro .tok (Rdr.toks a0), .int .i64 (Rdr.i a0), .int .i64 (Rdr.fin a0), .int .i64 (Rdr.bad a0)]]
def xCW (r : Exp × Rdr) : CallO := ⟨.v true [.int .i64 (Exp.kind r.1), .int .i64 (Exp.n r.1), .str (Exp.text r.1), .sl .ro .exp (Exp.args r.1)], [[.sl .ro .tok (Rdr.toks r.2), .int .i64 (Rdr.i r.2), .int .i64 (Rdr.fin r.2), .int .i64 (Rdr.bad r.2)]], []⟩
def xCT (N : Nat) (q0 : Rdr → Str → Option ((List Exp) × Rdr)) (q1 : Rdr → Option (Exp × Rdr)) (q2 : Rdr → Option (Exp × Rdr)) (q3 : Rdr → Option (Exp × Rdr)) (q4 : Rdr → Option (Exp × Rdr)) (q5 : Rdr → Option (Exp × Rdr)) (a0 : Rdr) : Option (Exp × Rdr) :=
  Option.bind (q5 a0) fun r1 =>
  Option.bind (xBD N r1.2 [60]) fun r2 =>
  bif r2.1 then (
    Option.bind (q5 (Rdr.mk (Rdr.toks r2.2) (IntKind.i64.wrap ((Rdr.i r2.2) + 1)) (Rdr.fin r2.2) (Rdr.bad r2.2))) fun r3 =>
    Option.bind (xDX N 4 r1.1 r3.1) fun r4 =>
    some (r4, r3.2)
  ) else (
    Option.bind (xBD N r2.2 [61, 61]) fun r3 =>
    bif r3.1 then (
      Option.bind (q5 (Rdr.mk (Rdr.toks r3.2) (IntKind.i64.wrap ((Rdr.i r3.2) + 1)) (Rdr.fin r3.2) (Rdr.bad r3.2))) fun r4 =>
      Option.bind (xDX N 5 r1.1 r4.1) fun r5 =>
      some (r5, r4.2)
    ) else (
      some (r1.1, r3.2)
    )
  )
def xAL (a0 : Rdr) : List Arg := [.box [.sl .ro .tok (Rdr.toks a0), .int .i64 (Rdr.i a0), .int .i64 (Rdr.fin a0), .int .i64 (Rdr.bad a0)]]
def xAh (r : Exp × Rdr) : CallO := ⟨.v true [.int .i64 (Exp.kind r.1), .int .i64 (Exp.n r.1), .str (Exp.text r.1), .sl .ro .exp (Exp.args r.1)], [[.sl .ro .tok (Rdr.toks r.2), .int .i64 (Rdr.i r.2), .int .i64 (Rdr.fin r.2), .int .i64 (Rdr.bad r.2)]], []⟩
def xDw (N : Nat) (q0 : Rdr → Str → Option ((List Exp) × Rdr)) (q1 : Rdr → Option (Exp × Rdr)) (q2 : Rdr → Option (Exp × Rdr)) (q3 : Rdr → Option (Exp × Rdr)) (q4 : Rdr → Option (Exp × Rdr)) (q5 : Rdr → Option (Exp × Rdr)) (a0 : Rdr) : Option (Exp × Rdr) :=
  Option.bind (xBD N a0 [108, 101, 116]) fun r1 =>
  bif r1.1 then (
    Option.bind (xDn N (Rdr.mk (Rdr.toks r1.2) (IntKind.i64.wrap ((Rdr.i r1.2) + 1)) (Rdr.fin r1.2) (Rdr.bad r1.2))) fun r2 =>
    Option.bind (xBx N r2.2 [61]) fun r3 =>
    Option.bind (q3 r3) fun r4 =>
    Option.bind (xBx N r4.2 [105, 110]) fun r5 =>
    Option.bind (q3 r5) fun r6 =>
    some ((Exp.mk 7 0 r2.1 [(Exp.re r4.1), (Exp.re r6.1)]), r6.2)
  ) else (
    Option.bind (xBD N r1.2 [105, 102]) fun r2 =>
    bif r2.1 then (
      Option.bind (q3 (Rdr.mk (Rdr.toks r2.2) (IntKind.i64.wrap ((Rdr.i r2.2) + 1)) (Rdr.fin r2.2) (Rdr.bad r2.2))) fun r3 =>
      Option.bind (xBx N r3.2 [116, 104, 101, 110]) fun r4 =>
      Option.bind (q3 r4) fun r5 =>
      Option.bind (xBx N r5.2 [101, 108, 115, 101]) fun r6 =>
      Option.bind (q3 r6) fun r7 =>
      some ((Exp.mk 8 0 [] [(Exp.re r3.1), (Exp.re r5.1), (Exp.re r7.1)]), r7.2)
    ) else (
      Option.bind (xBD N r2.2 [102, 111, 114]) fun r3 =>
      bif r3.1 then (
        Option.bind (xDn N (Rdr.mk (Rdr.toks r3.2) (IntKind.i64.wrap ((Rdr.i r3.2) + 1)) (Rdr.fin r3.2) (Rdr.bad r3.2))) fun r4 =>
        Option.bind (xBx N r4.2 [105, 110]) fun r5 =>
        Option.bind (q3 r5) fun r6 =>
        Option.bind (xBx N r6.2 [100, 111]) fun r7 =>
        Option.bind (q3 r7) fun r8 =>
        some ((Exp.mk 9 0 r4.1 [(Exp.re r6.1), (Exp.re r8.1)]), r8.2)
      ) else (
        Option.bind (q2 r3.2) fun r4 =>
        some (r4.1, r4.2)
      )
    )
  )
def xCt (a0 : Rdr) : List Arg := [.box [.sl .ro .tok (Rdr.toks a0), .int .i64 (Rdr.i a0), .int .i64 (Rdr.fin a0), .int .i64 (Rdr.bad a0)]]
def xBb (r : Exp × Rdr) : CallO := ⟨.v true [.int .i64 (Exp.kind r.1), .int .i64 (Exp.n r.1), .str (Exp.text r.1), .sl .ro .exp (Exp.args r.1)], [[.sl .ro .tok (Rdr.toks r.2), .int .i64 (Rdr.i r.2), .int .i64 (Rdr.fin r.2), .int .i64 (Rdr.bad r.2)]], []⟩
def xCX (N : Nat) (q0 : Rdr → Str → Option ((List Exp) × Rdr)) (q1 : Rdr → Option (Exp × Rdr)) (q2 : Rdr → Option (Exp × Rdr)) (q3 : Rdr → Option (Exp × Rdr)) (q4 : Rdr → Option (Exp × Rdr)) (q5 : Rdr → Option (Exp × Rdr)) : Nat → Rdr → Exp → Exp → Option (Exp × Rdr)
  | 0, _, _, _ => none
  | n + 1, b0, b2, b3 =>
    Option.bind (xBD N b0 [42]) fun r1 =>
    bif r1.1 then (
      Option.bind (q1 (Rdr.mk (Rdr.toks r1.2) (IntKind.i64.wrap ((Rdr.i r1.2) + 1)) (Rdr.fin r1.2) (Rdr.bad r1.2))) fun r2 =>
      Option.bind (xDX N 3 b3 r2.1) fun r3 =>
      (xCX N q0 q1 q2 q3 q4 q5 n r2.2 b2 r3)
    ) else (
      some (b3, r1.2)
    )
def xCU (N : Nat) (q0 : Rdr → Str → Option ((List Exp) × Rdr)) (q1 : Rdr → Option (Exp × Rdr)) (q2 : Rdr → Option (Exp × Rdr)) (q3 : Rdr → Option (Exp × Rdr)) (q4 : Rdr → Option (Exp × Rdr)) (q5 : Rdr → Option (Exp × Rdr)) (a0 : Rdr) : Option (Exp × Rdr) :=
  Option.bind (q1 a0) fun r1 =>
  (xCX N q0 q1 q2 q3 q4 q5 N r1.2 (Exp.mk 0 0 [] []) r1.1)
def xDB (a0 : Rdr) : List Arg := [.box [.sl .ro .tok (Rdr.toks a0), .int .i64 (Rdr.i a0), .int .i64 (Rdr.fin a0), .int .i64 (Rdr.bad a0)]]
def xBY (r : Exp × Rdr) : CallO := ⟨.v true [.int .i64 (Exp.kind r.1), .int .i64 (Exp.n r.1), .str (Exp.text r.1), .sl .ro .exp (Exp.args r.1)], [[.sl .ro .tok (Rdr.toks r.2), .int .i64 (Rdr.i r.2), .int .i64 (Rdr.fin r.2), .int .i64 (Rdr.bad r.2)]], []⟩
def xCL (N : Nat) (q0 : Rdr → Str → Option ((List Exp) × Rdr)) (q1 : Rdr → Option (Exp × Rdr)) (q2 : Rdr → Option (Exp × Rdr)) (q3 : Rdr → Option (Exp × Rdr)) (q4 : Rdr → Option (Exp × Rdr)) (q5 : Rdr → Option (Exp × Rdr)) : Nat → Rdr → Exp → Exp → Option (Exp × Rdr)
  | 0, _, _, _ => none
  | n + 1, b0, b2, b3 =>
    Option.bind (xBD N b0 [43]) fun r1 =>
    bif r1.1 then (
      Option.bind (xBD N r1.2 [45]) fun r2 =>
      bif r2.1 then (
        Option.bind (q4 (Rdr.mk (Rdr.toks r2.2) (IntKind.i64.wrap ((Rdr.i r2.2) + 1)) (Rdr.fin r2.2) (Rdr.bad r2.2))) fun r3 =>
        Option.bind (xDX N 2 b3 r3.1) fun r4 =>
        (xCL N q0 q1 q2 q3 q4 q5 n r3.2 b2 r4)
      ) else (
        Option.bind (q4 (Rdr.mk (Rdr.toks r2.2) (IntKind.i64.wrap ((Rdr.i r2.2) + 1)) (Rdr.fin r2.2) (Rdr.bad r2.2))) fun r3 =>
        Option.bind (xDX N 1 b3 r3.1) fun r4 =>
        (xCL N q0 q1 q2 q3 q4 q5 n r3.2 b2 r4)
      )
    ) else (
      Option.bind (xBD N r1.2 [45]) fun r2 =>
      bif r2.1 then (
        Option.bind (xBD N r2.2 [45]) fun r3 =>
        bif r3.1 then (
          Option.bind (q4 (Rdr.mk (Rdr.toks r3.2) (IntKind.i64.wrap ((Rdr.i r3.2) + 1)) (Rdr.fin r3.2) (Rdr.bad r3.2))) fun r4 =>
          Option.bind (xDX N 2 b3 r4.1) fun r5 =>
          (xCL N q0 q1 q2 q3 q4 q5 n r4.2 b2 r5)
        ) else (
          Option.bind (q4 (Rdr.mk (Rdr.toks r3.2) (IntKind.i64.wrap ((Rdr.i r3.2) + 1)) (Rdr.fin r3.2) (Rdr.bad r3.2))) fun r4 =>
          Option.bind (xDX N 1 b3 r4.1) fun r5 =>
          (xCL N q0 q1 q2 q3 q4 q5 n r4.2 b2 r5)
        )
      ) else (
        some (b3, r2.2)
      )
    )
def xDO (N : Nat) (q0 : Rdr → Str → Option ((List Exp) × Rdr)) (q1 : Rdr → Option (Exp × Rdr)) (q2 : Rdr → Option (Exp × Rdr)) (q3 : Rdr → Option (Exp × Rdr)) (q4 : Rdr → Option (Exp × Rdr)) (q5 : Rdr → Option (Exp × Rdr)) (a0 : Rdr) : Option (Exp × Rdr) :=
  Option.bind (q4 a0) fun r1 =>
  (xCL N q0 q1 q2 q3 q4 q5 N r1.2 (Exp.mk 0 0 [] []) r1.1)
structure spec_l11Args_rec where
  c_spec_l11Args : Rdr → Str → Option ((List Exp) × Rdr)
  c_spec_l11Atom : Rdr → Option (Exp × Rdr)
  c_spec_l11Compare : Rdr → Option (Exp × Rdr)
  c_spec_l11Expr : Rdr → Option (Exp × Rdr)
  c_spec_l11Product : Rdr → Option (Exp × Rdr)
  c_spec_l11Sum : Rdr → Option (Exp × Rdr)
def xAa (N : Nat) : Nat → spec_l11Args_rec
  | 0 => ⟨fun _ _ => none, fun _ => none, fun _ => none, fun _ => none, fun _ => none, fun _ => none⟩
  | d + 1 => ⟨xDu N (xAa N d).c_spec_l11Args (xAa N d).c_spec_l11Atom (xAa N d).c_spec_l11Compare (xAa N d).c_spec_l11Expr (xAa N d).c_spec_l11Product (xAa N d).c_spec_l11Sum, xDv N (xAa N d).c_spec_l11Args (xAa N d).c_spec_l11Atom (xAa N d).c_spec_l11Compare (xAa N d).c_spec_l11Expr (xAa N d).c_spec_l11Product (xAa N d).c_spec_l11Sum, xCT N (xAa N d).c_spec_l11Args (xAa N d).c_spec_l11Atom (xAa N d).c_spec_l11Compare (xAa N d).c_spec_l11Expr (xAa N d).c_spec_l11Product (xAa N d).c_spec_l11Sum, xDw N (xAa N d).c_spec_l11Args (xAa N d).c_spec_l11Atom (xAa N d).c_spec_l11Compare (xAa N d).c_spec_l11Expr (xAa N d).c_spec_l11Product (xAa N d).c_spec_l11Sum, xCU N (xAa N d).c_spec_l11Args (xAa N d).c_spec_l11Atom (xAa N d).c_spec_l11Compare (xAa N d).c_spec_l11Expr (xAa N d).c_spec_l11Product (xAa N d).c_spec_l11Sum, xDO N (xAa N d).c_spec_l11Args (xAa N d).c_spec_l11Atom (xAa N d).c_spec_l11Compare (xAa N d).c_spec_l11Expr (xAa N d).c_spec_l11Product (xAa N d).c_spec_l11Sum⟩
def xGk (N : Nat) (a0 : Rdr) : Option (Exp × Rdr) := (xAa N N).c_spec_l11Expr a0
def xDd (a0 : Exp) (a1 : Int) : List Arg := [.val (.v true [.int .i64 (Exp.kind a0), .int .i64 (Exp.n a0), .str (Exp.text a0), .sl .ro .exp (Exp.args a0)]), .val (.v false [.int .i64 a1])]
def xBI (r : Int) : CallO := ⟨.v false [.int .i64 r], [], []⟩
def xDF (N : Nat) (q0 : Exp → Int → Option (Int)) : Nat → Int → Int → Exp → Option (Int)
  | 0, _, _, _ => none
  | n + 1, x1, x5, b2 =>
    bif (decide ((x5 : Int) < (List.length (Exp.args b2) : Int))) then (
      bif (decide ((x1 : Int) ≥ 0)) then (
        if (0 : Int) ≤ x5 ∧ x5 < (List.length (Exp.args b2)) then
        Option.bind (q0 (List.getD (Exp.args b2) (Int.toNat x5) Ty.exp.dflt) x1) fun r1 =>
        (xDF N q0 n r1 (IntKind.i64.wrap (x5 + 1)) b2)
        else none
      ) else (
        some x1
      )
    ) else (
      some x1
    )
def xFz (N : Nat) (q0 : Exp → Int → Option (Int)) (a0 : Exp) (a1 : Int) : Option (Int) :=
  (xDF N q0 N (IntKind.i64.wrap (a1 - 1)) 0 a0)
def xD7 (N : Nat) : Nat → Exp → Int → Option (Int)
  | 0, _, _ => none
  | d + 1, a0, a1 => xFz N (xD7 N d) a0 a1
def xG2 (N : Nat) (a0 : Exp) (a1 : Int) : Option (Int) := xD7 N N a0 a1
def xFs (a0 : Int) (a1 : Int) : List Arg := [.val (.v false [.int .i64 a0]), .val (.v false [.int .i64 a1])]
def xEY (r : Int) : CallO := ⟨.v false [.int .i64 r], [], []⟩
def xGD (N : Nat) (a0 : Int) (a1 : Int) : Option (Int) :=
  bif (decide ((a0 : Int) > a1)) then (
    some a0
  ) else (
    some a1
  )
def xC9 (a0 : Exp) : List Arg := [.val (.v true [.int .i64 (Exp.kind a0), .int .i64 (Exp.n a0), .str (Exp.text a0), .sl .ro .exp (Exp.args a0)])]
def xBP (r : Int) : CallO := ⟨.v false [.int .i64 r], [], []⟩
def xDW (N : Nat) (q0 : Exp → Option (Int)) : Nat → Int → Int → Exp → Option (Int)
  | 0, _, _, _ => none
  | n + 1, x3, x4, b1 =>
    bif (decide ((x4 : Int) < (List.length (Exp.args b1) : Int))) then (
      if (0 : Int) ≤ x4 ∧ x4 < (List.length (Exp.args b1)) then
      Option.bind (q0 (List.getD (Exp.args b1) (Int.toNat x4) Ty.exp.dflt)) fun r1 =>
      Option.bind (xGD N x3 r1) fun r2 =>
      (xDW N q0 n r2 (IntKind.i64.wrap (x4 + 1)) b1)
      else none
    ) else (
      some (IntKind.i64.wrap (x3 + 1))
    )
def xFg (N : Nat) (q0 : Exp → Option (Int)) (a0 : Exp) : Option (Int) :=
  (xDW N q0 N 0 0 a0)
def xEf (N : Nat) : Nat → Exp → Option (Int)
  | 0, _ => none
  | d + 1, a0 => xFg N (xEf N d) a0
def xGr (N : Nat) (a0 : Exp) : Option (Int) := xEf N N a0
def xEy (a0 : Int) (a1 : Int) (a2 : Int) : List Arg := [.val (.v false [.int .i64 a0]), .val (.v false [.int .i64 a1]), .val (.v false [.int .i64 a2])]
def xDo (r : Bool) : CallO := ⟨.v false [.bool r], [], []⟩
def xF8 (N : Nat) (a0 : Int) (a1 : Int) (a2 : Int) : Option (Bool) :=
  bif (decide ((a0 : Int) ≥ a1)) then (
    some (decide ((a0 : Int) ≤ a2))
  ) else (
    some false
  )
def xAF (a0 : Exp) : List Arg := [.val (.v true [.int .i64 (Exp.kind a0), .int .i64 (Exp.n a0), .str (Exp.text a0), .sl .ro .exp (Exp.args a0)])]
def xAD (r : Bool) : CallO := ⟨.v false [.bool r], [], []⟩
def xFL (N : Nat) (a0 : Exp) : Option (Bool) :=
  bif (((Exp.kind a0) : Int) == 1) then (
    bif (((List.length (Exp.args a0) : Int) : Int) == 0) then (
      bif (((Exp.text a0) : Str) == []) then (
        Option.bind (xF8 N (Exp.n a0) 0 1000000000) fun r1 =>
        some r1
      ) else (
        some false
      )
    ) else (
      some false
    )
  ) else (
    bif (((Exp.kind a0) : Int) == 2) then (
      bif (((List.length (Exp.args a0) : Int) : Int) == 0) then (
        bif (((Exp.n a0) : Int) == 0) then (
          Option.bind (xD4 N (Exp.text a0)) fun r1 =>
          some r1
        ) else (
          some false
        )
      ) else (
        some false
      )
    ) else (
      bif (((Exp.kind a0) : Int) == 3) then (
        bif (((List.length (Exp.args a0) : Int) : Int) == 0) then (
          bif (((Exp.n a0) : Int) == 0) then (
            Option.bind (xC4 N (Exp.text a0)) fun r1 =>
            some r1
          ) else (
            some false
          )
        ) else (
          some false
        )
      ) else (
        bif (((Exp.kind a0) : Int) == 4) then (
          bif (((Exp.n a0) : Int) == 0) then (
            bif (((Exp.text a0) : Str) == []) then (
              some (decide (((List.length (Exp.args a0) : Int) : Int) ≤ 8))
            ) else (
              some false
            )
          ) else (
            some false
          )
        ) else (
          bif (((Exp.kind a0) : Int) == 5) then (
            bif (((Exp.n a0) : Int) == 0) then (
              Option.bind (xCf N (Exp.text a0)) fun r1 =>
              some (((List.length (Exp.args a0) : Int) : Int) == r1)
            ) else (
              some false
            )
          ) else (
            bif (((Exp.kind a0) : Int) == 6) then (
              bif (((Exp.text a0) : Str) == []) then (
                bif (((List.length (Exp.args a0) : Int) : Int) == 2) then (
                  Option.bind (xF8 N (Exp.n a0) 1 5) fun r1 =>
                  some r1
                ) else (
                  some false
                )
              ) else (
                some false
              )
            ) else (
              bif (((Exp.kind a0) : Int) == 7) then (
                bif (((Exp.n a0) : Int) == 0) then (
                  bif (((List.length (Exp.args a0) : Int) : Int) == 2) then (
                    Option.bind (xC4 N (Exp.text a0)) fun r1 =>
                    some r1
                  ) else (
                    some false
                  )
                ) else (
                  some false
                )
              ) else (
                bif (((Exp.kind a0) : Int) == 9) then (
                  bif (((Exp.n a0) : Int) == 0) then (
                    bif (((List.length (Exp.args a0) : Int) : Int) == 2) then (
                      Option.bind (xC4 N (Exp.text a0)) fun r1 =>
                      some r1
                    ) else (
                      some false
                    )
                  ) else (
                    some false
                  )
                ) else (
                  bif (((Exp.kind a0) : Int) == 8) then (
                    bif (((Exp.n a0) : Int) == 0) then (
                      bif (((Exp.text a0) : Str) == []) then (
                        some (((List.length (Exp.args a0) : Int) : Int) == 3)
                      ) else (
                        some false
                      )
                    ) else (
                      some false
                    )
                  ) else (
                    some false
                  )
                )
              )
            )
          )
        )
      )
    )
  )
def xDT (a0 : Exp) : List Arg := [.val (.v true [.int .i64 (Exp.kind a0), .int .i64 (Exp.n a0), .str (Exp.text a0), .sl .ro .exp (Exp.args a0)])]
def xCn (r : Bool) : CallO := ⟨.v false [.bool r], [], []⟩
def xEl (N : Nat) (q0 : Exp → Option (Bool)) : Nat → Int → Exp → Option (Bool)
  | 0, _, _ => none
  | n + 1, x3, b1 =>
    bif (decide ((x3 : Int) < (List.length (Exp.args b1) : Int))) then (
      if (0 : Int) ≤ x3 ∧ x3 < (List.length (Exp.args b1)) then
      Option.bind (q0 (List.getD (Exp.args b1) (Int.toNat x3) Ty.exp.dflt)) fun r1 =>
      bif (!r1) then (
        some false
      ) else (
        (xEl N q0 n (IntKind.i64.wrap (x3 + 1)) b1)
      )
      else none
    ) else (
      Option.bind (xFL N b1) fun r1 =>
      some r1
    )
def xFM (N : Nat) (q0 : Exp → Option (Bool)) (a0 : Exp) : Option (Bool) :=
  (xEl N q0 N 0 a0)
def xEQ (N : Nat) : Nat → Exp → Option (Bool)
  | 0, _ => none
  | d + 1, a0 => xFM N (xEQ N d) a0
def xHw (N : Nat) (a0 : Exp) : Option (Bool) := xEQ N N a0
def xBn (a0 : Exp) : List Arg := [.val (.v true [.int .i64 (Exp.kind a0), .int .i64 (Exp.n a0), .str (Exp.text a0), .sl .ro .exp (Exp.args a0)])]
def xAK (r : Bool) : CallO := ⟨.v false [.bool r], [], []⟩
def xCJ (N : Nat) (a0 : Exp) : Option (Bool) :=
  Option.bind (xG2 N a0 40) fun r1 =>
  bif (decide ((r1 : Int) ≥ 0)) then (
    Option.bind (xGr N a0) fun r2 =>
    bif (decide ((r2 : Int) ≤ 8)) then (
      Option.bind (xHw N a0) fun r3 =>
      some r3
    ) else (
      some false
    )
  ) else (
    some false
  )
def xBu (a0 : Str) : List Arg := [.val (.v false [.str a0])]
def xBf (r : Exp × Int) : CallO := ⟨.tup [(true, [.int .i64 (Exp.kind r.1), .int .i64 (Exp.n r.1), .str (Exp.text r.1), .sl .ro .exp (Exp.args r.1)]), (false, [.int .i64 r.2])], [], []⟩
def xEk (N : Nat) (a0 : Str) : Option (Exp × Int) :=
  Option.bind (xEX N a0) fun r1 =>
  bif (decide ((r1.2 : Int) ≥ 0)) then (
    some ((Exp.mk 0 0 [] []), r1.2)
  ) else (
    Option.bind (xGk N (Rdr.mk r1.1 0 (List.length a0 : Int) (-1))) fun r2 =>
    bif (decide (((Rdr.bad r2.2) : Int) < 0)) then (
      bif (decide (((Rdr.i r2.2) : Int) < (List.length r1.1 : Int))) then (
        Option.bind (xBT N r2.2) fun r3 =>
        bif (decide (((Rdr.bad r3.2) : Int) ≥ 0)) then (
          some ((Exp.mk 0 0 [] []), (Rdr.bad r3.2))
        ) else (
          Option.bind (xCJ N r2.1) fun r4 =>
          bif (!r4) then (
            some ((Exp.mk 0 0 [] []), 0)
          ) else (
            some (r2.1, (-1))
          )
        )
      ) else (
        bif (decide (((Rdr.bad r2.2) : Int) ≥ 0)) then (
          some ((Exp.mk 0 0 [] []), (Rdr.bad r2.2))
        ) else (
          Option.bind (xCJ N r2.1) fun r3 =>
          bif (!r3) then (
            some ((Exp.mk 0 0 [] []), 0)
          ) else (
            some (r2.1, (-1))
          )
        )
      )
    ) else (
      bif (decide (((Rdr.bad r2.2) : Int) ≥ 0)) then (
        some ((Exp.mk 0 0 [] []), (Rdr.bad r2.2))
      ) else (
        Option.bind (xCJ N r2.1) fun r3 =>
        bif (!r3) then (
          some ((Exp.mk 0 0 [] []), 0)
        ) else (
          some (r2.1, (-1))
        )
      )
    )
  )
def xFP (a0 : Str) (a1 : Int) (a2 : Int) : List Arg := [.val (.v false [.str a0]), .val (.v false [.int .i64 a1]), .val (.v false [.int .i64 a2])]
def xEz (r : Int × Bool) : CallO := ⟨.tup [(false, [.int .i64 r.1]), (false, [.bool r.2])], [], []⟩
def xFU (N : Nat) (a0 : Str) (a1 a2 : Int) : Option (Int × Bool) := parseNumP a0 a1 a2
def xBg (a0 : Str) (a1 : Int) : List Arg := [.val (.v false [.str a0]), .val (.v false [.int .u8 a1])]
def xAu (r : Int) : CallO := ⟨.v false [.int .i64 r], [], []⟩
def strings_IndexByte (N : Nat) (a0 : Str) (a1 : Int) : Option Int := indexByteP a0 a1
def xCg (a0 : Str) : List Arg := [.val (.v false [.str a0])]
def xAP (r : Bool) : CallO := ⟨.v false [.bool r], [], []⟩
def xDY (N : Nat) : Nat → Str → Int → Option (Bool)
  | 0, _, _ => none
  | n + 1, x0, x3 =>
    bif (decide ((x3 : Int) < (List.length x0 : Int))) then (
      if (0 : Int) ≤ x3 ∧ x3 < (List.length x0) then
      bif (decide ((((List.getD x0 (Int.toNat x3) 0).toNat : Int) : Int) < 32)) then (
        some false
      ) else (
        bif (decide ((((List.getD x0 (Int.toNat x3) 0).toNat : Int) : Int) > 126)) then (
          some false
        ) else (
          bif ((((List.getD x0 (Int.toNat x3) 0).toNat : Int) : Int) == 34) then (
            some false
          ) else (
            (xDY N n x0 (IntKind.i64.wrap (x3 + 1)))
          )
        )
      )
      else none
    ) else (
      some (decide (((List.length x0 : Int) : Int) ≤ 20))
    )
def xC2 (N : Nat) (a0 : Str) : Option (Bool) :=
  (xDY N N a0 0)
def xB2 (a0 : Str) (a1 : Str) : List Arg := [.val (.v false [.str a0]), .val (.v false [.str a1])]
def xAT (r : Bool) : CallO := ⟨.v false [.bool r], [], []⟩
def strings_HasPrefix (N : Nat) (a0 a1 : Str) : Option Bool := hasPrefixP a0 a1
def xAU (a0 : Str) (a1 : Int) : List Arg := [.val (.v false [.str a0]), .val (.v false [.int .i64 a1])]
def xAw (r : Tok × Int × Bool) : CallO := ⟨.tup [(true, [.int .i64 (Tok.kind r.1), .int .i64 (Tok.n r.1), .int .i64 (Tok.pos r.1), .str (Tok.text r.1)]), (false, [.int .i64 r.2.1]), (false, [.bool r.2.2])], [], []⟩
def xCB (N : Nat) : Nat → Str → Int → Int → Tok → Option (Tok × Int × Bool)
  | 0, _, _, _, _ => none
  | n + 1, x0, x1, x7, b4 =>
    bif (decide ((x7 : Int) < (List.length x0 : Int))) then (
      if (0 : Int) ≤ x7 ∧ x7 < (List.length x0) then
      bif (decide ((((List.getD x0 (Int.toNat x7) 0).toNat : Int) : Int) ≥ 97)) then (
        bif (decide ((((List.getD x0 (Int.toNat x7) 0).toNat : Int) : Int) ≤ 122)) then (
          (xCB N n x0 x1 (IntKind.i64.wrap (x7 + 1)) b4)
        ) else (
          bif (decide ((((List.getD x0 (Int.toNat x7) 0).toNat : Int) : Int) ≥ 48)) then (
            bif (decide ((((List.getD x0 (Int.toNat x7) 0).toNat : Int) : Int) ≤ 57)) then (
              (xCB N n x0 x1 (IntKind.i64.wrap (x7 + 1)) b4)
            ) else (
              if (0 : Int) ≤ x1 ∧ x1 ≤ x7 ∧ x7 ≤ (List.length x0) then
              some ((Tok.mk 1 0 x1 (List.drop (Int.toNat x1) (List.take (Int.toNat x7) x0))), x7, (decide (((IntKind.i64.wrap (x7 - x1)) : Int) ≤ 8)))
              else none
            )
          ) else (
            if (0 : Int) ≤ x1 ∧ x1 ≤ x7 ∧ x7 ≤ (List.length x0) then
            some ((Tok.mk 1 0 x1 (List.drop (Int.toNat x1) (List.take (Int.toNat x7) x0))), x7, (decide (((IntKind.i64.wrap (x7 - x1)) : Int) ≤ 8)))
            else none
          )
        )
      ) else (
        bif (decide ((((List.getD x0 (Int.toNat x7) 0).toNat : Int) : Int) ≥ 48)) then (
          bif (decide ((((List.getD x0 (Int.toNat x7) 0).toNat : Int) : Int) ≤ 57)) then (
            (xCB N n x0 x1 (IntKind.i64.wrap (x7 + 1)) b4)
          ) else (
            if (0 : Int) ≤ x1 ∧ x1 ≤ x7 ∧ x7 ≤ (List.length x0) then
            some ((Tok.mk 1 0 x1 (List.drop (Int.toNat x1) (List.take (Int.toNat x7) x0))), x7, (decide (((IntKind.i64.wrap (x7 - x1)) : Int) ≤ 8)))
            else none
          )
        ) else (
          if (0 : Int) ≤ x1 ∧ x1 ≤ x7 ∧ x7 ≤ (List.length x0) then
          some ((Tok.mk 1 0 x1 (List.drop (Int.toNat x1) (List.take (Int.toNat x7) x0))), x7, (decide (((IntKind.i64.wrap (x7 - x1)) : Int) ≤ 8)))
          else none
        )
      )
      else none
    ) else (
      if (0 : Int) ≤ x1 ∧ x1 ≤ x7 ∧ x7 ≤ (List.length x0) then
      some ((Tok.mk 1 0 x1 (List.drop (Int.toNat x1) (List.take (Int.toNat x7) x0))), x7, (decide (((IntKind.i64.wrap (x7 - x1)) : Int) ≤ 8)))
      else none
    )
def xCY (N : Nat) : Nat → Str → Int → Int → Tok → Option (Tok × Int × Bool)
  | 0, _, _, _, _ => none
  | n + 1, x0, x1, x7, b4 =>
    bif (decide ((x7 : Int) < (List.length x0 : Int))) then (
      if (0 : Int) ≤ x7 ∧ x7 < (List.length x0) then
      bif (decide ((((List.getD x0 (Int.toNat x7) 0).toNat : Int) : Int) ≥ 48)) then (
        bif (decide ((((List.getD x0 (Int.toNat x7) 0).toNat : Int) : Int) ≤ 57)) then (
          (xCY N n x0 x1 (IntKind.i64.wrap (x7 + 1)) b4)
        ) else (
          if (0 : Int) ≤ x1 ∧ x1 ≤ x7 ∧ x7 ≤ (List.length x0) then
          Option.bind (xFU N (List.drop (Int.toNat x1) (List.take (Int.toNat x7) x0)) 0 1000000000) fun r1 =>
          some ((Tok.mk 2 r1.1 x1 []), x7, r1.2)
          else none
        )
      ) else (
        if (0 : Int) ≤ x1 ∧ x1 ≤ x7 ∧ x7 ≤ (List.length x0) then
        Option.bind (xFU N (List.drop (Int.toNat x1) (List.take (Int.toNat x7) x0)) 0 1000000000) fun r1 =>
        some ((Tok.mk 2 r1.1 x1 []), x7, r1.2)
        else none
      )
      else none
    ) else (
      if (0 : Int) ≤ x1 ∧ x1 ≤ x7 ∧ x7 ≤ (List.length x0) then
      Option.bind (xFU N (List.drop (Int.toNat x1) (List.take (Int.toNat x7) x0)) 0 1000000000) fun r1 =>
      some ((Tok.mk 2 r1.1 x1 []), x7, r1.2)
      else none
    )
def xFI (N : Nat) (a0 : Str) (a1 : Int) : Option (Tok × Int × Bool) :=
  if (0 : Int) ≤ a1 ∧ a1 < (List.length a0) then
  bif (decide ((((List.getD a0 (Int.toNat a1) 0).toNat : Int) : Int) ≥ 97)) then (
    bif (decide ((((List.getD a0 (Int.toNat a1) 0).toNat : Int) : Int) ≤ 122)) then (
      (xCB N N a0 a1 a1 (Tok.mk 0 0 0 []))
    ) else (
      bif (decide ((((List.getD a0 (Int.toNat a1) 0).toNat : Int) : Int) ≥ 48)) then (
        bif (decide ((((List.getD a0 (Int.toNat a1) 0).toNat : Int) : Int) ≤ 57)) then (
          (xCY N N a0 a1 a1 (Tok.mk 0 0 0 []))
        ) else (
          bif ((((List.getD a0 (Int.toNat a1) 0).toNat : Int) : Int) == 34) then (
            if (0 : Int) ≤ (IntKind.i64.wrap (a1 + 1)) ∧ (IntKind.i64.wrap (a1 + 1)) ≤ (List.length a0) then
            Option.bind (strings_IndexByte N (List.drop (Int.toNat (IntKind.i64.wrap (a1 + 1))) a0) 34) fun r1 =>
            bif (decide ((r1 : Int) < 0)) then (
              some ((Tok.mk 0 0 0 []), 0, false)
            ) else (
              if (0 : Int) ≤ (IntKind.i64.wrap (a1 + 1)) ∧ (IntKind.i64.wrap (a1 + 1)) ≤ (IntKind.i64.wrap ((IntKind.i64.wrap (a1 + 1)) + r1)) ∧ (IntKind.i64.wrap ((IntKind.i64.wrap (a1 + 1)) + r1)) ≤ (List.length a0) then
              Option.bind (xC2 N (List.drop (Int.toNat (IntKind.i64.wrap (a1 + 1))) (List.take (Int.toNat (IntKind.i64.wrap ((IntKind.i64.wrap (a1 + 1)) + r1))) a0))) fun r2 =>
              some ((Tok.mk 3 0 a1 (List.drop (Int.toNat (IntKind.i64.wrap (a1 + 1))) (List.take (Int.toNat (IntKind.i64.wrap ((IntKind.i64.wrap (a1 + 1)) + r1))) a0))), (IntKind.i64.wrap ((IntKind.i64.wrap (a1 + r1)) + 2)), r2)
              else none
            )
            else none
          ) else (
            if (0 : Int) ≤ a1 ∧ a1 ≤ (List.length a0) then
            Option.bind (strings_HasPrefix N (List.drop (Int.toNat a1) a0) [61, 61]) fun r1 =>
            bif r1 then (
              some ((Tok.mk 4 0 a1 [61, 61]), (IntKind.i64.wrap (a1 + 2)), true)
            ) else (
              if (0 : Int) ≤ a1 ∧ a1 ≤ (IntKind.i64.wrap (a1 + 1)) ∧ (IntKind.i64.wrap (a1 + 1)) ≤ (List.length a0) then
              Option.bind (strings_IndexByte N [40, 41, 91, 93, 44, 43, 45, 42, 60, 61] ((List.getD a0 (Int.toNat a1) 0).toNat : Int)) fun r2 =>
              some ((Tok.mk 4 0 a1 (List.drop (Int.toNat a1) (List.take (Int.toNat (IntKind.i64.wrap (a1 + 1))) a0))), (IntKind.i64.wrap (a1 + 1)), (decide ((r2 : Int) ≥ 0)))
              else none
            )
            else none
          )
        )
      ) else (
        bif ((((List.getD a0 (Int.toNat a1) 0).toNat : Int) : Int) == 34) then (
          if (0 : Int) ≤ (IntKind.i64.wrap (a1 + 1)) ∧ (IntKind.i64.wrap (a1 + 1)) ≤ (List.length a0) then
          Option.bind (strings_IndexByte N (List.drop (Int.toNat (IntKind.i64.wrap (a1 + 1))) a0) 34) fun r1 =>
          bif (decide ((r1 : Int) < 0)) then (
            some ((Tok.mk 0 0 0 []), 0, false)
          ) else (
            if (0 : Int) ≤ (IntKind.i64.wrap (a1 + 1)) ∧ (IntKind.i64.wrap (a1 + 1)) ≤ (IntKind.i64.wrap ((IntKind.i64.wrap (a1 + 1)) + r1)) ∧ (IntKind.i64.wrap ((IntKind.i64.wrap (a1 + 1)) + r1)) ≤ (List.length a0) then
            Option.bind (xC2 N (List.drop (Int.toNat (IntKind.i64.wrap (a1 + 1))) (List.take (Int.toNat (IntKind.i64.wrap ((IntKind.i64.wrap (a1 + 1)) + r1))) a0))) fun r2 =>
            some ((Tok.mk 3 0 a1 (List.drop (Int.toNat (IntKind.i64.wrap (a1 + 1))) (List.take (Int.toNat (IntKind.i64.wrap ((IntKind.i64.wrap (a1 + 1)) + r1))) a0))), (IntKind.i64.wrap ((IntKind.i64.wrap (a1 + r1)) + 2)), r2)
            else none
          )
          else none
        ) else (
          if (0 : Int) ≤ a1 ∧ a1 ≤ (List.length a0) then
          Option.bind (strings_HasPrefix N (List.drop (Int.toNat a1) a0) [61, 61]) fun r1 =>
          bif r1 then (
            some ((Tok.mk 4 0 a1 [61, 61]), (IntKind.i64.wrap (a1 + 2)), true)
          ) else (
            if (0 : Int) ≤ a1 ∧ a1 ≤ (IntKind.i64.wrap (a1 + 1)) ∧ (IntKind.i64.wrap (a1 + 1)) ≤ (List.length a0) then
            Option.bind (strings_IndexByte N [40, 41, 91, 93, 44, 43, 45, 42, 60, 61] ((List.getD a0 (Int.toNat a1) 0).toNat : Int)) fun r2 =>
            some ((Tok.mk 4 0 a1 (List.drop (Int.toNat a1) (List.take (Int.toNat (IntKind.i64.wrap (a1 + 1))) a0))), (IntKind.i64.wrap (a1 + 1)), (decide ((r2 : Int) ≥ 0)))
            else none
          )
          else none
        )
      )
    )
  ) else (
    bif (decide ((((List.getD a0 (Int.toNat a1) 0).toNat : Int) : Int) ≥ 48)) then (
      bif (decide ((((List.getD a0 (Int.toNat a1) 0).toNat : Int) : Int) ≤ 57)) then (
        (xCY N N a0 a1 a1 (Tok.mk 0 0 0 []))
      ) else (
        bif ((((List.getD a0 (Int.toNat a1) 0).toNat : Int) : Int) == 34) then (
          if (0 : Int) ≤ (IntKind.i64.wrap (a1 + 1)) ∧ (IntKind.i64.wrap (a1 + 1)) ≤ (List.length a0) then
          Option.bind (strings_IndexByte N (List.drop (Int.toNat (IntKind.i64.wrap (a1 + 1))) a0) 34) fun r1 =>
          bif (decide ((r1 : Int) < 0)) then (
            some ((Tok.mk 0 0 0 []), 0, false)
          ) else (
            if (0 : Int) ≤ (IntKind.i64.wrap (a1 + 1)) ∧ (IntKind.i64.wrap (a1 + 1)) ≤ (IntKind.i64.wrap ((IntKind.i64.wrap (a1 + 1)) + r1)) ∧ (IntKind.i64.wrap ((IntKind.i64.wrap (a1 + 1)) + r1)) ≤ (List.length a0) then
            Option.bind (xC2 N (List.drop (Int.toNat (IntKind.i64.wrap (a1 + 1))) (List.take (Int.toNat (IntKind.i64.wrap ((IntKind.i64.wrap (a1 + 1)) + r1))) a0))) fun r2 =>
            some ((Tok.mk 3 0 a1 (List.drop (Int.toNat (IntKind.i64.wrap (a1 + 1))) (List.take (Int.toNat (IntKind.i64.wrap ((IntKind.i64.wrap (a1 + 1)) + r1))) a0))), (IntKind.i64.wrap ((IntKind.i64.wrap (a1 + r1)) + 2)), r2)
            else none
          )
          else none
        ) else (
          if (0 : Int) ≤ a1 ∧ a1 ≤ (List.length a0) then
          Option.bind (strings_HasPrefix N (List.drop (Int.toNat a1) a0) [61, 61]) fun r1 =>
          bif r1 then (
            some ((Tok.mk 4 0 a1 [61, 61]), (IntKind.i64.wrap (a1 + 2)), true)
          ) else (
            if (0 : Int) ≤ a1 ∧ a1 ≤ (IntKind.i64.wrap (a1 + 1)) ∧ (IntKind.i64.wrap (a1 + 1)) ≤ (List.length a0) then
            Option.bind (strings_IndexByte N [40, 41, 91, 93, 44, 43, 45, 42, 60, 61] ((List.getD a0 (Int.toNat a1) 0).toNat : Int)) fun r2 =>
            some ((Tok.mk 4 0 a1 (List.drop (Int.toNat a1) (List.take (Int.toNat (IntKind.i64.wrap (a1 + 1))) a0))), (IntKind.i64.wrap (a1 + 1)), (decide ((r2 : Int) ≥ 0)))
            else none
          )
          else none
        )
      )
    ) else (
      bif ((((List.getD a0 (Int.toNat a1) 0).toNat : Int) : Int) == 34) then (
        if (0 : Int) ≤ (IntKind.i64.wrap (a1 + 1)) ∧ (IntKind.i64.wrap (a1 + 1)) ≤ (List.length a0) then
        Option.bind (strings_IndexByte N (List.drop (Int.toNat (IntKind.i64.wrap (a1 + 1))) a0) 34) fun r1 =>
        bif (decide ((r1 : Int) < 0)) then (
          some ((Tok.mk 0 0 0 []), 0, false)
        ) else (
          if (0 : Int) ≤ (IntKind.i64.wrap (a1 + 1)) ∧ (IntKind.i64.wrap (a1 + 1)) ≤ (IntKind.i64.wrap ((IntKind.i64.wrap (a1 + 1)) + r1)) ∧ (IntKind.i64.wrap ((IntKind.i64.wrap (a1 + 1)) + r1)) ≤ (List.length a0) then
          Option.bind (xC2 N (List.drop (Int.toNat (IntKind.i64.wrap (a1 + 1))) (List.take (Int.toNat (IntKind.i64.wrap ((IntKind.i64.wrap (a1 + 1)) + r1))) a0))) fun r2 =>
          some ((Tok.mk 3 0 a1 (List.drop (Int.toNat (IntKind.i64.wrap (a1 + 1))) (List.take (Int.toNat (IntKind.i64.wrap ((IntKind.i64.wrap (a1 + 1)) + r1))) a0))), (IntKind.i64.wrap ((IntKind.i64.wrap (a1 + r1)) + 2)), r2)
          else none
        )
        else none
      ) else (
        if (0 : Int) ≤ a1 ∧ a1 ≤ (List.length a0) then
        Option.bind (strings_HasPrefix N (List.drop (Int.toNat a1) a0) [61, 61]) fun r1 =>
        bif r1 then (
          some ((Tok.mk 4 0 a1 [61, 61]), (IntKind.i64.wrap (a1 + 2)), true)
        ) else (
          if (0 : Int) ≤ a1 ∧ a1 ≤ (IntKind.i64.wrap (a1 + 1)) ∧ (IntKind.i64.wrap (a1 + 1)) ≤ (List.length a0) then
          Option.bind (strings_IndexByte N [40, 41, 91, 93, 44, 43, 45, 42, 60, 61] ((List.getD a0 (Int.toNat a1) 0).toNat : Int)) fun r2 =>
          some ((Tok.mk 4 0 a1 (List.drop (Int.toNat a1) (List.take (Int.toNat (IntKind.i64.wrap (a1 + 1))) a0))), (IntKind.i64.wrap (a1 + 1)), (decide ((r2 : Int) ≥ 0)))
          else none
        )
        else none
      )
    )
  )
  else none
def xBh (a0 : Str) : List Arg := [.val (.v false [.str a0])]
def xAt (r : (List Tok) × Int) : CallO := ⟨.tup [(false, [.sl .own .tok r.1]), (false, [.int .i64 r.2])], [], []⟩
def xDL (N : Nat) : Nat → Str → (List Tok) → Int → Option ((List Tok) × Int)
  | 0, _, _, _ => none
  | n + 1, x0, x4, x5 =>
    bif (decide ((x5 : Int) < (List.length x0 : Int))) then (
      if (0 : Int) ≤ x5 ∧ x5 < (List.length x0) then
      bif ((((List.getD x0 (Int.toNat x5) 0).toNat : Int) : Int) == 32) then (
        (xDL N n x0 x4 (IntKind.i64.wrap (x5 + 1)))
      ) else (
        Option.bind (xFI N x0 x5) fun r1 =>
        bif (!r1.2.2) then (
          some ([], x5)
        ) else (
          bif (((List.length x4 : Int) : Int) == 60) then (
            some ([], x5)
          ) else (
            if List.length x4 + List.length [r1.1] ≤ Lim then
            (xDL N n x0 (x4 ++ [r1.1]) r1.2.1)
            else none
          )
        )
      )
      else none
    ) else (
      some (x4, (-1))
    )
def xEW (N : Nat) (a0 : Str) : Option ((List Tok) × Int) :=
  bif (decide (((List.length a0 : Int) : Int) > 120)) then (
    some ([], 120)
  ) else (
    (xDL N N a0 [] 0)
  )
def xAi (a0 : Psr) : List Arg := [.box [.sl .ro .tok (Psr.list a0), .int .i64 (Psr.pos a0), .int .i64 (Psr.bad a0)]]
def xAc (r : Tok × Psr) : CallO := ⟨.v true [.int .i64 (Tok.kind r.1), .int .i64 (Tok.n r.1), .int .i64 (Tok.pos r.1), .str (Tok.text r.1)], [[.sl .ro .tok (Psr.list r.2), .int .i64 (Psr.pos r.2), .int .i64 (Psr.bad r.2)]], []⟩
def xBG (N : Nat) (a0 : Psr) : Option (Tok × Psr) :=
  bif (decide (((Psr.bad a0) : Int) < 0)) then (
    bif (decide (((Psr.pos a0) : Int) < (List.length (Psr.list a0) : Int))) then (
      if (0 : Int) ≤ (Psr.pos a0) ∧ (Psr.pos a0) < (List.length (Psr.list a0)) then
      some ((List.getD (Psr.list a0) (Int.toNat (Psr.pos a0)) Ty.tok.dflt), a0)
      else none
    ) else (
      some ((Tok.mk 0 0 0 []), a0)
    )
  ) else (
    some ((Tok.mk 0 0 0 []), a0)
  )
def xBc (a0 : Tok) (a1 : Str) : List Arg := [.val (.v true [.int .i64 (Tok.kind a0), .int .i64 (Tok.n a0), .int .i64 (Tok.pos a0), .str (Tok.text a0)]), .val (.v false [.str a1])]
def xAB (r : Bool) : CallO := ⟨.v false [.bool r], [], []⟩
def xDR (N : Nat) (a0 : Tok) (a1 : Str) : Option (Bool) :=
  bif (((Tok.kind a0) : Int) == 1) then (
    some (((Tok.text a0) : Str) == a1)
  ) else (
    some false
  )
def xCl (a0 : Int) (a1 : Int) (a2 : Int) : List Arg := [.val (.v false [.int .i64 a0]), .val (.v false [.int .i64 a1]), .val (.v false [.int .i64 a2])]
def xA5 (r : Bool) : CallO := ⟨.v false [.bool r], [], []⟩
def xEK (N : Nat) (a0 : Int) (a1 : Int) (a2 : Int) : Option (Bool) :=
  bif (decide ((a1 : Int) ≤ a0)) then (
    some (decide ((a0 : Int) ≤ a2))
  ) else (
    some false
  )
def xE2 (a0 : Str) : List Arg := [.val (.v false [.str a0])]
def xCc (r : Bool) : CallO := ⟨.v false [.bool r], [], []⟩
def xDx (N : Nat) : Nat → Str → Int → Option (Bool)
  | 0, _, _ => none
  | n + 1, x0, x3 =>
    bif (decide ((x3 : Int) < (List.length x0 : Int))) then (
      if (0 : Int) ≤ x3 ∧ x3 < (List.length x0) then
      bif (decide ((((List.getD x0 (Int.toNat x3) 0).toNat : Int) : Int) ≥ 97)) then (
        bif (!(decide ((((List.getD x0 (Int.toNat x3) 0).toNat : Int) : Int) ≤ 122))) then (
          bif ((x3 : Int) == 0) then (
            some false
          ) else (
            bif (decide ((((List.getD x0 (Int.toNat x3) 0).toNat : Int) : Int) < 48)) then (
              some false
            ) else (
              bif (decide ((((List.getD x0 (Int.toNat x3) 0).toNat : Int) : Int) > 57)) then (
                some false
              ) else (
                (xDx N n x0 (IntKind.i64.wrap (x3 + 1)))
              )
            )
          )
        ) else (
          (xDx N n x0 (IntKind.i64.wrap (x3 + 1)))
        )
      ) else (
        bif ((x3 : Int) == 0) then (
          some false
        ) else (
          bif (decide ((((List.getD x0 (Int.toNat x3) 0).toNat : Int) : Int) < 48)) then (
            some false
          ) else (
            bif (decide ((((List.getD x0 (Int.toNat x3) 0).toNat : Int) : Int) > 57)) then (
              some false
            ) else (
              (xDx N n x0 (IntKind.i64.wrap (x3 + 1)))
            )
          )
        )
      )
      else none
    ) else (
      Option.bind (xEK N (List.length x0 : Int) 1 8) fun r1 =>
      some r1
    )
def xGH (N : Nat) (a0 : Str) : Option (Bool) :=
  (xDx N N a0 0)
def xAp (a0 : Str) : List Arg := [.val (.v false [.str a0])]
def xAg (r : Int) : CallO := ⟨.v false [.int .i64 r], [], []⟩
def xCV (N : Nat) (a0 : Str) : Option (Int) :=
  bif ((a0 : Str) == [99, 108, 111, 99, 107]) then (
    some 0
  ) else (
    bif ((a0 : Str) == [108, 101, 110]) then (
      some 1
    ) else (
      bif ((a0 : Str) == [115, 117, 109]) then (
        some 1
      ) else (
        bif ((a0 : Str) == [114, 111, 119, 115]) then (
          some 1
        ) else (
          bif ((a0 : Str) == [99, 104, 97, 110, 99, 101]) then (
            some 1
          ) else (
            bif ((a0 : Str) == [102, 105, 108, 101]) then (
              some 1
            ) else (
              bif ((a0 : Str) == [116, 97, 107, 101]) then (
                some 2
              ) else (
                bif ((a0 : Str) == [115, 107, 105, 112]) then (
                  some 2
                ) else (
                  bif ((a0 : Str) == [114, 97, 110, 103, 101]) then (
                    some 2
                  ) else (
                    bif ((a0 : Str) == [110, 116, 104]) then (
                      some 2
                    ) else (
                      bif ((a0 : Str) == [107, 101, 101, 112]) then (
                        some 2
                      ) else (
                        bif ((a0 : Str) == [99, 111, 108, 117, 109, 110]) then (
                          some 2
                        ) else (
                          bif ((a0 : Str) == [116, 97, 98, 108, 101]) then (
                            some 2
                          ) else (
                            bif ((a0 : Str) == [119, 104, 101, 114, 101]) then (
                              some 3
                            ) else (
                              bif ((a0 : Str) == [103, 114, 111, 117, 112]) then (
                                some 3
                              ) else (
                                bif ((a0 : Str) == [106, 111, 105, 110]) then (
                                  some 3
                                ) else (
                                  bif ((a0 : Str) == [97, 100, 100]) then (
                                    some 4
                                  ) else (
                                    some (-1)
                                  )
                                )
                              )
                            )
                          )
                        )
                      )
                    )
                  )
                )
              )
            )
          )
        )
      )
    )
  )
def xBR (a0 : Str) : List Arg := [.val (.v false [.str a0])]
def xBF (r : Bool) : CallO := ⟨.v false [.bool r], [], []⟩
def xEI (N : Nat) (a0 : Str) : Option (Bool) :=
  bif ((a0 : Str) == [108, 101, 116]) then (
    some true
  ) else (
    bif ((a0 : Str) == [105, 110]) then (
      some true
    ) else (
      bif ((a0 : Str) == [105, 102]) then (
        some true
      ) else (
        bif ((a0 : Str) == [116, 104, 101, 110]) then (
          some true
        ) else (
          bif ((a0 : Str) == [101, 108, 115, 101]) then (
            some true
          ) else (
            bif ((a0 : Str) == [102, 111, 114]) then (
              some true
            ) else (
              bif ((a0 : Str) == [100, 111]) then (
                some true
              ) else (
                Option.bind (xCV N a0) fun r1 =>
                some (decide ((r1 : Int) ≥ 0))
              )
            )
          )
        )
      )
    )
  )
def xAW (a0 : Str) : List Arg := [.val (.v false [.str a0])]
def xAn (r : Bool) : CallO := ⟨.v false [.bool r], [], []⟩
def xC1 (N : Nat) (a0 : Str) : Option (Bool) :=
  Option.bind (xGH N a0) fun r1 =>
  bif r1 then (
    Option.bind (xEI N a0) fun r2 =>
    some (!r2)
  ) else (
    some false
  )
def xCh (a0 : Psr) : List Arg := [.box [.sl .ro .tok (Psr.list a0), .int .i64 (Psr.pos a0), .int .i64 (Psr.bad a0)]]
def xA9 (r : Exp × Psr) : CallO := ⟨.v true [.int .i64 (Exp.kind r.1), .int .i64 (Exp.n r.1), .str (Exp.text r.1), .sl .own .exp (Exp.args r.1)], [[.sl .ro .tok (Psr.list r.2), .int .i64 (Psr.pos r.2), .int .i64 (Psr.bad r.2)]], []⟩
def xB5 (N : Nat) (a0 : Psr) : Option (Exp × Psr) :=
  bif (decide (((Psr.bad a0) : Int) < 0)) then (
    some ((Exp.mk 0 0 [] []), (Psr.mk (Psr.list a0) (Psr.pos a0) (Psr.pos a0)))
  ) else (
    some ((Exp.mk 0 0 [] []), a0)
  )
def xC6 (a0 : Psr) : List Arg := [.box [.sl .ro .tok (Psr.list a0), .int .i64 (Psr.pos a0), .int .i64 (Psr.bad a0)]]
def xCi (r : Str × Psr) : CallO := ⟨.v false [.str r.1], [[.sl .ro .tok (Psr.list r.2), .int .i64 (Psr.pos r.2), .int .i64 (Psr.bad r.2)]], []⟩
def xB6 (N : Nat) (a0 : Psr) : Option (Str × Psr) :=
  Option.bind (xBG N a0) fun r1 =>
  bif (((Tok.kind r1.1) : Int) != 1) then (
    Option.bind (xB5 N r1.2) fun r2 =>
    some ([], r2.2)
  ) else (
    Option.bind (xC1 N (Tok.text r1.1)) fun r2 =>
    bif (!r2) then (
      Option.bind (xB5 N r1.2) fun r3 =>
      some ([], r3.2)
    ) else (
      some ((Tok.text r1.1), (Psr.mk (Psr.list r1.2) (IntKind.i64.wrap ((Psr.pos r1.2) + 1)) (Psr.bad r1.2)))
    )
  )
def xDj (a0 : Tok) (a1 : Str) : List Arg := [.val (.v true [.int .i64 (Tok.kind a0), .int .i64 (Tok.n a0), .int .i64 (Tok.pos a0), .str (Tok.text a0)]), .val (.v false [.str a1])]
def xB3 (r : Bool) : CallO := ⟨.v false [.bool r], [], []⟩
def xEV (N : Nat) (a0 : Tok) (a1 : Str) : Option (Bool) :=
  bif (((Tok.kind a0) : Int) == 4) then (
    some (((Tok.text a0) : Str) == a1)
  ) else (
    some false
  )
def xA3 (a0 : Psr) (a1 : Str) : List Arg := [.box [.sl .ro .tok (Psr.list a0), .int .i64 (Psr.pos a0), .int .i64 (Psr.bad a0)], .val (.v false [.str a1])]
def xAy (r : Psr) : CallO := ⟨.tup [], [[.sl .ro .tok (Psr.list r), .int .i64 (Psr.pos r), .int .i64 (Psr.bad r)]], []⟩
def xAN (N : Nat) (a0 : Psr) (a1 : Str) : Option (Psr) :=
  Option.bind (xBG N a0) fun r1 =>
  Option.bind (xDR N r1.1 a1) fun r2 =>
  bif r2 then (
    some (Psr.mk (Psr.list r1.2) (IntKind.i64.wrap ((Psr.pos r1.2) + 1)) (Psr.bad r1.2))
  ) else (
    Option.bind (xBG N r1.2) fun r3 =>
    Option.bind (xEV N r3.1 a1) fun r4 =>
    bif r4 then (
      some (Psr.mk (Psr.list r3.2) (IntKind.i64.wrap ((Psr.pos r3.2) + 1)) (Psr.bad r3.2))
    ) else (
      Option.bind (xB5 N r3.2) fun r5 =>
      some r5.2
    )
  )
def xAm (a0 : Psr) (a1 : Str) : List Arg := [.box [.sl .ro .tok (Psr.list a0), .int .i64 (Psr.pos a0), .int .i64 (Psr.bad a0)], .val (.v false [.str a1])]
def xAd (r : Bool × Psr) : CallO := ⟨.v false [.bool r.1], [[.sl .ro .tok (Psr.list r.2), .int .i64 (Psr.pos r.2), .int .i64 (Psr.bad r.2)]], []⟩
def xAR (N : Nat) (a0 : Psr) (a1 : Str) : Option (Bool × Psr) :=
  Option.bind (xBG N a0) fun r1 =>
  Option.bind (xEV N r1.1 a1) fun r2 =>
  bif r2 then (
    some (true, (Psr.mk (Psr.list r1.2) (IntKind.i64.wrap ((Psr.pos r1.2) + 1)) (Psr.bad r1.2)))
  ) else (
    some (false, r1.2)
  )
def xDk (a0 : Int) : List Arg := [.val (.v false [.int .i64 a0])]
def xB4 (r : Str) : CallO := ⟨.v false [.str r], [], []⟩
def xEb (N : Nat) (a0 : Int) : Option (Str) :=
  Option.bind (xEK N a0 1 5) fun r1 =>
  bif (!r1) then (
    some [63]
  ) else (
    if (0 : Int) ≤ (IntKind.i64.wrap (a0 - 1)) ∧ (IntKind.i64.wrap (a0 - 1)) < (List.length [[43], [45], [42], [60], [61, 61]]) then
    some (List.getD [[43], [45], [42], [60], [61, 61]] (Int.toNat (IntKind.i64.wrap (a0 - 1))) Ty.str.dflt)
    else none
  )
def xA2 (a0 : Psr) : List Arg := [.box [.sl .ro .tok (Psr.list a0), .int .i64 (Psr.pos a0), .int .i64 (Psr.bad a0)]]
def xAX (r : Exp × Psr) : CallO := ⟨.v true [.int .i64 (Exp.kind r.1), .int .i64 (Exp.n r.1), .str (Exp.text r.1), .sl .own .exp (Exp.args r.1)], [[.sl .ro .tok (Psr.list r.2), .int .i64 (Psr.pos r.2), .int .i64 (Psr.bad r.2)]], []⟩
def xCz (N : Nat) (q0 : Psr → Option (Exp × Psr)) (q1 : Psr → Option (Exp × Psr)) (q2 : Psr → Str → Option ((List Exp) × Psr)) (q3 : Psr → Option (Exp × Psr)) (q4 : Psr → Option (Exp × Psr)) (a0 : Psr) : Option (Exp × Psr) :=
  Option.bind (xBG N a0) fun r1 =>
  bif (((Tok.kind r1.1) : Int) == 2) then (
    some ((Exp.mk 1 (Tok.n r1.1) [] []), (Psr.mk (Psr.list r1.2) (IntKind.i64.wrap ((Psr.pos r1.2) + 1)) (Psr.bad r1.2)))
  ) else (
    bif (((Tok.kind r1.1) : Int) == 3) then (
      some ((Exp.mk 2 0 (Tok.text r1.1) []), (Psr.mk (Psr.list r1.2) (IntKind.i64.wrap ((Psr.pos r1.2) + 1)) (Psr.bad r1.2)))
    ) else (
      bif (((Tok.kind r1.1) : Int) == 1) then (
        Option.bind (xC1 N (Tok.text r1.1)) fun r2 =>
        bif r2 then (
          some ((Exp.mk 3 0 (Tok.text r1.1) []), (Psr.mk (Psr.list r1.2) (IntKind.i64.wrap ((Psr.pos r1.2) + 1)) (Psr.bad r1.2)))
        ) else (
          Option.bind (xCV N (Tok.text r1.1)) fun r3 =>
          bif (decide ((r3 : Int) ≥ 0)) then (
            Option.bind (xAN N (Psr.mk (Psr.list r1.2) (IntKind.i64.wrap ((Psr.pos r1.2) + 1)) (Psr.bad r1.2)) [40]) fun r4 =>
            Option.bind (q2 r4 [41]) fun r5 =>
            some ((Exp.mk 5 0 (Tok.text r1.1) r5.1), r5.2)
          ) else (
            Option.bind (xAR N r1.2 [91]) fun r4 =>
            bif r4.1 then (
              Option.bind (q2 r4.2 [93]) fun r5 =>
              some ((Exp.mk 4 0 [] r5.1), r5.2)
            ) else (
              Option.bind (xAR N r4.2 [40]) fun r5 =>
              bif r5.1 then (
                Option.bind (q1 r5.2) fun r6 =>
                Option.bind (xAN N r6.2 [41]) fun r7 =>
                some (r6.1, r7)
              ) else (
                Option.bind (xB5 N r5.2) fun r6 =>
                some (r6.1, r6.2)
              )
            )
          )
        )
      ) else (
        Option.bind (xAR N r1.2 [91]) fun r2 =>
        bif r2.1 then (
          Option.bind (q2 r2.2 [93]) fun r3 =>
          some ((Exp.mk 4 0 [] r3.1), r3.2)
        ) else (
          Option.bind (xAR N r2.2 [40]) fun r3 =>
          bif r3.1 then (
            Option.bind (q1 r3.2) fun r4 =>
            Option.bind (xAN N r4.2 [41]) fun r5 =>
            some (r4.1, r5)
          ) else (
            Option.bind (xB5 N r3.2) fun r4 =>
            some (r4.1, r4.2)
          )
        )
      )
    )
  )
def xAk (a0 : Psr) : List Arg := [.box [.sl .ro .tok (Psr.list a0), .int .i64 (Psr.pos a0), .int .i64 (Psr.bad a0)]]
def xAe (r : Exp × Psr) : CallO := ⟨.v true [.int .i64 (Exp.kind r.1), .int .i64 (Exp.n r.1), .str (Exp.text r.1), .sl .own .exp (Exp.args r.1)], [[.sl .ro .tok (Psr.list r.2), .int .i64 (Psr.pos r.2), .int .i64 (Psr.bad r.2)]], []⟩
def xCQ (N : Nat) (q0 : Psr → Option (Exp × Psr)) (q1 : Psr → Option (Exp × Psr)) (q2 : Psr → Str → Option ((List Exp) × Psr)) (q3 : Psr → Option (Exp × Psr)) (q4 : Psr → Option (Exp × Psr)) : Nat → (List Int) → Int → Int → Psr → Exp → Exp → Option (Exp × Psr)
  | 0, _, _, _, _, _, _ => none
  | n + 1, x115, x116, x117, b0, b2, b6 =>
    bif (decide ((x117 : Int) < x116)) then (
      if (0 : Int) ≤ x117 ∧ x117 < (List.length x115) then
      Option.bind (xEb N (List.getD x115 (Int.toNat x117) Ty.int.dflt)) fun r1 =>
      Option.bind (xAR N b0 r1) fun r2 =>
      bif r2.1 then (
        Option.bind (q4 r2.2) fun r3 =>
        some ((Exp.mk 6 (List.getD x115 (Int.toNat x117) Ty.int.dflt) [] [(Exp.re b6), (Exp.re r3.1)]), r3.2)
      ) else (
        (xCQ N q0 q1 q2 q3 q4 n x115 x116 (IntKind.i64.wrap (x117 + 1)) r2.2 b2 b6)
      )
      else none
    ) else (
      some (b6, b0)
    )
def xCA (N : Nat) (q0 : Psr → Option (Exp × Psr)) (q1 : Psr → Option (Exp × Psr)) (q2 : Psr → Str → Option ((List Exp) × Psr)) (q3 : Psr → Option (Exp × Psr)) (q4 : Psr → Option (Exp × Psr)) (a0 : Psr) : Option (Exp × Psr) :=
  Option.bind (xBG N a0) fun r1 =>
  Option.bind (xDR N r1.1 [108, 101, 116]) fun r2 =>
  bif r2 then (
    Option.bind (xB6 N (Psr.mk (Psr.list r1.2) (IntKind.i64.wrap ((Psr.pos r1.2) + 1)) (Psr.bad r1.2))) fun r3 =>
    Option.bind (xAN N r3.2 [61]) fun r4 =>
    Option.bind (q1 r4) fun r5 =>
    if 0 + List.length [(Exp.re r5.1)] ≤ Lim then
    Option.bind (xAN N r5.2 [105, 110]) fun r6 =>
    Option.bind (q1 r6) fun r7 =>
    if List.length ([] ++ [(Exp.re r5.1)]) + List.length [(Exp.re r7.1)] ≤ Lim then
    some ((Exp.mk 7 0 r3.1 (([] ++ [(Exp.re r5.1)]) ++ [(Exp.re r7.1)])), r7.2)
    else none
    else none
  ) else (
    Option.bind (xBG N r1.2) fun r3 =>
    Option.bind (xDR N r3.1 [105, 102]) fun r4 =>
    bif r4 then (
      Option.bind (q1 (Psr.mk (Psr.list r3.2) (IntKind.i64.wrap ((Psr.pos r3.2) + 1)) (Psr.bad r3.2))) fun r5 =>
      if 0 + List.length [(Exp.re r5.1)] ≤ Lim then
      Option.bind (xAN N r5.2 [116, 104, 101, 110]) fun r6 =>
      Option.bind (q1 r6) fun r7 =>
      if List.length ([] ++ [(Exp.re r5.1)]) + List.length [(Exp.re r7.1)] ≤ Lim then
      Option.bind (xAN N r7.2 [101, 108, 115, 101]) fun r8 =>
      Option.bind (q1 r8) fun r9 =>
      if List.length (([] ++ [(Exp.re r5.1)]) ++ [(Exp.re r7.1)]) + List.length [(Exp.re r9.1)] ≤ Lim then
      some ((Exp.mk 8 0 [] ((([] ++ [(Exp.re r5.1)]) ++ [(Exp.re r7.1)]) ++ [(Exp.re r9.1)])), r9.2)
      else none
      else none
      else none
    ) else (
      Option.bind (xBG N r3.2) fun r5 =>
      Option.bind (xDR N r5.1 [102, 111, 114]) fun r6 =>
      bif r6 then (
        Option.bind (xB6 N (Psr.mk (Psr.list r5.2) (IntKind.i64.wrap ((Psr.pos r5.2) + 1)) (Psr.bad r5.2))) fun r7 =>
        Option.bind (xAN N r7.2 [105, 110]) fun r8 =>
        Option.bind (q1 r8) fun r9 =>
        if 0 + List.length [(Exp.re r9.1)] ≤ Lim then
        Option.bind (xAN N r9.2 [100, 111]) fun r10 =>
        Option.bind (q1 r10) fun r11 =>
        if List.length ([] ++ [(Exp.re r9.1)]) + List.length [(Exp.re r11.1)] ≤ Lim then
        some ((Exp.mk 9 0 r7.1 (([] ++ [(Exp.re r9.1)]) ++ [(Exp.re r11.1)])), r11.2)
        else none
        else none
      ) else (
        Option.bind (q4 r5.2) fun r7 =>
        (xCQ N q0 q1 q2 q3 q4 N [4, 5] (List.length [4, 5] : Int) 0 r7.2 (Exp.mk 0 0 [] []) r7.1)
      )
    )
  )
def xCo (a0 : Psr) (a1 : Str) : List Arg := [.box [.sl .ro .tok (Psr.list a0), .int .i64 (Psr.pos a0), .int .i64 (Psr.bad a0)], .val (.v false [.str a1])]
def xBd (r : (List Exp) × Psr) : CallO := ⟨.v false [.sl .own .exp r.1], [[.sl .ro .tok (Psr.list r.2), .int .i64 (Psr.pos r.2), .int .i64 (Psr.bad r.2)]], []⟩
def xCp (N : Nat) (q0 : Psr → Option (Exp × Psr)) (q1 : Psr → Option (Exp × Psr)) (q2 : Psr → Str → Option ((List Exp) × Psr)) (q3 : Psr → Option (Exp × Psr)) (q4 : Psr → Option (Exp × Psr)) : Nat → Str → (List Exp) → Psr → Option ((List Exp) × Psr)
  | 0, _, _, _ => none
  | n + 1, x1, x5, b0 =>
    bif (decide (((Psr.bad b0) : Int) < 0)) then (
      Option.bind (q1 b0) fun r1 =>
      if List.length x5 + List.length [(Exp.re r1.1)] ≤ Lim then
      Option.bind (xAR N r1.2 x1) fun r2 =>
      bif r2.1 then (
        some ((x5 ++ [(Exp.re r1.1)]), r2.2)
      ) else (
        Option.bind (xAN N r2.2 [44]) fun r3 =>
        (xCp N q0 q1 q2 q3 q4 n x1 (x5 ++ [(Exp.re r1.1)]) r3)
      )
      else none
    ) else (
      some (x5, b0)
    )
def xCr (N : Nat) (q0 : Psr → Option (Exp × Psr)) (q1 : Psr → Option (Exp × Psr)) (q2 : Psr → Str → Option ((List Exp) × Psr)) (q3 : Psr → Option (Exp × Psr)) (q4 : Psr → Option (Exp × Psr)) (a0 : Psr) (a1 : Str) : Option ((List Exp) × Psr) :=
  Option.bind (xAR N a0 a1) fun r1 =>
  bif r1.1 then (
    some ([], r1.2)
  ) else (
    (xCp N q0 q1 q2 q3 q4 N a1 [] r1.2)
  )
def xCs (a0 : Psr) : List Arg := [.box [.sl .ro .tok (Psr.list a0), .int .i64 (Psr.pos a0), .int .i64 (Psr.bad a0)]]
def xBj (r : Exp × Psr) : CallO := ⟨.v true [.int .i64 (Exp.kind r.1), .int .i64 (Exp.n r.1), .str (Exp.text r.1), .sl .own .exp (Exp.args r.1)], [[.sl .ro .tok (Psr.list r.2), .int .i64 (Psr.pos r.2), .int .i64 (Psr.bad r.2)]], []⟩
def xB1 (N : Nat) (q0 : Psr → Option (Exp × Psr)) (q1 : Psr → Option (Exp × Psr)) (q2 : Psr → Str → Option ((List Exp) × Psr)) (q3 : Psr → Option (Exp × Psr)) (q4 : Psr → Option (Exp × Psr)) : Nat → Psr → Exp → Exp → Option (Exp × Psr)
  | 0, _, _, _ => none
  | n + 1, b0, b2, b3 =>
    Option.bind (xAR N b0 [42]) fun r1 =>
    bif r1.1 then (
      Option.bind (q0 r1.2) fun r2 =>
      (xB1 N q0 q1 q2 q3 q4 n r2.2 b2 (Exp.mk 6 3 [] [(Exp.re b3), (Exp.re r2.1)]))
    ) else (
      some (b3, r1.2)
    )
def xCa (N : Nat) (q0 : Psr → Option (Exp × Psr)) (q1 : Psr → Option (Exp × Psr)) (q2 : Psr → Str → Option ((List Exp) × Psr)) (q3 : Psr → Option (Exp × Psr)) (q4 : Psr → Option (Exp × Psr)) (a0 : Psr) : Option (Exp × Psr) :=
  Option.bind (q0 a0) fun r1 =>
  (xB1 N q0 q1 q2 q3 q4 N r1.2 (Exp.mk 0 0 [] []) r1.1)
def xDJ (a0 : Psr) : List Arg := [.box [.sl .ro .tok (Psr.list a0), .int .i64 (Psr.pos a0), .int .i64 (Psr.bad a0)]]
def xCe (r : Exp × Psr) : CallO := ⟨.v true [.int .i64 (Exp.kind r.1), .int .i64 (Exp.n r.1), .str (Exp.text r.1), .sl .own .exp (Exp.args r.1)], [[.sl .ro .tok (Psr.list r.2), .int .i64 (Psr.pos r.2), .int .i64 (Psr.bad r.2)]], []⟩
def xCd (N : Nat) (q0 : Psr → Option (Exp × Psr)) (q1 : Psr → Option (Exp × Psr)) (q2 : Psr → Str → Option ((List Exp) × Psr)) (q3 : Psr → Option (Exp × Psr)) (q4 : Psr → Option (Exp × Psr)) : Nat → Psr → Exp → Exp → Option (Exp × Psr)
  | 0, _, _, _ => none
  | n + 1, b0, b2, b3 =>
    bif (decide (((Psr.bad b0) : Int) < 0)) then (
      Option.bind (xAR N b0 [43]) fun r1 =>
      bif (!r1.1) then (
        Option.bind (xAR N r1.2 [45]) fun r2 =>
        bif (!r2.1) then (
          some (b3, r2.2)
        ) else (
          Option.bind (q3 r2.2) fun r3 =>
          (xCd N q0 q1 q2 q3 q4 n r3.2 b2 (Exp.mk 6 2 [] [(Exp.re b3), (Exp.re r3.1)]))
        )
      ) else (
        Option.bind (q3 r1.2) fun r2 =>
        (xCd N q0 q1 q2 q3 q4 n r2.2 b2 (Exp.mk 6 1 [] [(Exp.re b3), (Exp.re r2.1)]))
      )
    ) else (
      some (b3, b0)
    )
def xCR (N : Nat) (q0 : Psr → Option (Exp × Psr)) (q1 : Psr → Option (Exp × Psr)) (q2 : Psr → Str → Option ((List Exp) × Psr)) (q3 : Psr → Option (Exp × Psr)) (q4 : Psr → Option (Exp × Psr)) (a0 : Psr) : Option (Exp × Psr) :=
  Option.bind (q3 a0) fun r1 =>
  (xCd N q0 q1 q2 q3 q4 N r1.2 (Exp.mk 0 0 [] []) r1.1)
structure impl_parser_atom_rec where
  c_impl_parser_atom : Psr → Option (Exp × Psr)
  c_impl_parser_expr : Psr → Option (Exp × Psr)
  c_impl_parser_list2 : Psr → Str → Option ((List Exp) × Psr)
  c_impl_parser_product : Psr → Option (Exp × Psr)
  c_impl_parser_sum : Psr → Option (Exp × Psr)
def xAb (N : Nat) : Nat → impl_parser_atom_rec
  | 0 => ⟨fun _ => none, fun _ => none, fun _ _ => none, fun _ => none, fun _ => none⟩
  | d + 1 => ⟨xCz N (xAb N d).c_impl_parser_atom (xAb N d).c_impl_parser_expr (xAb N d).c_impl_parser_list2 (xAb N d).c_impl_parser_product (xAb N d).c_impl_parser_sum, xCA N (xAb N d).c_impl_parser_atom (xAb N d).c_impl_parser_expr (xAb N d).c_impl_parser_list2 (xAb N d).c_impl_parser_product (xAb N d).c_impl_parser_sum, xCr N (xAb N d).c_impl_parser_atom (xAb N d).c_impl_parser_expr (xAb N d).c_impl_parser_list2 (xAb N d).c_impl_parser_product (xAb N d).c_impl_parser_sum, xCa N (xAb N d).c_impl_parser_atom (xAb N d).c_impl_parser_expr (xAb N d).c_impl_parser_list2 (xAb N d).c_impl_parser_product (xAb N d).c_impl_parser_sum, xCR N (xAb N d).c_impl_parser_atom (xAb N d).c_impl_parser_expr (xAb N d).c_impl_parser_list2 (xAb N d).c_impl_parser_product (xAb N d).c_impl_parser_sum⟩
def xE7 (N : Nat) (a0 : Psr) : Option (Exp × Psr) := (xAb N N).c_impl_parser_expr a0
def xCN (a0 : Exp) : List Arg := [.val (.v true [.int .i64 (Exp.kind a0), .int .i64 (Exp.n a0), .str (Exp.text a0), .sl .ro .exp (Exp.args a0)])]
def xBt (r : Int) : CallO := ⟨.v false [.int .i64 r], [], []⟩
def xDt (N : Nat) (q0 : Exp → Option (Int)) : Nat → Int → (List Exp) → Int → Int → Option (Int)
  | 0, _, _, _, _ => none
  | n + 1, x3, x7, x8, x9 =>
    bif (decide ((x9 : Int) < x8)) then (
      if (0 : Int) ≤ x9 ∧ x9 < (List.length x7) then
      Option.bind (q0 (List.getD x7 (Int.toNat x9) Ty.exp.dflt)) fun r1 =>
      (xDt N q0 n (IntKind.i64.wrap (x3 + r1)) x7 x8 (IntKind.i64.wrap (x9 + 1)))
      else none
    ) else (
      some x3
    )
def xFd (N : Nat) (q0 : Exp → Option (Int)) (a0 : Exp) : Option (Int) :=
  (xDt N q0 N 1 (Exp.args a0) (List.length (Exp.args a0) : Int) 0)
def xDI (N : Nat) : Nat → Exp → Option (Int)
  | 0, _ => none
  | d + 1, a0 => xFd N (xDI N d) a0
def xGo (N : Nat) (a0 : Exp) : Option (Int) := xDI N N a0
def xC8 (a0 : Exp) : List Arg := [.val (.v true [.int .i64 (Exp.kind a0), .int .i64 (Exp.n a0), .str (Exp.text a0), .sl .ro .exp (Exp.args a0)])]
def xBL (r : Int) : CallO := ⟨.v false [.int .i64 r], [], []⟩
def xDU (N : Nat) (q0 : Exp → Option (Int)) : Nat → Int → (List Exp) → Int → Int → Option (Int)
  | 0, _, _, _, _ => none
  | n + 1, x3, x7, x8, x9 =>
    bif (decide ((x9 : Int) < x8)) then (
      if (0 : Int) ≤ x9 ∧ x9 < (List.length x7) then
      Option.bind (q0 (List.getD x7 (Int.toNat x9) Ty.exp.dflt)) fun r1 =>
      (xDU N q0 n (if (r1 : Int) > x3 then r1 else x3) x7 x8 (IntKind.i64.wrap (x9 + 1)))
      else none
    ) else (
      some (IntKind.i64.wrap (x3 + 1))
    )
def xFc (N : Nat) (q0 : Exp → Option (Int)) (a0 : Exp) : Option (Int) :=
  (xDU N q0 N 0 (Exp.args a0) (List.length (Exp.args a0) : Int) 0)
def xD9 (N : Nat) : Nat → Exp → Option (Int)
  | 0, _ => none
  | d + 1, a0 => xFc N (xD9 N d) a0
def xGn (N : Nat) (a0 : Exp) : Option (Int) := xD9 N N a0
def xAM (a0 : Exp) : List Arg := [.val (.v true [.int .i64 (Exp.kind a0), .int .i64 (Exp.n a0), .str (Exp.text a0), .sl .ro .exp (Exp.args a0)])]
def xAJ (r : Bool) : CallO := ⟨.v false [.bool r], [], []⟩
def xFY (N : Nat) (a0 : Exp) : Option (Bool) :=
  bif (((Exp.kind a0) : Int) == 1) then (
    Option.bind (xEK N (Exp.n a0) 0 1000000000) fun r1 =>
    bif r1 then (
      bif (((Exp.text a0) : Str) == []) then (
        some (((List.length (Exp.args a0) : Int) : Int) == 0)
      ) else (
        some false
      )
    ) else (
      some false
    )
  ) else (
    bif (((Exp.kind a0) : Int) == 2) then (
      bif (((Exp.n a0) : Int) == 0) then (
        Option.bind (xC2 N (Exp.text a0)) fun r1 =>
        bif r1 then (
          some (((List.length (Exp.args a0) : Int) : Int) == 0)
        ) else (
          some false
        )
      ) else (
        some false
      )
    ) else (
      bif (((Exp.kind a0) : Int) == 3) then (
        bif (((Exp.n a0) : Int) == 0) then (
          Option.bind (xC1 N (Exp.text a0)) fun r1 =>
          bif r1 then (
            some (((List.length (Exp.args a0) : Int) : Int) == 0)
          ) else (
            some false
          )
        ) else (
          some false
        )
      ) else (
        bif (((Exp.kind a0) : Int) == 4) then (
          bif (((Exp.n a0) : Int) == 0) then (
            bif (((Exp.text a0) : Str) == []) then (
              some (decide (((List.length (Exp.args a0) : Int) : Int) ≤ 8))
            ) else (
              some false
            )
          ) else (
            some false
          )
        ) else (
          bif (((Exp.kind a0) : Int) == 5) then (
            bif (((Exp.n a0) : Int) == 0) then (
              Option.bind (xCV N (Exp.text a0)) fun r1 =>
              some (((List.length (Exp.args a0) : Int) : Int) == r1)
            ) else (
              some false
            )
          ) else (
            bif (((Exp.kind a0) : Int) == 6) then (
              Option.bind (xEK N (Exp.n a0) 1 5) fun r1 =>
              bif r1 then (
                bif (((Exp.text a0) : Str) == []) then (
                  some (((List.length (Exp.args a0) : Int) : Int) == 2)
                ) else (
                  some false
                )
              ) else (
                some false
              )
            ) else (
              bif (((Exp.kind a0) : Int) == 7) then (
                bif (((Exp.n a0) : Int) == 0) then (
                  Option.bind (xC1 N (Exp.text a0)) fun r1 =>
                  bif r1 then (
                    some (((List.length (Exp.args a0) : Int) : Int) == 2)
                  ) else (
                    some false
                  )
                ) else (
                  some false
                )
              ) else (
                bif (((Exp.kind a0) : Int) == 9) then (
                  bif (((Exp.n a0) : Int) == 0) then (
                    Option.bind (xC1 N (Exp.text a0)) fun r1 =>
                    bif r1 then (
                      some (((List.length (Exp.args a0) : Int) : Int) == 2)
                    ) else (
                      some false
                    )
                  ) else (
                    some false
                  )
                ) else (
                  bif (((Exp.kind a0) : Int) == 8) then (
                    bif (((Exp.n a0) : Int) == 0) then (
                      bif (((Exp.text a0) : Str) == []) then (
                        some (((List.length (Exp.args a0) : Int) : Int) == 3)
                      ) else (
                        some false
                      )
                    ) else (
                      some false
                    )
                  ) else (
                    some false
                  )
                )
              )
            )
          )
        )
      )
    )
  )
def xDl (a0 : Exp) : List Arg := [.val (.v true [.int .i64 (Exp.kind a0), .int .i64 (Exp.n a0), .str (Exp.text a0), .sl .ro .exp (Exp.args a0)])]
def xBN (r : Bool) : CallO := ⟨.v false [.bool r], [], []⟩
def xDM (N : Nat) (q0 : Exp → Option (Bool)) : Nat → (List Exp) → Int → Int → Exp → Option (Bool)
  | 0, _, _, _, _ => none
  | n + 1, x6, x7, x8, b1 =>
    bif (decide ((x8 : Int) < x7)) then (
      if (0 : Int) ≤ x8 ∧ x8 < (List.length x6) then
      Option.bind (q0 (List.getD x6 (Int.toNat x8) Ty.exp.dflt)) fun r1 =>
      bif (!r1) then (
        some false
      ) else (
        (xDM N q0 n x6 x7 (IntKind.i64.wrap (x8 + 1)) b1)
      )
      else none
    ) else (
      Option.bind (xFY N b1) fun r1 =>
      some r1
    )
def xFn (N : Nat) (q0 : Exp → Option (Bool)) (a0 : Exp) : Option (Bool) :=
  (xDM N q0 N (Exp.args a0) (List.length (Exp.args a0) : Int) 0 a0)
def xEp (N : Nat) : Nat → Exp → Option (Bool)
  | 0, _ => none
  | d + 1, a0 => xFn N (xEp N d) a0
def xGG (N : Nat) (a0 : Exp) : Option (Bool) := xEp N N a0
def xBl (a0 : Exp) : List Arg := [.val (.v true [.int .i64 (Exp.kind a0), .int .i64 (Exp.n a0), .str (Exp.text a0), .sl .ro .exp (Exp.args a0)])]
def xAI (r : Bool) : CallO := ⟨.v false [.bool r], [], []⟩
def xCI (N : Nat) (a0 : Exp) : Option (Bool) :=
  Option.bind (xGo N a0) fun r1 =>
  bif (decide ((r1 : Int) ≤ 40)) then (
    Option.bind (xGn N a0) fun r2 =>
    bif (decide ((r2 : Int) ≤ 8)) then (
      Option.bind (xGG N a0) fun r3 =>
      some r3
    ) else (
      some false
    )
  ) else (
    some false
  )
def xA7 (a0 : Str) : List Arg := [.val (.v false [.str a0])]
def xA0 (r : Exp × Int) : CallO := ⟨.tup [(true, [.int .i64 (Exp.kind r.1), .int .i64 (Exp.n r.1), .str (Exp.text r.1), .sl .own .exp (Exp.args r.1)]), (false, [.int .i64 r.2])], [], []⟩
def xEi (N : Nat) (a0 : Str) : Option (Exp × Int) :=
  Option.bind (xEW N a0) fun r1 =>
  bif (decide ((r1.2 : Int) ≥ 0)) then (
    some ((Exp.mk 0 0 [] []), r1.2)
  ) else (
    Option.bind (xE7 N (Psr.mk r1.1 0 (-1))) fun r2 =>
    bif (decide (((Psr.bad r2.2) : Int) < 0)) then (
      bif (decide (((Psr.pos r2.2) : Int) < (List.length r1.1 : Int))) then (
        bif (decide (((Psr.pos r2.2) : Int) ≥ (List.length r1.1 : Int))) then (
          some ((Exp.mk 0 0 [] []), (List.length a0 : Int))
        ) else (
          bif (decide (((Psr.pos r2.2) : Int) ≥ 0)) then (
            if (0 : Int) ≤ (Psr.pos r2.2) ∧ (Psr.pos r2.2) < (List.length r1.1) then
            some ((Exp.mk 0 0 [] []), (Tok.pos (List.getD r1.1 (Int.toNat (Psr.pos r2.2)) Ty.tok.dflt)))
            else none
          ) else (
            Option.bind (xCI N r2.1) fun r3 =>
            bif (!r3) then (
              some ((Exp.mk 0 0 [] []), 0)
            ) else (
              some (r2.1, (-1))
            )
          )
        )
      ) else (
        bif (decide (((Psr.bad r2.2) : Int) ≥ (List.length r1.1 : Int))) then (
          some ((Exp.mk 0 0 [] []), (List.length a0 : Int))
        ) else (
          bif (decide (((Psr.bad r2.2) : Int) ≥ 0)) then (
            if (0 : Int) ≤ (Psr.bad r2.2) ∧ (Psr.bad r2.2) < (List.length r1.1) then
            some ((Exp.mk 0 0 [] []), (Tok.pos (List.getD r1.1 (Int.toNat (Psr.bad r2.2)) Ty.tok.dflt)))
            else none
          ) else (
            Option.bind (xCI N r2.1) fun r3 =>
            bif (!r3) then (
              some ((Exp.mk 0 0 [] []), 0)
            ) else (
              some (r2.1, (-1))
            )
          )
        )
      )
    ) else (
      bif (decide (((Psr.bad r2.2) : Int) ≥ (List.length r1.1 : Int))) then (
        some ((Exp.mk 0 0 [] []), (List.length a0 : Int))
      ) else (
        bif (decide (((Psr.bad r2.2) : Int) ≥ 0)) then (
          if (0 : Int) ≤ (Psr.bad r2.2) ∧ (Psr.bad r2.2) < (List.length r1.1) then
          some ((Exp.mk 0 0 [] []), (Tok.pos (List.getD r1.1 (Int.toNat (Psr.bad r2.2)) Ty.tok.dflt)))
          else none
        ) else (
          Option.bind (xCI N r2.1) fun r3 =>
          bif (!r3) then (
            some ((Exp.mk 0 0 [] []), 0)
          ) else (
            some (r2.1, (-1))
          )
        )
      )
    )
  )
def xGi (a0 : List Str) (a1 : Str) : List Arg := [.val (.v false [.sl .ro .str a0]), .val (.v false [.str a1])]
def xFi (r : Str) : CallO := ⟨.v false [.str r], [], []⟩
def xDS (N : Nat) : Nat → (List Str) → Str → (List Int) → Int → Option (Str)
  | 0, _, _, _, _ => none
  | n + 1, x0, x1, x5, x6 =>
    bif (decide ((x6 : Int) < (List.length x0 : Int))) then (
      bif (decide ((x6 : Int) > 0)) then (
        if List.length x5 + List.length x1 ≤ Lim then
        if (0 : Int) ≤ x6 ∧ x6 < (List.length x0) then
        if List.length (x5 ++ List.map (fun c => (c.toNat : Int)) x1) + List.length (List.getD x0 (Int.toNat x6) Ty.str.dflt) ≤ Lim then
        (xDS N n x0 x1 ((x5 ++ List.map (fun c => (c.toNat : Int)) x1) ++ List.map (fun c => (c.toNat : Int)) (List.getD x0 (Int.toNat x6) Ty.str.dflt)) (IntKind.i64.wrap (x6 + 1)))
        else none
        else none
        else none
      ) else (
        if (0 : Int) ≤ x6 ∧ x6 < (List.length x0) then
        if List.length x5 + List.length (List.getD x0 (Int.toNat x6) Ty.str.dflt) ≤ Lim then
        (xDS N n x0 x1 (x5 ++ List.map (fun c => (c.toNat : Int)) (List.getD x0 (Int.toNat x6) Ty.str.dflt)) (IntKind.i64.wrap (x6 + 1)))
        else none
        else none
      )
    ) else (
      some (List.map (fun n => UInt8.ofNat (Int.toNat n)) x5)
    )
def xG1 (N : Nat) (a0 : List Str) (a1 : Str) : Option (Str) :=
  (xDS N N a0 a1 [] 0)
def xBA (a0 : Exp) : List Arg := [.val (.v true [.int .i64 (Exp.kind a0), .int .i64 (Exp.n a0), .str (Exp.text a0), .sl .ro .exp (Exp.args a0)])]
def xA8 (r : Int) : CallO := ⟨.v false [.int .i64 r], [], []⟩
def xEO (N : Nat) (a0 : Exp) : Option (Int) :=
  bif (((Exp.kind a0) : Int) == 7) then (
    some 0
  ) else (
    bif (((Exp.kind a0) : Int) == 8) then (
      some 0
    ) else (
      bif (((Exp.kind a0) : Int) == 9) then (
        some 0
      ) else (
        bif (((Exp.kind a0) : Int) == 6) then (
          bif (((Exp.n a0) : Int) == 4) then (
            some 1
          ) else (
            bif (((Exp.n a0) : Int) == 5) then (
              some 1
            ) else (
              bif (((Exp.n a0) : Int) == 1) then (
                some 2
              ) else (
                bif (((Exp.n a0) : Int) == 2) then (
                  some 2
                ) else (
                  bif (((Exp.n a0) : Int) == 3) then (
                    some 3
                  ) else (
                    some 4
                  )
                )
              )
            )
          )
        ) else (
          some 4
        )
      )
    )
  )
def xD5 (a0 : Int) : List Arg := [.val (.v false [.int .i64 a0])]
def xDm (r : Str) : CallO := ⟨.v false [.str r], [], []⟩
def xFq (N : Nat) (a0 : Int) : Option (Str) :=
  Option.bind (xF8 N a0 1 5) fun r1 =>
  bif (!r1) then (
    some [63]
  ) else (
    if (0 : Int) ≤ a0 ∧ a0 < (List.length [[], [43], [45], [42], [60], [61, 61]]) then
    some (List.getD [[], [43], [45], [42], [60], [61, 61]] (Int.toNat a0) Ty.str.dflt)
    else none
  )
def xDQ (a0 : Exp) (a1 : Int) : List Arg := [.val (.v true [.int .i64 (Exp.kind a0), .int .i64 (Exp.n a0), .str (Exp.text a0), .sl .ro .exp (Exp.args a0)]), .val (.v false [.int .i64 a1])]
def xCP (r : Str) : CallO := ⟨.v false [.str r], [], []⟩
def xES (N : Nat) (q0 : Exp → Int → Option (Str)) (q1 : (List Exp) → Option (Str)) (q2 : Exp → Option (Str)) (a0 : Exp) (a1 : Int) : Option (Str) :=
  Option.bind (q2 a0) fun r1 =>
  Option.bind (xEO N a0) fun r2 =>
  bif (decide ((r2 : Int) < a1)) then (
    if List.length [40] + List.length r1 ≤ Lim then
    if List.length ([40] ++ r1) + List.length [41] ≤ Lim then
    some (([40] ++ r1) ++ [41])
    else none
    else none
  ) else (
    some r1
  )
def xEv (a0 : List Exp) : List Arg := [.val (.v false [.sl .ro .exp a0])]
def xDh (r : Str) : CallO := ⟨.v false [.str r], [], []⟩
def xD2 (N : Nat) (q0 : Exp → Int → Option (Str)) (q1 : (List Exp) → Option (Str)) (q2 : Exp → Option (Str)) : Nat → (List Exp) → (List Str) → Int → Option (Str)
  | 0, _, _, _ => none
  | n + 1, x0, x3, x4 =>
    bif (decide ((x4 : Int) < (List.length x0 : Int))) then (
      if (0 : Int) ≤ x4 ∧ x4 < (List.length x0) then
      Option.bind (q2 (List.getD x0 (Int.toNat x4) Ty.exp.dflt)) fun r1 =>
      if List.length x3 + List.length [r1] ≤ Lim then
      (xD2 N q0 q1 q2 n x0 (x3 ++ [r1]) (IntKind.i64.wrap (x4 + 1)))
      else none
      else none
    ) else (
      Option.bind (xG1 N x3 [44, 32]) fun r1 =>
      some r1
    )
def xFA (N : Nat) (q0 : Exp → Int → Option (Str)) (q1 : (List Exp) → Option (Str)) (q2 : Exp → Option (Str)) (a0 : List Exp) : Option (Str) :=
  (xD2 N q0 q1 q2 N a0 [] 0)
def xAS (a0 : Exp) : List Arg := [.val (.v true [.int .i64 (Exp.kind a0), .int .i64 (Exp.n a0), .str (Exp.text a0), .sl .ro .exp (Exp.args a0)])]
def xAs (r : Str) : CallO := ⟨.v false [.str r], [], []⟩
def xBQ (N : Nat) (q0 : Exp → Int → Option (Str)) (q1 : (List Exp) → Option (Str)) (q2 : Exp → Option (Str)) (a0 : Exp) : Option (Str) :=
  bif (((Exp.kind a0) : Int) == 1) then (
    Option.bind (xEj N (Exp.n a0)) fun r1 =>
    some r1
  ) else (
    bif (((Exp.kind a0) : Int) == 2) then (
      if List.length [34] + List.length (Exp.text a0) ≤ Lim then
      if List.length ([34] ++ (Exp.text a0)) + List.length [34] ≤ Lim then
      some (([34] ++ (Exp.text a0)) ++ [34])
      else none
      else none
    ) else (
      bif (((Exp.kind a0) : Int) == 3) then (
        some (Exp.text a0)
      ) else (
        bif (((Exp.kind a0) : Int) == 4) then (
          Option.bind (q1 (Exp.args a0)) fun r1 =>
          if List.length [91] + List.length r1 ≤ Lim then
          if List.length ([91] ++ r1) + List.length [93] ≤ Lim then
          some (([91] ++ r1) ++ [93])
          else none
          else none
        ) else (
          bif (((Exp.kind a0) : Int) == 5) then (
            if List.length (Exp.text a0) + List.length [40] ≤ Lim then
            Option.bind (q1 (Exp.args a0)) fun r1 =>
            if List.length ((Exp.text a0) ++ [40]) + List.length r1 ≤ Lim then
            if List.length (((Exp.text a0) ++ [40]) ++ r1) + List.length [41] ≤ Lim then
            some ((((Exp.text a0) ++ [40]) ++ r1) ++ [41])
            else none
            else none
            else none
          ) else (
            bif (((Exp.kind a0) : Int) == 7) then (
              if List.length [108, 101, 116, 32] + List.length (Exp.text a0) ≤ Lim then
              if List.length ([108, 101, 116, 32] ++ (Exp.text a0)) + List.length [32, 61, 32] ≤ Lim then
              if (0 : Int) ≤ 0 ∧ (0 : Int) < (List.length (Exp.args a0)) then
              Option.bind (q2 (List.getD (Exp.args a0) (Int.toNat 0) Ty.exp.dflt)) fun r1 =>
              if List.length (([108, 101, 116, 32] ++ (Exp.text a0)) ++ [32, 61, 32]) + List.length r1 ≤ Lim then
              if List.length ((([108, 101, 116, 32] ++ (Exp.text a0)) ++ [32, 61, 32]) ++ r1) + List.length [32, 105, 110, 32] ≤ Lim then
              if (0 : Int) ≤ 1 ∧ (1 : Int) < (List.length (Exp.args a0)) then
              Option.bind (q2 (List.getD (Exp.args a0) (Int.toNat 1) Ty.exp.dflt)) fun r2 =>
              if List.length (((([108, 101, 116, 32] ++ (Exp.text a0)) ++ [32, 61, 32]) ++ r1) ++ [32, 105, 110, 32]) + List.length r2 ≤ Lim then
              some ((((([108, 101, 116, 32] ++ (Exp.text a0)) ++ [32, 61, 32]) ++ r1) ++ [32, 105, 110, 32]) ++ r2)
              else none
              else none
              else none
              else none
              else none
              else none
              else none
            ) else (
              bif (((Exp.kind a0) : Int) == 9) then (
                if List.length [102, 111, 114, 32] + List.length (Exp.text a0) ≤ Lim then
                if List.length ([102, 111, 114, 32] ++ (Exp.text a0)) + List.length [32, 105, 110, 32] ≤ Lim then
                if (0 : Int) ≤ 0 ∧ (0 : Int) < (List.length (Exp.args a0)) then
                Option.bind (q2 (List.getD (Exp.args a0) (Int.toNat 0) Ty.exp.dflt)) fun r1 =>
                if List.length (([102, 111, 114, 32] ++ (Exp.text a0)) ++ [32, 105, 110, 32]) + List.length r1 ≤ Lim then
                if List.length ((([102, 111, 114, 32] ++ (Exp.text a0)) ++ [32, 105, 110, 32]) ++ r1) + List.length [32, 100, 111, 32] ≤ Lim then
                if (0 : Int) ≤ 1 ∧ (1 : Int) < (List.length (Exp.args a0)) then
                Option.bind (q2 (List.getD (Exp.args a0) (Int.toNat 1) Ty.exp.dflt)) fun r2 =>
                if List.length (((([102, 111, 114, 32] ++ (Exp.text a0)) ++ [32, 105, 110, 32]) ++ r1) ++ [32, 100, 111, 32]) + List.length r2 ≤ Lim then
                some ((((([102, 111, 114, 32] ++ (Exp.text a0)) ++ [32, 105, 110, 32]) ++ r1) ++ [32, 100, 111, 32]) ++ r2)
                else none
                else none
                else none
                else none
                else none
                else none
                else none
              ) else (
                bif (((Exp.kind a0) : Int) == 8) then (
                  if (0 : Int) ≤ 0 ∧ (0 : Int) < (List.length (Exp.args a0)) then
                  Option.bind (q2 (List.getD (Exp.args a0) (Int.toNat 0) Ty.exp.dflt)) fun r1 =>
                  if List.length [105, 102, 32] + List.length r1 ≤ Lim then
                  if List.length ([105, 102, 32] ++ r1) + List.length [32, 116, 104, 101, 110, 32] ≤ Lim then
                  if (0 : Int) ≤ 1 ∧ (1 : Int) < (List.length (Exp.args a0)) then
                  Option.bind (q2 (List.getD (Exp.args a0) (Int.toNat 1) Ty.exp.dflt)) fun r2 =>
                  if List.length (([105, 102, 32] ++ r1) ++ [32, 116, 104, 101, 110, 32]) + List.length r2 ≤ Lim then
                  if List.length ((([105, 102, 32] ++ r1) ++ [32, 116, 104, 101, 110, 32]) ++ r2) + List.length [32, 101, 108, 115, 101, 32] ≤ Lim then
                  if (0 : Int) ≤ 2 ∧ (2 : Int) < (List.length (Exp.args a0)) then
                  Option.bind (q2 (List.getD (Exp.args a0) (Int.toNat 2) Ty.exp.dflt)) fun r3 =>
                  if List.length (((([105, 102, 32] ++ r1) ++ [32, 116, 104, 101, 110, 32]) ++ r2) ++ [32, 101, 108, 115, 101, 32]) + List.length r3 ≤ Lim then
                  some ((((([105, 102, 32] ++ r1) ++ [32, 116, 104, 101, 110, 32]) ++ r2) ++ [32, 101, 108, 115, 101, 32]) ++ r3)
                  else none
                  else none
                  else none
                  else none
                  else none
                  else none
                  else none
                  else none
                ) else (
                  Option.bind (xEO N a0) fun r1 =>
                  bif ((r1 : Int) == 1) then (
                    if (0 : Int) ≤ 0 ∧ (0 : Int) < (List.length (Exp.args a0)) then
                    Option.bind (q0 (List.getD (Exp.args a0) (Int.toNat 0) Ty.exp.dflt) 2) fun r2 =>
                    if List.length r2 + List.length [32] ≤ Lim then
                    Option.bind (xFq N (Exp.n a0)) fun r3 =>
                    if List.length (r2 ++ [32]) + List.length r3 ≤ Lim then
                    if List.length ((r2 ++ [32]) ++ r3) + List.length [32] ≤ Lim then
                    if (0 : Int) ≤ 1 ∧ (1 : Int) < (List.length (Exp.args a0)) then
                    Option.bind (q0 (List.getD (Exp.args a0) (Int.toNat 1) Ty.exp.dflt) (IntKind.i64.wrap (r1 + 1))) fun r4 =>
                    if List.length (((r2 ++ [32]) ++ r3) ++ [32]) + List.length r4 ≤ Lim then
                    some ((((r2 ++ [32]) ++ r3) ++ [32]) ++ r4)
                    else none
                    else none
                    else none
                    else none
                    else none
                    else none
                  ) else (
                    if (0 : Int) ≤ 0 ∧ (0 : Int) < (List.length (Exp.args a0)) then
                    Option.bind (q0 (List.getD (Exp.args a0) (Int.toNat 0) Ty.exp.dflt) r1) fun r2 =>
                    if List.length r2 + List.length [32] ≤ Lim then
                    Option.bind (xFq N (Exp.n a0)) fun r3 =>
                    if List.length (r2 ++ [32]) + List.length r3 ≤ Lim then
                    if List.length ((r2 ++ [32]) ++ r3) + List.length [32] ≤ Lim then
                    if (0 : Int) ≤ 1 ∧ (1 : Int) < (List.length (Exp.args a0)) then
                    Option.bind (q0 (List.getD (Exp.args a0) (Int.toNat 1) Ty.exp.dflt) (IntKind.i64.wrap (r1 + 1))) fun r4 =>
                    if List.length (((r2 ++ [32]) ++ r3) ++ [32]) + List.length r4 ≤ Lim then
                    some ((((r2 ++ [32]) ++ r3) ++ [32]) ++ r4)
                    else none
                    else none
                    else none
                    else none
                    else none
                    else none
                  )
                )
              )
            )
          )
        )
      )
    )
  )
structure spec_l12At_rec where
  c_spec_l12At : Exp → Int → Option (Str)
  c_spec_l12List : (List Exp) → Option (Str)
  c_spec_l12Text : Exp → Option (Str)
def xAC (N : Nat) : Nat → spec_l12At_rec
  | 0 => ⟨fun _ _ => none, fun _ => none, fun _ => none⟩
  | d + 1 => ⟨xES N (xAC N d).c_spec_l12At (xAC N d).c_spec_l12List (xAC N d).c_spec_l12Text, xFA N (xAC N d).c_spec_l12At (xAC N d).c_spec_l12List (xAC N d).c_spec_l12Text, xBQ N (xAC N d).c_spec_l12At (xAC N d).c_spec_l12List (xAC N d).c_spec_l12Text⟩
def xG5 (N : Nat) (a0 : Exp) : Option (Str) := (xAC N N).c_spec_l12Text a0
def xEd (a0 : Exp) : List Arg := [.val (.v true [.int .i64 (Exp.kind a0), .int .i64 (Exp.n a0), .str (Exp.text a0), .sl .ro .exp (Exp.args a0)])]
def xDK (r : Str) : CallO := ⟨.v false [.str r], [], []⟩
def xEr (N : Nat) (a0 : Exp) : Option (Str) :=
  Option.bind (xCJ N a0) fun r1 =>
  bif (!r1) then (
    some []
  ) else (
    Option.bind (xG5 N a0) fun r2 =>
    some r2
  )
def xCF (a0 : Str) : List Arg := [.val (.v false [.str a0])]
def xBC (r : Str × Bool) : CallO := ⟨.tup [(false, [.str r.1]), (false, [.bool r.2])], [], []⟩
def xEg (N : Nat) (a0 : Str) : Option (Str × Bool) :=
  Option.bind (xEk N a0) fun r1 =>
  bif (decide ((r1.2 : Int) ≥ 0)) then (
    some ([], false)
  ) else (
    Option.bind (xEr N r1.1) fun r2 =>
    some (r2, true)
  )
def xG6 (a0 : Int) : List Arg := [.val (.v false [.int .i64 a0])]
def xGc (r : Str) : CallO := ⟨.v false [.str r], [], []⟩
def strconv_Itoa (N : Nat) (a0 : Int) : Option Str := itoaP a0
def xEU (a0 : Int) : List Arg := [.val (.v false [.int .i64 a0])]
def xEo (r : Str) : CallO := ⟨.v false [.str r], [], []⟩
def xE1 (N : Nat) (a0 : Int) : Option (Str) :=
  Option.bind (strconv_Itoa N a0) fun r1 =>
  some r1
def xG7 (a0 : List Str) (a1 : Str) : List Arg := [.val (.v false [.sl .ro .str a0]), .val (.v false [.str a1])]
def xGd (r : Str) : CallO := ⟨.v false [.str r], [], []⟩
def strings_Join (N : Nat) (a0 : List Str) (a1 : Str) : Option Str := joinP a0 a1
def xGf (a0 : List Str) (a1 : Str) : List Arg := [.val (.v false [.sl .ro .str a0]), .val (.v false [.str a1])]
def xFF (r : Str) : CallO := ⟨.v false [.str r], [], []⟩
def xGV (N : Nat) (a0 : List Str) (a1 : Str) : Option (Str) :=
  Option.bind (strings_Join N a0 a1) fun r1 =>
  some r1
def xBz (a0 : Exp) : List Arg := [.val (.v true [.int .i64 (Exp.kind a0), .int .i64 (Exp.n a0), .str (Exp.text a0), .sl .ro .exp (Exp.args a0)])]
def xA6 (r : Int) : CallO := ⟨.v false [.int .i64 r], [], []⟩
def xFh (N : Nat) (a0 : Exp) : Option (Int) :=
  bif (((Exp.kind a0) : Int) == 7) then (
    some 0
  ) else (
    bif (((Exp.kind a0) : Int) == 8) then (
      some 0
    ) else (
      bif (((Exp.kind a0) : Int) == 9) then (
        some 0
      ) else (
        bif (((Exp.kind a0) : Int) == 6) then (
          bif (((Exp.n a0) : Int) == 4) then (
            some 1
          ) else (
            bif (((Exp.n a0) : Int) == 5) then (
              some 1
            ) else (
              bif (((Exp.n a0) : Int) == 1) then (
                some 2
              ) else (
                bif (((Exp.n a0) : Int) == 2) then (
                  some 2
                ) else (
                  bif (((Exp.n a0) : Int) == 3) then (
                    some 3
                  ) else (
                    some 4
                  )
                )
              )
            )
          )
        ) else (
          some 4
        )
      )
    )
  )
def xC3 (a0 : Exp) (a1 : Int) : List Arg := [.val (.v true [.int .i64 (Exp.kind a0), .int .i64 (Exp.n a0), .str (Exp.text a0), .sl .ro .exp (Exp.args a0)]), .val (.v false [.int .i64 a1])]
def xBO (r : Str) : CallO := ⟨.v false [.str r], [], []⟩
def xEc (N : Nat) (q0 : Exp → Int → Option (Str)) (q1 : Exp → Option (Str)) (q2 : (List Exp) → Option (Str)) (a0 : Exp) (a1 : Int) : Option (Str) :=
  Option.bind (q1 a0) fun r1 =>
  Option.bind (xFh N a0) fun r2 =>
  bif (decide ((r2 : Int) < a1)) then (
    if List.length [40] + List.length r1 ≤ Lim then
    if List.length ([40] ++ r1) + List.length [41] ≤ Lim then
    some (([40] ++ r1) ++ [41])
    else none
    else none
  ) else (
    some r1
  )
def xAZ (a0 : Exp) : List Arg := [.val (.v true [.int .i64 (Exp.kind a0), .int .i64 (Exp.n a0), .str (Exp.text a0), .sl .ro .exp (Exp.args a0)])]
def xAA (r : Str) : CallO := ⟨.v false [.str r], [], []⟩
def xB7 (N : Nat) (q0 : Exp → Int → Option (Str)) (q1 : Exp → Option (Str)) (q2 : (List Exp) → Option (Str)) (a0 : Exp) : Option (Str) :=
  bif (((Exp.kind a0) : Int) == 1) then (
    Option.bind (xE1 N (Exp.n a0)) fun r1 =>
    some r1
  ) else (
    bif (((Exp.kind a0) : Int) == 2) then (
      if List.length [34] + List.length (Exp.text a0) ≤ Lim then
      if List.length ([34] ++ (Exp.text a0)) + List.length [34] ≤ Lim then
      some (([34] ++ (Exp.text a0)) ++ [34])
      else none
      else none
    ) else (
      bif (((Exp.kind a0) : Int) == 3) then (
        some (Exp.text a0)
      ) else (
        bif (((Exp.kind a0) : Int) == 4) then (
          Option.bind (q2 (Exp.args a0)) fun r1 =>
          if List.length [91] + List.length r1 ≤ Lim then
          if List.length ([91] ++ r1) + List.length [93] ≤ Lim then
          some (([91] ++ r1) ++ [93])
          else none
          else none
        ) else (
          bif (((Exp.kind a0) : Int) == 5) then (
            if List.length (Exp.text a0) + List.length [40] ≤ Lim then
            Option.bind (q2 (Exp.args a0)) fun r1 =>
            if List.length ((Exp.text a0) ++ [40]) + List.length r1 ≤ Lim then
            if List.length (((Exp.text a0) ++ [40]) ++ r1) + List.length [41] ≤ Lim then
            some ((((Exp.text a0) ++ [40]) ++ r1) ++ [41])
            else none
            else none
            else none
          ) else (
            bif (((Exp.kind a0) : Int) == 7) then (
              if List.length [108, 101, 116, 32] + List.length (Exp.text a0) ≤ Lim then
              if List.length ([108, 101, 116, 32] ++ (Exp.text a0)) + List.length [32, 61, 32] ≤ Lim then
              if (0 : Int) ≤ 0 ∧ (0 : Int) < (List.length (Exp.args a0)) then
              Option.bind (q1 (List.getD (Exp.args a0) (Int.toNat 0) Ty.exp.dflt)) fun r1 =>
              if List.length (([108, 101, 116, 32] ++ (Exp.text a0)) ++ [32, 61, 32]) + List.length r1 ≤ Lim then
              if List.length ((([108, 101, 116, 32] ++ (Exp.text a0)) ++ [32, 61, 32]) ++ r1) + List.length [32, 105, 110, 32] ≤ Lim then
              if (0 : Int) ≤ 1 ∧ (1 : Int) < (List.length (Exp.args a0)) then
              Option.bind (q1 (List.getD (Exp.args a0) (Int.toNat 1) Ty.exp.dflt)) fun r2 =>
              if List.length (((([108, 101, 116, 32] ++ (Exp.text a0)) ++ [32, 61, 32]) ++ r1) ++ [32, 105, 110, 32]) + List.length r2 ≤ Lim then
              some ((((([108, 101, 116, 32] ++ (Exp.text a0)) ++ [32, 61, 32]) ++ r1) ++ [32, 105, 110, 32]) ++ r2)
              else none
              else none
              else none
              else none
              else none
              else none
              else none
            ) else (
              bif (((Exp.kind a0) : Int) == 8) then (
                if (0 : Int) ≤ 0 ∧ (0 : Int) < (List.length (Exp.args a0)) then
                Option.bind (q1 (List.getD (Exp.args a0) (Int.toNat 0) Ty.exp.dflt)) fun r1 =>
                if List.length [105, 102, 32] + List.length r1 ≤ Lim then
                if List.length ([105, 102, 32] ++ r1) + List.length [32, 116, 104, 101, 110, 32] ≤ Lim then
                if (0 : Int) ≤ 1 ∧ (1 : Int) < (List.length (Exp.args a0)) then
                Option.bind (q1 (List.getD (Exp.args a0) (Int.toNat 1) Ty.exp.dflt)) fun r2 =>
                if List.length (([105, 102, 32] ++ r1) ++ [32, 116, 104, 101, 110, 32]) + List.length r2 ≤ Lim then
                if List.length ((([105, 102, 32] ++ r1) ++ [32, 116, 104, 101, 110, 32]) ++ r2) + List.length [32, 101, 108, 115, 101, 32] ≤ Lim then
                if (0 : Int) ≤ 2 ∧ (2 : Int) < (List.length (Exp.args a0)) then
                Option.bind (q1 (List.getD (Exp.args a0) (Int.toNat 2) Ty.exp.dflt)) fun r3 =>
                if List.length (((([105, 102, 32] ++ r1) ++ [32, 116, 104, 101, 110, 32]) ++ r2) ++ [32, 101, 108, 115, 101, 32]) + List.length r3 ≤ Lim then
                some ((((([105, 102, 32] ++ r1) ++ [32, 116, 104, 101, 110, 32]) ++ r2) ++ [32, 101, 108, 115, 101, 32]) ++ r3)
                else none
                else none
                else none
                else none
                else none
                else none
                else none
                else none
              ) else (
                bif (((Exp.kind a0) : Int) == 9) then (
                  if List.length [102, 111, 114, 32] + List.length (Exp.text a0) ≤ Lim then
                  if List.length ([102, 111, 114, 32] ++ (Exp.text a0)) + List.length [32, 105, 110, 32] ≤ Lim then
                  if (0 : Int) ≤ 0 ∧ (0 : Int) < (List.length (Exp.args a0)) then
                  Option.bind (q1 (List.getD (Exp.args a0) (Int.toNat 0) Ty.exp.dflt)) fun r1 =>
                  if List.length (([102, 111, 114, 32] ++ (Exp.text a0)) ++ [32, 105, 110, 32]) + List.length r1 ≤ Lim then
                  if List.length ((([102, 111, 114, 32] ++ (Exp.text a0)) ++ [32, 105, 110, 32]) ++ r1) + List.length [32, 100, 111, 32] ≤ Lim then
                  if (0 : Int) ≤ 1 ∧ (1 : Int) < (List.length (Exp.args a0)) then
                  Option.bind (q1 (List.getD (Exp.args a0) (Int.toNat 1) Ty.exp.dflt)) fun r2 =>
                  if List.length (((([102, 111, 114, 32] ++ (Exp.text a0)) ++ [32, 105, 110, 32]) ++ r1) ++ [32, 100, 111, 32]) + List.length r2 ≤ Lim then
                  some ((((([102, 111, 114, 32] ++ (Exp.text a0)) ++ [32, 105, 110, 32]) ++ r1) ++ [32, 100, 111, 32]) ++ r2)
                  else none
                  else none
                  else none
                  else none
                  else none
                  else none
                  else none
                ) else (
                  Option.bind (xFh N a0) fun r1 =>
                  bif ((r1 : Int) == 1) then (
                    if (0 : Int) ≤ 0 ∧ (0 : Int) < (List.length (Exp.args a0)) then
                    Option.bind (q0 (List.getD (Exp.args a0) (Int.toNat 0) Ty.exp.dflt) 2) fun r2 =>
                    if List.length r2 + List.length [32] ≤ Lim then
                    Option.bind (xEb N (Exp.n a0)) fun r3 =>
                    if List.length (r2 ++ [32]) + List.length r3 ≤ Lim then
                    if List.length ((r2 ++ [32]) ++ r3) + List.length [32] ≤ Lim then
                    if (0 : Int) ≤ 1 ∧ (1 : Int) < (List.length (Exp.args a0)) then
                    Option.bind (q0 (List.getD (Exp.args a0) (Int.toNat 1) Ty.exp.dflt) (IntKind.i64.wrap (r1 + 1))) fun r4 =>
                    if List.length (((r2 ++ [32]) ++ r3) ++ [32]) + List.length r4 ≤ Lim then
                    some ((((r2 ++ [32]) ++ r3) ++ [32]) ++ r4)
                    else none
                    else none
                    else none
                    else none
                    else none
                    else none
                  ) else (
                    if (0 : Int) ≤ 0 ∧ (0 : Int) < (List.length (Exp.args a0)) then
                    Option.bind (q0 (List.getD (Exp.args a0) (Int.toNat 0) Ty.exp.dflt) r1) fun r2 =>
                    if List.length r2 + List.length [32] ≤ Lim then
                    Option.bind (xEb N (Exp.n a0)) fun r3 =>
                    if List.length (r2 ++ [32]) + List.length r3 ≤ Lim then
                    if List.length ((r2 ++ [32]) ++ r3) + List.length [32] ≤ Lim then
                    if (0 : Int) ≤ 1 ∧ (1 : Int) < (List.length (Exp.args a0)) then
                    Option.bind (q0 (List.getD (Exp.args a0) (Int.toNat 1) Ty.exp.dflt) (IntKind.i64.wrap (r1 + 1))) fun r4 =>
                    if List.length (((r2 ++ [32]) ++ r3) ++ [32]) + List.length r4 ≤ Lim then
                    some ((((r2 ++ [32]) ++ r3) ++ [32]) ++ r4)
                    else none
                    else none
                    else none
                    else none
                    else none
                    else none
                  )
                )
              )
            )
          )
        )
      )
    )
  )
def xEq (a0 : List Exp) : List Arg := [.val (.v false [.sl .ro .exp a0])]
def xDb (r : Str) : CallO := ⟨.v false [.str r], [], []⟩
def xD0 (N : Nat) (q0 : Exp → Int → Option (Str)) (q1 : Exp → Option (Str)) (q2 : (List Exp) → Option (Str)) : Nat → (List Str) → (List Exp) → Int → Int → Option (Str)
  | 0, _, _, _, _ => none
  | n + 1, x3, x7, x8, x9 =>
    bif (decide ((x9 : Int) < x8)) then (
      if (0 : Int) ≤ x9 ∧ x9 < (List.length x7) then
      Option.bind (q1 (List.getD x7 (Int.toNat x9) Ty.exp.dflt)) fun r1 =>
      if List.length x3 + List.length [r1] ≤ Lim then
      (xD0 N q0 q1 q2 n (x3 ++ [r1]) x7 x8 (IntKind.i64.wrap (x9 + 1)))
      else none
      else none
    ) else (
      Option.bind (xGV N x3 [44, 32]) fun r1 =>
      some r1
    )
def xFy (N : Nat) (q0 : Exp → Int → Option (Str)) (q1 : Exp → Option (Str)) (q2 : (List Exp) → Option (Str)) (a0 : List Exp) : Option (Str) :=
  (xD0 N q0 q1 q2 N [] a0 (List.length a0 : Int) 0)
structure impl_enclosed_rec where
  c_impl_enclosed : Exp → Int → Option (Str)
  c_impl_source : Exp → Option (Str)
  c_impl_sources : (List Exp) → Option (Str)
def xAl (N : Nat) : Nat → impl_enclosed_rec
  | 0 => ⟨fun _ _ => none, fun _ => none, fun _ => none⟩
  | d + 1 => ⟨xEc N (xAl N d).c_impl_enclosed (xAl N d).c_impl_source (xAl N d).c_impl_sources, xB7 N (xAl N d).c_impl_enclosed (xAl N d).c_impl_source (xAl N d).c_impl_sources, xFy N (xAl N d).c_impl_enclosed (xAl N d).c_impl_source (xAl N d).c_impl_sources⟩
def xHp (N : Nat) (a0 : Exp) : Option (Str) := (xAl N N).c_impl_source a0
def xD8 (a0 : Exp) : List Arg := [.val (.v true [.int .i64 (Exp.kind a0), .int .i64 (Exp.n a0), .str (Exp.text a0), .sl .ro .exp (Exp.args a0)])]
def xDH (r : Str) : CallO := ⟨.v false [.str r], [], []⟩
def xEn (N : Nat) (a0 : Exp) : Option (Str) :=
  Option.bind (xCI N a0) fun r1 =>
  bif (!r1) then (
    some []
  ) else (
    Option.bind (xHp N a0) fun r2 =>
    some r2
  )
def xCy (a0 : Str) : List Arg := [.val (.v false [.str a0])]
def xBB (r : Str × Bool) : CallO := ⟨.tup [(false, [.str r.1]), (false, [.bool r.2])], [], []⟩
def xEa (N : Nat) (a0 : Str) : Option (Str × Bool) :=
  Option.bind (xEi N a0) fun r1 =>
  bif (decide ((r1.2 : Int) ≥ 0)) then (
    some ([], false)
  ) else (
    Option.bind (xEn N r1.1) fun r2 =>
    some (r2, true)
  )
def xBZ (a0 : Str) : List Arg := [.val (.v false [.str a0])]
def xB0 (r : Bool) : CallO := ⟨.v false [.bool r], [], []⟩
def xDz (N : Nat) (a0 : Str) : Option (Bool) :=
  bif (decide (((List.length a0 : Int) : Int) > 1048576)) then (
    some true
  ) else (
    Option.bind (xEg N a0) fun r1 =>
    Option.bind (xEa N a0) fun r2 =>
    bif (!((r2.1 : Str) == r1.1)) then (
      some false
    ) else (
      bif (!((r2.2 : Bool) == r1.2)) then (
        some false
      ) else (
        some true
      )
    )
  )
end Go.Ab
end
section
namespace Go.Ab
theorem tab_obj {P : Program} {w : World} {nm : String} {k : IntKind} {zs : List Int} (h : Lib.TabIs P w nm k zs) : ∃ (g : Nat) (o : Obj), w.heap[g]? = some o ∧ ∀ w' : World, w'.heap[g]? = some o → Lib.TabIs P w' nm k zs := by
  unfold Lib.TabIs World.var? at h
  obtain ⟨g, hg, h⟩ := Option.bind_eq_some_iff.1 h
  split at h
  · rename_i cs ty fr hh
    refine ⟨g, _, hh, fun w' hw => ?_⟩
    unfold Lib.TabIs World.var?
    rw [hg, Option.bind_some, hw]
    exact h
  · cases h
end Go.Ab
namespace Go.Ab
variable [Inhabited Lb]
open Go.Proofs Go.Shelf Go.RowKit Go.Lib
variable {P : Program} {ρ : Ren}
theorem enter_Join (L : Lays.n156 P ρ) : ∀ args w, (callFunc (ρ.f 156) args).run P w = .ok (.enter (ρ.f 156) args) w := enters_of L.f156 (by kernel_rfl) rfl
theorem enter_IndexByte (L : Lays.n137 P ρ) : ∀ args w, (callFunc (ρ.f 137) args).run P w = .ok (.enter (ρ.f 137) args) w := enters_of L.f137 (by kernel_rfl) rfl
theorem enter_HasPrefix (L : Lays.n99 P ρ) : ∀ args w, (callFunc (ρ.f 99) args).run P w = .ok (.enter (ρ.f 99) args) w := enters_of L.f99 (by kernel_rfl) rfl
theorem enter_Itoa (L : LaysM.n171 P ρ) : ∀ args w, (callFunc (ρ.f 171) args).run P w = .ok (.enter (ρ.f 171) args) w := enters_of L.f171 (by kernel_rfl) rfl
theorem itoa_of {A : World → Prop} {f : FuncId} (hc : ∀ n : Int, -9223372036854775808 ≤ n → n ≤ 9223372036854775807 → ∀ w : World, A w → Calls P f #[.int .i64 n] w fun e w' => e = .returned (.string ⟨(Lib.itoa n).toArray⟩) ∧ ∃ k os, w' = Go.Sort.grow (w.drewN k) os)
    (ht : ∀ w : World, (∀ x ∈ laidB, w.heap[x.1]? = some x.2) → A w) (n : Int) (w : World) (h0 : -9223372036854775808 ≤ n) (h1 : n ≤ 9223372036854775807) (hw : ∀ x ∈ laidB, w.heap[x.1]? = some x.2) :
    Calls P f #[.int .i64 n] w fun e w' => e = .returned (.string ⟨(Lib.itoa n).toArray⟩) ∧ Go.RowKit.Below w.heap.size w w' := by
  refine (hc n h0 h1 w (ht w hw)).mono ?_
  rintro e w' ⟨he, k, os, rfl⟩
  refine ⟨he, rfl, rfl, rfl, ?_, fun j hj => ?_⟩
  · show w.heap.size ≤ (w.heap ++ os).size
    rw [Array.size_append]; omega
  · show (w.heap ++ os)[j]? = _
    rw [Array.getElem?_append_left hj]
end Go.Ab
end
section
namespace Go.Ab
open Go.Proofs Go.Shelf Go.RowKit Go.Lib
variable {P : Program} {ρ : Ren}
def AtoiEnd (s : Str) (e : Ending) : Prop :=
  (∃ v, Lib.atoiAll s = .ok v ∧ e = .returned (.tuple #[.int .i64 v, .nilIface])) ∨ ((∀ v, Lib.atoiAll s ≠ .ok v) ∧ ∃ n t b, e = .returned (.tuple #[.int .i64 n, .iface t (.pointer (some ⟨b, 0, none⟩))]))
theorem atoi_any (L : LaysC.n172 P ρ) (s : ByteArray) (hl : s.size ≤ 1000000) (w : World) (he : (∃ t1 p1, w.var? P "strconv.ErrSyntax" = some #[.iface t1 p1]) ∧ ∃ t2 p2, w.var? P "strconv.ErrRange" = some #[.iface t2 p2]) :
    Calls P (ρ.f 172) #[.string s] w fun e w' => AtoiEnd s.data.toList e ∧ Below w.heap.size w w' := by
  obtain ⟨⟨t1, p1, h1⟩, t2, p2, h2⟩ := he
  cases hc : Lib.atoiAll s.data.toList with
  | ok v =>
    refine (Any.strconv_Atoi_ok L s (by omega) v hc w).mono ?_
    rintro e w' ⟨rfl, hw⟩
    refine ⟨.inl ⟨v, hc, rfl⟩, ?_⟩
    rcases hw with rfl | ⟨t, rfl⟩
    · exact Below.refl _ _
    · exact Lib.bytesWorld_below w _ t
  | «syntax» =>
    refine (Any.strconv_Atoi_syntax_var L s (by omega) hc t1 p1 w h1).mono ?_
    rintro e w' ⟨N, rfl, _, _, hb⟩
    exact ⟨.inr ⟨fun v h => (by rw [hc] at h; cases h), _, _, _, rfl⟩, hb⟩
  | range =>
    refine (Any.strconv_Atoi_range_var L s (by omega) hc t2 p2 w h2).mono ?_
    rintro e w' ⟨N, rfl, _, _, hb⟩
    exact ⟨.inr ⟨fun v h => (by rw [hc] at h; cases h), _, _, _, rfl⟩, hb⟩
theorem itoa_any (L : LaysM.n171 P ρ) (n : Int) (h0 : -9223372036854775808 ≤ n) (h1 : n ≤ 9223372036854775807) (w : World) (ht : Lib.TabIs P w "internal/strconv.uint64pow10" .u64 Lib.pow10Tab) :
    Calls P (ρ.f 171) #[.int .i64 n] w fun e w' => e = .returned (.string ⟨(Lib.itoa n).toArray⟩) ∧ Below w.heap.size w w' := by
  refine (Any.strconv_Itoa L n h0 h1 w ht).mono ?_
  rintro e w' ⟨he, k, os, rfl⟩
  refine ⟨he, rfl, rfl, rfl, ?_, fun j hj => ?_⟩
  · show w.heap.size ≤ (w.heap ++ os).size
    rw [Array.size_append]; omega
  · show (w.heap ++ os)[j]? = _
    rw [Array.getElem?_append_left hj]
theorem var_obj {w : World} {nm : String} {cs : Array Value} (h : w.var? P nm = some cs) : ∃ (g : Nat) (o : Obj), w.heap[g]? = some o ∧ ∀ w' : World, w'.heap[g]? = some o → w'.var? P nm = some cs := by
  unfold World.var? at h
  obtain ⟨g, hg, h⟩ := Option.bind_eq_some_iff.1 h
  split at h
  · rename_i cs ty fr hh
    refine ⟨g, _, hh, fun w' hw => ?_⟩
    unfold World.var?
    rw [hg, Option.bind_some, hw]
    exact h
  · cases h
end Go.Ab
end
section
namespace Go.Proofs
open Go.Shelf
def Tryz.lays156_ren : Go.Shelf.Ren := ⟨fun | 156 => 124 | 165 => 134 | 166 => 135 | 169 => 136 | 240 => 147 | 241 => 148 | 276 => 157 | 277 => 158 | n => n, fun | 31 => 73 | 9 => 9 | 3 => 3 | 4 => 4 | 0 => 0 | 20 => 20 | 72 => 113 | 76 => 100 | 70 => 111 | 37 => 32 | 75 => 99 | 127 => 128 | 164 => 142 | 5 => 5 | 80 => 67 | n => n, fun | n => n⟩
theorem Tryz.lays156 : Go.Proofs.Lays.n156 Tryz.prog Tryz.lays156_ren := {
  mixed := by kernel_rfl
  f156 := Tryz.func124.trans (congrArg some (by kernel_rfl))
  f165 := Tryz.func134.trans (congrArg some (by kernel_rfl))
  f166 := Tryz.func135.trans (congrArg some (by kernel_rfl))
  f169 := Tryz.func136.trans (congrArg some (by kernel_rfl))
  f240 := Tryz.func147.trans (congrArg some (by kernel_rfl))
  f241 := Tryz.func148.trans (congrArg some (by kernel_rfl))
  f276 := Tryz.func157.trans (congrArg some (by kernel_rfl))
  f277 := Tryz.func158.trans (congrArg some (by kernel_rfl))
  t0 := Tryz.underlying0
  a0 := Tryz.isAgg0
  z0 := Tryz.sizeOf0
  v0 := Tryz.zeroValue0
  t3 := Tryz.underlying3
  a3 := Tryz.isAgg3
  z3 := Tryz.sizeOf3
  v3 := Tryz.zeroValue3
  t4 := Tryz.underlying4
  a4 := Tryz.isAgg4
  z4 := Tryz.sizeOf4
  v4 := Tryz.zeroValue4
  t9 := Tryz.underlying9
  a9 := Tryz.isAgg9
  z9 := Tryz.sizeOf9
  v9 := Tryz.zeroValue9
  t20 := Tryz.underlying20
  a20 := Tryz.isAgg20
  z20 := Tryz.sizeOf20
  v20 := Tryz.zeroValue20
  t31 := Tryz.underlying73
  a31 := Tryz.isAgg73
  z31 := Tryz.sizeOf73
  v31 := Tryz.zeroValue73
  t37 := Tryz.underlying32
  a37 := Tryz.isAgg32
  z37 := Tryz.sizeOf32
  v37 := Tryz.zeroValue32
  t70 := Tryz.underlying111
  a70 := Tryz.isAgg111
  z70 := Tryz.sizeOf111
  v70 := Tryz.zeroValue111
  t72 := Tryz.underlying113
  a72 := Tryz.isAgg113
  z72 := Tryz.sizeOf113
  v72 := Tryz.zeroValue113
  t75 := Tryz.underlying99
  a75 := Tryz.isAgg99
  z75 := Tryz.sizeOf99
  v75 := Tryz.zeroValue99
  t76 := Tryz.underlying100
  a76 := Tryz.isAgg100
  z76 := Tryz.sizeOf100
  v76 := Tryz.zeroValue100
  t127 := Tryz.underlying128
  a127 := Tryz.isAgg128
  z127 := Tryz.sizeOf128
  v127 := Tryz.zeroValue128
  t164 := Tryz.underlying142
  a164 := Tryz.isAgg142
  z164 := Tryz.sizeOf142
  v164 := Tryz.zeroValue142 }
theorem Tryz.Builder_Extra_156 : Builder.Extra Tryz.prog Tryz.lays156_ren := {
  sizeBuilder := by kernel_rfl
  liesBuilder := by kernel_rfl
  t5 := Tryz.underlying5
  a5 := Tryz.isAgg5
  z5 := Tryz.sizeOf5
  v5 := Tryz.zeroValue5
  infoByte := by kernel_rfl
  cellsByte := by kernel_rfl
  sizeByte := by kernel_rfl
  neB5 := by decide }
def Tryz.lays137_ren : Go.Shelf.Ren := ⟨fun | 137 => 90 | 217 => 112 | 266 => 130 | n => n, fun | 9 => 9 | 5 => 5 | 3 => 3 | n => n, fun | n => n⟩
theorem Tryz.lays137 : Go.Proofs.Lays.n137 Tryz.prog Tryz.lays137_ren := {
  mixed := by kernel_rfl
  f137 := Tryz.func90.trans (congrArg some (by kernel_rfl))
  f217 := Tryz.func112.trans (congrArg some (by kernel_rfl))
  f266 := Tryz.func130.trans (congrArg some (by kernel_rfl))
  t3 := Tryz.underlying3
  a3 := Tryz.isAgg3
  z3 := Tryz.sizeOf3
  v3 := Tryz.zeroValue3
  t5 := Tryz.underlying5
  a5 := Tryz.isAgg5
  z5 := Tryz.sizeOf5
  v5 := Tryz.zeroValue5
  t9 := Tryz.underlying9
  a9 := Tryz.isAgg9
  z9 := Tryz.sizeOf9
  v9 := Tryz.zeroValue9 }
def Tryz.laysM171_ren : Go.Shelf.Ren := ⟨fun | 171 => 102 | 243 => 123 | 246 => 133 | 283 => 143 | 284 => 144 | 285 => 145 | 286 => 146 | 129 => 153 | 317 => 152 | 318 => 154 | 319 => 155 | 320 => 156 | 337 => 161 | 338 => 162 | n => n, fun | 3 => 3 | 9 => 9 | 2 => 2 | 4 => 4 | 171 => 122 | 0 => 0 | 53 => 123 | 37 => 32 | 5 => 5 | 173 => 126 | 212 => 137 | 51 => 138 | 20 => 20 | 213 => 139 | 46 => 104 | 232 => 150 | 233 => 151 | n => n, fun | 17 => 3 | 18 => 4 | 19 => 5 | n => n⟩
theorem Tryz.laysM171 : Go.Proofs.LaysM.n171 Tryz.prog Tryz.laysM171_ren := {
  mixed := by kernel_rfl
  f129 := Tryz.func153.trans (congrArg some (by kernel_rfl))
  f171 := Tryz.func102.trans (congrArg some (by kernel_rfl))
  f243 := Tryz.func123.trans (congrArg some (by kernel_rfl))
  f246 := Tryz.func133.trans (congrArg some (by kernel_rfl))
  f283 := Tryz.func143.trans (congrArg some (by kernel_rfl))
  f284 := Tryz.func144.trans (congrArg some (by kernel_rfl))
  f285 := Tryz.func145.trans (congrArg some (by kernel_rfl))
  f286 := Tryz.func146.trans (congrArg some (by kernel_rfl))
  f317 := Tryz.func152.trans (congrArg some (by kernel_rfl))
  f318 := Tryz.func154.trans (congrArg some (by kernel_rfl))
  f319 := Tryz.func155.trans (congrArg some (by kernel_rfl))
  f320 := Tryz.func156.trans (congrArg some (by kernel_rfl))
  f337 := Tryz.func161.trans (congrArg some (by kernel_rfl))
  f338 := Tryz.func162.trans (congrArg some (by kernel_rfl))
  t0 := Tryz.underlying0
  a0 := Tryz.isAgg0
  z0 := Tryz.sizeOf0
  v0 := Tryz.zeroValue0
  t2 := Tryz.underlying2
  a2 := Tryz.isAgg2
  z2 := Tryz.sizeOf2
  v2 := Tryz.zeroValue2
  t3 := Tryz.underlying3
  a3 := Tryz.isAgg3
  z3 := Tryz.sizeOf3
  v3 := Tryz.zeroValue3
  t4 := Tryz.underlying4
  a4 := Tryz.isAgg4
  z4 := Tryz.sizeOf4
  v4 := Tryz.zeroValue4
  t5 := Tryz.underlying5
  a5 := Tryz.isAgg5
  z5 := Tryz.sizeOf5
  v5 := Tryz.zeroValue5
  t9 := Tryz.underlying9
  a9 := Tryz.isAgg9
  z9 := Tryz.sizeOf9
  v9 := Tryz.zeroValue9
  t20 := Tryz.underlying20
  a20 := Tryz.isAgg20
  z20 := Tryz.sizeOf20
  v20 := Tryz.zeroValue20
  t37 := Tryz.underlying32
  a37 := Tryz.isAgg32
  z37 := Tryz.sizeOf32
  v37 := Tryz.zeroValue32
  t46 := Tryz.underlying104
  a46 := Tryz.isAgg104
  z46 := Tryz.sizeOf104
  v46 := Tryz.zeroValue104
  t51 := Tryz.underlying138
  a51 := Tryz.isAgg138
  z51 := Tryz.sizeOf138
  v51 := Tryz.zeroValue138
  t53 := Tryz.underlying123
  a53 := Tryz.isAgg123
  z53 := Tryz.sizeOf123
  v53 := Tryz.zeroValue123
  t171 := Tryz.underlying122
  a171 := Tryz.isAgg122
  z171 := Tryz.sizeOf122
  v171 := Tryz.zeroValue122
  t173 := Tryz.underlying126
  a173 := Tryz.isAgg126
  z173 := Tryz.sizeOf126
  v173 := Tryz.zeroValue126
  t212 := Tryz.underlying137
  a212 := Tryz.isAgg137
  z212 := Tryz.sizeOf137
  v212 := Tryz.zeroValue137
  t213 := Tryz.underlying139
  a213 := Tryz.isAgg139
  z213 := Tryz.sizeOf139
  t232 := Tryz.underlying150
  a232 := Tryz.isAgg150
  z232 := Tryz.sizeOf150
  v232 := Tryz.zeroValue150
  t233 := Tryz.underlying151
  a233 := Tryz.isAgg151
  z233 := Tryz.sizeOf151
  v233 := Tryz.zeroValue151
  g17 := by kernel_rfl
  g18 := by kernel_rfl
  g19 := by kernel_rfl
  i0 := by kernel_rfl
  i2 := by kernel_rfl
  i3 := by kernel_rfl
  i4 := by kernel_rfl
  i5 := by kernel_rfl
  i9 := by kernel_rfl
  i20 := by kernel_rfl
  i37 := by kernel_rfl
  i46 := by kernel_rfl
  i51 := by kernel_rfl
  i53 := by kernel_rfl
  i171 := by kernel_rfl
  i173 := by kernel_rfl
  i212 := by kernel_rfl
  i232 := by kernel_rfl
  i233 := by kernel_rfl
  m17 := by kernel_rfl
  m18 := by kernel_rfl
  m19 := by kernel_rfl }
def Tryz.laysC172_ren : Go.Shelf.Ren := ⟨fun | 172 => 111 | 244 => 128 | 245 => 129 | 247 => 138 | 279 => 139 | 280 => 140 | 281 => 141 | 282 => 142 | 287 => 149 | 316 => 150 | 171 => 102 | 205 => 151 | 321 => 159 | 322 => 160 | 243 => 123 | 246 => 133 | 283 => 143 | 284 => 144 | 285 => 145 | 286 => 146 | 129 => 153 | 317 => 152 | 318 => 154 | 319 => 155 | 320 => 156 | 337 => 161 | 338 => 162 | n => n, fun | 9 => 9 | 3 => 3 | 75 => 99 | 76 => 100 | 4 => 4 | 5 => 5 | 167 => 116 | 37 => 32 | 0 => 0 | 85 => 117 | 2 => 2 | 168 => 119 | 53 => 123 | 175 => 129 | 46 => 104 | 210 => 133 | 127 => 128 | 145 => 148 | 143 => 146 | 21 => 21 | 171 => 122 | 173 => 126 | 212 => 137 | 51 => 138 | 20 => 20 | 213 => 139 | 232 => 150 | 233 => 151 | 80 => 67 | n => n, fun | 15 => 1 | 16 => 2 | 17 => 3 | 18 => 4 | 19 => 5 | n => n⟩
theorem Tryz.laysC172 : Go.Proofs.LaysC.n172 Tryz.prog Tryz.laysC172_ren := {
  mixed := by kernel_rfl
  f129 := Tryz.func153.trans (congrArg some (by kernel_rfl))
  f171 := Tryz.func102.trans (congrArg some (by kernel_rfl))
  f172 := Tryz.func111.trans (congrArg some (by kernel_rfl))
  f205 := Tryz.func151.trans (congrArg some (by kernel_rfl))
  f243 := Tryz.func123.trans (congrArg some (by kernel_rfl))
  f244 := Tryz.func128.trans (congrArg some (by kernel_rfl))
  f245 := Tryz.func129.trans (congrArg some (by kernel_rfl))
  f246 := Tryz.func133.trans (congrArg some (by kernel_rfl))
  f247 := Tryz.func138.trans (congrArg some (by kernel_rfl))
  f279 := Tryz.func139.trans (congrArg some (by kernel_rfl))
  f280 := Tryz.func140.trans (congrArg some (by kernel_rfl))
  f281 := Tryz.func141.trans (congrArg some (by kernel_rfl))
  f282 := Tryz.func142.trans (congrArg some (by kernel_rfl))
  f283 := Tryz.func143.trans (congrArg some (by kernel_rfl))
  f284 := Tryz.func144.trans (congrArg some (by kernel_rfl))
  f285 := Tryz.func145.trans (congrArg some (by kernel_rfl))
  f286 := Tryz.func146.trans (congrArg some (by kernel_rfl))
  f287 := Tryz.func149.trans (congrArg some (by kernel_rfl))
  f316 := Tryz.func150.trans (congrArg some (by kernel_rfl))
  f317 := Tryz.func152.trans (congrArg some (by kernel_rfl))
  f318 := Tryz.func154.trans (congrArg some (by kernel_rfl))
  f319 := Tryz.func155.trans (congrArg some (by kernel_rfl))
  f320 := Tryz.func156.trans (congrArg some (by kernel_rfl))
  f321 := Tryz.func159.trans (congrArg some (by kernel_rfl))
  f322 := Tryz.func160.trans (congrArg some (by kernel_rfl))
  f337 := Tryz.func161.trans (congrArg some (by kernel_rfl))
  f338 := Tryz.func162.trans (congrArg some (by kernel_rfl))
  t0 := Tryz.underlying0
  a0 := Tryz.isAgg0
  z0 := Tryz.sizeOf0
  v0 := Tryz.zeroValue0
  t2 := Tryz.underlying2
  a2 := Tryz.isAgg2
  z2 := Tryz.sizeOf2
  v2 := Tryz.zeroValue2
  t3 := Tryz.underlying3
  a3 := Tryz.isAgg3
  z3 := Tryz.sizeOf3
  v3 := Tryz.zeroValue3
  t4 := Tryz.underlying4
  a4 := Tryz.isAgg4
  z4 := Tryz.sizeOf4
  v4 := Tryz.zeroValue4
  t5 := Tryz.underlying5
  a5 := Tryz.isAgg5
  z5 := Tryz.sizeOf5
  v5 := Tryz.zeroValue5
  t9 := Tryz.underlying9
  a9 := Tryz.isAgg9
  z9 := Tryz.sizeOf9
  v9 := Tryz.zeroValue9
  t20 := Tryz.underlying20
  a20 := Tryz.isAgg20
  z20 := Tryz.sizeOf20
  v20 := Tryz.zeroValue20
  t21 := Tryz.underlying21
  a21 := Tryz.isAgg21
  z21 := Tryz.sizeOf21
  v21 := Tryz.zeroValue21
  t37 := Tryz.underlying32
  a37 := Tryz.isAgg32
  z37 := Tryz.sizeOf32
  v37 := Tryz.zeroValue32
  t46 := Tryz.underlying104
  a46 := Tryz.isAgg104
  z46 := Tryz.sizeOf104
  v46 := Tryz.zeroValue104
  t51 := Tryz.underlying138
  a51 := Tryz.isAgg138
  z51 := Tryz.sizeOf138
  v51 := Tryz.zeroValue138
  t53 := Tryz.underlying123
  a53 := Tryz.isAgg123
  z53 := Tryz.sizeOf123
  v53 := Tryz.zeroValue123
  t75 := Tryz.underlying99
  a75 := Tryz.isAgg99
  z75 := Tryz.sizeOf99
  v75 := Tryz.zeroValue99
  t76 := Tryz.underlying100
  a76 := Tryz.isAgg100
  z76 := Tryz.sizeOf100
  v76 := Tryz.zeroValue100
  t85 := Tryz.underlying117
  a85 := Tryz.isAgg117
  z85 := Tryz.sizeOf117
  v85 := Tryz.zeroValue117
  t127 := Tryz.underlying128
  a127 := Tryz.isAgg128
  z127 := Tryz.sizeOf128
  v127 := Tryz.zeroValue128
  t143 := Tryz.underlying146
  a143 := Tryz.isAgg146
  z143 := Tryz.sizeOf146
  v143 := Tryz.zeroValue146
  t145 := Tryz.underlying148
  a145 := Tryz.isAgg148
  z145 := Tryz.sizeOf148
  v145 := Tryz.zeroValue148
  t167 := Tryz.underlying116
  a167 := Tryz.isAgg116
  z167 := Tryz.sizeOf116
  v167 := Tryz.zeroValue116
  t168 := Tryz.underlying119
  a168 := Tryz.isAgg119
  z168 := Tryz.sizeOf119
  v168 := Tryz.zeroValue119
  t171 := Tryz.underlying122
  a171 := Tryz.isAgg122
  z171 := Tryz.sizeOf122
  v171 := Tryz.zeroValue122
  t173 := Tryz.underlying126
  a173 := Tryz.isAgg126
  z173 := Tryz.sizeOf126
  v173 := Tryz.zeroValue126
  t175 := Tryz.underlying129
  a175 := Tryz.isAgg129
  z175 := Tryz.sizeOf129
  v175 := Tryz.zeroValue129
  t210 := Tryz.underlying133
  a210 := Tryz.isAgg133
  z210 := Tryz.sizeOf133
  v210 := Tryz.zeroValue133
  t212 := Tryz.underlying137
  a212 := Tryz.isAgg137
  z212 := Tryz.sizeOf137
  v212 := Tryz.zeroValue137
  t213 := Tryz.underlying139
  a213 := Tryz.isAgg139
  z213 := Tryz.sizeOf139
  t232 := Tryz.underlying150
  a232 := Tryz.isAgg150
  z232 := Tryz.sizeOf150
  v232 := Tryz.zeroValue150
  t233 := Tryz.underlying151
  a233 := Tryz.isAgg151
  z233 := Tryz.sizeOf151
  v233 := Tryz.zeroValue151
  g15 := by kernel_rfl
  g16 := by kernel_rfl
  g17 := by kernel_rfl
  g18 := by kernel_rfl
  g19 := by kernel_rfl
  t80 := Tryz.underlying67
  a80 := Tryz.isAgg67
  z80 := Tryz.sizeOf67
  v80 := Tryz.zeroValue67
  i0 := by kernel_rfl
  i2 := by kernel_rfl
  i3 := by kernel_rfl
  i4 := by kernel_rfl
  i5 := by kernel_rfl
  i9 := by kernel_rfl
  i20 := by kernel_rfl
  i21 := by kernel_rfl
  i37 := by kernel_rfl
  i46 := by kernel_rfl
  i51 := by kernel_rfl
  i53 := by kernel_rfl
  i75 := by kernel_rfl
  i76 := by kernel_rfl
  i80 := by kernel_rfl
  i85 := by kernel_rfl
  i127 := by kernel_rfl
  i143 := by kernel_rfl
  i145 := by kernel_rfl
  i167 := by kernel_rfl
  i168 := by kernel_rfl
  i171 := by kernel_rfl
  i173 := by kernel_rfl
  i175 := by kernel_rfl
  i210 := by kernel_rfl
  i212 := by kernel_rfl
  i232 := by kernel_rfl
  i233 := by kernel_rfl
  m15 := by kernel_rfl
  m16 := by kernel_rfl
  m17 := by kernel_rfl
  m18 := by kernel_rfl
  m19 := by kernel_rfl
  c0 := by kernel_rfl
  c2 := by kernel_rfl
  c3 := by kernel_rfl
  c4 := by kernel_rfl
  c5 := by kernel_rfl
  c9 := by kernel_rfl
  c20 := by kernel_rfl
  c21 := by kernel_rfl
  c37 := by kernel_rfl
  c46 := by kernel_rfl
  c51 := by kernel_rfl
  c53 := by kernel_rfl
  c75 := by kernel_rfl
  c76 := by kernel_rfl
  c80 := by kernel_rfl
  c85 := by kernel_rfl
  c127 := by kernel_rfl
  c143 := by kernel_rfl
  c145 := by kernel_rfl
  c167 := by kernel_rfl
  c168 := by kernel_rfl
  c171 := by kernel_rfl
  c173 := by kernel_rfl
  c175 := by kernel_rfl
  c210 := by kernel_rfl
  c212 := by kernel_rfl
  c213 := by kernel_rfl
  c232 := by kernel_rfl
  c233 := by kernel_rfl }
def Tryz.lays99_ren : Go.Shelf.Ren := ⟨fun | 99 => 92 | 206 => 113 | n => n, fun | 9 => 9 | 4 => 4 | 3 => 3 | n => n, fun | n => n⟩
theorem Tryz.lays99 : Go.Proofs.Lays.n99 Tryz.prog Tryz.lays99_ren := {
  mixed := by kernel_rfl
  f99 := Tryz.func92.trans (congrArg some (by kernel_rfl))
  f206 := Tryz.func113.trans (congrArg some (by kernel_rfl))
  t3 := Tryz.underlying3
  a3 := Tryz.isAgg3
  z3 := Tryz.sizeOf3
  v3 := Tryz.zeroValue3
  t4 := Tryz.underlying4
  a4 := Tryz.isAgg4
  z4 := Tryz.sizeOf4
  v4 := Tryz.zeroValue4
  t9 := Tryz.underlying9
  a9 := Tryz.isAgg9
  z9 := Tryz.sizeOf9
  v9 := Tryz.zeroValue9 }
end Go.Proofs
end
section
namespace Go.Ab
open Go.Proofs Go.RowKit Go.Shelf
theorem enter_parse : ∀ args w, (callFunc 89 args).run Tryz.prog w = .ok (.enter 89 args) w := enters_of Tryz.func89 (by kernel_rfl) rfl
theorem enter_Atoi : Enters Tryz.prog 111 := enters_of Tryz.func111 (by kernel_rfl) rfl
theorem enter_ItoaN : Enters Tryz.prog 102 := enters_of Tryz.func102 (by kernel_rfl) rfl
set_option maxRecDepth 100000 in
set_option maxHeartbeats 4000000 in
theorem parse_calls (s : ByteArray) (lo hi : Int) (hl : s.size ≤ 1000000) {Q : World → Prop} (hQ : ∀ w w', Q w → Below w.heap.size w w' → Q w') (ht : ∀ w, Q w → Lib.TabIs Tryz.prog w "internal/strconv.uint64pow10" .u64 Lib.pow10Tab)
    (he : ∀ w, Q w → (∃ t1 p1, w.var? Tryz.prog "strconv.ErrSyntax" = some #[.iface t1 p1]) ∧ ∃ t2 p2, w.var? Tryz.prog "strconv.ErrRange" = some #[.iface t2 p2]) (w : World) (hw : Q w) :
    Calls Tryz.prog 89 #[.string s, .int .i64 lo, .int .i64 hi] w fun e w' => e = .returned (.tuple #[.int .i64 (numOf s.data.toList lo hi).1, .bool (numOf s.data.toList lo hi).2]) ∧ Below w.heap.size w w' := by
  have hA := atoi_any Tryz.laysC172 s hl w (he w hw)
  change Calls Tryz.prog 111 _ _ _ at hA
  have e1 := enter_Atoi
  have e2 := enter_ItoaN
  by_cases hok : ∃ v, Lib.atoiAll s.data.toList = .ok v
  · obtain ⟨v, hv⟩ := hok
    obtain ⟨vb0, vb1⟩ := Lib.atoiAll_bounds hv
    have hA : Calls Tryz.prog 111 #[.string s] w fun e w' => e = .returned (.tuple #[.int .i64 v, .nilIface]) ∧ Below w.heap.size w w' := hA.mono fun e w' ⟨h, hb⟩ => ⟨by
      rcases h with ⟨v', h1, h2⟩ | ⟨h1, _⟩
      · rw [hv] at h1; cases h1; exact h2
      · exact absurd hv (h1 v), hb⟩
    have hI : ∀ W, Below w.heap.size w W → ∀ (f : Ending → World → Prop), (∀ W', Below w.heap.size w W' → f (.returned (.string ⟨(Lib.itoa v).toArray⟩)) W') → Calls Tryz.prog 102 #[.int .i64 v] W f := fun W hb f hf =>
      (itoa_any Tryz.laysM171 v vb0 vb1 W (ht W (hQ w W hw hb))).mono fun e W' ⟨h1, h2⟩ => by rw [h1]; exact hf W' (hb.trans (h2.mono hb.size))
    have hN : numOf s.data.toList lo hi = if v < lo then (0, false) else if v > hi then (0, false) else if Lib.itoa v = s.data.toList then (v, true) else (0, false) := by unfold numOf; rw [hv]
    rw [hN]
    clear hN hv
    by_cases h1 : v < lo
    · rw [if_pos h1]
      go_enter Tryz.func89, Tryz.ntmps89
      go_wp2_with (go_at_call 111; refine hA.mono ?_; rintro e W1 ⟨rfl, hb⟩)
      go_wp2
      go_ret2
      exact ⟨rfl, hb⟩
    · rw [if_neg h1]
      by_cases h2 : v > hi
      · rw [if_pos h2]
        go_enter Tryz.func89, Tryz.ntmps89
        go_wp2_with (go_at_call 111; refine hA.mono ?_; rintro e W1 ⟨rfl, hb⟩)
        go_wp2
        go_ret2
        exact ⟨rfl, hb⟩
      · rw [if_neg h2]
        go_enter Tryz.func89, Tryz.ntmps89
        go_wp2_with (go_at_call 111; refine hA.mono ?_; rintro e W1 ⟨rfl, hb⟩)
        go_wp2_with (go_at_call 102; refine hI _ (by assumption) _ ?_; intro W2 hb2)
        all_goals first
          | (go_ret2; exact ⟨rfl, hb2⟩)
          | (exfalso; simp_all [ByteArray.toList_eq]; done)
          | (exfalso; rename_i hx; rw [ByteArray.toList_eq, h] at hx; rcases hx with (hx | hx) | hx <;> first | omega | (simp at hx; done))
  · have hN : numOf s.data.toList lo hi = (0, false) := by
      unfold numOf
      cases hc : Lib.atoiAll s.data.toList with
      | ok v => exact absurd ⟨v, hc⟩ hok
      | _ => rfl
    have hA : Calls Tryz.prog 111 #[.string s] w fun e w' => (∃ n t b, e = .returned (.tuple #[.int .i64 n, .iface t (.pointer (some ⟨b, 0, none⟩))])) ∧ Below w.heap.size w w' := hA.mono fun e w' ⟨h, hb⟩ => ⟨by
      rcases h with ⟨v', h1, h2⟩ | ⟨_, h1⟩
      · exact absurd ⟨v', h1⟩ hok
      · exact h1, hb⟩
    rw [hN]
    clear hN hok
    go_enter Tryz.func89, Tryz.ntmps89
    go_wp2_with (go_at_call 111; refine hA.mono ?_; rintro e W1 ⟨⟨n, t, b, rfl⟩, hb⟩)
    go_wp2
    go_ret2
    exact ⟨rfl, hb⟩
end Go.Ab
end
section
open Go.Proofs
namespace Go.Ab.T
variable [Inhabited Lb]
abbrev AbC (f : FuncId) (a : List Arg) (r : CallO) : Prop := AbsCalls Tryz.prog f a r
abbrev W (x : Int) : Int := IntKind.i64.wrap x
abbrev Ln {α : Type} (l : List α) : Nat := List.length l
abbrev tN (x : Int) : Nat := Int.toNat x
abbrev gD {α : Type} (l : List α) (i : Nat) (d : α) : α := List.getD l i d
abbrev vd : Val := Ty.val.dflt
abbrev rd : Rowd := Ty.row.dflt
end Go.Ab.T
end
section
open Go.Proofs
namespace Go.Ab.T
set_option linter.unusedVariables false
set_option maxRecDepth 100000
variable [Inhabited Lb]
def p10 : String := ((Go.Proofs.YthbobcapimmnhaaGreatDoor.Rows.fnExactParseErrorRow.laid[2]?).map fun x => x.1).getD ""
def Tab10 : Prop := ∀ w : World, (∀ x ∈ laidB, w.heap[x.1]? = some x.2) → Lib.TabIs Tryz.prog w p10 .u64 Lib.pow10Tab
variable [Nonempty Tab10]
theorem tab10 : Tab10 := (inferInstance : Nonempty Tab10).elim fun h => h
def ErrVars : Prop := ∀ w : World, (∀ x ∈ laidB, w.heap[x.1]? = some x.2) → (∃ t1 p1, w.var? Tryz.prog "strconv.ErrSyntax" = some #[.iface t1 p1]) ∧ ∃ t2 p2, w.var? Tryz.prog "strconv.ErrRange" = some #[.iface t2 p2]
variable [Nonempty ErrVars]
theorem errVars : ErrVars := (inferInstance : Nonempty ErrVars).elim fun h => h
def tt : TT := [(3, { zero := some [.int .i64 0], ik := some .i64 }),
 (4, { zero := some [.bool false], isBool := true }),
 (5, { zero := some [.int .u8 0], ik := some .u8 }),
 (9, { zero := some [.str []], isStr := true }),
 (23, { zero := some [.sl .own .exp []], elem := some (25, .exp) }),
 (25, { sz := 4, agg := true, zero := some [.int .i64 0, .int .i64 0, .str [], .sl .own .exp []], offs := [0, 1, 2, 3], fsz := [1, 1, 1, 1] }),
 (32, { zero := some [.sl .own .byte []], elem := some (5, .byte) }),
 (37, { zero := some [.sl .own .tok []], elem := some (50, .tok) }),
 (43, { sz := 4, agg := true, zero := some [.sl .own .tok [], .int .i64 0, .int .i64 0, .int .i64 0], offs := [0, 1, 2, 3], fsz := [1, 1, 1, 1] }),
 (47, { sz := 3, agg := true, zero := some [.sl .own .tok [], .int .i64 0, .int .i64 0], offs := [0, 1, 2], fsz := [1, 1, 1] }),
 (50, { sz := 4, agg := true, zero := some [.int .i64 0, .int .i64 0, .int .i64 0, .str []], offs := [0, 1, 2, 3], fsz := [1, 1, 1, 1] }),
 (69, { zero := some [.sl .own .int []], elem := some (3, .int) }),
 (73, { zero := some [.sl .own .str []], elem := some (9, .str) }),
 (79, { sz := 3, agg := true, zero := some [.sl .own .byte [], .int .i64 0, .int .i64 0], offs := [0, 1, 2], fsz := [1, 1, 1] })]
theorem ttok : TTok Tryz.prog tt := ttChk_ok (by kernel_rfl)
theorem mix : Tryz.prog.follows .mixedOrders = true := by kernel_rfl
def F : Bool := false
def Y : Bool := true
noncomputable def rE (I : Info) (ag : List Arg) (bs : List Bool) (cs : List CallO) : Option Res := run tt (AbsCalls Tryz.prog) I 3000 false [.code I.body] ⟨zBp 0 ag, bs, cs, []⟩
noncomputable def rS (k : Nat) (I : Info) (σ : St) (bs : List Bool) (cs : List CallO) : Option Res := run tt (AbsCalls Tryz.prog) I 3000 true (stkAt k I.body) ⟨σ, bs, cs, []⟩
noncomputable def dn (r : CallO) (ob : List Prop) : Option Res := some (.done r ob)
noncomputable def st (k : Nat) (I : Info) (σ : St) (ob : List Prop) : Option Res := some (.stop (stkAt k I.body) σ ob)
def RE (fn : Func) (I : Info) (ag : List Arg) (r : CallO) : Prop := Reach Tryz.prog fn I [.code I.body] (zBp 0 ag) r
def RS (fn : Func) (I : Info) (k : Nat) (σ : St) (r : CallO) : Prop := Reach Tryz.prog fn I (stkAt k I.body) σ r
section
variable {ρ : Type} {f : FuncId} {fn : Func} {I : Info} {ag : List Arg} {bs : List Bool} {cs : List CallO} {k j : Nat} {σ σ' : St} {ob : List Prop} {ro : ρ → CallO} {x r : ρ} {q : CallO}
theorem dE (e : some x = some r) (hf : FnOk Tryz.prog f fn I) (h : rE I ag bs cs = dn (ro x) ob) (o : ∀ p ∈ ob, p) : RE fn I ag (ro r) := by
 cases e; exact Reach.done ttok mix hf h o
theorem dS (e : some x = some r) (hf : FnOk Tryz.prog f fn I) (h : rS k I σ bs cs = dn (ro x) ob) (o : ∀ p ∈ ob, p) : RS fn I k σ (ro r) := by
 cases e; exact Reach.done ttok mix hf h o
theorem tE (hf : FnOk Tryz.prog f fn I) (h : rE I ag bs cs = st k I σ ob) (o : ∀ p ∈ ob, p) (t : RS fn I k σ q) : RE fn I ag q := Reach.stop ttok mix hf h o t
theorem tS (hf : FnOk Tryz.prog f fn I) (h : rS j I σ' bs cs = st k I σ ob) (o : ∀ p ∈ ob, p) (t : RS fn I k σ q) : RS fn I j σ' q := Reach.stop ttok mix hf h o t
end
theorem oc {p : Prop} {l : List Prop} (h : p) (t : ∀ q ∈ l, q) : ∀ q ∈ p :: l, q := obs_cons h t
theorem on : ∀ q ∈ ([] : List Prop), q := obs_nil
theorem cE {α : Type} {C : Prop} {b : Bool} {x y : Option α} {r : α} (h : cond b x y = some r) (f : b = true → x = some r → C) (g : b = false → y = some r → C) : C := (cond_inv h).elim (fun h => f h.1 h.2) fun h => g h.1 h.2
theorem bE {α β : Type} {C : Prop} {o : Option α} {f : α → Option β} {r : β} (h : Option.bind o f = some r) (g : ∀ a, o = some a → f a = some r → C) : C := (bind_inv h).elim fun a h => g a h.1 h.2
theorem iE {α : Type} {C p : Prop} [Decidable p] {x : Option α} {r : α} (h : (if p then x else none) = some r) (g : p → x = some r → C) : C := (ite_inv h).elim g
theorem nE {α : Type} {C : Prop} {r : α} (h : none = some r) : C := nomatch h
noncomputable def I79 : Info := { body := (Tryz.f79.body).getD .skip, nt := 9, results := [.tmp 2], keep := [0, 4], live := [], modes := [(1, [(2, .take, false)])] }
theorem fk79 : FnOk Tryz.prog 79 Tryz.f79 I79 := ⟨Tryz.func79, by kernel_rfl, by kernel_rfl, by kernel_rfl, by kernel_rfl⟩
theorem p79_e_0 (a0 : Int) : rE I79 (xB9 a0) [Y] [] = dn (xA1 (decide ((a0 : Int) ≤ 122))) [(decide ((a0 : Int) ≥ 97)) = true] := by kernel_rfl
theorem p79_e_1 (a0 : Int) : rE I79 (xB9 a0) [F] [] = dn (xA1 false) [(decide ((a0 : Int) ≥ 97)) = false] := by kernel_rfl
theorem c79_e {N : Nat} : ∀ a0 r, xEZ N a0 = some r → RE Tryz.f79 I79 (xB9 a0) (xA1 r) := fun a0 r h =>
 cE h (fun h0 h => dE h fk79 (p79_e_0 a0) (oc h0 on)) fun h0 h =>
 dE h fk79 (p79_e_1 a0) (oc h0 on)
theorem xDp {N : Nat} {a0 : Int} {r : Bool} (h : xEZ N  a0 = some r) : AbC 79 (xB9 a0) (xA1 r) :=
 AbsCalls.of_reach fk79 rfl rfl (Nat.le_of_ble_eq_true rfl) (c79_e a0 r h)
noncomputable def I80 : Info := { body := (Tryz.f80.body).getD .skip, nt := 9, results := [.tmp 2], keep := [0, 4], live := [], modes := [(1, [(2, .take, false)])] }
theorem fk80 : FnOk Tryz.prog 80 Tryz.f80 I80 := ⟨Tryz.func80, by kernel_rfl, by kernel_rfl, by kernel_rfl, by kernel_rfl⟩
theorem p80_e_0 (a0 : Int) : rE I80 (xBU a0) [Y] [] = dn (xAV (decide ((a0 : Int) ≤ 57))) [(decide ((a0 : Int) ≥ 48)) = true] := by kernel_rfl
theorem p80_e_1 (a0 : Int) : rE I80 (xBU a0) [F] [] = dn (xAV false) [(decide ((a0 : Int) ≥ 48)) = false] := by kernel_rfl
theorem c80_e {N : Nat} : ∀ a0 r, xET N a0 = some r → RE Tryz.f80 I80 (xBU a0) (xAV r) := fun a0 r h =>
 cE h (fun h0 h => dE h fk80 (p80_e_0 a0) (oc h0 on)) fun h0 h =>
 dE h fk80 (p80_e_1 a0) (oc h0 on)
theorem xC0 {N : Nat} {a0 : Int} {r : Bool} (h : xET N  a0 = some r) : AbC 80 (xBU a0) (xAV r) :=
 AbsCalls.of_reach fk80 rfl rfl (Nat.le_of_ble_eq_true rfl) (c80_e a0 r h)
noncomputable def I72 : Info := { body := (Tryz.f72.body).getD .skip, nt := 31, results := [.tmp 2], keep := [0, 4, 6, 8, 10, 14, 22, 30, 54], live := [(5, [0, 6, 8])], modes := [(11, [(0, .take, false)])] }
theorem fk72 : FnOk Tryz.prog 72 Tryz.f72 I72 := ⟨Tryz.func72, by kernel_rfl, by kernel_rfl, by kernel_rfl, by kernel_rfl⟩
def S72_5 (x0 : Int) (x3 : Bool) (x4 : Str) : St := [(0, .v false [.int .i64 x0]), (6, .v false [.bool x3]), (8, .v false [.str x4])]
theorem p72_5_0 (x0 : Int) (x3 : Bool) (x4 : Str) : rS 5 I72 (S72_5 x0 x3 x4) [Y, Y] [] = st 5 I72 (S72_5 (W (Int.tdiv x0 10)) x3 ((List.map (fun n => UInt8.ofNat (tN n)) [(IntKind.u8.wrap ((W (48 + (W (0 - (Int.tmod x0 10)))))))]) ++ x4)) [((x0 : Int) != 0) = true, 10 ≠ (0 : Int), (decide (((Int.tmod x0 10) : Int) < 0)) = true, Ln (List.map (fun n => UInt8.ofNat (tN n)) [(IntKind.u8.wrap ((W (48 + (W (0 - (Int.tmod x0 10)))))))]) + Ln x4 ≤ Lim, 10 ≠ (0 : Int)] := by kernel_rfl
theorem p72_5_1 (x0 : Int) (x3 : Bool) (x4 : Str) : rS 5 I72 (S72_5 x0 x3 x4) [Y, F] [] = st 5 I72 (S72_5 (W (Int.tdiv x0 10)) x3 ((List.map (fun n => UInt8.ofNat (tN n)) [(IntKind.u8.wrap ((W (48 + (Int.tmod x0 10)))))]) ++ x4)) [((x0 : Int) != 0) = true, 10 ≠ (0 : Int), (decide (((Int.tmod x0 10) : Int) < 0)) = false, Ln (List.map (fun n => UInt8.ofNat (tN n)) [(IntKind.u8.wrap ((W (48 + (Int.tmod x0 10)))))]) + Ln x4 ≤ Lim, 10 ≠ (0 : Int)] := by kernel_rfl
theorem p72_5_2 (x0 : Int) (x3 : Bool) (x4 : Str) : rS 5 I72 (S72_5 x0 x3 x4) [F, Y] [] = dn (xBe ([45] ++ x4)) [((x0 : Int) != 0) = false, x3 = true, Ln [45] + Ln x4 ≤ Lim] := by kernel_rfl
theorem p72_5_3 (x0 : Int) (x3 : Bool) (x4 : Str) : rS 5 I72 (S72_5 x0 x3 x4) [F, F] [] = dn (xBe x4) [((x0 : Int) != 0) = false, x3 = false] := by kernel_rfl
theorem p72_e_4 (a0 : Int) : rE I72 (xCO a0) [Y] [] = dn (xBe [48]) [((a0 : Int) == 0) = true] := by kernel_rfl
theorem p72_e_5 (a0 : Int) : rE I72 (xCO a0) [F] [] = st 5 I72 (S72_5 a0 (decide ((a0 : Int) < 0)) []) [((a0 : Int) == 0) = false] := by kernel_rfl
theorem c72_5 {N : Nat} : ∀ n x0 x3 x4 r, xCm N n x0 x3 x4 = some r → RS Tryz.f72 I72 5 (S72_5 x0 x3 x4) (xBe r) := by
 intro n
 induction n with
 | zero => exact fun _ _ _ _ h => nE h
 | succ n ih =>
  exact fun x0 x3 x4 r h =>
   cE h (fun h0 h => cE h (fun h2 h => iE h fun h3 h => tS fk72 (p72_5_0 x0 x3 x4) (oc h0 (oc (by decide) (oc h2 (oc h3 (oc (by decide) on))))) (ih _ _ _ _ h)) fun h2 h =>
   iE h fun h3 h => tS fk72 (p72_5_1 x0 x3 x4) (oc h0 (oc (by decide) (oc h2 (oc h3 (oc (by decide) on))))) (ih _ _ _ _ h)) fun h0 h =>
   cE h (fun h1 h => iE h fun h2 h => dS h fk72 (p72_5_2 x0 x3 x4) (oc h0 (oc h1 (oc h2 on)))) fun h1 h =>
   dS h fk72 (p72_5_3 x0 x3 x4) (oc h0 (oc h1 on))
theorem c72_e {N : Nat} : ∀ a0 r, xEj N a0 = some r → RE Tryz.f72 I72 (xCO a0) (xBe r) := fun a0 r h =>
 cE h (fun h0 h => dE h fk72 (p72_e_4 a0) (oc h0 on)) fun h0 h =>
 tE fk72 (p72_e_5 a0) (oc h0 on) (c72_5 _ _ _ _ _ h)
theorem xEs {N : Nat} {a0 : Int} {r : Str} (h : xEj N  a0 = some r) : AbC 72 (xCO a0) (xBe r) :=
 AbsCalls.of_reach fk72 rfl rfl (Nat.le_of_ble_eq_true rfl) (c72_e a0 r h)
noncomputable def I107 : Info := { body := (Tryz.f107.body).getD .skip, nt := 63, results := [.tmp 4, .tmp 5], keep := [0, 2, 8, 10, 12, 14, 16, 18, 38, 60, 68, 92, 110, 122], live := [(9, [0, 12, 14, 16, 18])], modes := [(1, [(3, .take, false)]), (5, [(3, .take, false)]), (11, [(4, .take, false)])] }
theorem xGU : FnOk Tryz.prog 107 Tryz.f107 I107 := ⟨Tryz.func107, by kernel_rfl, by kernel_rfl, by kernel_rfl, by kernel_rfl⟩
def xGO (x0 : Str) (x6 : Bool) (x7 : Str) (x8 x9 : Int) : St := [(0, .v false [.str x0]), (12, .v false [.bool x6]), (14, .v false [.str x7]), (16, .v false [.int .i64 x8]), (18, .v false [.int .i64 x9])]
theorem p107_9_0 (x0 : Str) (x6 : Bool) (x7 : Str) (x8 x9 : Int) : rS 9 I107 (xGO x0 x6 x7 x8 x9) [Y, Y, Y] [] = dn (xBE (0, false)) [(decide ((x9 : Int) < (Ln x7 : Int))) = true, (0 : Int) ≤ x9 ∧ x9 < (Ln x7), (decide ((((gD x7 (tN x9) 0).toNat : Int) : Int) < 48)) = true, true = true] := by kernel_rfl
theorem p107_9_1 (x0 : Str) (x6 : Bool) (x7 : Str) (x8 x9 : Int) : rS 9 I107 (xGO x0 x6 x7 x8 x9) [Y, F, Y] [] = dn (xBE (0, false)) [(decide ((x9 : Int) < (Ln x7 : Int))) = true, (0 : Int) ≤ x9 ∧ x9 < (Ln x7), (decide ((((gD x7 (tN x9) 0).toNat : Int) : Int) < 48)) = false, (0 : Int) ≤ x9 ∧ x9 < (Ln x7), (decide ((((gD x7 (tN x9) 0).toNat : Int) : Int) > 57)) = true] := by kernel_rfl
theorem p107_9_2 (x0 : Str) (x6 : Bool) (x7 : Str) (x8 x9 : Int) : rS 9 I107 (xGO x0 x6 x7 x8 x9) [Y, F, F] [] = st 9 I107 (xGO x0 x6 x7 (W ((W (10 * x8)) + (W ((IntKind.u8.wrap (((gD x7 (tN x9) 0).toNat : Int) - 48)))))) (W (x9 + 1))) [(decide ((x9 : Int) < (Ln x7 : Int))) = true, (0 : Int) ≤ x9 ∧ x9 < (Ln x7), (decide ((((gD x7 (tN x9) 0).toNat : Int) : Int) < 48)) = false, (0 : Int) ≤ x9 ∧ x9 < (Ln x7), (decide ((((gD x7 (tN x9) 0).toNat : Int) : Int) > 57)) = false, (0 : Int) ≤ x9 ∧ x9 < (Ln x7)] := by kernel_rfl
theorem p107_9_3 (x0 : Str) (x6 : Bool) (x7 : Str) (x8 x9 : Int) (r1 : Str) : rS 9 I107 (xGO x0 x6 x7 x8 x9) [F, Y, Y] [xBe r1] = dn (xBE (0, false)) [(decide ((x9 : Int) < (Ln x7 : Int))) = false, x6 = true, AbC 72 (xCO (W (0 - x8))) (xBe r1), (!((r1 : Str) == x0)) = true] := by kernel_rfl
theorem p107_9_4 (x0 : Str) (x6 : Bool) (x7 : Str) (x8 x9 : Int) (r1 : Str) : rS 9 I107 (xGO x0 x6 x7 x8 x9) [F, Y, F] [xBe r1] = dn (xBE ((W (0 - x8)), true)) [(decide ((x9 : Int) < (Ln x7 : Int))) = false, x6 = true, AbC 72 (xCO (W (0 - x8))) (xBe r1), (!((r1 : Str) == x0)) = false] := by kernel_rfl
theorem p107_9_5 (x0 : Str) (x6 : Bool) (x7 : Str) (x8 x9 : Int) (r1 : Str) : rS 9 I107 (xGO x0 x6 x7 x8 x9) [F, F, Y] [xBe r1] = dn (xBE (0, false)) [(decide ((x9 : Int) < (Ln x7 : Int))) = false, x6 = false, AbC 72 (xCO x8) (xBe r1), (!((r1 : Str) == x0)) = true] := by kernel_rfl
theorem p107_9_6 (x0 : Str) (x6 : Bool) (x7 : Str) (x8 x9 : Int) (r1 : Str) : rS 9 I107 (xGO x0 x6 x7 x8 x9) [F, F, F] [xBe r1] = dn (xBE (x8, true)) [(decide ((x9 : Int) < (Ln x7 : Int))) = false, x6 = false, AbC 72 (xCO x8) (xBe r1), (!((r1 : Str) == x0)) = false] := by kernel_rfl
theorem p107_e_7 (a0 : Str) (a1 : Int) : rE I107 (xCM a0 a1) [Y, Y, Y, Y] [] = dn (xBE (0, false)) [(decide (((Ln a0 : Int) : Int) > 0)) = true, (0 : Int) ≤ 0 ∧ (0 : Int) < (Ln a0), ((((gD a0 (tN 0) 0).toNat : Int) : Int) == 45) = true, (0 : Int) ≤ (1 : Int) ∧ (1 : Int) ≤ (Ln a0), (decide (((Ln (List.drop (tN (1 : Int)) a0) : Int) : Int) < 1)) = true, true = true] := by kernel_rfl
theorem p107_e_8 (a0 : Str) (a1 : Int) : rE I107 (xCM a0 a1) [Y, Y, F, Y] [] = dn (xBE (0, false)) [(decide (((Ln a0 : Int) : Int) > 0)) = true, (0 : Int) ≤ 0 ∧ (0 : Int) < (Ln a0), ((((gD a0 (tN 0) 0).toNat : Int) : Int) == 45) = true, (0 : Int) ≤ (1 : Int) ∧ (1 : Int) ≤ (Ln a0), (decide (((Ln (List.drop (tN (1 : Int)) a0) : Int) : Int) < 1)) = false, (decide (((Ln (List.drop (tN (1 : Int)) a0) : Int) : Int) > a1)) = true] := by kernel_rfl
theorem p107_e_9 (a0 : Str) (a1 : Int) : rE I107 (xCM a0 a1) [Y, Y, F, F] [] = st 9 I107 (xGO a0 ((((gD a0 (tN 0) 0).toNat : Int) : Int) == 45) (List.drop (tN (1 : Int)) a0) 0 0) [(decide (((Ln a0 : Int) : Int) > 0)) = true, (0 : Int) ≤ 0 ∧ (0 : Int) < (Ln a0), ((((gD a0 (tN 0) 0).toNat : Int) : Int) == 45) = true, (0 : Int) ≤ (1 : Int) ∧ (1 : Int) ≤ (Ln a0), (decide (((Ln (List.drop (tN (1 : Int)) a0) : Int) : Int) < 1)) = false, (decide (((Ln (List.drop (tN (1 : Int)) a0) : Int) : Int) > a1)) = false] := by kernel_rfl
theorem p107_e_10 (a0 : Str) (a1 : Int) : rE I107 (xCM a0 a1) [Y, F, Y, Y] [] = dn (xBE (0, false)) [(decide (((Ln a0 : Int) : Int) > 0)) = true, (0 : Int) ≤ 0 ∧ (0 : Int) < (Ln a0), ((((gD a0 (tN 0) 0).toNat : Int) : Int) == 45) = false, (decide (((Ln a0 : Int) : Int) < 1)) = true, true = true] := by kernel_rfl
theorem p107_e_11 (a0 : Str) (a1 : Int) : rE I107 (xCM a0 a1) [Y, F, F, Y] [] = dn (xBE (0, false)) [(decide (((Ln a0 : Int) : Int) > 0)) = true, (0 : Int) ≤ 0 ∧ (0 : Int) < (Ln a0), ((((gD a0 (tN 0) 0).toNat : Int) : Int) == 45) = false, (decide (((Ln a0 : Int) : Int) < 1)) = false, (decide (((Ln a0 : Int) : Int) > a1)) = true] := by kernel_rfl
theorem p107_e_12 (a0 : Str) (a1 : Int) : rE I107 (xCM a0 a1) [Y, F, F, F] [] = st 9 I107 (xGO a0 ((((gD a0 (tN 0) 0).toNat : Int) : Int) == 45) a0 0 0) [(decide (((Ln a0 : Int) : Int) > 0)) = true, (0 : Int) ≤ 0 ∧ (0 : Int) < (Ln a0), ((((gD a0 (tN 0) 0).toNat : Int) : Int) == 45) = false, (decide (((Ln a0 : Int) : Int) < 1)) = false, (decide (((Ln a0 : Int) : Int) > a1)) = false] := by kernel_rfl
theorem p107_e_13 (a0 : Str) (a1 : Int) : rE I107 (xCM a0 a1) [F, F, Y, Y] [] = dn (xBE (0, false)) [(decide (((Ln a0 : Int) : Int) > 0)) = false, false = false, (decide (((Ln a0 : Int) : Int) < 1)) = true, true = true] := by kernel_rfl
theorem p107_e_14 (a0 : Str) (a1 : Int) : rE I107 (xCM a0 a1) [F, F, F, Y] [] = dn (xBE (0, false)) [(decide (((Ln a0 : Int) : Int) > 0)) = false, false = false, (decide (((Ln a0 : Int) : Int) < 1)) = false, (decide (((Ln a0 : Int) : Int) > a1)) = true] := by kernel_rfl
theorem p107_e_15 (a0 : Str) (a1 : Int) : rE I107 (xCM a0 a1) [F, F, F, F] [] = st 9 I107 (xGO a0 false a0 0 0) [(decide (((Ln a0 : Int) : Int) > 0)) = false, false = false, (decide (((Ln a0 : Int) : Int) < 1)) = false, (decide (((Ln a0 : Int) : Int) > a1)) = false] := by kernel_rfl
theorem c107_9 {N : Nat} : ∀ n x0 x6 x7 x8 x9 r, xDa N n x0 x6 x7 x8 x9 = some r → RS Tryz.f107 I107 9 (xGO x0 x6 x7 x8 x9) (xBE r) := by
 intro n
 induction n with
 | zero => exact fun _ _ _ _ _ _ h => nE h
 | succ n ih =>
  exact fun x0 x6 x7 x8 x9 r h =>
   cE h (fun h0 h => iE h fun h1 h => cE h (fun h2 h => dS h xGU (p107_9_0 x0 x6 x7 x8 x9) (oc h0 (oc h1 (oc h2 (oc rfl on))))) fun h2 h =>
   cE h (fun h4 h => dS h xGU (p107_9_1 x0 x6 x7 x8 x9) (oc h0 (oc h1 (oc h2 (oc h1 (oc h4 on)))))) fun h4 h =>
   tS xGU (p107_9_2 x0 x6 x7 x8 x9) (oc h0 (oc h1 (oc h2 (oc h1 (oc h4 (oc h1 on)))))) (ih _ _ _ _ _ _ h)) fun h0 h =>
   cE h (fun h1 h => bE h fun r1 h2 h => cE h (fun h3 h => dS h xGU (p107_9_3 x0 x6 x7 x8 x9 r1) (oc h0 (oc h1 (oc (xEs h2) (oc h3 on))))) fun h3 h =>
   dS h xGU (p107_9_4 x0 x6 x7 x8 x9 r1) (oc h0 (oc h1 (oc (xEs h2) (oc h3 on))))) fun h1 h =>
   bE h fun r1 h2 h => cE h (fun h3 h => dS h xGU (p107_9_5 x0 x6 x7 x8 x9 r1) (oc h0 (oc h1 (oc (xEs h2) (oc h3 on))))) fun h3 h =>
   dS h xGU (p107_9_6 x0 x6 x7 x8 x9 r1) (oc h0 (oc h1 (oc (xEs h2) (oc h3 on))))
theorem c107_e {N : Nat} : ∀ a0 a1 r, xF9 N a0 a1 = some r → RE Tryz.f107 I107 (xCM a0 a1) (xBE r) := fun a0 a1 r h =>
 cE h (fun h0 h => iE h fun h1 h => cE h (fun h2 h => iE h fun h3 h => cE h (fun h4 h => dE h xGU (p107_e_7 a0 a1) (oc h0 (oc h1 (oc h2 (oc h3 (oc h4 (oc rfl on))))))) fun h4 h =>
 cE h (fun h5 h => dE h xGU (p107_e_8 a0 a1) (oc h0 (oc h1 (oc h2 (oc h3 (oc h4 (oc h5 on))))))) fun h5 h =>
 tE xGU (p107_e_9 a0 a1) (oc h0 (oc h1 (oc h2 (oc h3 (oc h4 (oc h5 on)))))) (c107_9 _ _ _ _ _ _ _ h)) fun h2 h =>
 cE h (fun h3 h => dE h xGU (p107_e_10 a0 a1) (oc h0 (oc h1 (oc h2 (oc h3 (oc rfl on)))))) fun h3 h =>
 cE h (fun h4 h => dE h xGU (p107_e_11 a0 a1) (oc h0 (oc h1 (oc h2 (oc h3 (oc h4 on)))))) fun h4 h =>
 tE xGU (p107_e_12 a0 a1) (oc h0 (oc h1 (oc h2 (oc h3 (oc h4 on))))) (c107_9 _ _ _ _ _ _ _ h)) fun h0 h =>
 cE h (fun h2 h => dE h xGU (p107_e_13 a0 a1) (oc h0 (oc rfl (oc h2 (oc rfl on))))) fun h2 h =>
 cE h (fun h3 h => dE h xGU (p107_e_14 a0 a1) (oc h0 (oc rfl (oc h2 (oc h3 on))))) fun h3 h =>
 tE xGU (p107_e_15 a0 a1) (oc h0 (oc rfl (oc h2 (oc h3 on)))) (c107_9 _ _ _ _ _ _ _ h)
theorem spec_l1Read_ok {N : Nat} {a0 : Str} {a1 : Int} {r : Int × Bool} (h : xF9 N  a0 a1 = some r) : AbC 107 (xCM a0 a1) (xBE r) :=
 AbsCalls.of_reach xGU rfl rfl (Nat.le_of_ble_eq_true rfl) (c107_e a0 a1 r h)
noncomputable def I81 : Info := { body := (Tryz.f81.body).getD .skip, nt := 8, results := [.tmp 2, .tmp 3], keep := [0, 4, 6], live := [], modes := [] }
theorem fk81 : FnOk Tryz.prog 81 Tryz.f81 I81 := ⟨Tryz.func81, by kernel_rfl, by kernel_rfl, by kernel_rfl, by kernel_rfl⟩
theorem p81_e_0 (a0 : Str) (r1 : Int × Bool) : rE I81 (xC5 a0) [] [xBE r1] = dn (xBw (r1.1, r1.2)) [AbC 107 (xCM a0 12) (xBE r1)] := by kernel_rfl
theorem c81_e {N : Nat} : ∀ a0 r, xEB N a0 = some r → RE Tryz.f81 I81 (xC5 a0) (xBw r) := fun a0 r h =>
 bE h fun r1 h0 h => dE h fk81 (p81_e_0 a0 r1) (oc (spec_l1Read_ok h0) on)
theorem xD6 {N : Nat} {a0 : Str} {r : Int × Bool} (h : xEB N  a0 = some r) : AbC 81 (xC5 a0) (xBw r) :=
 AbsCalls.of_reach fk81 rfl rfl (Nat.le_of_ble_eq_true rfl) (c81_e a0 r h)
noncomputable def I82 : Info := { body := (Tryz.f82.body).getD .skip, nt := 29, results := [.tmp 2], keep := [0, 4, 6, 14, 50], live := [(2, [0, 6])], modes := [(4, [(4, .take, false), (10, .take, false)])] }
theorem fk82 : FnOk Tryz.prog 82 Tryz.f82 I82 := ⟨Tryz.func82, by kernel_rfl, by kernel_rfl, by kernel_rfl, by kernel_rfl⟩
def S82_2 (x0 : Str) (x3 : Int) : St := [(0, .v false [.str x0]), (6, .v false [.int .i64 x3])]
theorem p82_2_0 (x0 : Str) (x3 : Int) : rS 2 I82 (S82_2 x0 x3) [Y, Y, Y, Y] [] = dn (xAY false) [(decide ((x3 : Int) < (Ln x0 : Int))) = true, (0 : Int) ≤ x3 ∧ x3 < (Ln x0), (decide ((((gD x0 (tN x3) 0).toNat : Int) : Int) < 32)) = true, true = true, true = true] := by kernel_rfl
theorem p82_2_1 (x0 : Str) (x3 : Int) : rS 2 I82 (S82_2 x0 x3) [Y, F, Y, Y] [] = dn (xAY false) [(decide ((x3 : Int) < (Ln x0 : Int))) = true, (0 : Int) ≤ x3 ∧ x3 < (Ln x0), (decide ((((gD x0 (tN x3) 0).toNat : Int) : Int) < 32)) = false, (0 : Int) ≤ x3 ∧ x3 < (Ln x0), (decide ((((gD x0 (tN x3) 0).toNat : Int) : Int) > 126)) = true, true = true] := by kernel_rfl
theorem p82_2_2 (x0 : Str) (x3 : Int) : rS 2 I82 (S82_2 x0 x3) [Y, F, F, Y] [] = dn (xAY false) [(decide ((x3 : Int) < (Ln x0 : Int))) = true, (0 : Int) ≤ x3 ∧ x3 < (Ln x0), (decide ((((gD x0 (tN x3) 0).toNat : Int) : Int) < 32)) = false, (0 : Int) ≤ x3 ∧ x3 < (Ln x0), (decide ((((gD x0 (tN x3) 0).toNat : Int) : Int) > 126)) = false, (0 : Int) ≤ x3 ∧ x3 < (Ln x0), ((((gD x0 (tN x3) 0).toNat : Int) : Int) == 34) = true] := by kernel_rfl
theorem p82_2_3 (x0 : Str) (x3 : Int) : rS 2 I82 (S82_2 x0 x3) [Y, F, F, F] [] = st 2 I82 (S82_2 x0 (W (x3 + 1))) [(decide ((x3 : Int) < (Ln x0 : Int))) = true, (0 : Int) ≤ x3 ∧ x3 < (Ln x0), (decide ((((gD x0 (tN x3) 0).toNat : Int) : Int) < 32)) = false, (0 : Int) ≤ x3 ∧ x3 < (Ln x0), (decide ((((gD x0 (tN x3) 0).toNat : Int) : Int) > 126)) = false, (0 : Int) ≤ x3 ∧ x3 < (Ln x0), ((((gD x0 (tN x3) 0).toNat : Int) : Int) == 34) = false] := by kernel_rfl
theorem p82_2_4 (x0 : Str) (x3 : Int) : rS 2 I82 (S82_2 x0 x3) [F] [] = dn (xAY (decide (((Ln x0 : Int) : Int) ≤ 20))) [(decide ((x3 : Int) < (Ln x0 : Int))) = false] := by kernel_rfl
theorem p82_e_5 (a0 : Str) : rE I82 (xCD a0) [] [] = st 2 I82 (S82_2 a0 0) [] := by kernel_rfl
theorem c82_2 {N : Nat} : ∀ n x0 x3 r, xCE N n x0 x3 = some r → RS Tryz.f82 I82 2 (S82_2 x0 x3) (xAY r) := by
 intro n
 induction n with
 | zero => exact fun _ _ _ h => nE h
 | succ n ih =>
  exact fun x0 x3 r h =>
   cE h (fun h0 h => iE h fun h1 h => cE h (fun h2 h => dS h fk82 (p82_2_0 x0 x3) (oc h0 (oc h1 (oc h2 (oc rfl (oc rfl on)))))) fun h2 h =>
   cE h (fun h4 h => dS h fk82 (p82_2_1 x0 x3) (oc h0 (oc h1 (oc h2 (oc h1 (oc h4 (oc rfl on))))))) fun h4 h =>
   cE h (fun h6 h => dS h fk82 (p82_2_2 x0 x3) (oc h0 (oc h1 (oc h2 (oc h1 (oc h4 (oc h1 (oc h6 on)))))))) fun h6 h =>
   tS fk82 (p82_2_3 x0 x3) (oc h0 (oc h1 (oc h2 (oc h1 (oc h4 (oc h1 (oc h6 on))))))) (ih _ _ _ h)) fun h0 h =>
   dS h fk82 (p82_2_4 x0 x3) (oc h0 on)
theorem c82_e {N : Nat} : ∀ a0 r, xD4 N a0 = some r → RE Tryz.f82 I82 (xCD a0) (xAY r) := fun a0 r h =>
 tE fk82 (p82_e_5 a0) on (c82_2 _ _ _ _ h)
theorem xD1 {N : Nat} {a0 : Str} {r : Bool} (h : xD4 N  a0 = some r) : AbC 82 (xCD a0) (xAY r) :=
 AbsCalls.of_reach fk82 rfl rfl (Nat.le_of_ble_eq_true rfl) (c82_e a0 r h)
noncomputable def I83 : Info := { body := (Tryz.f83.body).getD .skip, nt := 32, results := [.tmp 4], keep := [0, 2, 8, 14, 16, 36, 62], live := [], modes := [(13, [(5, .take, false)])] }
theorem fk83 : FnOk Tryz.prog 83 Tryz.f83 I83 := ⟨Tryz.func83, by kernel_rfl, by kernel_rfl, by kernel_rfl, by kernel_rfl⟩
theorem p83_e_0 (a0 : Str) (a1 : Int) : rE I83 (xBp a0 a1) [Y, Y] [] = dn (xBi 1) [(0 : Int) ≤ a1 ∧ a1 < (Ln a0), ((((gD a0 (tN a1) 0).toNat : Int) : Int) == 40) = true, ((((gD a0 (tN a1) 0).toNat : Int) : Int) == 40) = true] := by kernel_rfl
theorem p83_e_1 (a0 : Str) (a1 : Int) : rE I83 (xBp a0 a1) [F, Y, Y] [] = dn (xBi 1) [(0 : Int) ≤ a1 ∧ a1 < (Ln a0), ((((gD a0 (tN a1) 0).toNat : Int) : Int) == 40) = false, ((((gD a0 (tN a1) 0).toNat : Int) : Int) == 41) = true, ((((gD a0 (tN a1) 0).toNat : Int) : Int) == 41) = true] := by kernel_rfl
theorem p83_e_2 (a0 : Str) (a1 : Int) : rE I83 (xBp a0 a1) [F, F, Y, Y] [] = dn (xBi 1) [(0 : Int) ≤ a1 ∧ a1 < (Ln a0), ((((gD a0 (tN a1) 0).toNat : Int) : Int) == 40) = false, ((((gD a0 (tN a1) 0).toNat : Int) : Int) == 41) = false, ((((gD a0 (tN a1) 0).toNat : Int) : Int) == 91) = true, ((((gD a0 (tN a1) 0).toNat : Int) : Int) == 91) = true] := by kernel_rfl
theorem p83_e_3 (a0 : Str) (a1 : Int) : rE I83 (xBp a0 a1) [F, F, F, Y, Y] [] = dn (xBi 1) [(0 : Int) ≤ a1 ∧ a1 < (Ln a0), ((((gD a0 (tN a1) 0).toNat : Int) : Int) == 40) = false, ((((gD a0 (tN a1) 0).toNat : Int) : Int) == 41) = false, ((((gD a0 (tN a1) 0).toNat : Int) : Int) == 91) = false, ((((gD a0 (tN a1) 0).toNat : Int) : Int) == 93) = true, ((((gD a0 (tN a1) 0).toNat : Int) : Int) == 93) = true] := by kernel_rfl
theorem p83_e_4 (a0 : Str) (a1 : Int) : rE I83 (xBp a0 a1) [F, F, F, F, Y, Y] [] = dn (xBi 1) [(0 : Int) ≤ a1 ∧ a1 < (Ln a0), ((((gD a0 (tN a1) 0).toNat : Int) : Int) == 40) = false, ((((gD a0 (tN a1) 0).toNat : Int) : Int) == 41) = false, ((((gD a0 (tN a1) 0).toNat : Int) : Int) == 91) = false, ((((gD a0 (tN a1) 0).toNat : Int) : Int) == 93) = false, ((((gD a0 (tN a1) 0).toNat : Int) : Int) == 44) = true, ((((gD a0 (tN a1) 0).toNat : Int) : Int) == 44) = true] := by kernel_rfl
theorem p83_e_5 (a0 : Str) (a1 : Int) : rE I83 (xBp a0 a1) [F, F, F, F, F, Y, Y] [] = dn (xBi 1) [(0 : Int) ≤ a1 ∧ a1 < (Ln a0), ((((gD a0 (tN a1) 0).toNat : Int) : Int) == 40) = false, ((((gD a0 (tN a1) 0).toNat : Int) : Int) == 41) = false, ((((gD a0 (tN a1) 0).toNat : Int) : Int) == 91) = false, ((((gD a0 (tN a1) 0).toNat : Int) : Int) == 93) = false, ((((gD a0 (tN a1) 0).toNat : Int) : Int) == 44) = false, ((((gD a0 (tN a1) 0).toNat : Int) : Int) == 43) = true, ((((gD a0 (tN a1) 0).toNat : Int) : Int) == 43) = true] := by kernel_rfl
theorem p83_e_6 (a0 : Str) (a1 : Int) : rE I83 (xBp a0 a1) [F, F, F, F, F, F, Y, Y] [] = dn (xBi 1) [(0 : Int) ≤ a1 ∧ a1 < (Ln a0), ((((gD a0 (tN a1) 0).toNat : Int) : Int) == 40) = false, ((((gD a0 (tN a1) 0).toNat : Int) : Int) == 41) = false, ((((gD a0 (tN a1) 0).toNat : Int) : Int) == 91) = false, ((((gD a0 (tN a1) 0).toNat : Int) : Int) == 93) = false, ((((gD a0 (tN a1) 0).toNat : Int) : Int) == 44) = false, ((((gD a0 (tN a1) 0).toNat : Int) : Int) == 43) = false, ((((gD a0 (tN a1) 0).toNat : Int) : Int) == 45) = true, ((((gD a0 (tN a1) 0).toNat : Int) : Int) == 45) = true] := by kernel_rfl
theorem p83_e_7 (a0 : Str) (a1 : Int) : rE I83 (xBp a0 a1) [F, F, F, F, F, F, F, Y, Y] [] = dn (xBi 1) [(0 : Int) ≤ a1 ∧ a1 < (Ln a0), ((((gD a0 (tN a1) 0).toNat : Int) : Int) == 40) = false, ((((gD a0 (tN a1) 0).toNat : Int) : Int) == 41) = false, ((((gD a0 (tN a1) 0).toNat : Int) : Int) == 91) = false, ((((gD a0 (tN a1) 0).toNat : Int) : Int) == 93) = false, ((((gD a0 (tN a1) 0).toNat : Int) : Int) == 44) = false, ((((gD a0 (tN a1) 0).toNat : Int) : Int) == 43) = false, ((((gD a0 (tN a1) 0).toNat : Int) : Int) == 45) = false, ((((gD a0 (tN a1) 0).toNat : Int) : Int) == 42) = true, ((((gD a0 (tN a1) 0).toNat : Int) : Int) == 42) = true] := by kernel_rfl
theorem p83_e_8 (a0 : Str) (a1 : Int) : rE I83 (xBp a0 a1) [F, F, F, F, F, F, F, F, Y] [] = dn (xBi 1) [(0 : Int) ≤ a1 ∧ a1 < (Ln a0), ((((gD a0 (tN a1) 0).toNat : Int) : Int) == 40) = false, ((((gD a0 (tN a1) 0).toNat : Int) : Int) == 41) = false, ((((gD a0 (tN a1) 0).toNat : Int) : Int) == 91) = false, ((((gD a0 (tN a1) 0).toNat : Int) : Int) == 93) = false, ((((gD a0 (tN a1) 0).toNat : Int) : Int) == 44) = false, ((((gD a0 (tN a1) 0).toNat : Int) : Int) == 43) = false, ((((gD a0 (tN a1) 0).toNat : Int) : Int) == 45) = false, ((((gD a0 (tN a1) 0).toNat : Int) : Int) == 42) = false, ((((gD a0 (tN a1) 0).toNat : Int) : Int) == 60) = true] := by kernel_rfl
theorem p83_e_9 (a0 : Str) (a1 : Int) : rE I83 (xBp a0 a1) [F, F, F, F, F, F, F, F, F, Y, Y, Y] [] = dn (xBi 2) [(0 : Int) ≤ a1 ∧ a1 < (Ln a0), ((((gD a0 (tN a1) 0).toNat : Int) : Int) == 40) = false, ((((gD a0 (tN a1) 0).toNat : Int) : Int) == 41) = false, ((((gD a0 (tN a1) 0).toNat : Int) : Int) == 91) = false, ((((gD a0 (tN a1) 0).toNat : Int) : Int) == 93) = false, ((((gD a0 (tN a1) 0).toNat : Int) : Int) == 44) = false, ((((gD a0 (tN a1) 0).toNat : Int) : Int) == 43) = false, ((((gD a0 (tN a1) 0).toNat : Int) : Int) == 45) = false, ((((gD a0 (tN a1) 0).toNat : Int) : Int) == 42) = false, ((((gD a0 (tN a1) 0).toNat : Int) : Int) == 60) = false, ((((gD a0 (tN a1) 0).toNat : Int) : Int) == 61) = true, (decide (((W (a1 + 1)) : Int) < (Ln a0 : Int))) = true, (0 : Int) ≤ (W (a1 + 1)) ∧ (W (a1 + 1)) < (Ln a0), ((((gD a0 (tN (W (a1 + 1))) 0).toNat : Int) : Int) == 61) = true] := by kernel_rfl
theorem p83_e_10 (a0 : Str) (a1 : Int) : rE I83 (xBp a0 a1) [F, F, F, F, F, F, F, F, F, Y, Y, F] [] = dn (xBi 1) [(0 : Int) ≤ a1 ∧ a1 < (Ln a0), ((((gD a0 (tN a1) 0).toNat : Int) : Int) == 40) = false, ((((gD a0 (tN a1) 0).toNat : Int) : Int) == 41) = false, ((((gD a0 (tN a1) 0).toNat : Int) : Int) == 91) = false, ((((gD a0 (tN a1) 0).toNat : Int) : Int) == 93) = false, ((((gD a0 (tN a1) 0).toNat : Int) : Int) == 44) = false, ((((gD a0 (tN a1) 0).toNat : Int) : Int) == 43) = false, ((((gD a0 (tN a1) 0).toNat : Int) : Int) == 45) = false, ((((gD a0 (tN a1) 0).toNat : Int) : Int) == 42) = false, ((((gD a0 (tN a1) 0).toNat : Int) : Int) == 60) = false, ((((gD a0 (tN a1) 0).toNat : Int) : Int) == 61) = true, (decide (((W (a1 + 1)) : Int) < (Ln a0 : Int))) = true, (0 : Int) ≤ (W (a1 + 1)) ∧ (W (a1 + 1)) < (Ln a0), ((((gD a0 (tN (W (a1 + 1))) 0).toNat : Int) : Int) == 61) = false] := by kernel_rfl
theorem p83_e_11 (a0 : Str) (a1 : Int) : rE I83 (xBp a0 a1) [F, F, F, F, F, F, F, F, F, Y, F, F] [] = dn (xBi 1) [(0 : Int) ≤ a1 ∧ a1 < (Ln a0), ((((gD a0 (tN a1) 0).toNat : Int) : Int) == 40) = false, ((((gD a0 (tN a1) 0).toNat : Int) : Int) == 41) = false, ((((gD a0 (tN a1) 0).toNat : Int) : Int) == 91) = false, ((((gD a0 (tN a1) 0).toNat : Int) : Int) == 93) = false, ((((gD a0 (tN a1) 0).toNat : Int) : Int) == 44) = false, ((((gD a0 (tN a1) 0).toNat : Int) : Int) == 43) = false, ((((gD a0 (tN a1) 0).toNat : Int) : Int) == 45) = false, ((((gD a0 (tN a1) 0).toNat : Int) : Int) == 42) = false, ((((gD a0 (tN a1) 0).toNat : Int) : Int) == 60) = false, ((((gD a0 (tN a1) 0).toNat : Int) : Int) == 61) = true, (decide (((W (a1 + 1)) : Int) < (Ln a0 : Int))) = false, false = false] := by kernel_rfl
theorem p83_e_12 (a0 : Str) (a1 : Int) : rE I83 (xBp a0 a1) [F, F, F, F, F, F, F, F, F, F] [] = dn (xBi 0) [(0 : Int) ≤ a1 ∧ a1 < (Ln a0), ((((gD a0 (tN a1) 0).toNat : Int) : Int) == 40) = false, ((((gD a0 (tN a1) 0).toNat : Int) : Int) == 41) = false, ((((gD a0 (tN a1) 0).toNat : Int) : Int) == 91) = false, ((((gD a0 (tN a1) 0).toNat : Int) : Int) == 93) = false, ((((gD a0 (tN a1) 0).toNat : Int) : Int) == 44) = false, ((((gD a0 (tN a1) 0).toNat : Int) : Int) == 43) = false, ((((gD a0 (tN a1) 0).toNat : Int) : Int) == 45) = false, ((((gD a0 (tN a1) 0).toNat : Int) : Int) == 42) = false, ((((gD a0 (tN a1) 0).toNat : Int) : Int) == 60) = false, ((((gD a0 (tN a1) 0).toNat : Int) : Int) == 61) = false] := by kernel_rfl
theorem c83_e {N : Nat} : ∀ a0 a1 r, xFu N a0 a1 = some r → RE Tryz.f83 I83 (xBp a0 a1) (xBi r) := fun a0 a1 r h =>
 iE h fun h0 h => cE h (fun h1 h => dE h fk83 (p83_e_0 a0 a1) (oc h0 (oc h1 (oc h1 on)))) fun h1 h =>
 cE h (fun h2 h => dE h fk83 (p83_e_1 a0 a1) (oc h0 (oc h1 (oc h2 (oc h2 on))))) fun h2 h =>
 cE h (fun h3 h => dE h fk83 (p83_e_2 a0 a1) (oc h0 (oc h1 (oc h2 (oc h3 (oc h3 on)))))) fun h3 h =>
 cE h (fun h4 h => dE h fk83 (p83_e_3 a0 a1) (oc h0 (oc h1 (oc h2 (oc h3 (oc h4 (oc h4 on))))))) fun h4 h =>
 cE h (fun h5 h => dE h fk83 (p83_e_4 a0 a1) (oc h0 (oc h1 (oc h2 (oc h3 (oc h4 (oc h5 (oc h5 on)))))))) fun h5 h =>
 cE h (fun h6 h => dE h fk83 (p83_e_5 a0 a1) (oc h0 (oc h1 (oc h2 (oc h3 (oc h4 (oc h5 (oc h6 (oc h6 on))))))))) fun h6 h =>
 cE h (fun h7 h => dE h fk83 (p83_e_6 a0 a1) (oc h0 (oc h1 (oc h2 (oc h3 (oc h4 (oc h5 (oc h6 (oc h7 (oc h7 on)))))))))) fun h7 h =>
 cE h (fun h8 h => dE h fk83 (p83_e_7 a0 a1) (oc h0 (oc h1 (oc h2 (oc h3 (oc h4 (oc h5 (oc h6 (oc h7 (oc h8 (oc h8 on))))))))))) fun h8 h =>
 cE h (fun h9 h => dE h fk83 (p83_e_8 a0 a1) (oc h0 (oc h1 (oc h2 (oc h3 (oc h4 (oc h5 (oc h6 (oc h7 (oc h8 (oc h9 on))))))))))) fun h9 h =>
 cE h (fun h10 h => cE h (fun h11 h => iE h fun h12 h => cE h (fun h13 h => dE h fk83 (p83_e_9 a0 a1) (oc h0 (oc h1 (oc h2 (oc h3 (oc h4 (oc h5 (oc h6 (oc h7 (oc h8 (oc h9 (oc h10 (oc h11 (oc h12 (oc h13 on))))))))))))))) fun h13 h =>
 dE h fk83 (p83_e_10 a0 a1) (oc h0 (oc h1 (oc h2 (oc h3 (oc h4 (oc h5 (oc h6 (oc h7 (oc h8 (oc h9 (oc h10 (oc h11 (oc h12 (oc h13 on))))))))))))))) fun h11 h =>
 dE h fk83 (p83_e_11 a0 a1) (oc h0 (oc h1 (oc h2 (oc h3 (oc h4 (oc h5 (oc h6 (oc h7 (oc h8 (oc h9 (oc h10 (oc h11 (oc rfl on)))))))))))))) fun h10 h =>
 dE h fk83 (p83_e_12 a0 a1) (oc h0 (oc h1 (oc h2 (oc h3 (oc h4 (oc h5 (oc h6 (oc h7 (oc h8 (oc h9 (oc h10 on)))))))))))
theorem spec_l9Symbol_ok {N : Nat} {a0 : Str} {a1 : Int} {r : Int} (h : xFu N  a0 a1 = some r) : AbC 83 (xBp a0 a1) (xBi r) :=
 AbsCalls.of_reach fk83 rfl rfl (Nat.le_of_ble_eq_true rfl) (c83_e a0 a1 r h)
noncomputable def I43 : Info := { body := (Tryz.f43.body).getD .skip, nt := 136, results := [.cell 4 50, .tmp 5], keep := [0, 2, 8, 10, 12, 14, 16, 18, 48, 88, 112, 116, 144, 182, 186, 218, 256, 9, 13], live := [(7, [0, 2, 8, 12, 14, 9, 13]), (14, [0, 2, 8, 12, 14, 9, 13]), (23, [0, 2, 8, 12, 14, 9, 13])], modes := [(7, [(4, .take, false), (9, .take, false)]), (14, [(4, .take, false)]), (16, [(5, .take, false)]), (19, [(0, .take, false), (2, .take, false)]), (23, [(4, .take, false)]), (27, [(4, .take, false)])] }
theorem fk43 : FnOk Tryz.prog 43 Tryz.f43 I43 := ⟨Tryz.func43, by kernel_rfl, by kernel_rfl, by kernel_rfl, by kernel_rfl⟩
def S43_7 (x0 : Str) (x1 x7 : Int) (b4 b6 : Tok) : St := [(0, .v false [.str x0]), (2, .v false [.int .i64 x1]), (8, .v false [.ptr 4 0]), (12, .v false [.ptr 6 0]), (14, .v false [.int .i64 x7]), (9, .v true [.int .i64 (Tok.kind b4), .int .i64 (Tok.n b4), .int .i64 (Tok.pos b4), .str (Tok.text b4)]), (13, .v true [.int .i64 (Tok.kind b6), .int .i64 (Tok.n b6), .int .i64 (Tok.pos b6), .str (Tok.text b6)])]
def xHk (x0 : Str) (x1 x7 : Int) (b4 b6 : Tok) : St := [(0, .v false [.str x0]), (2, .v false [.int .i64 x1]), (8, .v false [.ptr 4 0]), (12, .v false [.ptr 6 0]), (14, .v false [.int .i64 x7]), (9, .v true [.int .i64 (Tok.kind b4), .int .i64 (Tok.n b4), .int .i64 (Tok.pos b4), .str (Tok.text b4)]), (13, .v true [.int .i64 (Tok.kind b6), .int .i64 (Tok.n b6), .int .i64 (Tok.pos b6), .str (Tok.text b6)])]
def xHl (x0 : Str) (x1 x7 : Int) (b4 b6 : Tok) : St := [(0, .v false [.str x0]), (2, .v false [.int .i64 x1]), (8, .v false [.ptr 4 0]), (12, .v false [.ptr 6 0]), (14, .v false [.int .i64 x7]), (9, .v true [.int .i64 (Tok.kind b4), .int .i64 (Tok.n b4), .int .i64 (Tok.pos b4), .str (Tok.text b4)]), (13, .v true [.int .i64 (Tok.kind b6), .int .i64 (Tok.n b6), .int .i64 (Tok.pos b6), .str (Tok.text b6)])]
theorem p43_7_0 (x0 : Str) (x1 x7 : Int) (b4 b6 : Tok) (r1 : Bool) : rS 7 I43 (S43_7 x0 x1 x7 b4 b6) [Y, Y, Y] [xA1 r1] = st 7 I43 (S43_7 x0 x1 (W (x7 + 1)) b4 b6) [(decide ((x7 : Int) < (Ln x0 : Int))) = true, (0 : Int) ≤ x7 ∧ x7 < (Ln x0), AbC 79 (xB9 ((gD x0 (tN x7) 0).toNat : Int)) (xA1 r1), r1 = true, true = true] := by kernel_rfl
theorem p43_7_1 (x0 : Str) (x1 x7 : Int) (b4 b6 : Tok) (r1 r2 : Bool) : rS 7 I43 (S43_7 x0 x1 x7 b4 b6) [Y, F, Y] [xA1 r1, xAV r2] = st 7 I43 (S43_7 x0 x1 (W (x7 + 1)) b4 b6) [(decide ((x7 : Int) < (Ln x0 : Int))) = true, (0 : Int) ≤ x7 ∧ x7 < (Ln x0), AbC 79 (xB9 ((gD x0 (tN x7) 0).toNat : Int)) (xA1 r1), r1 = false, (0 : Int) ≤ x7 ∧ x7 < (Ln x0), AbC 80 (xBU ((gD x0 (tN x7) 0).toNat : Int)) (xAV r2), r2 = true] := by kernel_rfl
theorem p43_7_2 (x0 : Str) (x1 x7 : Int) (b4 b6 : Tok) (r1 r2 : Bool) : rS 7 I43 (S43_7 x0 x1 x7 b4 b6) [Y, F, F, Y] [xA1 r1, xAV r2] = dn (xAQ ((Tok.mk 1 (Tok.n b6) (Tok.pos b6) (List.drop (tN x1) (List.take (tN x7) x0))), 0)) [(decide ((x7 : Int) < (Ln x0 : Int))) = true, (0 : Int) ≤ x7 ∧ x7 < (Ln x0), AbC 79 (xB9 ((gD x0 (tN x7) 0).toNat : Int)) (xA1 r1), r1 = false, (0 : Int) ≤ x7 ∧ x7 < (Ln x0), AbC 80 (xBU ((gD x0 (tN x7) 0).toNat : Int)) (xAV r2), r2 = false, (0 : Int) ≤ x1 ∧ x1 ≤ x7 ∧ x7 ≤ (Ln x0), (decide (((W (x7 - x1)) : Int) > 8)) = true] := by kernel_rfl
theorem p43_7_3 (x0 : Str) (x1 x7 : Int) (b4 b6 : Tok) (r1 r2 : Bool) : rS 7 I43 (S43_7 x0 x1 x7 b4 b6) [Y, F, F, F] [xA1 r1, xAV r2] = dn (xAQ ((Tok.mk 1 (Tok.n b6) (Tok.pos b6) (List.drop (tN x1) (List.take (tN x7) x0))), (W (x7 - x1)))) [(decide ((x7 : Int) < (Ln x0 : Int))) = true, (0 : Int) ≤ x7 ∧ x7 < (Ln x0), AbC 79 (xB9 ((gD x0 (tN x7) 0).toNat : Int)) (xA1 r1), r1 = false, (0 : Int) ≤ x7 ∧ x7 < (Ln x0), AbC 80 (xBU ((gD x0 (tN x7) 0).toNat : Int)) (xAV r2), r2 = false, (0 : Int) ≤ x1 ∧ x1 ≤ x7 ∧ x7 ≤ (Ln x0), (decide (((W (x7 - x1)) : Int) > 8)) = false] := by kernel_rfl
theorem p43_7_4 (x0 : Str) (x1 x7 : Int) (b4 b6 : Tok) : rS 7 I43 (S43_7 x0 x1 x7 b4 b6) [F, F, Y] [] = dn (xAQ ((Tok.mk 1 (Tok.n b6) (Tok.pos b6) (List.drop (tN x1) (List.take (tN x7) x0))), 0)) [(decide ((x7 : Int) < (Ln x0 : Int))) = false, false = false, (0 : Int) ≤ x1 ∧ x1 ≤ x7 ∧ x7 ≤ (Ln x0), (decide (((W (x7 - x1)) : Int) > 8)) = true] := by kernel_rfl
theorem p43_7_5 (x0 : Str) (x1 x7 : Int) (b4 b6 : Tok) : rS 7 I43 (S43_7 x0 x1 x7 b4 b6) [F, F, F] [] = dn (xAQ ((Tok.mk 1 (Tok.n b6) (Tok.pos b6) (List.drop (tN x1) (List.take (tN x7) x0))), (W (x7 - x1)))) [(decide ((x7 : Int) < (Ln x0 : Int))) = false, false = false, (0 : Int) ≤ x1 ∧ x1 ≤ x7 ∧ x7 ≤ (Ln x0), (decide (((W (x7 - x1)) : Int) > 8)) = false] := by kernel_rfl
theorem p43_14_6 (x0 : Str) (x1 x7 : Int) (b4 b6 : Tok) (r1 : Bool) : rS 14 I43 (xHk x0 x1 x7 b4 b6) [Y, Y] [xAV r1] = st 14 I43 (xHk x0 x1 (W (x7 + 1)) b4 b6) [(decide ((x7 : Int) < (Ln x0 : Int))) = true, (0 : Int) ≤ x7 ∧ x7 < (Ln x0), AbC 80 (xBU ((gD x0 (tN x7) 0).toNat : Int)) (xAV r1), r1 = true] := by kernel_rfl
theorem p43_14_7 (x0 : Str) (x1 x7 : Int) (b4 b6 : Tok) (r1 : Bool) (r2 : Int × Bool) : rS 14 I43 (xHk x0 x1 x7 b4 b6) [Y, F, Y, Y] [xAV r1, xBw r2] = dn (xAQ ((Tok.mk 2 r2.1 (Tok.pos b6) (Tok.text b6)), 0)) [(decide ((x7 : Int) < (Ln x0 : Int))) = true, (0 : Int) ≤ x7 ∧ x7 < (Ln x0), AbC 80 (xBU ((gD x0 (tN x7) 0).toNat : Int)) (xAV r1), r1 = false, (0 : Int) ≤ x1 ∧ x1 ≤ x7 ∧ x7 ≤ (Ln x0), AbC 81 (xC5 (List.drop (tN x1) (List.take (tN x7) x0))) (xBw r2), (!r2.2) = true, true = true] := by kernel_rfl
theorem p43_14_8 (x0 : Str) (x1 x7 : Int) (b4 b6 : Tok) (r1 : Bool) (r2 : Int × Bool) : rS 14 I43 (xHk x0 x1 x7 b4 b6) [Y, F, F, Y] [xAV r1, xBw r2] = dn (xAQ ((Tok.mk 2 r2.1 (Tok.pos b6) (Tok.text b6)), 0)) [(decide ((x7 : Int) < (Ln x0 : Int))) = true, (0 : Int) ≤ x7 ∧ x7 < (Ln x0), AbC 80 (xBU ((gD x0 (tN x7) 0).toNat : Int)) (xAV r1), r1 = false, (0 : Int) ≤ x1 ∧ x1 ≤ x7 ∧ x7 ≤ (Ln x0), AbC 81 (xC5 (List.drop (tN x1) (List.take (tN x7) x0))) (xBw r2), (!r2.2) = false, (decide ((r2.1 : Int) > 1000000000)) = true] := by kernel_rfl
theorem p43_14_9 (x0 : Str) (x1 x7 : Int) (b4 b6 : Tok) (r1 : Bool) (r2 : Int × Bool) : rS 14 I43 (xHk x0 x1 x7 b4 b6) [Y, F, F, F] [xAV r1, xBw r2] = dn (xAQ ((Tok.mk 2 r2.1 (Tok.pos b6) (Tok.text b6)), (W (x7 - x1)))) [(decide ((x7 : Int) < (Ln x0 : Int))) = true, (0 : Int) ≤ x7 ∧ x7 < (Ln x0), AbC 80 (xBU ((gD x0 (tN x7) 0).toNat : Int)) (xAV r1), r1 = false, (0 : Int) ≤ x1 ∧ x1 ≤ x7 ∧ x7 ≤ (Ln x0), AbC 81 (xC5 (List.drop (tN x1) (List.take (tN x7) x0))) (xBw r2), (!r2.2) = false, (decide ((r2.1 : Int) > 1000000000)) = false] := by kernel_rfl
theorem p43_14_10 (x0 : Str) (x1 x7 : Int) (b4 b6 : Tok) (r1 : Int × Bool) : rS 14 I43 (xHk x0 x1 x7 b4 b6) [F, F, Y, Y] [xBw r1] = dn (xAQ ((Tok.mk 2 r1.1 (Tok.pos b6) (Tok.text b6)), 0)) [(decide ((x7 : Int) < (Ln x0 : Int))) = false, false = false, (0 : Int) ≤ x1 ∧ x1 ≤ x7 ∧ x7 ≤ (Ln x0), AbC 81 (xC5 (List.drop (tN x1) (List.take (tN x7) x0))) (xBw r1), (!r1.2) = true, true = true] := by kernel_rfl
theorem p43_14_11 (x0 : Str) (x1 x7 : Int) (b4 b6 : Tok) (r1 : Int × Bool) : rS 14 I43 (xHk x0 x1 x7 b4 b6) [F, F, F, Y] [xBw r1] = dn (xAQ ((Tok.mk 2 r1.1 (Tok.pos b6) (Tok.text b6)), 0)) [(decide ((x7 : Int) < (Ln x0 : Int))) = false, false = false, (0 : Int) ≤ x1 ∧ x1 ≤ x7 ∧ x7 ≤ (Ln x0), AbC 81 (xC5 (List.drop (tN x1) (List.take (tN x7) x0))) (xBw r1), (!r1.2) = false, (decide ((r1.1 : Int) > 1000000000)) = true] := by kernel_rfl
theorem p43_14_12 (x0 : Str) (x1 x7 : Int) (b4 b6 : Tok) (r1 : Int × Bool) : rS 14 I43 (xHk x0 x1 x7 b4 b6) [F, F, F, F] [xBw r1] = dn (xAQ ((Tok.mk 2 r1.1 (Tok.pos b6) (Tok.text b6)), (W (x7 - x1)))) [(decide ((x7 : Int) < (Ln x0 : Int))) = false, false = false, (0 : Int) ≤ x1 ∧ x1 ≤ x7 ∧ x7 ≤ (Ln x0), AbC 81 (xC5 (List.drop (tN x1) (List.take (tN x7) x0))) (xBw r1), (!r1.2) = false, (decide ((r1.1 : Int) > 1000000000)) = false] := by kernel_rfl
theorem p43_23_13 (x0 : Str) (x1 x7 : Int) (b4 b6 : Tok) : rS 23 I43 (xHl x0 x1 x7 b4 b6) [Y, Y] [] = st 23 I43 (xHl x0 x1 (W (x7 + 1)) b4 b6) [(decide ((x7 : Int) < (Ln x0 : Int))) = true, (0 : Int) ≤ x7 ∧ x7 < (Ln x0), ((((gD x0 (tN x7) 0).toNat : Int) : Int) != 34) = true] := by kernel_rfl
theorem p43_23_14 (x0 : Str) (x1 x7 : Int) (b4 b6 : Tok) : rS 23 I43 (xHl x0 x1 x7 b4 b6) [Y, F, Y, Y] [] = dn (xAQ ((Tok.mk 3 (Tok.n b6) (Tok.pos b6) (List.drop (tN (W (x1 + 1))) (List.take (tN x7) x0))), 0)) [(decide ((x7 : Int) < (Ln x0 : Int))) = true, (0 : Int) ≤ x7 ∧ x7 < (Ln x0), ((((gD x0 (tN x7) 0).toNat : Int) : Int) != 34) = false, (0 : Int) ≤ (W (x1 + 1)) ∧ (W (x1 + 1)) ≤ x7 ∧ x7 ≤ (Ln x0), ((x7 : Int) == (Ln x0 : Int)) = true, true = true] := by kernel_rfl
theorem p43_23_15 (x0 : Str) (x1 x7 : Int) (b4 b6 : Tok) (r1 : Bool) : rS 23 I43 (xHl x0 x1 x7 b4 b6) [Y, F, F, Y] [xAY r1] = dn (xAQ ((Tok.mk 3 (Tok.n b6) (Tok.pos b6) (List.drop (tN (W (x1 + 1))) (List.take (tN x7) x0))), 0)) [(decide ((x7 : Int) < (Ln x0 : Int))) = true, (0 : Int) ≤ x7 ∧ x7 < (Ln x0), ((((gD x0 (tN x7) 0).toNat : Int) : Int) != 34) = false, (0 : Int) ≤ (W (x1 + 1)) ∧ (W (x1 + 1)) ≤ x7 ∧ x7 ≤ (Ln x0), ((x7 : Int) == (Ln x0 : Int)) = false, AbC 82 (xCD (List.drop (tN (W (x1 + 1))) (List.take (tN x7) x0))) (xAY r1), (!r1) = true] := by kernel_rfl
theorem p43_23_16 (x0 : Str) (x1 x7 : Int) (b4 b6 : Tok) (r1 : Bool) : rS 23 I43 (xHl x0 x1 x7 b4 b6) [Y, F, F, F] [xAY r1] = dn (xAQ ((Tok.mk 3 (Tok.n b6) (Tok.pos b6) (List.drop (tN (W (x1 + 1))) (List.take (tN x7) x0))), (W ((W (x7 + 1)) - x1)))) [(decide ((x7 : Int) < (Ln x0 : Int))) = true, (0 : Int) ≤ x7 ∧ x7 < (Ln x0), ((((gD x0 (tN x7) 0).toNat : Int) : Int) != 34) = false, (0 : Int) ≤ (W (x1 + 1)) ∧ (W (x1 + 1)) ≤ x7 ∧ x7 ≤ (Ln x0), ((x7 : Int) == (Ln x0 : Int)) = false, AbC 82 (xCD (List.drop (tN (W (x1 + 1))) (List.take (tN x7) x0))) (xAY r1), (!r1) = false] := by kernel_rfl
theorem p43_23_17 (x0 : Str) (x1 x7 : Int) (b4 b6 : Tok) : rS 23 I43 (xHl x0 x1 x7 b4 b6) [F, F, Y, Y] [] = dn (xAQ ((Tok.mk 3 (Tok.n b6) (Tok.pos b6) (List.drop (tN (W (x1 + 1))) (List.take (tN x7) x0))), 0)) [(decide ((x7 : Int) < (Ln x0 : Int))) = false, false = false, (0 : Int) ≤ (W (x1 + 1)) ∧ (W (x1 + 1)) ≤ x7 ∧ x7 ≤ (Ln x0), ((x7 : Int) == (Ln x0 : Int)) = true, true = true] := by kernel_rfl
theorem p43_23_18 (x0 : Str) (x1 x7 : Int) (b4 b6 : Tok) (r1 : Bool) : rS 23 I43 (xHl x0 x1 x7 b4 b6) [F, F, F, Y] [xAY r1] = dn (xAQ ((Tok.mk 3 (Tok.n b6) (Tok.pos b6) (List.drop (tN (W (x1 + 1))) (List.take (tN x7) x0))), 0)) [(decide ((x7 : Int) < (Ln x0 : Int))) = false, false = false, (0 : Int) ≤ (W (x1 + 1)) ∧ (W (x1 + 1)) ≤ x7 ∧ x7 ≤ (Ln x0), ((x7 : Int) == (Ln x0 : Int)) = false, AbC 82 (xCD (List.drop (tN (W (x1 + 1))) (List.take (tN x7) x0))) (xAY r1), (!r1) = true] := by kernel_rfl
theorem p43_23_19 (x0 : Str) (x1 x7 : Int) (b4 b6 : Tok) (r1 : Bool) : rS 23 I43 (xHl x0 x1 x7 b4 b6) [F, F, F, F] [xAY r1] = dn (xAQ ((Tok.mk 3 (Tok.n b6) (Tok.pos b6) (List.drop (tN (W (x1 + 1))) (List.take (tN x7) x0))), (W ((W (x7 + 1)) - x1)))) [(decide ((x7 : Int) < (Ln x0 : Int))) = false, false = false, (0 : Int) ≤ (W (x1 + 1)) ∧ (W (x1 + 1)) ≤ x7 ∧ x7 ≤ (Ln x0), ((x7 : Int) == (Ln x0 : Int)) = false, AbC 82 (xCD (List.drop (tN (W (x1 + 1))) (List.take (tN x7) x0))) (xAY r1), (!r1) = false] := by kernel_rfl
theorem p43_e_20 (a0 : Str) (a1 : Int) (r1 : Bool) : rE I43 (xDC a0 a1) [Y] [xA1 r1] = st 7 I43 (S43_7 a0 a1 a1 (Tok.mk 0 0 0 []) (Tok.mk 0 0 a1 [])) [(0 : Int) ≤ a1 ∧ a1 < (Ln a0), AbC 79 (xB9 ((gD a0 (tN a1) 0).toNat : Int)) (xA1 r1), r1 = true] := by kernel_rfl
theorem p43_e_21 (a0 : Str) (a1 : Int) (r1 r2 : Bool) : rE I43 (xDC a0 a1) [F, Y] [xA1 r1, xAV r2] = st 14 I43 (xHk a0 a1 a1 (Tok.mk 0 0 0 []) (Tok.mk 0 0 a1 [])) [(0 : Int) ≤ a1 ∧ a1 < (Ln a0), AbC 79 (xB9 ((gD a0 (tN a1) 0).toNat : Int)) (xA1 r1), r1 = false, (0 : Int) ≤ a1 ∧ a1 < (Ln a0), AbC 80 (xBU ((gD a0 (tN a1) 0).toNat : Int)) (xAV r2), r2 = true] := by kernel_rfl
theorem p43_e_22 (a0 : Str) (a1 : Int) (r1 r2 : Bool) : rE I43 (xDC a0 a1) [F, F, Y] [xA1 r1, xAV r2] = st 23 I43 (xHl a0 a1 (W (a1 + 1)) (Tok.mk 0 0 0 []) (Tok.mk 0 0 a1 [])) [(0 : Int) ≤ a1 ∧ a1 < (Ln a0), AbC 79 (xB9 ((gD a0 (tN a1) 0).toNat : Int)) (xA1 r1), r1 = false, (0 : Int) ≤ a1 ∧ a1 < (Ln a0), AbC 80 (xBU ((gD a0 (tN a1) 0).toNat : Int)) (xAV r2), r2 = false, (0 : Int) ≤ a1 ∧ a1 < (Ln a0), ((((gD a0 (tN a1) 0).toNat : Int) : Int) == 34) = true] := by kernel_rfl
theorem p43_e_23 (a0 : Str) (a1 : Int) (r1 r2 : Bool) (r3 : Int) : rE I43 (xDC a0 a1) [F, F, F] [xA1 r1, xAV r2, xBi r3] = dn (xAQ ((Tok.mk 4 0 a1 (List.drop (tN a1) (List.take (tN (W (a1 + r3))) a0))), (W ((W (a1 + r3)) - a1)))) [(0 : Int) ≤ a1 ∧ a1 < (Ln a0), AbC 79 (xB9 ((gD a0 (tN a1) 0).toNat : Int)) (xA1 r1), r1 = false, (0 : Int) ≤ a1 ∧ a1 < (Ln a0), AbC 80 (xBU ((gD a0 (tN a1) 0).toNat : Int)) (xAV r2), r2 = false, (0 : Int) ≤ a1 ∧ a1 < (Ln a0), ((((gD a0 (tN a1) 0).toNat : Int) : Int) == 34) = false, AbC 83 (xBp a0 a1) (xBi r3), (0 : Int) ≤ a1 ∧ a1 ≤ (W (a1 + r3)) ∧ (W (a1 + r3)) ≤ (Ln a0)] := by kernel_rfl
theorem c43_7 {N : Nat} : ∀ n x0 x1 x7 b4 b6 r, xDD N n x0 x1 x7 b4 b6 = some r → RS Tryz.f43 I43 7 (S43_7 x0 x1 x7 b4 b6) (xAQ r) := by
 intro n
 induction n with
 | zero => exact fun _ _ _ _ _ _ h => nE h
 | succ n ih =>
  exact fun x0 x1 x7 b4 b6 r h =>
   cE h (fun h0 h => iE h fun h1 h => bE h fun r1 h2 h => cE h (fun h3 h => tS fk43 (p43_7_0 x0 x1 x7 b4 b6 r1) (oc h0 (oc h1 (oc (xDp h2) (oc h3 (oc rfl on))))) (ih _ _ _ _ _ _ h)) fun h3 h =>
   bE h fun r2 h5 h => cE h (fun h6 h => tS fk43 (p43_7_1 x0 x1 x7 b4 b6 r1 r2) (oc h0 (oc h1 (oc (xDp h2) (oc h3 (oc h1 (oc (xC0 h5) (oc h6 on))))))) (ih _ _ _ _ _ _ h)) fun h6 h =>
   iE h fun h7 h => cE h (fun h8 h => dS h fk43 (p43_7_2 x0 x1 x7 b4 b6 r1 r2) (oc h0 (oc h1 (oc (xDp h2) (oc h3 (oc h1 (oc (xC0 h5) (oc h6 (oc h7 (oc h8 on)))))))))) fun h8 h =>
   dS h fk43 (p43_7_3 x0 x1 x7 b4 b6 r1 r2) (oc h0 (oc h1 (oc (xDp h2) (oc h3 (oc h1 (oc (xC0 h5) (oc h6 (oc h7 (oc h8 on)))))))))) fun h0 h =>
   iE h fun h2 h => cE h (fun h3 h => dS h fk43 (p43_7_4 x0 x1 x7 b4 b6) (oc h0 (oc rfl (oc h2 (oc h3 on))))) fun h3 h =>
   dS h fk43 (p43_7_5 x0 x1 x7 b4 b6) (oc h0 (oc rfl (oc h2 (oc h3 on))))
theorem c43_14 {N : Nat} : ∀ n x0 x1 x7 b4 b6 r, xDi N n x0 x1 x7 b4 b6 = some r → RS Tryz.f43 I43 14 (xHk x0 x1 x7 b4 b6) (xAQ r) := by
 intro n
 induction n with
 | zero => exact fun _ _ _ _ _ _ h => nE h
 | succ n ih =>
  exact fun x0 x1 x7 b4 b6 r h =>
   cE h (fun h0 h => iE h fun h1 h => bE h fun r1 h2 h => cE h (fun h3 h => tS fk43 (p43_14_6 x0 x1 x7 b4 b6 r1) (oc h0 (oc h1 (oc (xC0 h2) (oc h3 on)))) (ih _ _ _ _ _ _ h)) fun h3 h =>
   iE h fun h4 h => bE h fun r2 h5 h => cE h (fun h6 h => dS h fk43 (p43_14_7 x0 x1 x7 b4 b6 r1 r2) (oc h0 (oc h1 (oc (xC0 h2) (oc h3 (oc h4 (oc (xD6 h5) (oc h6 (oc rfl on))))))))) fun h6 h =>
   cE h (fun h7 h => dS h fk43 (p43_14_8 x0 x1 x7 b4 b6 r1 r2) (oc h0 (oc h1 (oc (xC0 h2) (oc h3 (oc h4 (oc (xD6 h5) (oc h6 (oc h7 on))))))))) fun h7 h =>
   dS h fk43 (p43_14_9 x0 x1 x7 b4 b6 r1 r2) (oc h0 (oc h1 (oc (xC0 h2) (oc h3 (oc h4 (oc (xD6 h5) (oc h6 (oc h7 on))))))))) fun h0 h =>
   iE h fun h2 h => bE h fun r1 h3 h => cE h (fun h4 h => dS h fk43 (p43_14_10 x0 x1 x7 b4 b6 r1) (oc h0 (oc rfl (oc h2 (oc (xD6 h3) (oc h4 (oc rfl on))))))) fun h4 h =>
   cE h (fun h5 h => dS h fk43 (p43_14_11 x0 x1 x7 b4 b6 r1) (oc h0 (oc rfl (oc h2 (oc (xD6 h3) (oc h4 (oc h5 on))))))) fun h5 h =>
   dS h fk43 (p43_14_12 x0 x1 x7 b4 b6 r1) (oc h0 (oc rfl (oc h2 (oc (xD6 h3) (oc h4 (oc h5 on))))))
theorem c43_23 {N : Nat} : ∀ n x0 x1 x7 b4 b6 r, xEx N n x0 x1 x7 b4 b6 = some r → RS Tryz.f43 I43 23 (xHl x0 x1 x7 b4 b6) (xAQ r) := by
 intro n
 induction n with
 | zero => exact fun _ _ _ _ _ _ h => nE h
 | succ n ih =>
  exact fun x0 x1 x7 b4 b6 r h =>
   cE h (fun h0 h => iE h fun h1 h => cE h (fun h2 h => tS fk43 (p43_23_13 x0 x1 x7 b4 b6) (oc h0 (oc h1 (oc h2 on))) (ih _ _ _ _ _ _ h)) fun h2 h =>
   iE h fun h3 h => cE h (fun h4 h => dS h fk43 (p43_23_14 x0 x1 x7 b4 b6) (oc h0 (oc h1 (oc h2 (oc h3 (oc h4 (oc rfl on))))))) fun h4 h =>
   bE h fun r1 h5 h => cE h (fun h6 h => dS h fk43 (p43_23_15 x0 x1 x7 b4 b6 r1) (oc h0 (oc h1 (oc h2 (oc h3 (oc h4 (oc (xD1 h5) (oc h6 on)))))))) fun h6 h =>
   dS h fk43 (p43_23_16 x0 x1 x7 b4 b6 r1) (oc h0 (oc h1 (oc h2 (oc h3 (oc h4 (oc (xD1 h5) (oc h6 on)))))))) fun h0 h =>
   iE h fun h2 h => cE h (fun h3 h => dS h fk43 (p43_23_17 x0 x1 x7 b4 b6) (oc h0 (oc rfl (oc h2 (oc h3 (oc rfl on)))))) fun h3 h =>
   bE h fun r1 h4 h => cE h (fun h5 h => dS h fk43 (p43_23_18 x0 x1 x7 b4 b6 r1) (oc h0 (oc rfl (oc h2 (oc h3 (oc (xD1 h4) (oc h5 on))))))) fun h5 h =>
   dS h fk43 (p43_23_19 x0 x1 x7 b4 b6 r1) (oc h0 (oc rfl (oc h2 (oc h3 (oc (xD1 h4) (oc h5 on))))))
theorem c43_e {N : Nat} : ∀ a0 a1 r, xGb N a0 a1 = some r → RE Tryz.f43 I43 (xDC a0 a1) (xAQ r) := fun a0 a1 r h =>
 iE h fun h0 h => bE h fun r1 h1 h => cE h (fun h2 h => tE fk43 (p43_e_20 a0 a1 r1) (oc h0 (oc (xDp h1) (oc h2 on))) (c43_7 _ _ _ _ _ _ _ h)) fun h2 h =>
 bE h fun r2 h4 h => cE h (fun h5 h => tE fk43 (p43_e_21 a0 a1 r1 r2) (oc h0 (oc (xDp h1) (oc h2 (oc h0 (oc (xC0 h4) (oc h5 on)))))) (c43_14 _ _ _ _ _ _ _ h)) fun h5 h =>
 cE h (fun h7 h => tE fk43 (p43_e_22 a0 a1 r1 r2) (oc h0 (oc (xDp h1) (oc h2 (oc h0 (oc (xC0 h4) (oc h5 (oc h0 (oc h7 on)))))))) (c43_23 _ _ _ _ _ _ _ h)) fun h7 h =>
 bE h fun r3 h8 h => iE h fun h9 h => dE h fk43 (p43_e_23 a0 a1 r1 r2 r3) (oc h0 (oc (xDp h1) (oc h2 (oc h0 (oc (xC0 h4) (oc h5 (oc h0 (oc h7 (oc (spec_l9Symbol_ok h8) (oc h9 on))))))))))
theorem xGs {N : Nat} {a0 : Str} {a1 : Int} {r : Tok × Int} (h : xGb N  a0 a1 = some r) : AbC 43 (xDC a0 a1) (xAQ r) :=
 AbsCalls.of_reach fk43 rfl rfl (Nat.le_of_ble_eq_true rfl) (c43_e a0 a1 r h)
noncomputable def I23 : Info := { body := (Tryz.f23.body).getD .skip, nt := 46, results := [.tmp 2, .tmp 3], keep := [0, 4, 6, 8, 10, 12, 14, 20, 32, 40, 70, 13], live := [(5, [0, 8, 10])], modes := [(8, [(3, .take, false)]), (9, [(2, .take, false)]), (11, [(0, .take, false)]), (13, [(0, .take, false)])] }
theorem fk23 : FnOk Tryz.prog 23 Tryz.f23 I23 := ⟨Tryz.func23, by kernel_rfl, by kernel_rfl, by kernel_rfl, by kernel_rfl⟩
def S23_5 (x0 : Str) (x4 : List Tok) (x5 : Int) : St := [(0, .v false [.str x0]), (8, .v false [.sl .own .tok x4]), (10, .v false [.int .i64 x5])]
theorem p23_5_0 (x0 : Str) (x4 : List Tok) (x5 : Int) : rS 5 I23 (S23_5 x0 x4 x5) [Y, Y] [] = st 5 I23 (S23_5 x0 x4 (W (x5 + 1))) [(decide ((x5 : Int) < (Ln x0 : Int))) = true, (0 : Int) ≤ x5 ∧ x5 < (Ln x0), ((((gD x0 (tN x5) 0).toNat : Int) : Int) == 32) = true] := by kernel_rfl
theorem p23_5_1 (x0 : Str) (x4 : List Tok) (x5 : Int) (r1 : Tok × Int) : rS 5 I23 (S23_5 x0 x4 x5) [Y, F, Y, Y] [xAQ r1] = dn (xAG ([], x5)) [(decide ((x5 : Int) < (Ln x0 : Int))) = true, (0 : Int) ≤ x5 ∧ x5 < (Ln x0), ((((gD x0 (tN x5) 0).toNat : Int) : Int) == 32) = false, AbC 43 (xDC x0 x5) (xAQ r1), ((r1.2 : Int) == 0) = true, true = true] := by kernel_rfl
theorem p23_5_2 (x0 : Str) (x4 : List Tok) (x5 : Int) (r1 : Tok × Int) : rS 5 I23 (S23_5 x0 x4 x5) [Y, F, F, Y] [xAQ r1] = dn (xAG ([], x5)) [(decide ((x5 : Int) < (Ln x0 : Int))) = true, (0 : Int) ≤ x5 ∧ x5 < (Ln x0), ((((gD x0 (tN x5) 0).toNat : Int) : Int) == 32) = false, AbC 43 (xDC x0 x5) (xAQ r1), ((r1.2 : Int) == 0) = false, (((Ln x4 : Int) : Int) == 60) = true] := by kernel_rfl
theorem p23_5_3 (x0 : Str) (x4 : List Tok) (x5 : Int) (r1 : Tok × Int) : rS 5 I23 (S23_5 x0 x4 x5) [Y, F, F, F] [xAQ r1] = st 5 I23 (S23_5 x0 (x4 ++ [r1.1]) (W (x5 + r1.2))) [(decide ((x5 : Int) < (Ln x0 : Int))) = true, (0 : Int) ≤ x5 ∧ x5 < (Ln x0), ((((gD x0 (tN x5) 0).toNat : Int) : Int) == 32) = false, AbC 43 (xDC x0 x5) (xAQ r1), ((r1.2 : Int) == 0) = false, (((Ln x4 : Int) : Int) == 60) = false, Ln x4 + Ln [r1.1] ≤ Lim] := by kernel_rfl
theorem p23_5_4 (x0 : Str) (x4 : List Tok) (x5 : Int) : rS 5 I23 (S23_5 x0 x4 x5) [F] [] = dn (xAG (x4, (-1))) [(decide ((x5 : Int) < (Ln x0 : Int))) = false] := by kernel_rfl
theorem p23_e_5 (a0 : Str) : rE I23 (xBH a0) [Y] [] = dn (xAG ([], 120)) [(decide (((Ln a0 : Int) : Int) > 120)) = true] := by kernel_rfl
theorem p23_e_6 (a0 : Str) : rE I23 (xBH a0) [F] [] = st 5 I23 (S23_5 a0 [] 0) [(decide (((Ln a0 : Int) : Int) > 120)) = false] := by kernel_rfl
theorem c23_5 {N : Nat} : ∀ n x0 x4 x5 r, xDN N n x0 x4 x5 = some r → RS Tryz.f23 I23 5 (S23_5 x0 x4 x5) (xAG r) := by
 intro n
 induction n with
 | zero => exact fun _ _ _ _ h => nE h
 | succ n ih =>
  exact fun x0 x4 x5 r h =>
   cE h (fun h0 h => iE h fun h1 h => cE h (fun h2 h => tS fk23 (p23_5_0 x0 x4 x5) (oc h0 (oc h1 (oc h2 on))) (ih _ _ _ _ h)) fun h2 h =>
   bE h fun r1 h3 h => cE h (fun h4 h => dS h fk23 (p23_5_1 x0 x4 x5 r1) (oc h0 (oc h1 (oc h2 (oc (xGs h3) (oc h4 (oc rfl on))))))) fun h4 h =>
   cE h (fun h5 h => dS h fk23 (p23_5_2 x0 x4 x5 r1) (oc h0 (oc h1 (oc h2 (oc (xGs h3) (oc h4 (oc h5 on))))))) fun h5 h =>
   iE h fun h6 h => tS fk23 (p23_5_3 x0 x4 x5 r1) (oc h0 (oc h1 (oc h2 (oc (xGs h3) (oc h4 (oc h5 (oc h6 on))))))) (ih _ _ _ _ h)) fun h0 h =>
   dS h fk23 (p23_5_4 x0 x4 x5) (oc h0 on)
theorem c23_e {N : Nat} : ∀ a0 r, xEX N a0 = some r → RE Tryz.f23 I23 (xBH a0) (xAG r) := fun a0 r h =>
 cE h (fun h0 h => dE h fk23 (p23_e_5 a0) (oc h0 on)) fun h0 h =>
 tE fk23 (p23_e_6 a0) (oc h0 on) (c23_5 _ _ _ _ _ h)
theorem xCK {N : Nat} {a0 : Str} {r : (List Tok) × Int} (h : xEX N  a0 = some r) : AbC 23 (xBH a0) (xAG r) :=
 AbsCalls.of_reach fk23 rfl rfl (Nat.le_of_ble_eq_true rfl) (c23_e a0 r h)
noncomputable def I85 : Info := { body := (Tryz.f85.body).getD .skip, nt := 14, results := [.tmp 4], keep := [0, 2, 4, 8, 5], live := [], modes := [(1, [(3, .take, false)])] }
theorem fk85 : FnOk Tryz.prog 85 Tryz.f85 I85 := ⟨Tryz.func85, by kernel_rfl, by kernel_rfl, by kernel_rfl, by kernel_rfl⟩
theorem p85_e_0 (a0 : Tok) (a1 : Str) : rE I85 (xBo a0 a1) [Y] [] = dn (xAE (((Tok.text a0) : Str) == a1)) [(((Tok.kind a0) : Int) == 4) = true] := by kernel_rfl
theorem p85_e_1 (a0 : Tok) (a1 : Str) : rE I85 (xBo a0 a1) [F] [] = dn (xAE false) [(((Tok.kind a0) : Int) == 4) = false] := by kernel_rfl
theorem c85_e {N : Nat} : ∀ a0 a1 r, xDc N a0 a1 = some r → RE Tryz.f85 I85 (xBo a0 a1) (xAE r) := fun a0 a1 r h =>
 cE h (fun h0 h => dE h fk85 (p85_e_0 a0 a1) (oc h0 on)) fun h0 h =>
 dE h fk85 (p85_e_1 a0 a1) (oc h0 on)
theorem xB8 {N : Nat} {a0 : Tok} {a1 : Str} {r : Bool} (h : xDc N  a0 a1 = some r) : AbC 85 (xBo a0 a1) (xAE r) :=
 AbsCalls.of_reach fk85 rfl rfl (Nat.le_of_ble_eq_true rfl) (c85_e a0 a1 r h)
noncomputable def I86 : Info := { body := (Tryz.f86.body).getD .skip, nt := 14, results := [.tmp 4], keep := [0, 2, 4, 8, 5], live := [], modes := [(1, [(3, .take, false)])] }
theorem fk86 : FnOk Tryz.prog 86 Tryz.f86 I86 := ⟨Tryz.func86, by kernel_rfl, by kernel_rfl, by kernel_rfl, by kernel_rfl⟩
theorem p86_e_0 (a0 : Tok) (a1 : Str) : rE I86 (xEt a0 a1) [Y] [] = dn (xDV (((Tok.text a0) : Str) == a1)) [(((Tok.kind a0) : Int) == 1) = true] := by kernel_rfl
theorem p86_e_1 (a0 : Tok) (a1 : Str) : rE I86 (xEt a0 a1) [F] [] = dn (xDV false) [(((Tok.kind a0) : Int) == 1) = false] := by kernel_rfl
theorem c86_e {N : Nat} : ∀ a0 a1 r, xE3 N a0 a1 = some r → RE Tryz.f86 I86 (xEt a0 a1) (xDV r) := fun a0 a1 r h =>
 cE h (fun h0 h => dE h fk86 (p86_e_0 a0 a1) (oc h0 on)) fun h0 h =>
 dE h fk86 (p86_e_1 a0 a1) (oc h0 on)
theorem spec_IsKeyword_ok {N : Nat} {a0 : Tok} {a1 : Str} {r : Bool} (h : xE3 N  a0 a1 = some r) : AbC 86 (xEt a0 a1) (xDV r) :=
 AbsCalls.of_reach fk86 rfl rfl (Nat.le_of_ble_eq_true rfl) (c86_e a0 a1 r h)
noncomputable def I45 : Info := { body := (Tryz.f45.body).getD .skip, nt := 50, results := [.tmp 4], keep := [0, 2, 8, 1], live := [], modes := [(1, [(5, .take, false), (17, .take, false), (30, .take, false)])], ext := [0] }
theorem fk45 : FnOk Tryz.prog 45 Tryz.f45 I45 := ⟨Tryz.func45, by kernel_rfl, by kernel_rfl, by kernel_rfl, by kernel_rfl⟩
theorem p45_e_0 (a0 : Rdr) (a1 : Str) (r1 : Bool) : rE I45 (xAo a0 a1) [Y, Y, Y] [xAE r1] = dn (xAf (true, a0)) [(decide (((Rdr.bad a0) : Int) < 0)) = true, (decide (((Rdr.i a0) : Int) < (Ln (Rdr.toks a0) : Int))) = true, (0 : Int) ≤ (Rdr.i a0) ∧ (Rdr.i a0) < (Ln (Rdr.toks a0)), AbC 85 (xBo (gD (Rdr.toks a0) (tN (Rdr.i a0)) Ty.tok.dflt) a1) (xAE r1), r1 = true] := by kernel_rfl
theorem p45_e_1 (a0 : Rdr) (a1 : Str) (r1 r2 : Bool) : rE I45 (xAo a0 a1) [Y, Y, F] [xAE r1, xDV r2] = dn (xAf (r2, a0)) [(decide (((Rdr.bad a0) : Int) < 0)) = true, (decide (((Rdr.i a0) : Int) < (Ln (Rdr.toks a0) : Int))) = true, (0 : Int) ≤ (Rdr.i a0) ∧ (Rdr.i a0) < (Ln (Rdr.toks a0)), AbC 85 (xBo (gD (Rdr.toks a0) (tN (Rdr.i a0)) Ty.tok.dflt) a1) (xAE r1), r1 = false, (0 : Int) ≤ (Rdr.i a0) ∧ (Rdr.i a0) < (Ln (Rdr.toks a0)), AbC 86 (xEt (gD (Rdr.toks a0) (tN (Rdr.i a0)) Ty.tok.dflt) a1) (xDV r2)] := by kernel_rfl
theorem p45_e_2 (a0 : Rdr) (a1 : Str) : rE I45 (xAo a0 a1) [Y, F] [] = dn (xAf (false, a0)) [(decide (((Rdr.bad a0) : Int) < 0)) = true, (decide (((Rdr.i a0) : Int) < (Ln (Rdr.toks a0) : Int))) = false] := by kernel_rfl
theorem p45_e_3 (a0 : Rdr) (a1 : Str) : rE I45 (xAo a0 a1) [F, F] [] = dn (xAf (false, a0)) [(decide (((Rdr.bad a0) : Int) < 0)) = false, false = false] := by kernel_rfl
theorem c45_e {N : Nat} : ∀ a0 a1 r, xBD N a0 a1 = some r → RE Tryz.f45 I45 (xAo a0 a1) (xAf r) := fun a0 a1 r h =>
 cE h (fun h0 h => cE h (fun h1 h => iE h fun h2 h => bE h fun r1 h3 h => cE h (fun h4 h => dE h fk45 (p45_e_0 a0 a1 r1) (oc h0 (oc h1 (oc h2 (oc (xB8 h3) (oc h4 on)))))) fun h4 h =>
 bE h fun r2 h6 h => dE h fk45 (p45_e_1 a0 a1 r1 r2) (oc h0 (oc h1 (oc h2 (oc (xB8 h3) (oc h4 (oc h2 (oc (spec_IsKeyword_ok h6) on)))))))) fun h1 h =>
 dE h fk45 (p45_e_2 a0 a1) (oc h0 (oc h1 on))) fun h0 h =>
 dE h fk45 (p45_e_3 a0 a1) (oc h0 (oc rfl on))
theorem xAx {N : Nat} {a0 : Rdr} {a1 : Str} {r : Bool × Rdr} (h : xBD N  a0 a1 = some r) : AbC 45 (xAo a0 a1) (xAf r) :=
 AbsCalls.of_reach fk45 rfl rfl (Nat.le_of_ble_eq_true rfl) (c45_e a0 a1 r h)
noncomputable def I108 : Info := { body := (Tryz.f108.body).getD .skip, nt := 45, results := [.tmp 2], keep := [0, 4, 6, 8, 10, 18, 82], live := [(2, [0, 6])], modes := [(4, [(4, .take, false)]), (5, [(4, .take, false)]), (6, [(0, .take, false), (2, .take, false), (5, .take, false), (6, .take, false)])] }
theorem xHo : FnOk Tryz.prog 108 Tryz.f108 I108 := ⟨Tryz.func108, by kernel_rfl, by kernel_rfl, by kernel_rfl, by kernel_rfl⟩
def xFk (x0 : Str) (x3 : Int) : St := [(0, .v false [.str x0]), (6, .v false [.int .i64 x3])]
theorem p108_2_0 (x0 : Str) (x3 : Int) : rS 2 I108 (xFk x0 x3) [Y, Y, Y, Y, Y, Y] [] = dn (xBk false) [(decide ((x3 : Int) < (Ln x0 : Int))) = true, (0 : Int) ≤ x3 ∧ x3 < (Ln x0), (decide ((((gD x0 (tN x3) 0).toNat : Int) : Int) ≥ 97)) = true, (0 : Int) ≤ x3 ∧ x3 < (Ln x0), (0 : Int) ≤ x3 ∧ x3 < (Ln x0), (decide ((((gD x0 (tN x3) 0).toNat : Int) : Int) ≥ 48)) = true, (0 : Int) ≤ x3 ∧ x3 < (Ln x0), (!(decide ((((gD x0 (tN x3) 0).toNat : Int) : Int) ≤ 122))) = true, ((x3 : Int) == 0) = true, true = true] := by kernel_rfl
theorem p108_2_1 (x0 : Str) (x3 : Int) : rS 2 I108 (xFk x0 x3) [Y, Y, Y, Y, F, Y] [] = dn (xBk false) [(decide ((x3 : Int) < (Ln x0 : Int))) = true, (0 : Int) ≤ x3 ∧ x3 < (Ln x0), (decide ((((gD x0 (tN x3) 0).toNat : Int) : Int) ≥ 97)) = true, (0 : Int) ≤ x3 ∧ x3 < (Ln x0), (0 : Int) ≤ x3 ∧ x3 < (Ln x0), (decide ((((gD x0 (tN x3) 0).toNat : Int) : Int) ≥ 48)) = true, (0 : Int) ≤ x3 ∧ x3 < (Ln x0), (!(decide ((((gD x0 (tN x3) 0).toNat : Int) : Int) ≤ 122))) = true, ((x3 : Int) == 0) = false, (!(decide ((((gD x0 (tN x3) 0).toNat : Int) : Int) ≤ 57))) = true] := by kernel_rfl
theorem p108_2_2 (x0 : Str) (x3 : Int) : rS 2 I108 (xFk x0 x3) [Y, Y, Y, Y, F, F] [] = st 2 I108 (xFk x0 (W (x3 + 1))) [(decide ((x3 : Int) < (Ln x0 : Int))) = true, (0 : Int) ≤ x3 ∧ x3 < (Ln x0), (decide ((((gD x0 (tN x3) 0).toNat : Int) : Int) ≥ 97)) = true, (0 : Int) ≤ x3 ∧ x3 < (Ln x0), (0 : Int) ≤ x3 ∧ x3 < (Ln x0), (decide ((((gD x0 (tN x3) 0).toNat : Int) : Int) ≥ 48)) = true, (0 : Int) ≤ x3 ∧ x3 < (Ln x0), (!(decide ((((gD x0 (tN x3) 0).toNat : Int) : Int) ≤ 122))) = true, ((x3 : Int) == 0) = false, (!(decide ((((gD x0 (tN x3) 0).toNat : Int) : Int) ≤ 57))) = false] := by kernel_rfl
theorem p108_2_3 (x0 : Str) (x3 : Int) : rS 2 I108 (xFk x0 x3) [Y, Y, Y, F, F] [] = st 2 I108 (xFk x0 (W (x3 + 1))) [(decide ((x3 : Int) < (Ln x0 : Int))) = true, (0 : Int) ≤ x3 ∧ x3 < (Ln x0), (decide ((((gD x0 (tN x3) 0).toNat : Int) : Int) ≥ 97)) = true, (0 : Int) ≤ x3 ∧ x3 < (Ln x0), (0 : Int) ≤ x3 ∧ x3 < (Ln x0), (decide ((((gD x0 (tN x3) 0).toNat : Int) : Int) ≥ 48)) = true, (0 : Int) ≤ x3 ∧ x3 < (Ln x0), (!(decide ((((gD x0 (tN x3) 0).toNat : Int) : Int) ≤ 122))) = false, false = false] := by kernel_rfl
theorem p108_2_4 (x0 : Str) (x3 : Int) : rS 2 I108 (xFk x0 x3) [Y, Y, F, Y, Y, Y] [] = dn (xBk false) [(decide ((x3 : Int) < (Ln x0 : Int))) = true, (0 : Int) ≤ x3 ∧ x3 < (Ln x0), (decide ((((gD x0 (tN x3) 0).toNat : Int) : Int) ≥ 97)) = true, (0 : Int) ≤ x3 ∧ x3 < (Ln x0), (0 : Int) ≤ x3 ∧ x3 < (Ln x0), (decide ((((gD x0 (tN x3) 0).toNat : Int) : Int) ≥ 48)) = false, (!(decide ((((gD x0 (tN x3) 0).toNat : Int) : Int) ≤ 122))) = true, ((x3 : Int) == 0) = true, true = true] := by kernel_rfl
theorem p108_2_5 (x0 : Str) (x3 : Int) : rS 2 I108 (xFk x0 x3) [Y, Y, F, Y, F, Y] [] = dn (xBk false) [(decide ((x3 : Int) < (Ln x0 : Int))) = true, (0 : Int) ≤ x3 ∧ x3 < (Ln x0), (decide ((((gD x0 (tN x3) 0).toNat : Int) : Int) ≥ 97)) = true, (0 : Int) ≤ x3 ∧ x3 < (Ln x0), (0 : Int) ≤ x3 ∧ x3 < (Ln x0), (decide ((((gD x0 (tN x3) 0).toNat : Int) : Int) ≥ 48)) = false, (!(decide ((((gD x0 (tN x3) 0).toNat : Int) : Int) ≤ 122))) = true, ((x3 : Int) == 0) = false, (!false) = true] := by kernel_rfl
theorem p108_2_6 (x0 : Str) (x3 : Int) : rS 2 I108 (xFk x0 x3) [Y, Y, F, F, F] [] = st 2 I108 (xFk x0 (W (x3 + 1))) [(decide ((x3 : Int) < (Ln x0 : Int))) = true, (0 : Int) ≤ x3 ∧ x3 < (Ln x0), (decide ((((gD x0 (tN x3) 0).toNat : Int) : Int) ≥ 97)) = true, (0 : Int) ≤ x3 ∧ x3 < (Ln x0), (0 : Int) ≤ x3 ∧ x3 < (Ln x0), (decide ((((gD x0 (tN x3) 0).toNat : Int) : Int) ≥ 48)) = false, (!(decide ((((gD x0 (tN x3) 0).toNat : Int) : Int) ≤ 122))) = false, false = false] := by kernel_rfl
theorem p108_2_7 (x0 : Str) (x3 : Int) : rS 2 I108 (xFk x0 x3) [Y, F, Y, Y, Y, Y] [] = dn (xBk false) [(decide ((x3 : Int) < (Ln x0 : Int))) = true, (0 : Int) ≤ x3 ∧ x3 < (Ln x0), (decide ((((gD x0 (tN x3) 0).toNat : Int) : Int) ≥ 97)) = false, (0 : Int) ≤ x3 ∧ x3 < (Ln x0), (decide ((((gD x0 (tN x3) 0).toNat : Int) : Int) ≥ 48)) = true, (0 : Int) ≤ x3 ∧ x3 < (Ln x0), (!false) = true, ((x3 : Int) == 0) = true, true = true] := by kernel_rfl
theorem p108_2_8 (x0 : Str) (x3 : Int) : rS 2 I108 (xFk x0 x3) [Y, F, Y, Y, F, Y] [] = dn (xBk false) [(decide ((x3 : Int) < (Ln x0 : Int))) = true, (0 : Int) ≤ x3 ∧ x3 < (Ln x0), (decide ((((gD x0 (tN x3) 0).toNat : Int) : Int) ≥ 97)) = false, (0 : Int) ≤ x3 ∧ x3 < (Ln x0), (decide ((((gD x0 (tN x3) 0).toNat : Int) : Int) ≥ 48)) = true, (0 : Int) ≤ x3 ∧ x3 < (Ln x0), (!false) = true, ((x3 : Int) == 0) = false, (!(decide ((((gD x0 (tN x3) 0).toNat : Int) : Int) ≤ 57))) = true] := by kernel_rfl
theorem p108_2_9 (x0 : Str) (x3 : Int) : rS 2 I108 (xFk x0 x3) [Y, F, Y, Y, F, F] [] = st 2 I108 (xFk x0 (W (x3 + 1))) [(decide ((x3 : Int) < (Ln x0 : Int))) = true, (0 : Int) ≤ x3 ∧ x3 < (Ln x0), (decide ((((gD x0 (tN x3) 0).toNat : Int) : Int) ≥ 97)) = false, (0 : Int) ≤ x3 ∧ x3 < (Ln x0), (decide ((((gD x0 (tN x3) 0).toNat : Int) : Int) ≥ 48)) = true, (0 : Int) ≤ x3 ∧ x3 < (Ln x0), (!false) = true, ((x3 : Int) == 0) = false, (!(decide ((((gD x0 (tN x3) 0).toNat : Int) : Int) ≤ 57))) = false] := by kernel_rfl
theorem p108_2_10 (x0 : Str) (x3 : Int) : rS 2 I108 (xFk x0 x3) [Y, F, F, Y, Y, Y] [] = dn (xBk false) [(decide ((x3 : Int) < (Ln x0 : Int))) = true, (0 : Int) ≤ x3 ∧ x3 < (Ln x0), (decide ((((gD x0 (tN x3) 0).toNat : Int) : Int) ≥ 97)) = false, (0 : Int) ≤ x3 ∧ x3 < (Ln x0), (decide ((((gD x0 (tN x3) 0).toNat : Int) : Int) ≥ 48)) = false, (!false) = true, ((x3 : Int) == 0) = true, true = true] := by kernel_rfl
theorem p108_2_11 (x0 : Str) (x3 : Int) : rS 2 I108 (xFk x0 x3) [Y, F, F, Y, F, Y] [] = dn (xBk false) [(decide ((x3 : Int) < (Ln x0 : Int))) = true, (0 : Int) ≤ x3 ∧ x3 < (Ln x0), (decide ((((gD x0 (tN x3) 0).toNat : Int) : Int) ≥ 97)) = false, (0 : Int) ≤ x3 ∧ x3 < (Ln x0), (decide ((((gD x0 (tN x3) 0).toNat : Int) : Int) ≥ 48)) = false, (!false) = true, ((x3 : Int) == 0) = false, (!false) = true] := by kernel_rfl
theorem p108_2_12 (x0 : Str) (x3 : Int) : rS 2 I108 (xFk x0 x3) [F] [] = dn (xBk (decide (((Ln x0 : Int) : Int) > 0))) [(decide ((x3 : Int) < (Ln x0 : Int))) = false] := by kernel_rfl
theorem p108_e_13 (a0 : Str) : rE I108 (xEw a0) [] [] = st 2 I108 (xFk a0 0) [] := by kernel_rfl
theorem c108_2 {N : Nat} : ∀ n x0 x3 r, xCZ N n x0 x3 = some r → RS Tryz.f108 I108 2 (xFk x0 x3) (xBk r) := by
 intro n
 induction n with
 | zero => exact fun _ _ _ h => nE h
 | succ n ih =>
  exact fun x0 x3 r h =>
   cE h (fun h0 h => iE h fun h1 h => cE h (fun h2 h => cE h (fun h5 h => cE h (fun h7 h => cE h (fun h8 h => dS h xHo (p108_2_0 x0 x3) (oc h0 (oc h1 (oc h2 (oc h1 (oc h1 (oc h5 (oc h1 (oc h7 (oc h8 (oc rfl on))))))))))) fun h8 h =>
   cE h (fun h9 h => dS h xHo (p108_2_1 x0 x3) (oc h0 (oc h1 (oc h2 (oc h1 (oc h1 (oc h5 (oc h1 (oc h7 (oc h8 (oc h9 on))))))))))) fun h9 h =>
   tS xHo (p108_2_2 x0 x3) (oc h0 (oc h1 (oc h2 (oc h1 (oc h1 (oc h5 (oc h1 (oc h7 (oc h8 (oc h9 on)))))))))) (ih _ _ _ h)) fun h7 h =>
   tS xHo (p108_2_3 x0 x3) (oc h0 (oc h1 (oc h2 (oc h1 (oc h1 (oc h5 (oc h1 (oc h7 (oc rfl on))))))))) (ih _ _ _ h)) fun h5 h =>
   cE h (fun h6 h => cE h (fun h7 h => dS h xHo (p108_2_4 x0 x3) (oc h0 (oc h1 (oc h2 (oc h1 (oc h1 (oc h5 (oc h6 (oc h7 (oc rfl on)))))))))) fun h7 h =>
   dS h xHo (p108_2_5 x0 x3) (oc h0 (oc h1 (oc h2 (oc h1 (oc h1 (oc h5 (oc h6 (oc h7 (oc rfl on)))))))))) fun h6 h =>
   tS xHo (p108_2_6 x0 x3) (oc h0 (oc h1 (oc h2 (oc h1 (oc h1 (oc h5 (oc h6 (oc rfl on)))))))) (ih _ _ _ h)) fun h2 h =>
   cE h (fun h4 h => cE h (fun h7 h => dS h xHo (p108_2_7 x0 x3) (oc h0 (oc h1 (oc h2 (oc h1 (oc h4 (oc h1 (oc rfl (oc h7 (oc rfl on)))))))))) fun h7 h =>
   cE h (fun h8 h => dS h xHo (p108_2_8 x0 x3) (oc h0 (oc h1 (oc h2 (oc h1 (oc h4 (oc h1 (oc rfl (oc h7 (oc h8 on)))))))))) fun h8 h =>
   tS xHo (p108_2_9 x0 x3) (oc h0 (oc h1 (oc h2 (oc h1 (oc h4 (oc h1 (oc rfl (oc h7 (oc h8 on))))))))) (ih _ _ _ h)) fun h4 h =>
   cE h (fun h6 h => dS h xHo (p108_2_10 x0 x3) (oc h0 (oc h1 (oc h2 (oc h1 (oc h4 (oc rfl (oc h6 (oc rfl on))))))))) fun h6 h =>
   dS h xHo (p108_2_11 x0 x3) (oc h0 (oc h1 (oc h2 (oc h1 (oc h4 (oc rfl (oc h6 (oc rfl on))))))))) fun h0 h =>
   dS h xHo (p108_2_12 x0 x3) (oc h0 on)
theorem c108_e {N : Nat} : ∀ a0 r, xGm N a0 = some r → RE Tryz.f108 I108 (xEw a0) (xBk r) := fun a0 r h =>
 tE xHo (p108_e_13 a0) on (c108_2 _ _ _ _ h)
theorem xGa {N : Nat} {a0 : Str} {r : Bool} (h : xGm N  a0 = some r) : AbC 108 (xEw a0) (xBk r) :=
 AbsCalls.of_reach xHo rfl rfl (Nat.le_of_ble_eq_true rfl) (c108_e a0 r h)
noncomputable def I126 : Info := { body := (Tryz.f126.body).getD .skip, nt := 2, results := [.tmp 0], keep := [0], live := [], modes := [] }
theorem fk126 : FnOk Tryz.prog 126 Tryz.f126 I126 := ⟨Tryz.func126, by kernel_rfl, by kernel_rfl, by kernel_rfl, by kernel_rfl⟩
theorem p126_e_0 : rE I126 (xEH ) [] [] = dn (xEh [[108, 101, 116], [105, 110], [105, 102], [116, 104, 101, 110], [101, 108, 115, 101], [102, 111, 114], [100, 111], [108, 101, 110], [115, 117, 109], [116, 97, 107, 101], [115, 107, 105, 112], [114, 97, 110, 103, 101], [110, 116, 104], [119, 104, 101, 114, 101], [107, 101, 101, 112], [97, 100, 100], [103, 114, 111, 117, 112], [106, 111, 105, 110], [99, 111, 108, 117, 109, 110], [114, 111, 119, 115], [99, 108, 111, 99, 107], [99, 104, 97, 110, 99, 101], [102, 105, 108, 101], [116, 97, 98, 108, 101]]) [] := by kernel_rfl
theorem c126_e {N : Nat} : ∀ r, xFt N = some r → RE Tryz.f126 I126 (xEH ) (xEh r) := fun r h =>
 dE h fk126 (p126_e_0) on
theorem spec_l2Reserved_ok {N : Nat} {r : (List Str)} (h : xFt N   = some r) : AbC 126 (xEH ) (xEh r) :=
 AbsCalls.of_reach fk126 rfl rfl (Nat.le_of_ble_eq_true rfl) (c126_e  r h)
noncomputable def I125 : Info := { body := (Tryz.f125.body).getD .skip, nt := 18, results := [.tmp 4], keep := [0, 2, 8, 10, 18, 34], live := [(2, [0, 2, 10])], modes := [] }
theorem fk125 : FnOk Tryz.prog 125 Tryz.f125 I125 := ⟨Tryz.func125, by kernel_rfl, by kernel_rfl, by kernel_rfl, by kernel_rfl⟩
def S125_2 (x0 : List Str) (x1 : Str) (x5 : Int) : St := [(0, .v false [.sl .ro .str x0]), (2, .v false [.str x1]), (10, .v false [.int .i64 x5])]
theorem p125_2_0 (x0 : List Str) (x1 : Str) (x5 : Int) : rS 2 I125 (S125_2 x0 x1 x5) [Y, Y] [] = dn (xEE true) [(decide ((x5 : Int) < (Ln x0 : Int))) = true, (0 : Int) ≤ x5 ∧ x5 < (Ln x0), (((gD x0 (tN x5) Ty.str.dflt) : Str) == x1) = true] := by kernel_rfl
theorem p125_2_1 (x0 : List Str) (x1 : Str) (x5 : Int) : rS 2 I125 (S125_2 x0 x1 x5) [Y, F] [] = st 2 I125 (S125_2 x0 x1 (W (x5 + 1))) [(decide ((x5 : Int) < (Ln x0 : Int))) = true, (0 : Int) ≤ x5 ∧ x5 < (Ln x0), (((gD x0 (tN x5) Ty.str.dflt) : Str) == x1) = false] := by kernel_rfl
theorem p125_2_2 (x0 : List Str) (x1 : Str) (x5 : Int) : rS 2 I125 (S125_2 x0 x1 x5) [F] [] = dn (xEE false) [(decide ((x5 : Int) < (Ln x0 : Int))) = false] := by kernel_rfl
theorem p125_e_3 (a0 : List Str) (a1 : Str) : rE I125 (xFQ a0 a1) [] [] = st 2 I125 (S125_2 a0 a1 0) [] := by kernel_rfl
theorem c125_2 {N : Nat} : ∀ n x0 x1 x5 r, xED N n x0 x1 x5 = some r → RS Tryz.f125 I125 2 (S125_2 x0 x1 x5) (xEE r) := by
 intro n
 induction n with
 | zero => exact fun _ _ _ _ h => nE h
 | succ n ih =>
  exact fun x0 x1 x5 r h =>
   cE h (fun h0 h => iE h fun h1 h => cE h (fun h2 h => dS h fk125 (p125_2_0 x0 x1 x5) (oc h0 (oc h1 (oc h2 on)))) fun h2 h =>
   tS fk125 (p125_2_1 x0 x1 x5) (oc h0 (oc h1 (oc h2 on))) (ih _ _ _ _ h)) fun h0 h =>
   dS h fk125 (p125_2_2 x0 x1 x5) (oc h0 on)
theorem c125_e {N : Nat} : ∀ a0 a1 r, xHb N a0 a1 = some r → RE Tryz.f125 I125 (xFQ a0 a1) (xEE r) := fun a0 a1 r h =>
 tE fk125 (p125_e_3 a0 a1) on (c125_2 _ _ _ _ _ h)
theorem spec_l1Has_ok {N : Nat} {a0 : List Str} {a1 : Str} {r : Bool} (h : xHb N  a0 a1 = some r) : AbC 125 (xFQ a0 a1) (xEE r) :=
 AbsCalls.of_reach fk125 rfl rfl (Nat.le_of_ble_eq_true rfl) (c125_e a0 a1 r h)
noncomputable def I109 : Info := { body := (Tryz.f109.body).getD .skip, nt := 6, results := [.tmp 2], keep := [0, 4], live := [], modes := [] }
theorem fk109 : FnOk Tryz.prog 109 Tryz.f109 I109 := ⟨Tryz.func109, by kernel_rfl, by kernel_rfl, by kernel_rfl, by kernel_rfl⟩
theorem p109_e_0 (a0 : Str) (r1 : (List Str)) (r2 : Bool) : rE I109 (xEG a0) [] [xEh r1, xEE r2] = dn (xEe r2) [AbC 126 xEH (xEh r1), AbC 125 (xFQ r1 a0) (xEE r2)] := by kernel_rfl
theorem c109_e {N : Nat} : ∀ a0 r, xEN N a0 = some r → RE Tryz.f109 I109 (xEG a0) (xEe r) := fun a0 r h =>
 bE h fun r1 h0 h => bE h fun r2 h1 h => dE h fk109 (p109_e_0 a0 r1 r2) (oc (spec_l2Reserved_ok h0) (oc (spec_l1Has_ok h1) on))
theorem spec_IsReserved_ok {N : Nat} {a0 : Str} {r : Bool} (h : xEN N  a0 = some r) : AbC 109 (xEG a0) (xEe r) :=
 AbsCalls.of_reach fk109 rfl rfl (Nat.le_of_ble_eq_true rfl) (c109_e a0 r h)
noncomputable def I87 : Info := { body := (Tryz.f87.body).getD .skip, nt := 15, results := [.tmp 2], keep := [0, 4], live := [], modes := [(1, [(2, .take, false), (7, .take, false)])] }
theorem fk87 : FnOk Tryz.prog 87 Tryz.f87 I87 := ⟨Tryz.func87, by kernel_rfl, by kernel_rfl, by kernel_rfl, by kernel_rfl⟩
theorem p87_e_0 (a0 : Str) (r1 r2 : Bool) : rE I87 (xA4 a0) [Y, Y] [xBk r1, xEe r2] = dn (xAz (!r2)) [AbC 108 (xEw a0) (xBk r1), r1 = true, (decide (((Ln a0 : Int) : Int) ≤ 8)) = true, AbC 109 (xEG a0) (xEe r2)] := by kernel_rfl
theorem p87_e_1 (a0 : Str) (r1 : Bool) : rE I87 (xA4 a0) [Y, F] [xBk r1] = dn (xAz false) [AbC 108 (xEw a0) (xBk r1), r1 = true, (decide (((Ln a0 : Int) : Int) ≤ 8)) = false] := by kernel_rfl
theorem p87_e_2 (a0 : Str) (r1 : Bool) : rE I87 (xA4 a0) [F, F] [xBk r1] = dn (xAz false) [AbC 108 (xEw a0) (xBk r1), r1 = false, false = false] := by kernel_rfl
theorem c87_e {N : Nat} : ∀ a0 r, xC4 N a0 = some r → RE Tryz.f87 I87 (xA4 a0) (xAz r) := fun a0 r h =>
 bE h fun r1 h0 h => cE h (fun h1 h => cE h (fun h2 h => bE h fun r2 h3 h => dE h fk87 (p87_e_0 a0 r1 r2) (oc (xGa h0) (oc h1 (oc h2 (oc (spec_IsReserved_ok h3) on))))) fun h2 h =>
 dE h fk87 (p87_e_1 a0 r1) (oc (xGa h0) (oc h1 (oc h2 on)))) fun h1 h =>
 dE h fk87 (p87_e_2 a0 r1) (oc (xGa h0) (oc h1 (oc rfl on)))
theorem xBX {N : Nat} {a0 : Str} {r : Bool} (h : xC4 N  a0 = some r) : AbC 87 (xA4 a0) (xAz r) :=
 AbsCalls.of_reach fk87 rfl rfl (Nat.le_of_ble_eq_true rfl) (c87_e a0 r h)
noncomputable def I29 : Info := { body := (Tryz.f29.body).getD .skip, nt := 40, results := [.cell 2 25], keep := [0, 4, 14, 48, 1, 5], live := [], modes := [], ext := [0] }
theorem fk29 : FnOk Tryz.prog 29 Tryz.f29 I29 := ⟨Tryz.func29, by kernel_rfl, by kernel_rfl, by kernel_rfl, by kernel_rfl⟩
theorem p29_e_0 (a0 : Rdr) : rE I29 (xBs a0) [Y, Y] [] = dn (xAH ((Exp.mk 0 0 [] []), (Rdr.mk (Rdr.toks a0) (Rdr.i a0) (Rdr.fin a0) (Tok.pos (gD (Rdr.toks a0) (tN (Rdr.i a0)) Ty.tok.dflt))))) [(decide (((Rdr.bad a0) : Int) < 0)) = true, (decide (((Rdr.i a0) : Int) < (Ln (Rdr.toks a0) : Int))) = true, (0 : Int) ≤ (Rdr.i a0) ∧ (Rdr.i a0) < (Ln (Rdr.toks a0))] := by kernel_rfl
theorem p29_e_1 (a0 : Rdr) : rE I29 (xBs a0) [Y, F] [] = dn (xAH ((Exp.mk 0 0 [] []), (Rdr.mk (Rdr.toks a0) (Rdr.i a0) (Rdr.fin a0) (Rdr.fin a0)))) [(decide (((Rdr.bad a0) : Int) < 0)) = true, (decide (((Rdr.i a0) : Int) < (Ln (Rdr.toks a0) : Int))) = false] := by kernel_rfl
theorem p29_e_2 (a0 : Rdr) : rE I29 (xBs a0) [F] [] = dn (xAH ((Exp.mk 0 0 [] []), a0)) [(decide (((Rdr.bad a0) : Int) < 0)) = false] := by kernel_rfl
theorem c29_e {N : Nat} : ∀ a0 r, xBT N a0 = some r → RE Tryz.f29 I29 (xBs a0) (xAH r) := fun a0 r h =>
 cE h (fun h0 h => cE h (fun h1 h => iE h fun h2 h => dE h fk29 (p29_e_0 a0) (oc h0 (oc h1 (oc h2 on)))) fun h1 h =>
 dE h fk29 (p29_e_1 a0) (oc h0 (oc h1 on))) fun h0 h =>
 dE h fk29 (p29_e_2 a0) (oc h0 on)
theorem xCj {N : Nat} {a0 : Rdr} {r : Exp × Rdr} (h : xBT N  a0 = some r) : AbC 29 (xBs a0) (xAH r) :=
 AbsCalls.of_reach fk29 rfl rfl (Nat.le_of_ble_eq_true rfl) (c29_e a0 r h)
noncomputable def I46 : Info := { body := (Tryz.f46.body).getD .skip, nt := 71, results := [.tmp 2], keep := [0, 4, 96, 1], live := [], modes := [(1, [(5, .take, false), (17, .take, false), (31, .take, false)])], ext := [0] }
theorem fk46 : FnOk Tryz.prog 46 Tryz.f46 I46 := ⟨Tryz.func46, by kernel_rfl, by kernel_rfl, by kernel_rfl, by kernel_rfl⟩
theorem p46_e_0 (a0 : Rdr) (r1 : Exp × Rdr) : rE I46 (xDg a0) [Y, Y, Y, Y] [xAH r1] = dn (xCG ([], r1.2)) [(decide (((Rdr.bad a0) : Int) ≥ 0)) = true, true = true, true = true, true = true, AbC 29 (xBs a0) (xAH r1)] := by kernel_rfl
theorem p46_e_1 (a0 : Rdr) (r1 : Exp × Rdr) : rE I46 (xDg a0) [F, Y, Y, Y] [xAH r1] = dn (xCG ([], r1.2)) [(decide (((Rdr.bad a0) : Int) ≥ 0)) = false, (decide (((Rdr.i a0) : Int) ≥ (Ln (Rdr.toks a0) : Int))) = true, true = true, true = true, AbC 29 (xBs a0) (xAH r1)] := by kernel_rfl
theorem p46_e_2 (a0 : Rdr) (r1 : Exp × Rdr) : rE I46 (xDg a0) [F, F, Y, Y] [xAH r1] = dn (xCG ([], r1.2)) [(decide (((Rdr.bad a0) : Int) ≥ 0)) = false, (decide (((Rdr.i a0) : Int) ≥ (Ln (Rdr.toks a0) : Int))) = false, (0 : Int) ≤ (Rdr.i a0) ∧ (Rdr.i a0) < (Ln (Rdr.toks a0)), (((Tok.kind (gD (Rdr.toks a0) (tN (Rdr.i a0)) Ty.tok.dflt)) : Int) != 1) = true, true = true, AbC 29 (xBs a0) (xAH r1)] := by kernel_rfl
theorem p46_e_3 (a0 : Rdr) (r1 : Bool) (r2 : Exp × Rdr) : rE I46 (xDg a0) [F, F, F, Y] [xAz r1, xAH r2] = dn (xCG ([], r2.2)) [(decide (((Rdr.bad a0) : Int) ≥ 0)) = false, (decide (((Rdr.i a0) : Int) ≥ (Ln (Rdr.toks a0) : Int))) = false, (0 : Int) ≤ (Rdr.i a0) ∧ (Rdr.i a0) < (Ln (Rdr.toks a0)), (((Tok.kind (gD (Rdr.toks a0) (tN (Rdr.i a0)) Ty.tok.dflt)) : Int) != 1) = false, (0 : Int) ≤ (Rdr.i a0) ∧ (Rdr.i a0) < (Ln (Rdr.toks a0)), AbC 87 (xA4 (Tok.text (gD (Rdr.toks a0) (tN (Rdr.i a0)) Ty.tok.dflt))) (xAz r1), (!r1) = true, AbC 29 (xBs a0) (xAH r2)] := by kernel_rfl
theorem p46_e_4 (a0 : Rdr) (r1 : Bool) : rE I46 (xDg a0) [F, F, F, F] [xAz r1] = dn (xCG ((Tok.text (gD (Rdr.toks a0) (tN (W ((W ((Rdr.i a0) + 1)) - 1))) Ty.tok.dflt)), (Rdr.mk (Rdr.toks a0) (W ((Rdr.i a0) + 1)) (Rdr.fin a0) (Rdr.bad a0)))) [(decide (((Rdr.bad a0) : Int) ≥ 0)) = false, (decide (((Rdr.i a0) : Int) ≥ (Ln (Rdr.toks a0) : Int))) = false, (0 : Int) ≤ (Rdr.i a0) ∧ (Rdr.i a0) < (Ln (Rdr.toks a0)), (((Tok.kind (gD (Rdr.toks a0) (tN (Rdr.i a0)) Ty.tok.dflt)) : Int) != 1) = false, (0 : Int) ≤ (Rdr.i a0) ∧ (Rdr.i a0) < (Ln (Rdr.toks a0)), AbC 87 (xA4 (Tok.text (gD (Rdr.toks a0) (tN (Rdr.i a0)) Ty.tok.dflt))) (xAz r1), (!r1) = false, (0 : Int) ≤ (W ((W ((Rdr.i a0) + 1)) - 1)) ∧ (W ((W ((Rdr.i a0) + 1)) - 1)) < (Ln (Rdr.toks a0))] := by kernel_rfl
theorem c46_e {N : Nat} : ∀ a0 r, xDn N a0 = some r → RE Tryz.f46 I46 (xDg a0) (xCG r) := fun a0 r h =>
 cE h (fun h0 h => bE h fun r1 h4 h => dE h fk46 (p46_e_0 a0 r1) (oc h0 (oc rfl (oc rfl (oc rfl (oc (xCj h4) on)))))) fun h0 h =>
 cE h (fun h1 h => bE h fun r1 h4 h => dE h fk46 (p46_e_1 a0 r1) (oc h0 (oc h1 (oc rfl (oc rfl (oc (xCj h4) on)))))) fun h1 h =>
 iE h fun h2 h => cE h (fun h3 h => bE h fun r1 h5 h => dE h fk46 (p46_e_2 a0 r1) (oc h0 (oc h1 (oc h2 (oc h3 (oc rfl (oc (xCj h5) on))))))) fun h3 h =>
 bE h fun r1 h5 h => cE h (fun h6 h => bE h fun r2 h7 h => dE h fk46 (p46_e_3 a0 r1 r2) (oc h0 (oc h1 (oc h2 (oc h3 (oc h2 (oc (xBX h5) (oc h6 (oc (xCj h7) on))))))))) fun h6 h =>
 iE h fun h7 h => dE h fk46 (p46_e_4 a0 r1) (oc h0 (oc h1 (oc h2 (oc h3 (oc h2 (oc (xBX h5) (oc h6 (oc h7 on))))))))
theorem xG4 {N : Nat} {a0 : Rdr} {r : Str × Rdr} (h : xDn N  a0 = some r) : AbC 46 (xDg a0) (xCG r) :=
 AbsCalls.of_reach fk46 rfl rfl (Nat.le_of_ble_eq_true rfl) (c46_e a0 r h)
noncomputable def I47 : Info := { body := (Tryz.f47.body).getD .skip, nt := 18, results := [], keep := [0, 2, 14, 1], live := [], modes := [], ext := [0] }
theorem fk47 : FnOk Tryz.prog 47 Tryz.f47 I47 := ⟨Tryz.func47, by kernel_rfl, by kernel_rfl, by kernel_rfl, by kernel_rfl⟩
theorem p47_e_0 (a0 : Rdr) (a1 : Str) (r1 : Bool × Rdr) (r2 : Exp × Rdr) : rE I47 (xBJ a0 a1) [Y] [xAf r1, xAH r2] = dn (xAO r2.2) [AbC 45 (xAo a0 a1) (xAf r1), (!r1.1) = true, AbC 29 (xBs r1.2) (xAH r2)] := by kernel_rfl
theorem p47_e_1 (a0 : Rdr) (a1 : Str) (r1 : Bool × Rdr) : rE I47 (xBJ a0 a1) [F] [xAf r1] = dn (xAO (Rdr.mk (Rdr.toks r1.2) (W ((Rdr.i r1.2) + 1)) (Rdr.fin r1.2) (Rdr.bad r1.2))) [AbC 45 (xAo a0 a1) (xAf r1), (!r1.1) = false] := by kernel_rfl
theorem c47_e {N : Nat} : ∀ a0 a1 r, xBx N a0 a1 = some r → RE Tryz.f47 I47 (xBJ a0 a1) (xAO r) := fun a0 a1 r h =>
 bE h fun r1 h0 h => cE h (fun h1 h => bE h fun r2 h2 h => dE h fk47 (p47_e_0 a0 a1 r1 r2) (oc (xAx h0) (oc h1 (oc (xCj h2) on)))) fun h1 h =>
 dE h fk47 (p47_e_1 a0 a1 r1) (oc (xAx h0) (oc h1 on))
theorem xCH {N : Nat} {a0 : Rdr} {a1 : Str} {r : Rdr} (h : xBx N  a0 a1 = some r) : AbC 47 (xBJ a0 a1) (xAO r) :=
 AbsCalls.of_reach fk47 rfl rfl (Nat.le_of_ble_eq_true rfl) (c47_e a0 a1 r h)
noncomputable def I67 : Info := { body := (Tryz.f67.body).getD .skip, nt := 5, results := [.cell 2 25], keep := [0, 4, 5], live := [], modes := [] }
theorem fk67 : FnOk Tryz.prog 67 Tryz.f67 I67 := ⟨Tryz.func67, by kernel_rfl, by kernel_rfl, by kernel_rfl, by kernel_rfl⟩
theorem p67_e_0 (a0 : Int) : rE I67 (xFD a0) [] [] = dn (xE4 (Exp.mk 1 a0 [] [])) [] := by kernel_rfl
theorem c67_e {N : Nat} : ∀ a0 r, xHy N a0 = some r → RE Tryz.f67 I67 (xFD a0) (xE4 r) := fun a0 r h =>
 dE h fk67 (p67_e_0 a0) on
theorem spec_l10Num_ok {N : Nat} {a0 : Int} {r : Exp} (h : xHy N  a0 = some r) : AbC 67 (xFD a0) (xE4 r) :=
 AbsCalls.of_reach fk67 rfl rfl (Nat.le_of_ble_eq_true rfl) (c67_e a0 r h)
noncomputable def I101 : Info := { body := (Tryz.f101.body).getD .skip, nt := 5, results := [.cell 2 25], keep := [0, 4, 5], live := [], modes := [] }
theorem fk101 : FnOk Tryz.prog 101 Tryz.f101 I101 := ⟨Tryz.func101, by kernel_rfl, by kernel_rfl, by kernel_rfl, by kernel_rfl⟩
theorem p101_e_0 (a0 : Str) : rE I101 (xFr a0) [] [] = dn (xER (Exp.mk 3 0 a0 [])) [] := by kernel_rfl
theorem c101_e {N : Nat} : ∀ a0 r, xG3 N a0 = some r → RE Tryz.f101 I101 (xFr a0) (xER r) := fun a0 r h =>
 dE h fk101 (p101_e_0 a0) on
theorem spec_l10Name_ok {N : Nat} {a0 : Str} {r : Exp} (h : xG3 N  a0 = some r) : AbC 101 (xFr a0) (xER r) :=
 AbsCalls.of_reach fk101 rfl rfl (Nat.le_of_ble_eq_true rfl) (c101_e a0 r h)
noncomputable def I106 : Info := { body := (Tryz.f106.body).getD .skip, nt := 26, results := [.tmp 2], keep := [0, 4, 6, 8, 12, 24, 40, 48], live := [], modes := [] }
theorem xGE : FnOk Tryz.prog 106 Tryz.f106 I106 := ⟨Tryz.func106, by kernel_rfl, by kernel_rfl, by kernel_rfl, by kernel_rfl⟩
theorem p106_e_0 (a0 : Str) : rE I106 (xAr a0) [Y] [] = dn (xAj 0) [((a0 : Str) == [99, 108, 111, 99, 107]) = true] := by kernel_rfl
theorem p106_e_1 (a0 : Str) : rE I106 (xAr a0) [F, Y, Y] [] = dn (xAj 1) [((a0 : Str) == [99, 108, 111, 99, 107]) = false, ((a0 : Str) == [108, 101, 110]) = true, ((a0 : Str) == [108, 101, 110]) = true] := by kernel_rfl
theorem p106_e_2 (a0 : Str) : rE I106 (xAr a0) [F, F, Y, Y] [] = dn (xAj 1) [((a0 : Str) == [99, 108, 111, 99, 107]) = false, ((a0 : Str) == [108, 101, 110]) = false, ((a0 : Str) == [115, 117, 109]) = true, ((a0 : Str) == [115, 117, 109]) = true] := by kernel_rfl
theorem p106_e_3 (a0 : Str) : rE I106 (xAr a0) [F, F, F, Y, Y] [] = dn (xAj 1) [((a0 : Str) == [99, 108, 111, 99, 107]) = false, ((a0 : Str) == [108, 101, 110]) = false, ((a0 : Str) == [115, 117, 109]) = false, ((a0 : Str) == [114, 111, 119, 115]) = true, ((a0 : Str) == [114, 111, 119, 115]) = true] := by kernel_rfl
theorem p106_e_4 (a0 : Str) : rE I106 (xAr a0) [F, F, F, F, Y, Y] [] = dn (xAj 1) [((a0 : Str) == [99, 108, 111, 99, 107]) = false, ((a0 : Str) == [108, 101, 110]) = false, ((a0 : Str) == [115, 117, 109]) = false, ((a0 : Str) == [114, 111, 119, 115]) = false, ((a0 : Str) == [99, 104, 97, 110, 99, 101]) = true, ((a0 : Str) == [99, 104, 97, 110, 99, 101]) = true] := by kernel_rfl
theorem p106_e_5 (a0 : Str) : rE I106 (xAr a0) [F, F, F, F, F, Y] [] = dn (xAj 1) [((a0 : Str) == [99, 108, 111, 99, 107]) = false, ((a0 : Str) == [108, 101, 110]) = false, ((a0 : Str) == [115, 117, 109]) = false, ((a0 : Str) == [114, 111, 119, 115]) = false, ((a0 : Str) == [99, 104, 97, 110, 99, 101]) = false, ((a0 : Str) == [102, 105, 108, 101]) = true] := by kernel_rfl
theorem p106_e_6 (a0 : Str) : rE I106 (xAr a0) [F, F, F, F, F, F, Y, Y] [] = dn (xAj 2) [((a0 : Str) == [99, 108, 111, 99, 107]) = false, ((a0 : Str) == [108, 101, 110]) = false, ((a0 : Str) == [115, 117, 109]) = false, ((a0 : Str) == [114, 111, 119, 115]) = false, ((a0 : Str) == [99, 104, 97, 110, 99, 101]) = false, ((a0 : Str) == [102, 105, 108, 101]) = false, ((a0 : Str) == [116, 97, 107, 101]) = true, ((a0 : Str) == [116, 97, 107, 101]) = true] := by kernel_rfl
theorem p106_e_7 (a0 : Str) : rE I106 (xAr a0) [F, F, F, F, F, F, F, Y, Y] [] = dn (xAj 2) [((a0 : Str) == [99, 108, 111, 99, 107]) = false, ((a0 : Str) == [108, 101, 110]) = false, ((a0 : Str) == [115, 117, 109]) = false, ((a0 : Str) == [114, 111, 119, 115]) = false, ((a0 : Str) == [99, 104, 97, 110, 99, 101]) = false, ((a0 : Str) == [102, 105, 108, 101]) = false, ((a0 : Str) == [116, 97, 107, 101]) = false, ((a0 : Str) == [115, 107, 105, 112]) = true, ((a0 : Str) == [115, 107, 105, 112]) = true] := by kernel_rfl
theorem p106_e_8 (a0 : Str) : rE I106 (xAr a0) [F, F, F, F, F, F, F, F, Y, Y] [] = dn (xAj 2) [((a0 : Str) == [99, 108, 111, 99, 107]) = false, ((a0 : Str) == [108, 101, 110]) = false, ((a0 : Str) == [115, 117, 109]) = false, ((a0 : Str) == [114, 111, 119, 115]) = false, ((a0 : Str) == [99, 104, 97, 110, 99, 101]) = false, ((a0 : Str) == [102, 105, 108, 101]) = false, ((a0 : Str) == [116, 97, 107, 101]) = false, ((a0 : Str) == [115, 107, 105, 112]) = false, ((a0 : Str) == [114, 97, 110, 103, 101]) = true, ((a0 : Str) == [114, 97, 110, 103, 101]) = true] := by kernel_rfl
theorem p106_e_9 (a0 : Str) : rE I106 (xAr a0) [F, F, F, F, F, F, F, F, F, Y, Y] [] = dn (xAj 2) [((a0 : Str) == [99, 108, 111, 99, 107]) = false, ((a0 : Str) == [108, 101, 110]) = false, ((a0 : Str) == [115, 117, 109]) = false, ((a0 : Str) == [114, 111, 119, 115]) = false, ((a0 : Str) == [99, 104, 97, 110, 99, 101]) = false, ((a0 : Str) == [102, 105, 108, 101]) = false, ((a0 : Str) == [116, 97, 107, 101]) = false, ((a0 : Str) == [115, 107, 105, 112]) = false, ((a0 : Str) == [114, 97, 110, 103, 101]) = false, ((a0 : Str) == [110, 116, 104]) = true, ((a0 : Str) == [110, 116, 104]) = true] := by kernel_rfl
theorem p106_e_10 (a0 : Str) : rE I106 (xAr a0) [F, F, F, F, F, F, F, F, F, F, Y, Y] [] = dn (xAj 2) [((a0 : Str) == [99, 108, 111, 99, 107]) = false, ((a0 : Str) == [108, 101, 110]) = false, ((a0 : Str) == [115, 117, 109]) = false, ((a0 : Str) == [114, 111, 119, 115]) = false, ((a0 : Str) == [99, 104, 97, 110, 99, 101]) = false, ((a0 : Str) == [102, 105, 108, 101]) = false, ((a0 : Str) == [116, 97, 107, 101]) = false, ((a0 : Str) == [115, 107, 105, 112]) = false, ((a0 : Str) == [114, 97, 110, 103, 101]) = false, ((a0 : Str) == [110, 116, 104]) = false, ((a0 : Str) == [107, 101, 101, 112]) = true, ((a0 : Str) == [107, 101, 101, 112]) = true] := by kernel_rfl
theorem p106_e_11 (a0 : Str) : rE I106 (xAr a0) [F, F, F, F, F, F, F, F, F, F, F, Y, Y] [] = dn (xAj 2) [((a0 : Str) == [99, 108, 111, 99, 107]) = false, ((a0 : Str) == [108, 101, 110]) = false, ((a0 : Str) == [115, 117, 109]) = false, ((a0 : Str) == [114, 111, 119, 115]) = false, ((a0 : Str) == [99, 104, 97, 110, 99, 101]) = false, ((a0 : Str) == [102, 105, 108, 101]) = false, ((a0 : Str) == [116, 97, 107, 101]) = false, ((a0 : Str) == [115, 107, 105, 112]) = false, ((a0 : Str) == [114, 97, 110, 103, 101]) = false, ((a0 : Str) == [110, 116, 104]) = false, ((a0 : Str) == [107, 101, 101, 112]) = false, ((a0 : Str) == [99, 111, 108, 117, 109, 110]) = true, ((a0 : Str) == [99, 111, 108, 117, 109, 110]) = true] := by kernel_rfl
theorem p106_e_12 (a0 : Str) : rE I106 (xAr a0) [F, F, F, F, F, F, F, F, F, F, F, F, Y] [] = dn (xAj 2) [((a0 : Str) == [99, 108, 111, 99, 107]) = false, ((a0 : Str) == [108, 101, 110]) = false, ((a0 : Str) == [115, 117, 109]) = false, ((a0 : Str) == [114, 111, 119, 115]) = false, ((a0 : Str) == [99, 104, 97, 110, 99, 101]) = false, ((a0 : Str) == [102, 105, 108, 101]) = false, ((a0 : Str) == [116, 97, 107, 101]) = false, ((a0 : Str) == [115, 107, 105, 112]) = false, ((a0 : Str) == [114, 97, 110, 103, 101]) = false, ((a0 : Str) == [110, 116, 104]) = false, ((a0 : Str) == [107, 101, 101, 112]) = false, ((a0 : Str) == [99, 111, 108, 117, 109, 110]) = false, ((a0 : Str) == [116, 97, 98, 108, 101]) = true] := by kernel_rfl
theorem p106_e_13 (a0 : Str) : rE I106 (xAr a0) [F, F, F, F, F, F, F, F, F, F, F, F, F, Y, Y] [] = dn (xAj 3) [((a0 : Str) == [99, 108, 111, 99, 107]) = false, ((a0 : Str) == [108, 101, 110]) = false, ((a0 : Str) == [115, 117, 109]) = false, ((a0 : Str) == [114, 111, 119, 115]) = false, ((a0 : Str) == [99, 104, 97, 110, 99, 101]) = false, ((a0 : Str) == [102, 105, 108, 101]) = false, ((a0 : Str) == [116, 97, 107, 101]) = false, ((a0 : Str) == [115, 107, 105, 112]) = false, ((a0 : Str) == [114, 97, 110, 103, 101]) = false, ((a0 : Str) == [110, 116, 104]) = false, ((a0 : Str) == [107, 101, 101, 112]) = false, ((a0 : Str) == [99, 111, 108, 117, 109, 110]) = false, ((a0 : Str) == [116, 97, 98, 108, 101]) = false, ((a0 : Str) == [119, 104, 101, 114, 101]) = true, ((a0 : Str) == [119, 104, 101, 114, 101]) = true] := by kernel_rfl
theorem p106_e_14 (a0 : Str) : rE I106 (xAr a0) [F, F, F, F, F, F, F, F, F, F, F, F, F, F, Y, Y] [] = dn (xAj 3) [((a0 : Str) == [99, 108, 111, 99, 107]) = false, ((a0 : Str) == [108, 101, 110]) = false, ((a0 : Str) == [115, 117, 109]) = false, ((a0 : Str) == [114, 111, 119, 115]) = false, ((a0 : Str) == [99, 104, 97, 110, 99, 101]) = false, ((a0 : Str) == [102, 105, 108, 101]) = false, ((a0 : Str) == [116, 97, 107, 101]) = false, ((a0 : Str) == [115, 107, 105, 112]) = false, ((a0 : Str) == [114, 97, 110, 103, 101]) = false, ((a0 : Str) == [110, 116, 104]) = false, ((a0 : Str) == [107, 101, 101, 112]) = false, ((a0 : Str) == [99, 111, 108, 117, 109, 110]) = false, ((a0 : Str) == [116, 97, 98, 108, 101]) = false, ((a0 : Str) == [119, 104, 101, 114, 101]) = false, ((a0 : Str) == [103, 114, 111, 117, 112]) = true, ((a0 : Str) == [103, 114, 111, 117, 112]) = true] := by kernel_rfl
theorem p106_e_15 (a0 : Str) : rE I106 (xAr a0) [F, F, F, F, F, F, F, F, F, F, F, F, F, F, F, Y] [] = dn (xAj 3) [((a0 : Str) == [99, 108, 111, 99, 107]) = false, ((a0 : Str) == [108, 101, 110]) = false, ((a0 : Str) == [115, 117, 109]) = false, ((a0 : Str) == [114, 111, 119, 115]) = false, ((a0 : Str) == [99, 104, 97, 110, 99, 101]) = false, ((a0 : Str) == [102, 105, 108, 101]) = false, ((a0 : Str) == [116, 97, 107, 101]) = false, ((a0 : Str) == [115, 107, 105, 112]) = false, ((a0 : Str) == [114, 97, 110, 103, 101]) = false, ((a0 : Str) == [110, 116, 104]) = false, ((a0 : Str) == [107, 101, 101, 112]) = false, ((a0 : Str) == [99, 111, 108, 117, 109, 110]) = false, ((a0 : Str) == [116, 97, 98, 108, 101]) = false, ((a0 : Str) == [119, 104, 101, 114, 101]) = false, ((a0 : Str) == [103, 114, 111, 117, 112]) = false, ((a0 : Str) == [106, 111, 105, 110]) = true] := by kernel_rfl
theorem p106_e_16 (a0 : Str) : rE I106 (xAr a0) [F, F, F, F, F, F, F, F, F, F, F, F, F, F, F, F, Y] [] = dn (xAj 4) [((a0 : Str) == [99, 108, 111, 99, 107]) = false, ((a0 : Str) == [108, 101, 110]) = false, ((a0 : Str) == [115, 117, 109]) = false, ((a0 : Str) == [114, 111, 119, 115]) = false, ((a0 : Str) == [99, 104, 97, 110, 99, 101]) = false, ((a0 : Str) == [102, 105, 108, 101]) = false, ((a0 : Str) == [116, 97, 107, 101]) = false, ((a0 : Str) == [115, 107, 105, 112]) = false, ((a0 : Str) == [114, 97, 110, 103, 101]) = false, ((a0 : Str) == [110, 116, 104]) = false, ((a0 : Str) == [107, 101, 101, 112]) = false, ((a0 : Str) == [99, 111, 108, 117, 109, 110]) = false, ((a0 : Str) == [116, 97, 98, 108, 101]) = false, ((a0 : Str) == [119, 104, 101, 114, 101]) = false, ((a0 : Str) == [103, 114, 111, 117, 112]) = false, ((a0 : Str) == [106, 111, 105, 110]) = false, ((a0 : Str) == [97, 100, 100]) = true] := by kernel_rfl
theorem p106_e_17 (a0 : Str) : rE I106 (xAr a0) [F, F, F, F, F, F, F, F, F, F, F, F, F, F, F, F, F] [] = dn (xAj (-1)) [((a0 : Str) == [99, 108, 111, 99, 107]) = false, ((a0 : Str) == [108, 101, 110]) = false, ((a0 : Str) == [115, 117, 109]) = false, ((a0 : Str) == [114, 111, 119, 115]) = false, ((a0 : Str) == [99, 104, 97, 110, 99, 101]) = false, ((a0 : Str) == [102, 105, 108, 101]) = false, ((a0 : Str) == [116, 97, 107, 101]) = false, ((a0 : Str) == [115, 107, 105, 112]) = false, ((a0 : Str) == [114, 97, 110, 103, 101]) = false, ((a0 : Str) == [110, 116, 104]) = false, ((a0 : Str) == [107, 101, 101, 112]) = false, ((a0 : Str) == [99, 111, 108, 117, 109, 110]) = false, ((a0 : Str) == [116, 97, 98, 108, 101]) = false, ((a0 : Str) == [119, 104, 101, 114, 101]) = false, ((a0 : Str) == [103, 114, 111, 117, 112]) = false, ((a0 : Str) == [106, 111, 105, 110]) = false, ((a0 : Str) == [97, 100, 100]) = false] := by kernel_rfl
theorem c106_e {N : Nat} : ∀ a0 r, xCf N a0 = some r → RE Tryz.f106 I106 (xAr a0) (xAj r) := fun a0 r h =>
 cE h (fun h0 h => dE h xGE (p106_e_0 a0) (oc h0 on)) fun h0 h =>
 cE h (fun h1 h => dE h xGE (p106_e_1 a0) (oc h0 (oc h1 (oc h1 on)))) fun h1 h =>
 cE h (fun h2 h => dE h xGE (p106_e_2 a0) (oc h0 (oc h1 (oc h2 (oc h2 on))))) fun h2 h =>
 cE h (fun h3 h => dE h xGE (p106_e_3 a0) (oc h0 (oc h1 (oc h2 (oc h3 (oc h3 on)))))) fun h3 h =>
 cE h (fun h4 h => dE h xGE (p106_e_4 a0) (oc h0 (oc h1 (oc h2 (oc h3 (oc h4 (oc h4 on))))))) fun h4 h =>
 cE h (fun h5 h => dE h xGE (p106_e_5 a0) (oc h0 (oc h1 (oc h2 (oc h3 (oc h4 (oc h5 on))))))) fun h5 h =>
 cE h (fun h6 h => dE h xGE (p106_e_6 a0) (oc h0 (oc h1 (oc h2 (oc h3 (oc h4 (oc h5 (oc h6 (oc h6 on))))))))) fun h6 h =>
 cE h (fun h7 h => dE h xGE (p106_e_7 a0) (oc h0 (oc h1 (oc h2 (oc h3 (oc h4 (oc h5 (oc h6 (oc h7 (oc h7 on)))))))))) fun h7 h =>
 cE h (fun h8 h => dE h xGE (p106_e_8 a0) (oc h0 (oc h1 (oc h2 (oc h3 (oc h4 (oc h5 (oc h6 (oc h7 (oc h8 (oc h8 on))))))))))) fun h8 h =>
 cE h (fun h9 h => dE h xGE (p106_e_9 a0) (oc h0 (oc h1 (oc h2 (oc h3 (oc h4 (oc h5 (oc h6 (oc h7 (oc h8 (oc h9 (oc h9 on)))))))))))) fun h9 h =>
 cE h (fun h10 h => dE h xGE (p106_e_10 a0) (oc h0 (oc h1 (oc h2 (oc h3 (oc h4 (oc h5 (oc h6 (oc h7 (oc h8 (oc h9 (oc h10 (oc h10 on))))))))))))) fun h10 h =>
 cE h (fun h11 h => dE h xGE (p106_e_11 a0) (oc h0 (oc h1 (oc h2 (oc h3 (oc h4 (oc h5 (oc h6 (oc h7 (oc h8 (oc h9 (oc h10 (oc h11 (oc h11 on)))))))))))))) fun h11 h =>
 cE h (fun h12 h => dE h xGE (p106_e_12 a0) (oc h0 (oc h1 (oc h2 (oc h3 (oc h4 (oc h5 (oc h6 (oc h7 (oc h8 (oc h9 (oc h10 (oc h11 (oc h12 on)))))))))))))) fun h12 h =>
 cE h (fun h13 h => dE h xGE (p106_e_13 a0) (oc h0 (oc h1 (oc h2 (oc h3 (oc h4 (oc h5 (oc h6 (oc h7 (oc h8 (oc h9 (oc h10 (oc h11 (oc h12 (oc h13 (oc h13 on)))))))))))))))) fun h13 h =>
 cE h (fun h14 h => dE h xGE (p106_e_14 a0) (oc h0 (oc h1 (oc h2 (oc h3 (oc h4 (oc h5 (oc h6 (oc h7 (oc h8 (oc h9 (oc h10 (oc h11 (oc h12 (oc h13 (oc h14 (oc h14 on))))))))))))))))) fun h14 h =>
 cE h (fun h15 h => dE h xGE (p106_e_15 a0) (oc h0 (oc h1 (oc h2 (oc h3 (oc h4 (oc h5 (oc h6 (oc h7 (oc h8 (oc h9 (oc h10 (oc h11 (oc h12 (oc h13 (oc h14 (oc h15 on))))))))))))))))) fun h15 h =>
 cE h (fun h16 h => dE h xGE (p106_e_16 a0) (oc h0 (oc h1 (oc h2 (oc h3 (oc h4 (oc h5 (oc h6 (oc h7 (oc h8 (oc h9 (oc h10 (oc h11 (oc h12 (oc h13 (oc h14 (oc h15 (oc h16 on)))))))))))))))))) fun h16 h =>
 dE h xGE (p106_e_17 a0) (oc h0 (oc h1 (oc h2 (oc h3 (oc h4 (oc h5 (oc h6 (oc h7 (oc h8 (oc h9 (oc h10 (oc h11 (oc h12 (oc h13 (oc h14 (oc h15 (oc h16 on)))))))))))))))))
theorem xDE {N : Nat} {a0 : Str} {r : Int} (h : xCf N  a0 = some r) : AbC 106 (xAr a0) (xAj r) :=
 AbsCalls.of_reach xGE rfl rfl (Nat.le_of_ble_eq_true rfl) (c106_e a0 r h)
noncomputable def I66 : Info := { body := (Tryz.f66.body).getD .skip, nt := 12, results := [.cell 6 25], keep := [0, 2, 4, 8, 10, 12, 9, 11, 13], live := [], modes := [] }
theorem fk66 : FnOk Tryz.prog 66 Tryz.f66 I66 := ⟨Tryz.func66, by kernel_rfl, by kernel_rfl, by kernel_rfl, by kernel_rfl⟩
theorem p66_e_0 (a0 : Int) (a1 a2 : Exp) : rE I66 (xDA a0 a1 a2) [] [] = dn (xBS (Exp.mk 6 a0 [] [(Exp.re a1), (Exp.re a2)])) [] := by kernel_rfl
theorem c66_e {N : Nat} : ∀ a0 a1 a2 r, xDX N a0 a1 a2 = some r → RE Tryz.f66 I66 (xDA a0 a1 a2) (xBS r) := fun a0 a1 a2 r h =>
 dE h fk66 (p66_e_0 a0 a1 a2) on
theorem xEC {N : Nat} {a0 : Int} {a1 : Exp} {a2 : Exp} {r : Exp} (h : xDX N  a0 a1 a2 = some r) : AbC 66 (xDA a0 a1 a2) (xBS r) :=
 AbsCalls.of_reach fk66 rfl rfl (Nat.le_of_ble_eq_true rfl) (c66_e a0 a1 a2 r h)
end Go.Ab.T
end
