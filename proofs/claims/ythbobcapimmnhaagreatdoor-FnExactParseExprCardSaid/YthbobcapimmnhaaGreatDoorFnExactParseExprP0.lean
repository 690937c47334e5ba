/- The statement FnExactParseExpr holds: plain functions, certificates, laws. Conditions: none. -/
import Derived.LaidMore
import Derived.Lay
import Derived.Lib.AtoiErrMem
import Derived.Lib.LaidTab
import Derived.OpenVars
import Derived.SevenTiedAt
import Derived.Shelf.Abstract
import Derived.Shelf.Small.Strs
import Derived.Shelf.Strconv.ErrVarAll
import Derived.Shelf.Strconv.Itoa3
import Derived.Shelf.Strings.OnBuilder
import Derived.Shelf.Strings.Prefix
import Derived.Shelf.Strings.Search1
import Derived.Shelf.Strings.Split
import Derived.Stop.Joined
import Derived.Stop.LaidErr
import Derived.Test.YthbobcapimmnhaaGreatDoorCards
import Derived.Test.YthbobcapimmnhaaGreatDoorChecked
import Derived.Test.YthbobcapimmnhaaGreatDoorProg
import Derived.Test.YthbobcapimmnhaaGreatDoorRows
import Derived.Test.YthbobcapimmnhaaGreatDoorTie
import Derived.WalkKit
import Derived.Test.YthbobcapimmnhaaGreatDoorL2
set_option linter.all false
section
namespace Go.Ab
set_option linter.unusedVariables false
def xB2 (a0 : Int) : List Arg := [.val (.v false [.int .u8 a0])]
def xA3 (r : Bool) : CallO := ⟨.v false [.bool r], [], []⟩
def xEJ (N : Nat) (a0 : Int) : Option (Bool) :=
  bif (decide ((a0 : Int) ≥ 97)) then (
    some (decide ((a0 : Int) ≤ 122))
  ) else (
    some false
  )
def xBQ (a0 : Int) : List Arg := [.val (.v false [.int .u8 a0])]
def xAU (r : Bool) : CallO := ⟨.v false [.bool r], [], []⟩
def xEB (N : Nat) (a0 : Int) : Option (Bool) :=
  bif (decide ((a0 : Int) ≥ 48)) then (
    some (decide ((a0 : Int) ≤ 57))
  ) else (
    some false
  )
def xC2 (a0 : Int) : List Arg := [.val (.v false [.int .i64 a0])]
def xBs (r : Str) : CallO := ⟨.v false [.str r], [], []⟩
def xCh (N : Nat) : Nat → Int → Bool → Str → Option (Str)
  | 0, _, _, _ => none
  | n + 1, x0, x3, x4 =>
    bif ((x0 : Int) != 0) then (
      bif (decide (((Int.tmod x0 10) : Int) < 0)) then (
        if List.length (List.map (fun n => UInt8.ofNat (Int.toNat n)) [(IntKind.u8.wrap ((IntKind.i64.wrap (48 + (IntKind.i64.wrap (0 - (Int.tmod x0 10)))))))]) + List.length x4 ≤ Lim then
        (xCh N n (IntKind.i64.wrap (Int.tdiv x0 10)) x3 ((List.map (fun n => UInt8.ofNat (Int.toNat n)) [(IntKind.u8.wrap ((IntKind.i64.wrap (48 + (IntKind.i64.wrap (0 - (Int.tmod x0 10)))))))]) ++ x4))
        else none
      ) else (
        if List.length (List.map (fun n => UInt8.ofNat (Int.toNat n)) [(IntKind.u8.wrap ((IntKind.i64.wrap (48 + (Int.tmod x0 10)))))]) + List.length x4 ≤ Lim then
        (xCh N n (IntKind.i64.wrap (Int.tdiv x0 10)) x3 ((List.map (fun n => UInt8.ofNat (Int.toNat n)) [(IntKind.u8.wrap ((IntKind.i64.wrap (48 + (Int.tmod x0 10)))))]) ++ x4))
        else none
      )
    ) else (
      bif x3 then (
        if List.length [45] + List.length x4 ≤ Lim then
        some ([45] ++ x4)
        else none
      ) else (
        some x4
      )
    )
def xEq (N : Nat) (a0 : Int) : Option (Str) :=
  bif ((a0 : Int) == 0) then (
    some [48]
  ) else (
    (xCh N N a0 (decide ((a0 : Int) < 0)) [])
  )
def xCE (a0 : Str) (a1 : Int) : List Arg := [.val (.v false [.str a0]), .val (.v false [.int .i64 a1])]
def xBy (r : Int × Bool) : CallO := ⟨.tup [(false, [.int .i64 r.1]), (false, [.bool r.2])], [], []⟩
def xC4 (N : Nat) : Nat → Str → Bool → Str → Int → Int → Option (Int × Bool)
  | 0, _, _, _, _, _ => none
  | n + 1, x0, x6, x7, x8, x9 =>
    bif (decide ((x9 : Int) < (List.length x7 : Int))) then (
      if (0 : Int) ≤ x9 ∧ x9 < (List.length x7) then
      bif (decide ((((List.getD x7 (Int.toNat x9) 0).toNat : Int) : Int) < 48)) then (
        some (0, false)
      ) else (
        bif (decide ((((List.getD x7 (Int.toNat x9) 0).toNat : Int) : Int) > 57)) then (
          some (0, false)
        ) else (
          (xC4 N n x0 x6 x7 (IntKind.i64.wrap ((IntKind.i64.wrap (10 * x8)) + (IntKind.i64.wrap ((IntKind.u8.wrap (((List.getD x7 (Int.toNat x9) 0).toNat : Int) - 48)))))) (IntKind.i64.wrap (x9 + 1)))
        )
      )
      else none
    ) else (
      bif x6 then (
        Option.bind (xEq N (IntKind.i64.wrap (0 - x8))) fun r1 =>
        bif (!((r1 : Str) == x0)) then (
          some (0, false)
        ) else (
          some ((IntKind.i64.wrap (0 - x8)), true)
        )
      ) else (
        Option.bind (xEq N x8) fun r1 =>
        bif (!((r1 : Str) == x0)) then (
          some (0, false)
        ) else (
          some (x8, true)
        )
      )
    )
def xFO (N : Nat) (a0 : Str) (a1 : Int) : Option (Int × Bool) :=
  bif (decide (((List.length a0 : Int) : Int) > 0)) then (
    if (0 : Int) ≤ 0 ∧ (0 : Int) < (List.length a0) then
    bif ((((List.getD a0 (Int.toNat 0) 0).toNat : Int) : Int) == 45) then (
      if (0 : Int) ≤ (1 : Int) ∧ (1 : Int) ≤ (List.length a0) then
      bif (decide (((List.length (List.drop (Int.toNat (1 : Int)) a0) : Int) : Int) < 1)) then (
        some (0, false)
      ) else (
        bif (decide (((List.length (List.drop (Int.toNat (1 : Int)) a0) : Int) : Int) > a1)) then (
          some (0, false)
        ) else (
          (xC4 N N a0 ((((List.getD a0 (Int.toNat 0) 0).toNat : Int) : Int) == 45) (List.drop (Int.toNat (1 : Int)) a0) 0 0)
        )
      )
      else none
    ) else (
      bif (decide (((List.length a0 : Int) : Int) < 1)) then (
        some (0, false)
      ) else (
        bif (decide (((List.length a0 : Int) : Int) > a1)) then (
          some (0, false)
        ) else (
          (xC4 N N a0 ((((List.getD a0 (Int.toNat 0) 0).toNat : Int) : Int) == 45) a0 0 0)
        )
      )
    )
    else none
  ) else (
    bif (decide (((List.length a0 : Int) : Int) < 1)) then (
      some (0, false)
    ) else (
      bif (decide (((List.length a0 : Int) : Int) > a1)) then (
        some (0, false)
      ) else (
        (xC4 N N a0 false a0 0 0)
      )
    )
  )
def xCY (a0 : Str) : List Arg := [.val (.v false [.str a0])]
def xBu (r : Int × Bool) : CallO := ⟨.tup [(false, [.int .i64 r.1]), (false, [.bool r.2])], [], []⟩
def xEl (N : Nat) (a0 : Str) : Option (Int × Bool) :=
  Option.bind (xFO N a0 12) fun r1 =>
  some (r1.1, r1.2)
def xCw (a0 : Str) : List Arg := [.val (.v false [.str a0])]
def xAZ (r : Bool) : CallO := ⟨.v false [.bool r], [], []⟩
def xCx (N : Nat) : Nat → Str → Int → Option (Bool)
  | 0, _, _ => none
  | n + 1, x0, x3 =>
    bif (decide ((x3 : Int) < (List.length x0 : Int))) then (
      if (0 : Int) ≤ x3 ∧ x3 < (List.length x0) then
      bif (decide ((((List.getD x0 (Int.toNat x3) 0).toNat : Int) : Int) < 32)) then (
        some false
      ) else (
        bif (decide ((((List.getD x0 (Int.toNat x3) 0).toNat : Int) : Int) > 126)) then (
          some false
        ) else (
          bif ((((List.getD x0 (Int.toNat x3) 0).toNat : Int) : Int) == 34) then (
            some false
          ) else (
            (xCx N n x0 (IntKind.i64.wrap (x3 + 1)))
          )
        )
      )
      else none
    ) else (
      some (decide (((List.length x0 : Int) : Int) ≤ 20))
    )
def xDY (N : Nat) (a0 : Str) : Option (Bool) :=
  (xCx N N a0 0)
def xBm (a0 : Str) (a1 : Int) : List Arg := [.val (.v false [.str a0]), .val (.v false [.int .i64 a1])]
def xBh (r : Int) : CallO := ⟨.v false [.int .i64 r], [], []⟩
def xFc (N : Nat) (a0 : Str) (a1 : Int) : Option (Int) :=
  if (0 : Int) ≤ a1 ∧ a1 < (List.length a0) then
  bif ((((List.getD a0 (Int.toNat a1) 0).toNat : Int) : Int) == 40) then (
    some 1
  ) else (
    bif ((((List.getD a0 (Int.toNat a1) 0).toNat : Int) : Int) == 41) then (
      some 1
    ) else (
      bif ((((List.getD a0 (Int.toNat a1) 0).toNat : Int) : Int) == 91) then (
        some 1
      ) else (
        bif ((((List.getD a0 (Int.toNat a1) 0).toNat : Int) : Int) == 93) then (
          some 1
        ) else (
          bif ((((List.getD a0 (Int.toNat a1) 0).toNat : Int) : Int) == 44) then (
            some 1
          ) else (
            bif ((((List.getD a0 (Int.toNat a1) 0).toNat : Int) : Int) == 43) then (
              some 1
            ) else (
              bif ((((List.getD a0 (Int.toNat a1) 0).toNat : Int) : Int) == 45) then (
                some 1
              ) else (
                bif ((((List.getD a0 (Int.toNat a1) 0).toNat : Int) : Int) == 42) then (
                  some 1
                ) else (
                  bif ((((List.getD a0 (Int.toNat a1) 0).toNat : Int) : Int) == 60) then (
                    some 1
                  ) else (
                    bif ((((List.getD a0 (Int.toNat a1) 0).toNat : Int) : Int) == 61) then (
                      bif (decide (((IntKind.i64.wrap (a1 + 1)) : Int) < (List.length a0 : Int))) then (
                        if (0 : Int) ≤ (IntKind.i64.wrap (a1 + 1)) ∧ (IntKind.i64.wrap (a1 + 1)) < (List.length a0) then
                        bif ((((List.getD a0 (Int.toNat (IntKind.i64.wrap (a1 + 1))) 0).toNat : Int) : Int) == 61) then (
                          some 2
                        ) else (
                          some 1
                        )
                        else none
                      ) else (
                        some 1
                      )
                    ) else (
                      some 0
                    )
                  )
                )
              )
            )
          )
        )
      )
    )
  )
  else none
def xDt (a0 : Str) (a1 : Int) : List Arg := [.val (.v false [.str a0]), .val (.v false [.int .i64 a1])]
def xAP (r : Tok × Int) : CallO := ⟨.tup [(true, [.int .i64 (Tok.kind r.1), .int .i64 (Tok.n r.1), .int .i64 (Tok.pos r.1), .str (Tok.text r.1)]), (false, [.int .i64 r.2])], [], []⟩
def xDu (N : Nat) : Nat → Str → Int → Int → Tok → Tok → Option (Tok × Int)
  | 0, _, _, _, _, _ => none
  | n + 1, x0, x1, x7, b4, b6 =>
    bif (decide ((x7 : Int) < (List.length x0 : Int))) then (
      if (0 : Int) ≤ x7 ∧ x7 < (List.length x0) then
      Option.bind (xEJ N ((List.getD x0 (Int.toNat x7) 0).toNat : Int)) fun r1 =>
      bif r1 then (
        (xDu N n x0 x1 (IntKind.i64.wrap (x7 + 1)) b4 b6)
      ) else (
        Option.bind (xEB N ((List.getD x0 (Int.toNat x7) 0).toNat : Int)) fun r2 =>
        bif r2 then (
          (xDu N n x0 x1 (IntKind.i64.wrap (x7 + 1)) b4 b6)
        ) else (
          if (0 : Int) ≤ x1 ∧ x1 ≤ x7 ∧ x7 ≤ (List.length x0) then
          bif (decide (((IntKind.i64.wrap (x7 - x1)) : Int) > 8)) then (
            some ((Tok.mk 1 (Tok.n b6) (Tok.pos b6) (List.drop (Int.toNat x1) (List.take (Int.toNat x7) x0))), 0)
          ) else (
            some ((Tok.mk 1 (Tok.n b6) (Tok.pos b6) (List.drop (Int.toNat x1) (List.take (Int.toNat x7) x0))), (IntKind.i64.wrap (x7 - x1)))
          )
          else none
        )
      )
      else none
    ) else (
      if (0 : Int) ≤ x1 ∧ x1 ≤ x7 ∧ x7 ≤ (List.length x0) then
      bif (decide (((IntKind.i64.wrap (x7 - x1)) : Int) > 8)) then (
        some ((Tok.mk 1 (Tok.n b6) (Tok.pos b6) (List.drop (Int.toNat x1) (List.take (Int.toNat x7) x0))), 0)
      ) else (
        some ((Tok.mk 1 (Tok.n b6) (Tok.pos b6) (List.drop (Int.toNat x1) (List.take (Int.toNat x7) x0))), (IntKind.i64.wrap (x7 - x1)))
      )
      else none
    )
def xDa (N : Nat) : Nat → Str → Int → Int → Tok → Tok → Option (Tok × Int)
  | 0, _, _, _, _, _ => none
  | n + 1, x0, x1, x7, b4, b6 =>
    bif (decide ((x7 : Int) < (List.length x0 : Int))) then (
      if (0 : Int) ≤ x7 ∧ x7 < (List.length x0) then
      Option.bind (xEB N ((List.getD x0 (Int.toNat x7) 0).toNat : Int)) fun r1 =>
      bif r1 then (
        (xDa N n x0 x1 (IntKind.i64.wrap (x7 + 1)) b4 b6)
      ) else (
        if (0 : Int) ≤ x1 ∧ x1 ≤ x7 ∧ x7 ≤ (List.length x0) then
        Option.bind (xEl N (List.drop (Int.toNat x1) (List.take (Int.toNat x7) x0))) fun r2 =>
        bif (!r2.2) then (
          some ((Tok.mk 2 r2.1 (Tok.pos b6) (Tok.text b6)), 0)
        ) else (
          bif (decide ((r2.1 : Int) > 1000000000)) then (
            some ((Tok.mk 2 r2.1 (Tok.pos b6) (Tok.text b6)), 0)
          ) else (
            some ((Tok.mk 2 r2.1 (Tok.pos b6) (Tok.text b6)), (IntKind.i64.wrap (x7 - x1)))
          )
        )
        else none
      )
      else none
    ) else (
      if (0 : Int) ≤ x1 ∧ x1 ≤ x7 ∧ x7 ≤ (List.length x0) then
      Option.bind (xEl N (List.drop (Int.toNat x1) (List.take (Int.toNat x7) x0))) fun r1 =>
      bif (!r1.2) then (
        some ((Tok.mk 2 r1.1 (Tok.pos b6) (Tok.text b6)), 0)
      ) else (
        bif (decide ((r1.1 : Int) > 1000000000)) then (
          some ((Tok.mk 2 r1.1 (Tok.pos b6) (Tok.text b6)), 0)
        ) else (
          some ((Tok.mk 2 r1.1 (Tok.pos b6) (Tok.text b6)), (IntKind.i64.wrap (x7 - x1)))
        )
      )
      else none
    )
def xEh (N : Nat) : Nat → Str → Int → Int → Tok → Tok → Option (Tok × Int)
  | 0, _, _, _, _, _ => none
  | n + 1, x0, x1, x7, b4, b6 =>
    bif (decide ((x7 : Int) < (List.length x0 : Int))) then (
      if (0 : Int) ≤ x7 ∧ x7 < (List.length x0) then
      bif ((((List.getD x0 (Int.toNat x7) 0).toNat : Int) : Int) != 34) then (
        (xEh N n x0 x1 (IntKind.i64.wrap (x7 + 1)) b4 b6)
      ) else (
        if (0 : Int) ≤ (IntKind.i64.wrap (x1 + 1)) ∧ (IntKind.i64.wrap (x1 + 1)) ≤ x7 ∧ x7 ≤ (List.length x0) then
        bif ((x7 : Int) == (List.length x0 : Int)) then (
          some ((Tok.mk 3 (Tok.n b6) (Tok.pos b6) (List.drop (Int.toNat (IntKind.i64.wrap (x1 + 1))) (List.take (Int.toNat x7) x0))), 0)
        ) else (
          Option.bind (xDY N (List.drop (Int.toNat (IntKind.i64.wrap (x1 + 1))) (List.take (Int.toNat x7) x0))) fun r1 =>
          bif (!r1) then (
            some ((Tok.mk 3 (Tok.n b6) (Tok.pos b6) (List.drop (Int.toNat (IntKind.i64.wrap (x1 + 1))) (List.take (Int.toNat x7) x0))), 0)
          ) else (
            some ((Tok.mk 3 (Tok.n b6) (Tok.pos b6) (List.drop (Int.toNat (IntKind.i64.wrap (x1 + 1))) (List.take (Int.toNat x7) x0))), (IntKind.i64.wrap ((IntKind.i64.wrap (x7 + 1)) - x1)))
          )
        )
        else none
      )
      else none
    ) else (
      if (0 : Int) ≤ (IntKind.i64.wrap (x1 + 1)) ∧ (IntKind.i64.wrap (x1 + 1)) ≤ x7 ∧ x7 ≤ (List.length x0) then
      bif ((x7 : Int) == (List.length x0 : Int)) then (
        some ((Tok.mk 3 (Tok.n b6) (Tok.pos b6) (List.drop (Int.toNat (IntKind.i64.wrap (x1 + 1))) (List.take (Int.toNat x7) x0))), 0)
      ) else (
        Option.bind (xDY N (List.drop (Int.toNat (IntKind.i64.wrap (x1 + 1))) (List.take (Int.toNat x7) x0))) fun r1 =>
        bif (!r1) then (
          some ((Tok.mk 3 (Tok.n b6) (Tok.pos b6) (List.drop (Int.toNat (IntKind.i64.wrap (x1 + 1))) (List.take (Int.toNat x7) x0))), 0)
        ) else (
          some ((Tok.mk 3 (Tok.n b6) (Tok.pos b6) (List.drop (Int.toNat (IntKind.i64.wrap (x1 + 1))) (List.take (Int.toNat x7) x0))), (IntKind.i64.wrap ((IntKind.i64.wrap (x7 + 1)) - x1)))
        )
      )
      else none
    )
def xFQ (N : Nat) (a0 : Str) (a1 : Int) : Option (Tok × Int) :=
  if (0 : Int) ≤ a1 ∧ a1 < (List.length a0) then
  Option.bind (xEJ N ((List.getD a0 (Int.toNat a1) 0).toNat : Int)) fun r1 =>
  bif r1 then (
    (xDu N N a0 a1 a1 (Tok.mk 0 0 0 []) (Tok.mk 0 0 a1 []))
  ) else (
    Option.bind (xEB N ((List.getD a0 (Int.toNat a1) 0).toNat : Int)) fun r2 =>
    bif r2 then (
      (xDa N N a0 a1 a1 (Tok.mk 0 0 0 []) (Tok.mk 0 0 a1 []))
    ) else (
      bif ((((List.getD a0 (Int.toNat a1) 0).toNat : Int) : Int) == 34) then (
        (xEh N N a0 a1 (IntKind.i64.wrap (a1 + 1)) (Tok.mk 0 0 0 []) (Tok.mk 0 0 a1 []))
      ) else (
        Option.bind (xFc N a0 a1) fun r3 =>
        if (0 : Int) ≤ a1 ∧ a1 ≤ (IntKind.i64.wrap (a1 + r3)) ∧ (IntKind.i64.wrap (a1 + r3)) ≤ (List.length a0) then
        some ((Tok.mk 4 0 a1 (List.drop (Int.toNat a1) (List.take (Int.toNat (IntKind.i64.wrap (a1 + r3))) a0))), (IntKind.i64.wrap ((IntKind.i64.wrap (a1 + r3)) - a1)))
        else none
      )
    )
  )
  else none
def xBC (a0 : Str) : List Arg := [.val (.v false [.str a0])]
def xAG (r : (List Tok) × Int) : CallO := ⟨.tup [(false, [.sl .own .tok r.1]), (false, [.int .i64 r.2])], [], []⟩
def xDF (N : Nat) : Nat → Str → (List Tok) → Int → Option ((List Tok) × Int)
  | 0, _, _, _ => none
  | n + 1, x0, x4, x5 =>
    bif (decide ((x5 : Int) < (List.length x0 : Int))) then (
      if (0 : Int) ≤ x5 ∧ x5 < (List.length x0) then
      bif ((((List.getD x0 (Int.toNat x5) 0).toNat : Int) : Int) == 32) then (
        (xDF N n x0 x4 (IntKind.i64.wrap (x5 + 1)))
      ) else (
        Option.bind (xFQ N x0 x5) fun r1 =>
        bif ((r1.2 : Int) == 0) then (
          some ([], x5)
        ) else (
          bif (((List.length x4 : Int) : Int) == 60) then (
            some ([], x5)
          ) else (
            if List.length x4 + List.length [r1.1] ≤ Lim then
            (xDF N n x0 (x4 ++ [r1.1]) (IntKind.i64.wrap (x5 + r1.2)))
            else none
          )
        )
      )
      else none
    ) else (
      some (x4, (-1))
    )
def xEH (N : Nat) (a0 : Str) : Option ((List Tok) × Int) :=
  bif (decide (((List.length a0 : Int) : Int) > 120)) then (
    some ([], 120)
  ) else (
    (xDF N N a0 [] 0)
  )
def xBl (a0 : Tok) (a1 : Str) : List Arg := [.val (.v true [.int .i64 (Tok.kind a0), .int .i64 (Tok.n a0), .int .i64 (Tok.pos a0), .str (Tok.text a0)]), .val (.v false [.str a1])]
def xAE (r : Bool) : CallO := ⟨.v false [.bool r], [], []⟩
def xC5 (N : Nat) (a0 : Tok) (a1 : Str) : Option (Bool) :=
  bif (((Tok.kind a0) : Int) == 4) then (
    some (((Tok.text a0) : Str) == a1)
  ) else (
    some false
  )
def xEe (a0 : Tok) (a1 : Str) : List Arg := [.val (.v true [.int .i64 (Tok.kind a0), .int .i64 (Tok.n a0), .int .i64 (Tok.pos a0), .str (Tok.text a0)]), .val (.v false [.str a1])]
def xDN (r : Bool) : CallO := ⟨.v false [.bool r], [], []⟩
def xEM (N : Nat) (a0 : Tok) (a1 : Str) : Option (Bool) :=
  bif (((Tok.kind a0) : Int) == 1) then (
    some (((Tok.text a0) : Str) == a1)
  ) else (
    some false
  )
def xAo (a0 : Rdr) (a1 : Str) : List Arg := [.box [.sl .ro .tok (Rdr.toks a0), .int .i64 (Rdr.i a0), .int .i64 (Rdr.fin a0), .int .i64 (Rdr.bad a0)], .val (.v false [.str a1])]
def xAf (r : Bool × Rdr) : CallO := ⟨.v false [.bool r.1], [[.sl .ro .tok (Rdr.toks r.2), .int .i64 (Rdr.i r.2), .int .i64 (Rdr.fin r.2), .int .i64 (Rdr.bad r.2)]], []⟩
def xBx (N : Nat) (a0 : Rdr) (a1 : Str) : Option (Bool × Rdr) :=
  bif (decide (((Rdr.bad a0) : Int) < 0)) then (
    bif (decide (((Rdr.i a0) : Int) < (List.length (Rdr.toks a0) : Int))) then (
      if (0 : Int) ≤ (Rdr.i a0) ∧ (Rdr.i a0) < (List.length (Rdr.toks a0)) then
      Option.bind (xC5 N (List.getD (Rdr.toks a0) (Int.toNat (Rdr.i a0)) Ty.tok.dflt) a1) fun r1 =>
      bif r1 then (
        some (true, a0)
      ) else (
        Option.bind (xEM N (List.getD (Rdr.toks a0) (Int.toNat (Rdr.i a0)) Ty.tok.dflt) a1) fun r2 =>
        some (r2, a0)
      )
      else none
    ) else (
      some (false, a0)
    )
  ) else (
    some (false, a0)
  )
def xEg (a0 : Str) : List Arg := [.val (.v false [.str a0])]
def xBj (r : Bool) : CallO := ⟨.v false [.bool r], [], []⟩
def xCR (N : Nat) : Nat → Str → Int → Option (Bool)
  | 0, _, _ => none
  | n + 1, x0, x3 =>
    bif (decide ((x3 : Int) < (List.length x0 : Int))) then (
      if (0 : Int) ≤ x3 ∧ x3 < (List.length x0) then
      bif (decide ((((List.getD x0 (Int.toNat x3) 0).toNat : Int) : Int) ≥ 97)) then (
        bif (decide ((((List.getD x0 (Int.toNat x3) 0).toNat : Int) : Int) ≥ 48)) then (
          bif (!(decide ((((List.getD x0 (Int.toNat x3) 0).toNat : Int) : Int) ≤ 122))) then (
            bif ((x3 : Int) == 0) then (
              some false
            ) else (
              bif (!(decide ((((List.getD x0 (Int.toNat x3) 0).toNat : Int) : Int) ≤ 57))) then (
                some false
              ) else (
                (xCR N n x0 (IntKind.i64.wrap (x3 + 1)))
              )
            )
          ) else (
            (xCR N n x0 (IntKind.i64.wrap (x3 + 1)))
          )
        ) else (
          bif (!(decide ((((List.getD x0 (Int.toNat x3) 0).toNat : Int) : Int) ≤ 122))) then (
            bif ((x3 : Int) == 0) then (
              some false
            ) else (
              some false
            )
          ) else (
            (xCR N n x0 (IntKind.i64.wrap (x3 + 1)))
          )
        )
      ) else (
        bif (decide ((((List.getD x0 (Int.toNat x3) 0).toNat : Int) : Int) ≥ 48)) then (
          bif ((x3 : Int) == 0) then (
            some false
          ) else (
            bif (!(decide ((((List.getD x0 (Int.toNat x3) 0).toNat : Int) : Int) ≤ 57))) then (
              some false
            ) else (
              (xCR N n x0 (IntKind.i64.wrap (x3 + 1)))
            )
          )
        ) else (
          bif ((x3 : Int) == 0) then (
            some false
          ) else (
            some false
          )
        )
      )
      else none
    ) else (
      some (decide (((List.length x0 : Int) : Int) > 0))
    )
def xFW (N : Nat) (a0 : Str) : Option (Bool) :=
  (xCR N N a0 0)
def xEt : List Arg := []
def xD7 (r : (List Str)) : CallO := ⟨.v false [.sl .own .str r], [], []⟩
def xFb (N : Nat) : Option ((List Str)) :=
  some [[108, 101, 116], [105, 110], [105, 102], [116, 104, 101, 110], [101, 108, 115, 101], [102, 111, 114], [100, 111], [108, 101, 110], [115, 117, 109], [116, 97, 107, 101], [115, 107, 105, 112], [114, 97, 110, 103, 101], [110, 116, 104], [119, 104, 101, 114, 101], [107, 101, 101, 112], [97, 100, 100], [103, 114, 111, 117, 112], [106, 111, 105, 110], [99, 111, 108, 117, 109, 110], [114, 111, 119, 115], [99, 108, 111, 99, 107], [99, 104, 97, 110, 99, 101], [102, 105, 108, 101], [116, 97, 98, 108, 101]]
def xFx (a0 : List Str) (a1 : Str) : List Arg := [.val (.v false [.sl .ro .str a0]), .val (.v false [.str a1])]
def xEo (r : Bool) : CallO := ⟨.v false [.bool r], [], []⟩
def xEn (N : Nat) : Nat → (List Str) → Str → Int → Option (Bool)
  | 0, _, _, _ => none
  | n + 1, x0, x1, x5 =>
    bif (decide ((x5 : Int) < (List.length x0 : Int))) then (
      if (0 : Int) ≤ x5 ∧ x5 < (List.length x0) then
      bif (((List.getD x0 (Int.toNat x5) Ty.str.dflt) : Str) == x1) then (
        some true
      ) else (
        (xEn N n x0 x1 (IntKind.i64.wrap (x5 + 1)))
      )
      else none
    ) else (
      some false
    )
def xGH (N : Nat) (a0 : List Str) (a1 : Str) : Option (Bool) :=
  (xEn N N a0 a1 0)
def xEs (a0 : Str) : List Arg := [.val (.v false [.str a0])]
def xD5 (r : Bool) : CallO := ⟨.v false [.bool r], [], []⟩
def xEy (N : Nat) (a0 : Str) : Option (Bool) :=
  Option.bind (xFb N) fun r1 =>
  Option.bind (xGH N r1 a0) fun r2 =>
  some r2
def xA7 (a0 : Str) : List Arg := [.val (.v false [.str a0])]
def xAB (r : Bool) : CallO := ⟨.v false [.bool r], [], []⟩
def xCX (N : Nat) (a0 : Str) : Option (Bool) :=
  Option.bind (xFW N a0) fun r1 =>
  bif r1 then (
    bif (decide (((List.length a0 : Int) : Int) ≤ 8)) then (
      Option.bind (xEy N a0) fun r2 =>
      some (!r2)
    ) else (
      some false
    )
  ) else (
    some false
  )
def xBp (a0 : Rdr) : List Arg := [.box [.sl .ro .tok (Rdr.toks a0), .int .i64 (Rdr.i a0), .int .i64 (Rdr.fin a0), .int .i64 (Rdr.bad a0)]]
def xAH (r : Exp × Rdr) : CallO := ⟨.v true [.int .i64 (Exp.kind r.1), .int .i64 (Exp.n r.1), .str (Exp.text r.1), .sl .own .exp (Exp.args r.1)], [[.sl .ro .tok (Rdr.toks r.2), .int .i64 (Rdr.i r.2), .int .i64 (Rdr.fin r.2), .int .i64 (Rdr.bad r.2)]], []⟩
def xBP (N : Nat) (a0 : Rdr) : Option (Exp × Rdr) :=
  bif (decide (((Rdr.bad a0) : Int) < 0)) then (
    bif (decide (((Rdr.i a0) : Int) < (List.length (Rdr.toks a0) : Int))) then (
      if (0 : Int) ≤ (Rdr.i a0) ∧ (Rdr.i a0) < (List.length (Rdr.toks a0)) then
      some ((Exp.mk 0 0 [] []), (Rdr.mk (Rdr.toks a0) (Rdr.i a0) (Rdr.fin a0) (Tok.pos (List.getD (Rdr.toks a0) (Int.toNat (Rdr.i a0)) Ty.tok.dflt))))
      else none
    ) else (
      some ((Exp.mk 0 0 [] []), (Rdr.mk (Rdr.toks a0) (Rdr.i a0) (Rdr.fin a0) (Rdr.fin a0)))
    )
  ) else (
    some ((Exp.mk 0 0 [] []), a0)
  )
def xC9 (a0 : Rdr) : List Arg := [.box [.sl .ro .tok (Rdr.toks a0), .int .i64 (Rdr.i a0), .int .i64 (Rdr.fin a0), .int .i64 (Rdr.bad a0)]]
def xCy (r : Str × Rdr) : CallO := ⟨.v false [.str r.1], [[.sl .ro .tok (Rdr.toks r.2), .int .i64 (Rdr.i r.2), .int .i64 (Rdr.fin r.2), .int .i64 (Rdr.bad r.2)]], []⟩
def xDf (N : Nat) (a0 : Rdr) : Option (Str × Rdr) :=
  bif (decide (((Rdr.bad a0) : Int) ≥ 0)) then (
    Option.bind (xBP N a0) fun r1 =>
    some ([], r1.2)
  ) else (
    bif (decide (((Rdr.i a0) : Int) ≥ (List.length (Rdr.toks a0) : Int))) then (
      Option.bind (xBP N a0) fun r1 =>
      some ([], r1.2)
    ) else (
      if (0 : Int) ≤ (Rdr.i a0) ∧ (Rdr.i a0) < (List.length (Rdr.toks a0)) then
      bif (((Tok.kind (List.getD (Rdr.toks a0) (Int.toNat (Rdr.i a0)) Ty.tok.dflt)) : Int) != 1) then (
        Option.bind (xBP N a0) fun r1 =>
        some ([], r1.2)
      ) else (
        Option.bind (xCX N (Tok.text (List.getD (Rdr.toks a0) (Int.toNat (Rdr.i a0)) Ty.tok.dflt))) fun r1 =>
        bif (!r1) then (
          Option.bind (xBP N a0) fun r2 =>
          some ([], r2.2)
        ) else (
          if (0 : Int) ≤ (IntKind.i64.wrap ((IntKind.i64.wrap ((Rdr.i a0) + 1)) - 1)) ∧ (IntKind.i64.wrap ((IntKind.i64.wrap ((Rdr.i a0) + 1)) - 1)) < (List.length (Rdr.toks a0)) then
          some ((Tok.text (List.getD (Rdr.toks a0) (Int.toNat (IntKind.i64.wrap ((IntKind.i64.wrap ((Rdr.i a0) + 1)) - 1))) Ty.tok.dflt)), (Rdr.mk (Rdr.toks a0) (IntKind.i64.wrap ((Rdr.i a0) + 1)) (Rdr.fin a0) (Rdr.bad a0)))
          else none
        )
      )
      else none
    )
  )
def xBG (a0 : Rdr) (a1 : Str) : List Arg := [.box [.sl .ro .tok (Rdr.toks a0), .int .i64 (Rdr.i a0), .int .i64 (Rdr.fin a0), .int .i64 (Rdr.bad a0)], .val (.v false [.str a1])]
def xAN (r : Rdr) : CallO := ⟨.tup [], [[.sl .ro .tok (Rdr.toks r), .int .i64 (Rdr.i r), .int .i64 (Rdr.fin r), .int .i64 (Rdr.bad r)]], []⟩
def xBv (N : Nat) (a0 : Rdr) (a1 : Str) : Option (Rdr) :=
  Option.bind (xBx N a0 a1) fun r1 =>
  bif (!r1.1) then (
    Option.bind (xBP N r1.2) fun r2 =>
    some r2.2
  ) else (
    some (Rdr.mk (Rdr.toks r1.2) (IntKind.i64.wrap ((Rdr.i r1.2) + 1)) (Rdr.fin r1.2) (Rdr.bad r1.2))
  )
def xFj (a0 : Int) : List Arg := [.val (.v false [.int .i64 a0])]
def xEN (r : Exp) : CallO := ⟨.v true [.int .i64 (Exp.kind r), .int .i64 (Exp.n r), .str (Exp.text r), .sl .own .exp (Exp.args r)], [], []⟩
def xG1 (N : Nat) (a0 : Int) : Option (Exp) :=
  some (Exp.mk 1 a0 [] [])
def xE9 (a0 : Str) : List Arg := [.val (.v false [.str a0])]
def xEA (r : Exp) : CallO := ⟨.v true [.int .i64 (Exp.kind r), .int .i64 (Exp.n r), .str (Exp.text r), .sl .own .exp (Exp.args r)], [], []⟩
def xGD (N : Nat) (a0 : Str) : Option (Exp) :=
  some (Exp.mk 3 0 a0 [])
def xAr (a0 : Str) : List Arg := [.val (.v false [.str a0])]
def xAk (r : Int) : CallO := ⟨.v false [.int .i64 r], [], []⟩
def xCa (N : Nat) (a0 : Str) : Option (Int) :=
  bif ((a0 : Str) == [99, 108, 111, 99, 107]) then (
    some 0
  ) else (
    bif ((a0 : Str) == [108, 101, 110]) then (
      some 1
    ) else (
      bif ((a0 : Str) == [115, 117, 109]) then (
        some 1
      ) else (
        bif ((a0 : Str) == [114, 111, 119, 115]) then (
          some 1
        ) else (
          bif ((a0 : Str) == [99, 104, 97, 110, 99, 101]) then (
            some 1
          ) else (
            bif ((a0 : Str) == [102, 105, 108, 101]) then (
              some 1
            ) else (
              bif ((a0 : Str) == [116, 97, 107, 101]) then (
                some 2
              ) else (
                bif ((a0 : Str) == [115, 107, 105, 112]) then (
                  some 2
                ) else (
                  bif ((a0 : Str) == [114, 97, 110, 103, 101]) then (
                    some 2
                  ) else (
                    bif ((a0 : Str) == [110, 116, 104]) then (
                      some 2
                    ) else (
                      bif ((a0 : Str) == [107, 101, 101, 112]) then (
                        some 2
                      ) else (
                        bif ((a0 : Str) == [99, 111, 108, 117, 109, 110]) then (
                          some 2
                        ) else (
                          bif ((a0 : Str) == [116, 97, 98, 108, 101]) then (
                            some 2
                          ) else (
                            bif ((a0 : Str) == [119, 104, 101, 114, 101]) then (
                              some 3
                            ) else (
                              bif ((a0 : Str) == [103, 114, 111, 117, 112]) then (
                                some 3
                              ) else (
                                bif ((a0 : Str) == [106, 111, 105, 110]) then (
                                  some 3
                                ) else (
                                  bif ((a0 : Str) == [97, 100, 100]) then (
                                    some 4
                                  ) else (
                                    some (-1)
                                  )
                                )
                              )
                            )
                          )
                        )
                      )
                    )
                  )
                )
              )
            )
          )
        )
      )
    )
  )
def xDr (a0 : Int) (a1 : Exp) (a2 : Exp) : List Arg := [.val (.v false [.int .i64 a0]), .val (.v true [.int .i64 (Exp.kind a1), .int .i64 (Exp.n a1), .str (Exp.text a1), .sl .ro .exp (Exp.args a1)]), .val (.v true [.int .i64 (Exp.kind a2), .int .i64 (Exp.n a2), .str (Exp.text a2), .sl .ro .exp (Exp.args a2)])]
def xBO (r : Exp) : CallO := ⟨.v true [.int .i64 (Exp.kind r), .int .i64 (Exp.n r), .str (Exp.text r), .sl .tip .exp (Exp.args r)], [], []⟩
def xDP (N : Nat) (a0 : Int) (a1 : Exp) (a2 : Exp) : Option (Exp) :=
  some (Exp.mk 6 a0 [] [(Exp.re a1), (Exp.re a2)])
def xDy (a0 : Rdr) (a1 : Str) : List Arg := [.box [.sl .ro .tok (Rdr.toks a0), .int .i64 (Rdr.i a0), .int .i64 (Rdr.fin a0), .int .i64 (Rdr.bad a0)], .val (.v false [.str a1])]
def xB5 (r : (List Exp) × Rdr) : CallO := ⟨.v false [.sl .tip .exp r.1], [[.sl .ro .tok (Rdr.toks r.2), .int .i64 (Rdr.i r.2), .int .i64 (Rdr.fin r.2), .int .i64 (Rdr.bad r.2)]], []⟩
def xEf (N : Nat) (q0 : Rdr → Str → Option ((List Exp) × Rdr)) (q1 : Rdr → Option (Exp × Rdr)) (q2 : Rdr → Option (Exp × Rdr)) (q3 : Rdr → Option (Exp × Rdr)) (q4 : Rdr → Option (Exp × Rdr)) (q5 : Rdr → Option (Exp × Rdr)) : Nat → Str → (List Exp) → Rdr → Option ((List Exp) × Rdr)
  | 0, _, _, _ => none
  | n + 1, x1, x5, b0 =>
    bif (decide (((Rdr.bad b0) : Int) < 0)) then (
      Option.bind (q3 b0) fun r1 =>
      if List.length x5 + List.length [(Exp.re r1.1)] ≤ Lim then
      Option.bind (xBx N r1.2 [44]) fun r2 =>
      bif (!r2.1) then (
        Option.bind (xBv N r2.2 x1) fun r3 =>
        some ((x5 ++ [(Exp.re r1.1)]), r3)
      ) else (
        (xEf N q0 q1 q2 q3 q4 q5 n x1 (x5 ++ [(Exp.re r1.1)]) (Rdr.mk (Rdr.toks r2.2) (IntKind.i64.wrap ((Rdr.i r2.2) + 1)) (Rdr.fin r2.2) (Rdr.bad r2.2)))
      )
      else none
    ) else (
      Option.bind (xBv N b0 x1) fun r1 =>
      some (x5, r1)
    )
def xDm (N : Nat) (q0 : Rdr → Str → Option ((List Exp) × Rdr)) (q1 : Rdr → Option (Exp × Rdr)) (q2 : Rdr → Option (Exp × Rdr)) (q3 : Rdr → Option (Exp × Rdr)) (q4 : Rdr → Option (Exp × Rdr)) (q5 : Rdr → Option (Exp × Rdr)) (a0 : Rdr) (a1 : Str) : Option ((List Exp) × Rdr) :=
  Option.bind (xBx N a0 a1) fun r1 =>
  bif r1.1 then (
    some ([], (Rdr.mk (Rdr.toks r1.2) (IntKind.i64.wrap ((Rdr.i r1.2) + 1)) (Rdr.fin r1.2) (Rdr.bad r1.2)))
  ) else (
    (xEf N q0 q1 q2 q3 q4 q5 N a1 [] r1.2)
  )
def xBo (a0 : Rdr) : List Arg := [.box [.sl .ro .tok (Rdr.toks a0), .int .i64 (Rdr.i a0), .int .i64 (Rdr.fin a0), .int .i64 (Rdr.bad a0)]]
def xBa (r : Exp × Rdr) : CallO := ⟨.v true [.int .i64 (Exp.kind r.1), .int .i64 (Exp.n r.1), .str (Exp.text r.1), .sl .ro .exp (Exp.args r.1)], [[.sl .ro .tok (Rdr.toks r.2), .int .i64 (Rdr.i r.2), .int .i64 (Rdr.fin r.2), .int .i64 (Rdr.bad r.2)]], []⟩
def xDn (N : Nat) (q0 : Rdr → Str → Option ((List Exp) × Rdr)) (q1 : Rdr → Option (Exp × Rdr)) (q2 : Rdr → Option (Exp × Rdr)) (q3 : Rdr → Option (Exp × Rdr)) (q4 : Rdr → Option (Exp × Rdr)) (q5 : Rdr → Option (Exp × Rdr)) (a0 : Rdr) : Option (Exp × Rdr) :=
  bif (decide (((Rdr.bad a0) : Int) ≥ 0)) then (
    Option.bind (xBP N a0) fun r1 =>
    some (r1.1, r1.2)
  ) else (
    bif (decide (((Rdr.i a0) : Int) ≥ (List.length (Rdr.toks a0) : Int))) then (
      Option.bind (xBP N a0) fun r1 =>
      some (r1.1, r1.2)
    ) else (
      if (0 : Int) ≤ (Rdr.i a0) ∧ (Rdr.i a0) < (List.length (Rdr.toks a0)) then
      bif (((Tok.kind (List.getD (Rdr.toks a0) (Int.toNat (Rdr.i a0)) Ty.tok.dflt)) : Int) == 2) then (
        Option.bind (xG1 N (Tok.n (List.getD (Rdr.toks a0) (Int.toNat (Rdr.i a0)) Ty.tok.dflt))) fun r1 =>
        some (r1, (Rdr.mk (Rdr.toks a0) (IntKind.i64.wrap ((Rdr.i a0) + 1)) (Rdr.fin a0) (Rdr.bad a0)))
      ) else (
        bif (((Tok.kind (List.getD (Rdr.toks a0) (Int.toNat (Rdr.i a0)) Ty.tok.dflt)) : Int) == 3) then (
          some ((Exp.mk 2 0 (Tok.text (List.getD (Rdr.toks a0) (Int.toNat (Rdr.i a0)) Ty.tok.dflt)) []), (Rdr.mk (Rdr.toks a0) (IntKind.i64.wrap ((Rdr.i a0) + 1)) (Rdr.fin a0) (Rdr.bad a0)))
        ) else (
          bif (((Tok.kind (List.getD (Rdr.toks a0) (Int.toNat (Rdr.i a0)) Ty.tok.dflt)) : Int) == 1) then (
            Option.bind (xCX N (Tok.text (List.getD (Rdr.toks a0) (Int.toNat (Rdr.i a0)) Ty.tok.dflt))) fun r1 =>
            bif r1 then (
              Option.bind (xGD N (Tok.text (List.getD (Rdr.toks a0) (Int.toNat (Rdr.i a0)) Ty.tok.dflt))) fun r2 =>
              some (r2, (Rdr.mk (Rdr.toks a0) (IntKind.i64.wrap ((Rdr.i a0) + 1)) (Rdr.fin a0) (Rdr.bad a0)))
            ) else (
              Option.bind (xCa N (Tok.text (List.getD (Rdr.toks a0) (Int.toNat (Rdr.i a0)) Ty.tok.dflt))) fun r2 =>
              bif (decide ((r2 : Int) ≥ 0)) then (
                Option.bind (xBv N (Rdr.mk (Rdr.toks a0) (IntKind.i64.wrap ((Rdr.i a0) + 1)) (Rdr.fin a0) (Rdr.bad a0)) [40]) fun r3 =>
                Option.bind (q0 r3 [41]) fun r4 =>
                some ((Exp.mk 5 0 (Tok.text (List.getD (Rdr.toks a0) (Int.toNat (Rdr.i a0)) Ty.tok.dflt)) r4.1), r4.2)
              ) else (
                Option.bind (xC5 N (List.getD (Rdr.toks a0) (Int.toNat (Rdr.i a0)) Ty.tok.dflt) [91]) fun r3 =>
                bif r3 then (
                  Option.bind (q0 (Rdr.mk (Rdr.toks a0) (IntKind.i64.wrap ((Rdr.i a0) + 1)) (Rdr.fin a0) (Rdr.bad a0)) [93]) fun r4 =>
                  some ((Exp.mk 4 0 [] r4.1), r4.2)
                ) else (
                  Option.bind (xC5 N (List.getD (Rdr.toks a0) (Int.toNat (Rdr.i a0)) Ty.tok.dflt) [40]) fun r4 =>
                  bif r4 then (
                    Option.bind (q3 (Rdr.mk (Rdr.toks a0) (IntKind.i64.wrap ((Rdr.i a0) + 1)) (Rdr.fin a0) (Rdr.bad a0))) fun r5 =>
                    Option.bind (xBv N r5.2 [41]) fun r6 =>
                    some (r5.1, r6)
                  ) else (
                    Option.bind (xBP N a0) fun r5 =>
                    some (r5.1, r5.2)
                  )
                )
              )
            )
          ) else (
            Option.bind (xC5 N (List.getD (Rdr.toks a0) (Int.toNat (Rdr.i a0)) Ty.tok.dflt) [91]) fun r1 =>
            bif r1 then (
              Option.bind (q0 (Rdr.mk (Rdr.toks a0) (IntKind.i64.wrap ((Rdr.i a0) + 1)) (Rdr.fin a0) (Rdr.bad a0)) [93]) fun r2 =>
              some ((Exp.mk 4 0 [] r2.1), r2.2)
            ) else (
              Option.bind (xC5 N (List.getD (Rdr.toks a0) (Int.toNat (Rdr.i a0)) Ty.tok.dflt) [40]) fun r2 =>
              bif r2 then (
                Option.bind (q3 (Rdr.mk (Rdr.toks a0) (IntKind.i64.wrap ((Rdr.i a0) + 1)) (Rdr.fin a0) (Rdr.bad a0))) fun r3 =>
                Option.bind (xBv N r3.2 [41]) fun r4 =>
                some (r3.1, r4)
              ) else (
                Option.bind (xBP N a0) fun r3 =>
                some (r3.1, r3.2)
              )
            )
          )
        )
      )
      else none
    )
  )
def xC7 (a0 : Rdr) : List Arg := [.box [.sl .ro .tok (Rdr.toks a0), .int .i64 (Rdr.i a0), .int .i64 (Rdr.fin a0), .int .i64 (Rdr.bad a0)]]
def xCO (r : Exp × Rdr) : CallO := ⟨.v true [.int .i64 (Exp.kind r.1), .int .i64 (Exp.n r.1), .str (Exp.text r.1), .sl .ro .exp (Exp.args r.1)], [[.sl .ro .tok (Rdr.toks r.2), .int .i64 (Rdr.i r.2), .int .i64 (Rdr.fin r.2), .int .i64 (Rdr.bad r.2)]], []⟩
def xCL (N : Nat) (q0 : Rdr → Str → Option ((List Exp) × Rdr)) (q1 : Rdr → Option (Exp × Rdr)) (q2 : Rdr → Option (Exp × Rdr)) (q3 : Rdr → Option (Exp × Rdr)) (q4 : Rdr → Option (Exp × Rdr)) (q5 : Rdr → Option (Exp × Rdr)) (a0 : Rdr) : Option (Exp × Rdr) :=
  Option.bind (q5 a0) fun r1 =>
  Option.bind (xBx N r1.2 [60]) fun r2 =>
  bif r2.1 then (
    Option.bind (q5 (Rdr.mk (Rdr.toks r2.2) (IntKind.i64.wrap ((Rdr.i r2.2) + 1)) (Rdr.fin r2.2) (Rdr.bad r2.2))) fun r3 =>
    Option.bind (xDP N 4 r1.1 r3.1) fun r4 =>
    some (r4, r3.2)
  ) else (
    Option.bind (xBx N r2.2 [61, 61]) fun r3 =>
    bif r3.1 then (
      Option.bind (q5 (Rdr.mk (Rdr.toks r3.2) (IntKind.i64.wrap ((Rdr.i r3.2) + 1)) (Rdr.fin r3.2) (Rdr.bad r3.2))) fun r4 =>
      Option.bind (xDP N 5 r1.1 r4.1) fun r5 =>
      some (r5, r4.2)
    ) else (
      some (r1.1, r3.2)
    )
  )
def xAJ (a0 : Rdr) : List Arg := [.box [.sl .ro .tok (Rdr.toks a0), .int .i64 (Rdr.i a0), .int .i64 (Rdr.fin a0), .int .i64 (Rdr.bad a0)]]
def xAi (r : Exp × Rdr) : CallO := ⟨.v true [.int .i64 (Exp.kind r.1), .int .i64 (Exp.n r.1), .str (Exp.text r.1), .sl .ro .exp (Exp.args r.1)], [[.sl .ro .tok (Rdr.toks r.2), .int .i64 (Rdr.i r.2), .int .i64 (Rdr.fin r.2), .int .i64 (Rdr.bad r.2)]], []⟩
def xDo (N : Nat) (q0 : Rdr → Str → Option ((List Exp) × Rdr)) (q1 : Rdr → Option (Exp × Rdr)) (q2 : Rdr → Option (Exp × Rdr)) (q3 : Rdr → Option (Exp × Rdr)) (q4 : Rdr → Option (Exp × Rdr)) (q5 : Rdr → Option (Exp × Rdr)) (a0 : Rdr) : Option (Exp × Rdr) :=
  Option.bind (xBx N a0 [108, 101, 116]) fun r1 =>
  bif r1.1 then (
    Option.bind (xDf N (Rdr.mk (Rdr.toks r1.2) (IntKind.i64.wrap ((Rdr.i r1.2) + 1)) (Rdr.fin r1.2) (Rdr.bad r1.2))) fun r2 =>
    Option.bind (xBv N r2.2 [61]) fun r3 =>
    Option.bind (q3 r3) fun r4 =>
    Option.bind (xBv N r4.2 [105, 110]) fun r5 =>
    Option.bind (q3 r5) fun r6 =>
    some ((Exp.mk 7 0 r2.1 [(Exp.re r4.1), (Exp.re r6.1)]), r6.2)
  ) else (
    Option.bind (xBx N r1.2 [105, 102]) fun r2 =>
    bif r2.1 then (
      Option.bind (q3 (Rdr.mk (Rdr.toks r2.2) (IntKind.i64.wrap ((Rdr.i r2.2) + 1)) (Rdr.fin r2.2) (Rdr.bad r2.2))) fun r3 =>
      Option.bind (xBv N r3.2 [116, 104, 101, 110]) fun r4 =>
      Option.bind (q3 r4) fun r5 =>
      Option.bind (xBv N r5.2 [101, 108, 115, 101]) fun r6 =>
      Option.bind (q3 r6) fun r7 =>
      some ((Exp.mk 8 0 [] [(Exp.re r3.1), (Exp.re r5.1), (Exp.re r7.1)]), r7.2)
    ) else (
      Option.bind (xBx N r2.2 [102, 111, 114]) fun r3 =>
      bif r3.1 then (
        Option.bind (xDf N (Rdr.mk (Rdr.toks r3.2) (IntKind.i64.wrap ((Rdr.i r3.2) + 1)) (Rdr.fin r3.2) (Rdr.bad r3.2))) fun r4 =>
        Option.bind (xBv N r4.2 [105, 110]) fun r5 =>
        Option.bind (q3 r5) fun r6 =>
        Option.bind (xBv N r6.2 [100, 111]) fun r7 =>
        Option.bind (q3 r7) fun r8 =>
        some ((Exp.mk 9 0 r4.1 [(Exp.re r6.1), (Exp.re r8.1)]), r8.2)
      ) else (
        Option.bind (q2 r3.2) fun r4 =>
        some (r4.1, r4.2)
      )
    )
  )
def xCo (a0 : Rdr) : List Arg := [.box [.sl .ro .tok (Rdr.toks a0), .int .i64 (Rdr.i a0), .int .i64 (Rdr.fin a0), .int .i64 (Rdr.bad a0)]]
def xBb (r : Exp × Rdr) : CallO := ⟨.v true [.int .i64 (Exp.kind r.1), .int .i64 (Exp.n r.1), .str (Exp.text r.1), .sl .ro .exp (Exp.args r.1)], [[.sl .ro .tok (Rdr.toks r.2), .int .i64 (Rdr.i r.2), .int .i64 (Rdr.fin r.2), .int .i64 (Rdr.bad r.2)]], []⟩
def xCP (N : Nat) (q0 : Rdr → Str → Option ((List Exp) × Rdr)) (q1 : Rdr → Option (Exp × Rdr)) (q2 : Rdr → Option (Exp × Rdr)) (q3 : Rdr → Option (Exp × Rdr)) (q4 : Rdr → Option (Exp × Rdr)) (q5 : Rdr → Option (Exp × Rdr)) : Nat → Rdr → Exp → Exp → Option (Exp × Rdr)
  | 0, _, _, _ => none
  | n + 1, b0, b2, b3 =>
    Option.bind (xBx N b0 [42]) fun r1 =>
    bif r1.1 then (
      Option.bind (q1 (Rdr.mk (Rdr.toks r1.2) (IntKind.i64.wrap ((Rdr.i r1.2) + 1)) (Rdr.fin r1.2) (Rdr.bad r1.2))) fun r2 =>
      Option.bind (xDP N 3 b3 r2.1) fun r3 =>
      (xCP N q0 q1 q2 q3 q4 q5 n r2.2 b2 r3)
    ) else (
      some (b3, r1.2)
    )
def xCM (N : Nat) (q0 : Rdr → Str → Option ((List Exp) × Rdr)) (q1 : Rdr → Option (Exp × Rdr)) (q2 : Rdr → Option (Exp × Rdr)) (q3 : Rdr → Option (Exp × Rdr)) (q4 : Rdr → Option (Exp × Rdr)) (q5 : Rdr → Option (Exp × Rdr)) (a0 : Rdr) : Option (Exp × Rdr) :=
  Option.bind (q1 a0) fun r1 =>
  (xCP N q0 q1 q2 q3 q4 q5 N r1.2 (Exp.mk 0 0 [] []) r1.1)
def xDs (a0 : Rdr) : List Arg := [.box [.sl .ro .tok (Rdr.toks a0), .int .i64 (Rdr.i a0), .int .i64 (Rdr.fin a0), .int .i64 (Rdr.bad a0)]]
def xBT (r : Exp × Rdr) : CallO := ⟨.v true [.int .i64 (Exp.kind r.1), .int .i64 (Exp.n r.1), .str (Exp.text r.1), .sl .ro .exp (Exp.args r.1)], [[.sl .ro .tok (Rdr.toks r.2), .int .i64 (Rdr.i r.2), .int .i64 (Rdr.fin r.2), .int .i64 (Rdr.bad r.2)]], []⟩
def xCD (N : Nat) (q0 : Rdr → Str → Option ((List Exp) × Rdr)) (q1 : Rdr → Option (Exp × Rdr)) (q2 : Rdr → Option (Exp × Rdr)) (q3 : Rdr → Option (Exp × Rdr)) (q4 : Rdr → Option (Exp × Rdr)) (q5 : Rdr → Option (Exp × Rdr)) : Nat → Rdr → Exp → Exp → Option (Exp × Rdr)
  | 0, _, _, _ => none
  | n + 1, b0, b2, b3 =>
    Option.bind (xBx N b0 [43]) fun r1 =>
    bif r1.1 then (
      Option.bind (xBx N r1.2 [45]) fun r2 =>
      bif r2.1 then (
        Option.bind (q4 (Rdr.mk (Rdr.toks r2.2) (IntKind.i64.wrap ((Rdr.i r2.2) + 1)) (Rdr.fin r2.2) (Rdr.bad r2.2))) fun r3 =>
        Option.bind (xDP N 2 b3 r3.1) fun r4 =>
        (xCD N q0 q1 q2 q3 q4 q5 n r3.2 b2 r4)
      ) else (
        Option.bind (q4 (Rdr.mk (Rdr.toks r2.2) (IntKind.i64.wrap ((Rdr.i r2.2) + 1)) (Rdr.fin r2.2) (Rdr.bad r2.2))) fun r3 =>
        Option.bind (xDP N 1 b3 r3.1) fun r4 =>
        (xCD N q0 q1 q2 q3 q4 q5 n r3.2 b2 r4)
      )
    ) else (
      Option.bind (xBx N r1.2 [45]) fun r2 =>
      bif r2.1 then (
        Option.bind (xBx N r2.2 [45]) fun r3 =>
        bif r3.1 then (
          Option.bind (q4 (Rdr.mk (Rdr.toks r3.2) (IntKind.i64.wrap ((Rdr.i r3.2) + 1)) (Rdr.fin r3.2) (Rdr.bad r3.2))) fun r4 =>
          Option.bind (xDP N 2 b3 r4.1) fun r5 =>
          (xCD N q0 q1 q2 q3 q4 q5 n r4.2 b2 r5)
        ) else (
          Option.bind (q4 (Rdr.mk (Rdr.toks r3.2) (IntKind.i64.wrap ((Rdr.i r3.2) + 1)) (Rdr.fin r3.2) (Rdr.bad r3.2))) fun r4 =>
          Option.bind (xDP N 1 b3 r4.1) fun r5 =>
          (xCD N q0 q1 q2 q3 q4 q5 n r4.2 b2 r5)
        )
      ) else (
        some (b3, r2.2)
      )
    )
def xDG (N : Nat) (q0 : Rdr → Str → Option ((List Exp) × Rdr)) (q1 : Rdr → Option (Exp × Rdr)) (q2 : Rdr → Option (Exp × Rdr)) (q3 : Rdr → Option (Exp × Rdr)) (q4 : Rdr → Option (Exp × Rdr)) (q5 : Rdr → Option (Exp × Rdr)) (a0 : Rdr) : Option (Exp × Rdr) :=
  Option.bind (q4 a0) fun r1 =>
  (xCD N q0 q1 q2 q3 q4 q5 N r1.2 (Exp.mk 0 0 [] []) r1.1)
structure spec_l11Args_rec where
  c_spec_l11Args : Rdr → Str → Option ((List Exp) × Rdr)
  c_spec_l11Atom : Rdr → Option (Exp × Rdr)
  c_spec_l11Compare : Rdr → Option (Exp × Rdr)
  c_spec_l11Expr : Rdr → Option (Exp × Rdr)
  c_spec_l11Product : Rdr → Option (Exp × Rdr)
  c_spec_l11Sum : Rdr → Option (Exp × Rdr)
def xAa (N : Nat) : Nat → spec_l11Args_rec
  | 0 => ⟨fun _ _ => none, fun _ => none, fun _ => none, fun _ => none, fun _ => none, fun _ => none⟩
  | d + 1 => ⟨xDm N (xAa N d).c_spec_l11Args (xAa N d).c_spec_l11Atom (xAa N d).c_spec_l11Compare (xAa N d).c_spec_l11Expr (xAa N d).c_spec_l11Product (xAa N d).c_spec_l11Sum, xDn N (xAa N d).c_spec_l11Args (xAa N d).c_spec_l11Atom (xAa N d).c_spec_l11Compare (xAa N d).c_spec_l11Expr (xAa N d).c_spec_l11Product (xAa N d).c_spec_l11Sum, xCL N (xAa N d).c_spec_l11Args (xAa N d).c_spec_l11Atom (xAa N d).c_spec_l11Compare (xAa N d).c_spec_l11Expr (xAa N d).c_spec_l11Product (xAa N d).c_spec_l11Sum, xDo N (xAa N d).c_spec_l11Args (xAa N d).c_spec_l11Atom (xAa N d).c_spec_l11Compare (xAa N d).c_spec_l11Expr (xAa N d).c_spec_l11Product (xAa N d).c_spec_l11Sum, xCM N (xAa N d).c_spec_l11Args (xAa N d).c_spec_l11Atom (xAa N d).c_spec_l11Compare (xAa N d).c_spec_l11Expr (xAa N d).c_spec_l11Product (xAa N d).c_spec_l11Sum, xDG N (xAa N d).c_spec_l11Args (xAa N d).c_spec_l11Atom (xAa N d).c_spec_l11Compare (xAa N d).c_spec_l11Expr (xAa N d).c_spec_l11Product (xAa N d).c_spec_l11Sum⟩
def xFV (N : Nat) (a0 : Rdr) : Option (Exp × Rdr) := (xAa N N).c_spec_l11Expr a0
def xC6 (a0 : Exp) (a1 : Int) : List Arg := [.val (.v true [.int .i64 (Exp.kind a0), .int .i64 (Exp.n a0), .str (Exp.text a0), .sl .ro .exp (Exp.args a0)]), .val (.v false [.int .i64 a1])]
def xBF (r : Int) : CallO := ⟨.v false [.int .i64 r], [], []⟩
def xDx (N : Nat) (q0 : Exp → Int → Option (Int)) : Nat → Int → Int → Exp → Option (Int)
  | 0, _, _, _ => none
  | n + 1, x1, x5, b2 =>
    bif (decide ((x5 : Int) < (List.length (Exp.args b2) : Int))) then (
      bif (decide ((x1 : Int) ≥ 0)) then (
        if (0 : Int) ≤ x5 ∧ x5 < (List.length (Exp.args b2)) then
        Option.bind (q0 (List.getD (Exp.args b2) (Int.toNat x5) Ty.exp.dflt) x1) fun r1 =>
        (xDx N q0 n r1 (IntKind.i64.wrap (x5 + 1)) b2)
        else none
      ) else (
        some x1
      )
    ) else (
      some x1
    )
def xFg (N : Nat) (q0 : Exp → Int → Option (Int)) (a0 : Exp) (a1 : Int) : Option (Int) :=
  (xDx N q0 N (IntKind.i64.wrap (a1 - 1)) 0 a0)
def xD0 (N : Nat) : Nat → Exp → Int → Option (Int)
  | 0, _, _ => none
  | d + 1, a0, a1 => xFg N (xD0 N d) a0 a1
def xGC (N : Nat) (a0 : Exp) (a1 : Int) : Option (Int) := xD0 N N a0 a1
def xFa (a0 : Int) (a1 : Int) : List Arg := [.val (.v false [.int .i64 a0]), .val (.v false [.int .i64 a1])]
def xEI (r : Int) : CallO := ⟨.v false [.int .i64 r], [], []⟩
def xGd (N : Nat) (a0 : Int) (a1 : Int) : Option (Int) :=
  bif (decide ((a0 : Int) > a1)) then (
    some a0
  ) else (
    some a1
  )
def xC3 (a0 : Exp) : List Arg := [.val (.v true [.int .i64 (Exp.kind a0), .int .i64 (Exp.n a0), .str (Exp.text a0), .sl .ro .exp (Exp.args a0)])]
def xBM (r : Int) : CallO := ⟨.v false [.int .i64 r], [], []⟩
def xDO (N : Nat) (q0 : Exp → Option (Int)) : Nat → Int → Int → Exp → Option (Int)
  | 0, _, _, _ => none
  | n + 1, x3, x4, b1 =>
    bif (decide ((x4 : Int) < (List.length (Exp.args b1) : Int))) then (
      if (0 : Int) ≤ x4 ∧ x4 < (List.length (Exp.args b1)) then
      Option.bind (q0 (List.getD (Exp.args b1) (Int.toNat x4) Ty.exp.dflt)) fun r1 =>
      Option.bind (xGd N x3 r1) fun r2 =>
      (xDO N q0 n r2 (IntKind.i64.wrap (x4 + 1)) b1)
      else none
    ) else (
      some (IntKind.i64.wrap (x3 + 1))
    )
def xE1 (N : Nat) (q0 : Exp → Option (Int)) (a0 : Exp) : Option (Int) :=
  (xDO N q0 N 0 0 a0)
def xD6 (N : Nat) : Nat → Exp → Option (Int)
  | 0, _ => none
  | d + 1, a0 => xE1 N (xD6 N d) a0
def xF2 (N : Nat) (a0 : Exp) : Option (Int) := xD6 N N a0
def xE2 (a0 : Int) (a1 : Int) (a2 : Int) : List Arg := [.val (.v false [.int .i64 a0]), .val (.v false [.int .i64 a1]), .val (.v false [.int .i64 a2])]
def xEi (r : Bool) : CallO := ⟨.v false [.bool r], [], []⟩
def xGc (N : Nat) (a0 : Int) (a1 : Int) (a2 : Int) : Option (Bool) :=
  bif (decide ((a0 : Int) ≥ a1)) then (
    some (decide ((a0 : Int) ≤ a2))
  ) else (
    some false
  )
def xAF (a0 : Exp) : List Arg := [.val (.v true [.int .i64 (Exp.kind a0), .int .i64 (Exp.n a0), .str (Exp.text a0), .sl .ro .exp (Exp.args a0)])]
def xAD (r : Bool) : CallO := ⟨.v false [.bool r], [], []⟩
def xFr (N : Nat) (a0 : Exp) : Option (Bool) :=
  bif (((Exp.kind a0) : Int) == 1) then (
    bif (((List.length (Exp.args a0) : Int) : Int) == 0) then (
      bif (((Exp.text a0) : Str) == []) then (
        Option.bind (xGc N (Exp.n a0) 0 1000000000) fun r1 =>
        some r1
      ) else (
        some false
      )
    ) else (
      some false
    )
  ) else (
    bif (((Exp.kind a0) : Int) == 2) then (
      bif (((List.length (Exp.args a0) : Int) : Int) == 0) then (
        bif (((Exp.n a0) : Int) == 0) then (
          Option.bind (xDY N (Exp.text a0)) fun r1 =>
          some r1
        ) else (
          some false
        )
      ) else (
        some false
      )
    ) else (
      bif (((Exp.kind a0) : Int) == 3) then (
        bif (((List.length (Exp.args a0) : Int) : Int) == 0) then (
          bif (((Exp.n a0) : Int) == 0) then (
            Option.bind (xCX N (Exp.text a0)) fun r1 =>
            some r1
          ) else (
            some false
          )
        ) else (
          some false
        )
      ) else (
        bif (((Exp.kind a0) : Int) == 4) then (
          bif (((Exp.n a0) : Int) == 0) then (
            bif (((Exp.text a0) : Str) == []) then (
              some (decide (((List.length (Exp.args a0) : Int) : Int) ≤ 8))
            ) else (
              some false
            )
          ) else (
            some false
          )
        ) else (
          bif (((Exp.kind a0) : Int) == 5) then (
            bif (((Exp.n a0) : Int) == 0) then (
              Option.bind (xCa N (Exp.text a0)) fun r1 =>
              some (((List.length (Exp.args a0) : Int) : Int) == r1)
            ) else (
              some false
            )
          ) else (
            bif (((Exp.kind a0) : Int) == 6) then (
              bif (((Exp.text a0) : Str) == []) then (
                bif (((List.length (Exp.args a0) : Int) : Int) == 2) then (
                  Option.bind (xGc N (Exp.n a0) 1 5) fun r1 =>
                  some r1
                ) else (
                  some false
                )
              ) else (
                some false
              )
            ) else (
              bif (((Exp.kind a0) : Int) == 7) then (
                bif (((Exp.n a0) : Int) == 0) then (
                  bif (((List.length (Exp.args a0) : Int) : Int) == 2) then (
                    Option.bind (xCX N (Exp.text a0)) fun r1 =>
                    some r1
                  ) else (
                    some false
                  )
                ) else (
                  some false
                )
              ) else (
                bif (((Exp.kind a0) : Int) == 9) then (
                  bif (((Exp.n a0) : Int) == 0) then (
                    bif (((List.length (Exp.args a0) : Int) : Int) == 2) then (
                      Option.bind (xCX N (Exp.text a0)) fun r1 =>
                      some r1
                    ) else (
                      some false
                    )
                  ) else (
                    some false
                  )
                ) else (
                  bif (((Exp.kind a0) : Int) == 8) then (
                    bif (((Exp.n a0) : Int) == 0) then (
                      bif (((Exp.text a0) : Str) == []) then (
                        some (((List.length (Exp.args a0) : Int) : Int) == 3)
                      ) else (
                        some false
                      )
                    ) else (
                      some false
                    )
                  ) else (
                    some false
                  )
                )
              )
            )
          )
        )
      )
    )
  )
def xDJ (a0 : Exp) : List Arg := [.val (.v true [.int .i64 (Exp.kind a0), .int .i64 (Exp.n a0), .str (Exp.text a0), .sl .ro .exp (Exp.args a0)])]
def xCi (r : Bool) : CallO := ⟨.v false [.bool r], [], []⟩
def xD9 (N : Nat) (q0 : Exp → Option (Bool)) : Nat → Int → Exp → Option (Bool)
  | 0, _, _ => none
  | n + 1, x3, b1 =>
    bif (decide ((x3 : Int) < (List.length (Exp.args b1) : Int))) then (
      if (0 : Int) ≤ x3 ∧ x3 < (List.length (Exp.args b1)) then
      Option.bind (q0 (List.getD (Exp.args b1) (Int.toNat x3) Ty.exp.dflt)) fun r1 =>
      bif (!r1) then (
        some false
      ) else (
        (xD9 N q0 n (IntKind.i64.wrap (x3 + 1)) b1)
      )
      else none
    ) else (
      Option.bind (xFr N b1) fun r1 =>
      some r1
    )
def xFs (N : Nat) (q0 : Exp → Option (Bool)) (a0 : Exp) : Option (Bool) :=
  (xD9 N q0 N 0 a0)
def xEz (N : Nat) : Nat → Exp → Option (Bool)
  | 0, _ => none
  | d + 1, a0 => xFs N (xEz N d) a0
def xGZ (N : Nat) (a0 : Exp) : Option (Bool) := xEz N N a0
def xBE (a0 : Exp) : List Arg := [.val (.v true [.int .i64 (Exp.kind a0), .int .i64 (Exp.n a0), .str (Exp.text a0), .sl .ro .exp (Exp.args a0)])]
def xAY (r : Bool) : CallO := ⟨.v false [.bool r], [], []⟩
def xCW (N : Nat) (a0 : Exp) : Option (Bool) :=
  Option.bind (xGC N a0 40) fun r1 =>
  bif (decide ((r1 : Int) ≥ 0)) then (
    Option.bind (xF2 N a0) fun r2 =>
    bif (decide ((r2 : Int) ≤ 8)) then (
      Option.bind (xGZ N a0) fun r3 =>
      some r3
    ) else (
      some false
    )
  ) else (
    some false
  )
def xAR (a0 : Str) : List Arg := [.val (.v false [.str a0])]
def xAv (r : Exp × Int) : CallO := ⟨.tup [(true, [.int .i64 (Exp.kind r.1), .int .i64 (Exp.n r.1), .str (Exp.text r.1), .sl .ro .exp (Exp.args r.1)]), (false, [.int .i64 r.2])], [], []⟩
def xD8 (N : Nat) (a0 : Str) : Option (Exp × Int) :=
  Option.bind (xEH N a0) fun r1 =>
  bif (decide ((r1.2 : Int) ≥ 0)) then (
    some ((Exp.mk 0 0 [] []), r1.2)
  ) else (
    Option.bind (xFV N (Rdr.mk r1.1 0 (List.length a0 : Int) (-1))) fun r2 =>
    bif (decide (((Rdr.bad r2.2) : Int) < 0)) then (
      bif (decide (((Rdr.i r2.2) : Int) < (List.length r1.1 : Int))) then (
        Option.bind (xBP N r2.2) fun r3 =>
        bif (decide (((Rdr.bad r3.2) : Int) ≥ 0)) then (
          some ((Exp.mk 0 0 [] []), (Rdr.bad r3.2))
        ) else (
          Option.bind (xCW N r2.1) fun r4 =>
          bif (!r4) then (
            some ((Exp.mk 0 0 [] []), 0)
          ) else (
            some (r2.1, (-1))
          )
        )
      ) else (
        bif (decide (((Rdr.bad r2.2) : Int) ≥ 0)) then (
          some ((Exp.mk 0 0 [] []), (Rdr.bad r2.2))
        ) else (
          Option.bind (xCW N r2.1) fun r3 =>
          bif (!r3) then (
            some ((Exp.mk 0 0 [] []), 0)
          ) else (
            some (r2.1, (-1))
          )
        )
      )
    ) else (
      bif (decide (((Rdr.bad r2.2) : Int) ≥ 0)) then (
        some ((Exp.mk 0 0 [] []), (Rdr.bad r2.2))
      ) else (
        Option.bind (xCW N r2.1) fun r3 =>
        bif (!r3) then (
          some ((Exp.mk 0 0 [] []), 0)
        ) else (
          some (r2.1, (-1))
        )
      )
    )
  )
def xFw (a0 : Str) (a1 : Int) (a2 : Int) : List Arg := [.val (.v false [.str a0]), .val (.v false [.int .i64 a1]), .val (.v false [.int .i64 a2])]
def xEj (r : Int × Bool) : CallO := ⟨.tup [(false, [.int .i64 r.1]), (false, [.bool r.2])], [], []⟩
def xFB (N : Nat) (a0 : Str) (a1 a2 : Int) : Option (Int × Bool) := parseNumP a0 a1 a2
def xBe (a0 : Str) (a1 : Int) : List Arg := [.val (.v false [.str a0]), .val (.v false [.int .u8 a1])]
def xAu (r : Int) : CallO := ⟨.v false [.int .i64 r], [], []⟩
def strings_IndexByte (N : Nat) (a0 : Str) (a1 : Int) : Option Int := indexByteP a0 a1
def xCb (a0 : Str) : List Arg := [.val (.v false [.str a0])]
def xAO (r : Bool) : CallO := ⟨.v false [.bool r], [], []⟩
def xDQ (N : Nat) : Nat → Str → Int → Option (Bool)
  | 0, _, _ => none
  | n + 1, x0, x3 =>
    bif (decide ((x3 : Int) < (List.length x0 : Int))) then (
      if (0 : Int) ≤ x3 ∧ x3 < (List.length x0) then
      bif (decide ((((List.getD x0 (Int.toNat x3) 0).toNat : Int) : Int) < 32)) then (
        some false
      ) else (
        bif (decide ((((List.getD x0 (Int.toNat x3) 0).toNat : Int) : Int) > 126)) then (
          some false
        ) else (
          bif ((((List.getD x0 (Int.toNat x3) 0).toNat : Int) : Int) == 34) then (
            some false
          ) else (
            (xDQ N n x0 (IntKind.i64.wrap (x3 + 1)))
          )
        )
      )
      else none
    ) else (
      some (decide (((List.length x0 : Int) : Int) ≤ 20))
    )
def xCV (N : Nat) (a0 : Str) : Option (Bool) :=
  (xDQ N N a0 0)
def xBW (a0 : Str) (a1 : Str) : List Arg := [.val (.v false [.str a0]), .val (.v false [.str a1])]
def xAS (r : Bool) : CallO := ⟨.v false [.bool r], [], []⟩
def strings_HasPrefix (N : Nat) (a0 a1 : Str) : Option Bool := hasPrefixP a0 a1
def xAT (a0 : Str) (a1 : Int) : List Arg := [.val (.v false [.str a0]), .val (.v false [.int .i64 a1])]
def xAy (r : Tok × Int × Bool) : CallO := ⟨.tup [(true, [.int .i64 (Tok.kind r.1), .int .i64 (Tok.n r.1), .int .i64 (Tok.pos r.1), .str (Tok.text r.1)]), (false, [.int .i64 r.2.1]), (false, [.bool r.2.2])], [], []⟩
def xCu (N : Nat) : Nat → Str → Int → Int → Tok → Option (Tok × Int × Bool)
  | 0, _, _, _, _ => none
  | n + 1, x0, x1, x7, b4 =>
    bif (decide ((x7 : Int) < (List.length x0 : Int))) then (
      if (0 : Int) ≤ x7 ∧ x7 < (List.length x0) then
      bif (decide ((((List.getD x0 (Int.toNat x7) 0).toNat : Int) : Int) ≥ 97)) then (
        bif (decide ((((List.getD x0 (Int.toNat x7) 0).toNat : Int) : Int) ≤ 122)) then (
          (xCu N n x0 x1 (IntKind.i64.wrap (x7 + 1)) b4)
        ) else (
          bif (decide ((((List.getD x0 (Int.toNat x7) 0).toNat : Int) : Int) ≥ 48)) then (
            bif (decide ((((List.getD x0 (Int.toNat x7) 0).toNat : Int) : Int) ≤ 57)) then (
              (xCu N n x0 x1 (IntKind.i64.wrap (x7 + 1)) b4)
            ) else (
              if (0 : Int) ≤ x1 ∧ x1 ≤ x7 ∧ x7 ≤ (List.length x0) then
              some ((Tok.mk 1 0 x1 (List.drop (Int.toNat x1) (List.take (Int.toNat x7) x0))), x7, (decide (((IntKind.i64.wrap (x7 - x1)) : Int) ≤ 8)))
              else none
            )
          ) else (
            if (0 : Int) ≤ x1 ∧ x1 ≤ x7 ∧ x7 ≤ (List.length x0) then
            some ((Tok.mk 1 0 x1 (List.drop (Int.toNat x1) (List.take (Int.toNat x7) x0))), x7, (decide (((IntKind.i64.wrap (x7 - x1)) : Int) ≤ 8)))
            else none
          )
        )
      ) else (
        bif (decide ((((List.getD x0 (Int.toNat x7) 0).toNat : Int) : Int) ≥ 48)) then (
          bif (decide ((((List.getD x0 (Int.toNat x7) 0).toNat : Int) : Int) ≤ 57)) then (
            (xCu N n x0 x1 (IntKind.i64.wrap (x7 + 1)) b4)
          ) else (
            if (0 : Int) ≤ x1 ∧ x1 ≤ x7 ∧ x7 ≤ (List.length x0) then
            some ((Tok.mk 1 0 x1 (List.drop (Int.toNat x1) (List.take (Int.toNat x7) x0))), x7, (decide (((IntKind.i64.wrap (x7 - x1)) : Int) ≤ 8)))
            else none
          )
        ) else (
          if (0 : Int) ≤ x1 ∧ x1 ≤ x7 ∧ x7 ≤ (List.length x0) then
          some ((Tok.mk 1 0 x1 (List.drop (Int.toNat x1) (List.take (Int.toNat x7) x0))), x7, (decide (((IntKind.i64.wrap (x7 - x1)) : Int) ≤ 8)))
          else none
        )
      )
      else none
    ) else (
      if (0 : Int) ≤ x1 ∧ x1 ≤ x7 ∧ x7 ≤ (List.length x0) then
      some ((Tok.mk 1 0 x1 (List.drop (Int.toNat x1) (List.take (Int.toNat x7) x0))), x7, (decide (((IntKind.i64.wrap (x7 - x1)) : Int) ≤ 8)))
      else none
    )
def xCQ (N : Nat) : Nat → Str → Int → Int → Tok → Option (Tok × Int × Bool)
  | 0, _, _, _, _ => none
  | n + 1, x0, x1, x7, b4 =>
    bif (decide ((x7 : Int) < (List.length x0 : Int))) then (
      if (0 : Int) ≤ x7 ∧ x7 < (List.length x0) then
      bif (decide ((((List.getD x0 (Int.toNat x7) 0).toNat : Int) : Int) ≥ 48)) then (
        bif (decide ((((List.getD x0 (Int.toNat x7) 0).toNat : Int) : Int) ≤ 57)) then (
          (xCQ N n x0 x1 (IntKind.i64.wrap (x7 + 1)) b4)
        ) else (
          if (0 : Int) ≤ x1 ∧ x1 ≤ x7 ∧ x7 ≤ (List.length x0) then
          Option.bind (xFB N (List.drop (Int.toNat x1) (List.take (Int.toNat x7) x0)) 0 1000000000) fun r1 =>
          some ((Tok.mk 2 r1.1 x1 []), x7, r1.2)
          else none
        )
      ) else (
        if (0 : Int) ≤ x1 ∧ x1 ≤ x7 ∧ x7 ≤ (List.length x0) then
        Option.bind (xFB N (List.drop (Int.toNat x1) (List.take (Int.toNat x7) x0)) 0 1000000000) fun r1 =>
        some ((Tok.mk 2 r1.1 x1 []), x7, r1.2)
        else none
      )
      else none
    ) else (
      if (0 : Int) ≤ x1 ∧ x1 ≤ x7 ∧ x7 ≤ (List.length x0) then
      Option.bind (xFB N (List.drop (Int.toNat x1) (List.take (Int.toNat x7) x0)) 0 1000000000) fun r1 =>
      some ((Tok.mk 2 r1.1 x1 []), x7, r1.2)
      else none
    )
def xFn (N : Nat) (a0 : Str) (a1 : Int) : Option (Tok × Int × Bool) :=
  if (0 : Int) ≤ a1 ∧ a1 < (List.length a0) then
  bif (decide ((((List.getD a0 (Int.toNat a1) 0).toNat : Int) : Int) ≥ 97)) then (
    bif (decide ((((List.getD a0 (Int.toNat a1) 0).toNat : Int) : Int) ≤ 122)) then (
      (xCu N N a0 a1 a1 (Tok.mk 0 0 0 []))
    ) else (
      bif (decide ((((List.getD a0 (Int.toNat a1) 0).toNat : Int) : Int) ≥ 48)) then (
        bif (decide ((((List.getD a0 (Int.toNat a1) 0).toNat : Int) : Int) ≤ 57)) then (
          (xCQ N N a0 a1 a1 (Tok.mk 0 0 0 []))
        ) else (
          bif ((((List.getD a0 (Int.toNat a1) 0).toNat : Int) : Int) == 34) then (
            if (0 : Int) ≤ (IntKind.i64.wrap (a1 + 1)) ∧ (IntKind.i64.wrap (a1 + 1)) ≤ (List.length a0) then
            Option.bind (strings_IndexByte N (List.drop (Int.toNat (IntKind.i64.wrap (a1 + 1))) a0) 34) fun r1 =>
            bif (decide ((r1 : Int) < 0)) then (
              some ((Tok.mk 0 0 0 []), 0, false)
            ) else (
              if (0 : Int) ≤ (IntKind.i64.wrap (a1 + 1)) ∧ (IntKind.i64.wrap (a1 + 1)) ≤ (IntKind.i64.wrap ((IntKind.i64.wrap (a1 + 1)) + r1)) ∧ (IntKind.i64.wrap ((IntKind.i64.wrap (a1 + 1)) + r1)) ≤ (List.length a0) then
              Option.bind (xCV N (List.drop (Int.toNat (IntKind.i64.wrap (a1 + 1))) (List.take (Int.toNat (IntKind.i64.wrap ((IntKind.i64.wrap (a1 + 1)) + r1))) a0))) fun r2 =>
              some ((Tok.mk 3 0 a1 (List.drop (Int.toNat (IntKind.i64.wrap (a1 + 1))) (List.take (Int.toNat (IntKind.i64.wrap ((IntKind.i64.wrap (a1 + 1)) + r1))) a0))), (IntKind.i64.wrap ((IntKind.i64.wrap (a1 + r1)) + 2)), r2)
              else none
            )
            else none
          ) else (
            if (0 : Int) ≤ a1 ∧ a1 ≤ (List.length a0) then
            Option.bind (strings_HasPrefix N (List.drop (Int.toNat a1) a0) [61, 61]) fun r1 =>
            bif r1 then (
              some ((Tok.mk 4 0 a1 [61, 61]), (IntKind.i64.wrap (a1 + 2)), true)
            ) else (
              if (0 : Int) ≤ a1 ∧ a1 ≤ (IntKind.i64.wrap (a1 + 1)) ∧ (IntKind.i64.wrap (a1 + 1)) ≤ (List.length a0) then
              Option.bind (strings_IndexByte N [40, 41, 91, 93, 44, 43, 45, 42, 60, 61] ((List.getD a0 (Int.toNat a1) 0).toNat : Int)) fun r2 =>
              some ((Tok.mk 4 0 a1 (List.drop (Int.toNat a1) (List.take (Int.toNat (IntKind.i64.wrap (a1 + 1))) a0))), (IntKind.i64.wrap (a1 + 1)), (decide ((r2 : Int) ≥ 0)))
              else none
            )
            else none
          )
        )
      ) else (
        bif ((((List.getD a0 (Int.toNat a1) 0).toNat : Int) : Int) == 34) then (
          if (0 : Int) ≤ (IntKind.i64.wrap (a1 + 1)) ∧ (IntKind.i64.wrap (a1 + 1)) ≤ (List.length a0) then
          Option.bind (strings_IndexByte N (List.drop (Int.toNat (IntKind.i64.wrap (a1 + 1))) a0) 34) fun r1 =>
          bif (decide ((r1 : Int) < 0)) then (
            some ((Tok.mk 0 0 0 []), 0, false)
          ) else (
            if (0 : Int) ≤ (IntKind.i64.wrap (a1 + 1)) ∧ (IntKind.i64.wrap (a1 + 1)) ≤ (IntKind.i64.wrap ((IntKind.i64.wrap (a1 + 1)) + r1)) ∧ (IntKind.i64.wrap ((IntKind.i64.wrap (a1 + 1)) + r1)) ≤ (List.length a0) then
            Option.bind (xCV N (List.drop (Int.toNat (IntKind.i64.wrap (a1 + 1))) (List.take (Int.toNat (IntKind.i64.wrap ((IntKind.i64.wrap (a1 + 1)) + r1))) a0))) fun r2 =>
            some ((Tok.mk 3 0 a1 (List.drop (Int.toNat (IntKind.i64.wrap (a1 + 1))) (List.take (Int.toNat (IntKind.i64.wrap ((IntKind.i64.wrap (a1 + 1)) + r1))) a0))), (IntKind.i64.wrap ((IntKind.i64.wrap (a1 + r1)) + 2)), r2)
            else none
          )
          else none
        ) else (
          if (0 : Int) ≤ a1 ∧ a1 ≤ (List.length a0) then
          Option.bind (strings_HasPrefix N (List.drop (Int.toNat a1) a0) [61, 61]) fun r1 =>
          bif r1 then (
            some ((Tok.mk 4 0 a1 [61, 61]), (IntKind.i64.wrap (a1 + 2)), true)
          ) else (
            if (0 : Int) ≤ a1 ∧ a1 ≤ (IntKind.i64.wrap (a1 + 1)) ∧ (IntKind.i64.wrap (a1 + 1)) ≤ (List.length a0) then
            Option.bind (strings_IndexByte N [40, 41, 91, 93, 44, 43, 45, 42, 60, 61] ((List.getD a0 (Int.toNat a1) 0).toNat : Int)) fun r2 =>
            some ((Tok.mk 4 0 a1 (List.drop (Int.toNat a1) (List.take (Int.toNat (IntKind.i64.wrap (a1 + 1))) a0))), (IntKind.i64.wrap (a1 + 1)), (decide ((r2 : Int) ≥ 0)))
            else none
          )
          else none
        )
      )
    )
  ) else (
    bif (decide ((((List.getD a0 (Int.toNat a1) 0).toNat : Int) : Int) ≥ 48)) then (
      bif (decide ((((List.getD a0 (Int.toNat a1) 0).toNat : Int) : Int) ≤ 57)) then (
        (xCQ N N a0 a1 a1 (Tok.mk 0 0 0 []))
      ) else (
        bif ((((List.getD a0 (Int.toNat a1) 0).toNat : Int) : Int) == 34) then (
          if (0 : Int) ≤ (IntKind.i64.wrap (a1 + 1)) ∧ (IntKind.i64.wrap (a1 + 1)) ≤ (List.length a0) then
          Option.bind (strings_IndexByte N (List.drop (Int.toNat (IntKind.i64.wrap (a1 + 1))) a0) 34) fun r1 =>
          bif (decide ((r1 : Int) < 0)) then (
            some ((Tok.mk 0 0 0 []), 0, false)
          ) else (
            if (0 : Int) ≤ (IntKind.i64.wrap (a1 + 1)) ∧ (IntKind.i64.wrap (a1 + 1)) ≤ (IntKind.i64.wrap ((IntKind.i64.wrap (a1 + 1)) + r1)) ∧ (IntKind.i64.wrap ((IntKind.i64.wrap (a1 + 1)) + r1)) ≤ (List.length a0) then
            Option.bind (xCV N (List.drop (Int.toNat (IntKind.i64.wrap (a1 + 1))) (List.take (Int.toNat (IntKind.i64.wrap ((IntKind.i64.wrap (a1 + 1)) + r1))) a0))) fun r2 =>
            some ((Tok.mk 3 0 a1 (List.drop (Int.toNat (IntKind.i64.wrap (a1 + 1))) (List.take (Int.toNat (IntKind.i64.wrap ((IntKind.i64.wrap (a1 + 1)) + r1))) a0))), (IntKind.i64.wrap ((IntKind.i64.wrap (a1 + r1)) + 2)), r2)
            else none
          )
          else none
        ) else (
          if (0 : Int) ≤ a1 ∧ a1 ≤ (List.length a0) then
          Option.bind (strings_HasPrefix N (List.drop (Int.toNat a1) a0) [61, 61]) fun r1 =>
          bif r1 then (
            some ((Tok.mk 4 0 a1 [61, 61]), (IntKind.i64.wrap (a1 + 2)), true)
          ) else (
            if (0 : Int) ≤ a1 ∧ a1 ≤ (IntKind.i64.wrap (a1 + 1)) ∧ (IntKind.i64.wrap (a1 + 1)) ≤ (List.length a0) then
            Option.bind (strings_IndexByte N [40, 41, 91, 93, 44, 43, 45, 42, 60, 61] ((List.getD a0 (Int.toNat a1) 0).toNat : Int)) fun r2 =>
            some ((Tok.mk 4 0 a1 (List.drop (Int.toNat a1) (List.take (Int.toNat (IntKind.i64.wrap (a1 + 1))) a0))), (IntKind.i64.wrap (a1 + 1)), (decide ((r2 : Int) ≥ 0)))
            else none
          )
          else none
        )
      )
    ) else (
      bif ((((List.getD a0 (Int.toNat a1) 0).toNat : Int) : Int) == 34) then (
        if (0 : Int) ≤ (IntKind.i64.wrap (a1 + 1)) ∧ (IntKind.i64.wrap (a1 + 1)) ≤ (List.length a0) then
        Option.bind (strings_IndexByte N (List.drop (Int.toNat (IntKind.i64.wrap (a1 + 1))) a0) 34) fun r1 =>
        bif (decide ((r1 : Int) < 0)) then (
          some ((Tok.mk 0 0 0 []), 0, false)
        ) else (
          if (0 : Int) ≤ (IntKind.i64.wrap (a1 + 1)) ∧ (IntKind.i64.wrap (a1 + 1)) ≤ (IntKind.i64.wrap ((IntKind.i64.wrap (a1 + 1)) + r1)) ∧ (IntKind.i64.wrap ((IntKind.i64.wrap (a1 + 1)) + r1)) ≤ (List.length a0) then
          Option.bind (xCV N (List.drop (Int.toNat (IntKind.i64.wrap (a1 + 1))) (List.take (Int.toNat (IntKind.i64.wrap ((IntKind.i64.wrap (a1 + 1)) + r1))) a0))) fun r2 =>
          some ((Tok.mk 3 0 a1 (List.drop (Int.toNat (IntKind.i64.wrap (a1 + 1))) (List.take (Int.toNat (IntKind.i64.wrap ((IntKind.i64.wrap (a1 + 1)) + r1))) a0))), (IntKind.i64.wrap ((IntKind.i64.wrap (a1 + r1)) + 2)), r2)
          else none
        )
        else none
      ) else (
        if (0 : Int) ≤ a1 ∧ a1 ≤ (List.length a0) then
        Option.bind (strings_HasPrefix N (List.drop (Int.toNat a1) a0) [61, 61]) fun r1 =>
        bif r1 then (
          some ((Tok.mk 4 0 a1 [61, 61]), (IntKind.i64.wrap (a1 + 2)), true)
        ) else (
          if (0 : Int) ≤ a1 ∧ a1 ≤ (IntKind.i64.wrap (a1 + 1)) ∧ (IntKind.i64.wrap (a1 + 1)) ≤ (List.length a0) then
          Option.bind (strings_IndexByte N [40, 41, 91, 93, 44, 43, 45, 42, 60, 61] ((List.getD a0 (Int.toNat a1) 0).toNat : Int)) fun r2 =>
          some ((Tok.mk 4 0 a1 (List.drop (Int.toNat a1) (List.take (Int.toNat (IntKind.i64.wrap (a1 + 1))) a0))), (IntKind.i64.wrap (a1 + 1)), (decide ((r2 : Int) ≥ 0)))
          else none
        )
        else none
      )
    )
  )
  else none
def xBf (a0 : Str) : List Arg := [.val (.v false [.str a0])]
def xAt (r : (List Tok) × Int) : CallO := ⟨.tup [(false, [.sl .own .tok r.1]), (false, [.int .i64 r.2])], [], []⟩
def xDC (N : Nat) : Nat → Str → (List Tok) → Int → Option ((List Tok) × Int)
  | 0, _, _, _ => none
  | n + 1, x0, x4, x5 =>
    bif (decide ((x5 : Int) < (List.length x0 : Int))) then (
      if (0 : Int) ≤ x5 ∧ x5 < (List.length x0) then
      bif ((((List.getD x0 (Int.toNat x5) 0).toNat : Int) : Int) == 32) then (
        (xDC N n x0 x4 (IntKind.i64.wrap (x5 + 1)))
      ) else (
        Option.bind (xFn N x0 x5) fun r1 =>
        bif (!r1.2.2) then (
          some ([], x5)
        ) else (
          bif (((List.length x4 : Int) : Int) == 60) then (
            some ([], x5)
          ) else (
            if List.length x4 + List.length [r1.1] ≤ Lim then
            (xDC N n x0 (x4 ++ [r1.1]) r1.2.1)
            else none
          )
        )
      )
      else none
    ) else (
      some (x4, (-1))
    )
def xED (N : Nat) (a0 : Str) : Option ((List Tok) × Int) :=
  bif (decide (((List.length a0 : Int) : Int) > 120)) then (
    some ([], 120)
  ) else (
    (xDC N N a0 [] 0)
  )
def xAj (a0 : Psr) : List Arg := [.box [.sl .ro .tok (Psr.list a0), .int .i64 (Psr.pos a0), .int .i64 (Psr.bad a0)]]
def xAc (r : Tok × Psr) : CallO := ⟨.v true [.int .i64 (Tok.kind r.1), .int .i64 (Tok.n r.1), .int .i64 (Tok.pos r.1), .str (Tok.text r.1)], [[.sl .ro .tok (Psr.list r.2), .int .i64 (Psr.pos r.2), .int .i64 (Psr.bad r.2)]], []⟩
def xBA (N : Nat) (a0 : Psr) : Option (Tok × Psr) :=
  bif (decide (((Psr.bad a0) : Int) < 0)) then (
    bif (decide (((Psr.pos a0) : Int) < (List.length (Psr.list a0) : Int))) then (
      if (0 : Int) ≤ (Psr.pos a0) ∧ (Psr.pos a0) < (List.length (Psr.list a0)) then
      some ((List.getD (Psr.list a0) (Int.toNat (Psr.pos a0)) Ty.tok.dflt), a0)
      else none
    ) else (
      some ((Tok.mk 0 0 0 []), a0)
    )
  ) else (
    some ((Tok.mk 0 0 0 []), a0)
  )
def xBc (a0 : Tok) (a1 : Str) : List Arg := [.val (.v true [.int .i64 (Tok.kind a0), .int .i64 (Tok.n a0), .int .i64 (Tok.pos a0), .str (Tok.text a0)]), .val (.v false [.str a1])]
def xAC (r : Bool) : CallO := ⟨.v false [.bool r], [], []⟩
def xDH (N : Nat) (a0 : Tok) (a1 : Str) : Option (Bool) :=
  bif (((Tok.kind a0) : Int) == 1) then (
    some (((Tok.text a0) : Str) == a1)
  ) else (
    some false
  )
def xCf (a0 : Int) (a1 : Int) (a2 : Int) : List Arg := [.val (.v false [.int .i64 a0]), .val (.v false [.int .i64 a1]), .val (.v false [.int .i64 a2])]
def xA8 (r : Bool) : CallO := ⟨.v false [.bool r], [], []⟩
def xEv (N : Nat) (a0 : Int) (a1 : Int) (a2 : Int) : Option (Bool) :=
  bif (decide ((a1 : Int) ≤ a0)) then (
    some (decide ((a0 : Int) ≤ a2))
  ) else (
    some false
  )
def xEL (a0 : Str) : List Arg := [.val (.v false [.str a0])]
def xB6 (r : Bool) : CallO := ⟨.v false [.bool r], [], []⟩
def xDp (N : Nat) : Nat → Str → Int → Option (Bool)
  | 0, _, _ => none
  | n + 1, x0, x3 =>
    bif (decide ((x3 : Int) < (List.length x0 : Int))) then (
      if (0 : Int) ≤ x3 ∧ x3 < (List.length x0) then
      bif (decide ((((List.getD x0 (Int.toNat x3) 0).toNat : Int) : Int) ≥ 97)) then (
        bif (!(decide ((((List.getD x0 (Int.toNat x3) 0).toNat : Int) : Int) ≤ 122))) then (
          bif ((x3 : Int) == 0) then (
            some false
          ) else (
            bif (decide ((((List.getD x0 (Int.toNat x3) 0).toNat : Int) : Int) < 48)) then (
              some false
            ) else (
              bif (decide ((((List.getD x0 (Int.toNat x3) 0).toNat : Int) : Int) > 57)) then (
                some false
              ) else (
                (xDp N n x0 (IntKind.i64.wrap (x3 + 1)))
              )
            )
          )
        ) else (
          (xDp N n x0 (IntKind.i64.wrap (x3 + 1)))
        )
      ) else (
        bif ((x3 : Int) == 0) then (
          some false
        ) else (
          bif (decide ((((List.getD x0 (Int.toNat x3) 0).toNat : Int) : Int) < 48)) then (
            some false
          ) else (
            bif (decide ((((List.getD x0 (Int.toNat x3) 0).toNat : Int) : Int) > 57)) then (
              some false
            ) else (
              (xDp N n x0 (IntKind.i64.wrap (x3 + 1)))
            )
          )
        )
      )
      else none
    ) else (
      Option.bind (xEv N (List.length x0 : Int) 1 8) fun r1 =>
      some r1
    )
def xGi (N : Nat) (a0 : Str) : Option (Bool) :=
  (xDp N N a0 0)
def xAp (a0 : Str) : List Arg := [.val (.v false [.str a0])]
def xAh (r : Int) : CallO := ⟨.v false [.int .i64 r], [], []⟩
def xCN (N : Nat) (a0 : Str) : Option (Int) :=
  bif ((a0 : Str) == [99, 108, 111, 99, 107]) then (
    some 0
  ) else (
    bif ((a0 : Str) == [108, 101, 110]) then (
      some 1
    ) else (
      bif ((a0 : Str) == [115, 117, 109]) then (
        some 1
      ) else (
        bif ((a0 : Str) == [114, 111, 119, 115]) then (
          some 1
        ) else (
          bif ((a0 : Str) == [99, 104, 97, 110, 99, 101]) then (
            some 1
          ) else (
            bif ((a0 : Str) == [102, 105, 108, 101]) then (
              some 1
            ) else (
              bif ((a0 : Str) == [116, 97, 107, 101]) then (
                some 2
              ) else (
                bif ((a0 : Str) == [115, 107, 105, 112]) then (
                  some 2
                ) else (
                  bif ((a0 : Str) == [114, 97, 110, 103, 101]) then (
                    some 2
                  ) else (
                    bif ((a0 : Str) == [110, 116, 104]) then (
                      some 2
                    ) else (
                      bif ((a0 : Str) == [107, 101, 101, 112]) then (
                        some 2
                      ) else (
                        bif ((a0 : Str) == [99, 111, 108, 117, 109, 110]) then (
                          some 2
                        ) else (
                          bif ((a0 : Str) == [116, 97, 98, 108, 101]) then (
                            some 2
                          ) else (
                            bif ((a0 : Str) == [119, 104, 101, 114, 101]) then (
                              some 3
                            ) else (
                              bif ((a0 : Str) == [103, 114, 111, 117, 112]) then (
                                some 3
                              ) else (
                                bif ((a0 : Str) == [106, 111, 105, 110]) then (
                                  some 3
                                ) else (
                                  bif ((a0 : Str) == [97, 100, 100]) then (
                                    some 4
                                  ) else (
                                    some (-1)
                                  )
                                )
                              )
                            )
                          )
                        )
                      )
                    )
                  )
                )
              )
            )
          )
        )
      )
    )
  )
def xBN (a0 : Str) : List Arg := [.val (.v false [.str a0])]
def xBz (r : Bool) : CallO := ⟨.v false [.bool r], [], []⟩
def xEu (N : Nat) (a0 : Str) : Option (Bool) :=
  bif ((a0 : Str) == [108, 101, 116]) then (
    some true
  ) else (
    bif ((a0 : Str) == [105, 110]) then (
      some true
    ) else (
      bif ((a0 : Str) == [105, 102]) then (
        some true
      ) else (
        bif ((a0 : Str) == [116, 104, 101, 110]) then (
          some true
        ) else (
          bif ((a0 : Str) == [101, 108, 115, 101]) then (
            some true
          ) else (
            bif ((a0 : Str) == [102, 111, 114]) then (
              some true
            ) else (
              bif ((a0 : Str) == [100, 111]) then (
                some true
              ) else (
                Option.bind (xCN N a0) fun r1 =>
                some (decide ((r1 : Int) ≥ 0))
              )
            )
          )
        )
      )
    )
  )
def xAW (a0 : Str) : List Arg := [.val (.v false [.str a0])]
def xAn (r : Bool) : CallO := ⟨.v false [.bool r], [], []⟩
def xCU (N : Nat) (a0 : Str) : Option (Bool) :=
  Option.bind (xGi N a0) fun r1 =>
  bif r1 then (
    Option.bind (xEu N a0) fun r2 =>
    some (!r2)
  ) else (
    some false
  )
def xCc (a0 : Psr) : List Arg := [.box [.sl .ro .tok (Psr.list a0), .int .i64 (Psr.pos a0), .int .i64 (Psr.bad a0)]]
def xA9 (r : Exp × Psr) : CallO := ⟨.v true [.int .i64 (Exp.kind r.1), .int .i64 (Exp.n r.1), .str (Exp.text r.1), .sl .own .exp (Exp.args r.1)], [[.sl .ro .tok (Psr.list r.2), .int .i64 (Psr.pos r.2), .int .i64 (Psr.bad r.2)]], []⟩
def xBZ (N : Nat) (a0 : Psr) : Option (Exp × Psr) :=
  bif (decide (((Psr.bad a0) : Int) < 0)) then (
    some ((Exp.mk 0 0 [] []), (Psr.mk (Psr.list a0) (Psr.pos a0) (Psr.pos a0)))
  ) else (
    some ((Exp.mk 0 0 [] []), a0)
  )
def xCZ (a0 : Psr) : List Arg := [.box [.sl .ro .tok (Psr.list a0), .int .i64 (Psr.pos a0), .int .i64 (Psr.bad a0)]]
def xCd (r : Str × Psr) : CallO := ⟨.v false [.str r.1], [[.sl .ro .tok (Psr.list r.2), .int .i64 (Psr.pos r.2), .int .i64 (Psr.bad r.2)]], []⟩
def xB0 (N : Nat) (a0 : Psr) : Option (Str × Psr) :=
  Option.bind (xBA N a0) fun r1 =>
  bif (((Tok.kind r1.1) : Int) != 1) then (
    Option.bind (xBZ N r1.2) fun r2 =>
    some ([], r2.2)
  ) else (
    Option.bind (xCU N (Tok.text r1.1)) fun r2 =>
    bif (!r2) then (
      Option.bind (xBZ N r1.2) fun r3 =>
      some ([], r3.2)
    ) else (
      some ((Tok.text r1.1), (Psr.mk (Psr.list r1.2) (IntKind.i64.wrap ((Psr.pos r1.2) + 1)) (Psr.bad r1.2)))
    )
  )
def xDb (a0 : Tok) (a1 : Str) : List Arg := [.val (.v true [.int .i64 (Tok.kind a0), .int .i64 (Tok.n a0), .int .i64 (Tok.pos a0), .str (Tok.text a0)]), .val (.v false [.str a1])]
def xBY (r : Bool) : CallO := ⟨.v false [.bool r], [], []⟩
def xEC (N : Nat) (a0 : Tok) (a1 : Str) : Option (Bool) :=
  bif (((Tok.kind a0) : Int) == 4) then (
    some (((Tok.text a0) : Str) == a1)
  ) else (
    some false
  )
def xA6 (a0 : Psr) (a1 : Str) : List Arg := [.box [.sl .ro .tok (Psr.list a0), .int .i64 (Psr.pos a0), .int .i64 (Psr.bad a0)], .val (.v false [.str a1])]
def xAA (r : Psr) : CallO := ⟨.tup [], [[.sl .ro .tok (Psr.list r), .int .i64 (Psr.pos r), .int .i64 (Psr.bad r)]], []⟩
def xAL (N : Nat) (a0 : Psr) (a1 : Str) : Option (Psr) :=
  Option.bind (xBA N a0) fun r1 =>
  Option.bind (xDH N r1.1 a1) fun r2 =>
  bif r2 then (
    some (Psr.mk (Psr.list r1.2) (IntKind.i64.wrap ((Psr.pos r1.2) + 1)) (Psr.bad r1.2))
  ) else (
    Option.bind (xBA N r1.2) fun r3 =>
    Option.bind (xEC N r3.1 a1) fun r4 =>
    bif r4 then (
      some (Psr.mk (Psr.list r3.2) (IntKind.i64.wrap ((Psr.pos r3.2) + 1)) (Psr.bad r3.2))
    ) else (
      Option.bind (xBZ N r3.2) fun r5 =>
      some r5.2
    )
  )
def xAm (a0 : Psr) (a1 : Str) : List Arg := [.box [.sl .ro .tok (Psr.list a0), .int .i64 (Psr.pos a0), .int .i64 (Psr.bad a0)], .val (.v false [.str a1])]
def xAd (r : Bool × Psr) : CallO := ⟨.v false [.bool r.1], [[.sl .ro .tok (Psr.list r.2), .int .i64 (Psr.pos r.2), .int .i64 (Psr.bad r.2)]], []⟩
def xAQ (N : Nat) (a0 : Psr) (a1 : Str) : Option (Bool × Psr) :=
  Option.bind (xBA N a0) fun r1 =>
  Option.bind (xEC N r1.1 a1) fun r2 =>
  bif r2 then (
    some (true, (Psr.mk (Psr.list r1.2) (IntKind.i64.wrap ((Psr.pos r1.2) + 1)) (Psr.bad r1.2)))
  ) else (
    some (false, r1.2)
  )
def xDV (a0 : Int) : List Arg := [.val (.v false [.int .i64 a0])]
def xDc (r : Str) : CallO := ⟨.v false [.str r], [], []⟩
def xE5 (N : Nat) (a0 : Int) : Option (Str) :=
  Option.bind (xEv N a0 1 5) fun r1 =>
  bif (!r1) then (
    some [63]
  ) else (
    if (0 : Int) ≤ (IntKind.i64.wrap (a0 - 1)) ∧ (IntKind.i64.wrap (a0 - 1)) < (List.length [[43], [45], [42], [60], [61, 61]]) then
    some (List.getD [[43], [45], [42], [60], [61, 61]] (Int.toNat (IntKind.i64.wrap (a0 - 1))) Ty.str.dflt)
    else none
  )
def xA5 (a0 : Psr) : List Arg := [.box [.sl .ro .tok (Psr.list a0), .int .i64 (Psr.pos a0), .int .i64 (Psr.bad a0)]]
def xAX (r : Exp × Psr) : CallO := ⟨.v true [.int .i64 (Exp.kind r.1), .int .i64 (Exp.n r.1), .str (Exp.text r.1), .sl .own .exp (Exp.args r.1)], [[.sl .ro .tok (Psr.list r.2), .int .i64 (Psr.pos r.2), .int .i64 (Psr.bad r.2)]], []⟩
def xCs (N : Nat) (q0 : Psr → Option (Exp × Psr)) (q1 : Psr → Option (Exp × Psr)) (q2 : Psr → Str → Option ((List Exp) × Psr)) (q3 : Psr → Option (Exp × Psr)) (q4 : Psr → Option (Exp × Psr)) (a0 : Psr) : Option (Exp × Psr) :=
  Option.bind (xBA N a0) fun r1 =>
  bif (((Tok.kind r1.1) : Int) == 2) then (
    some ((Exp.mk 1 (Tok.n r1.1) [] []), (Psr.mk (Psr.list r1.2) (IntKind.i64.wrap ((Psr.pos r1.2) + 1)) (Psr.bad r1.2)))
  ) else (
    bif (((Tok.kind r1.1) : Int) == 3) then (
      some ((Exp.mk 2 0 (Tok.text r1.1) []), (Psr.mk (Psr.list r1.2) (IntKind.i64.wrap ((Psr.pos r1.2) + 1)) (Psr.bad r1.2)))
    ) else (
      bif (((Tok.kind r1.1) : Int) == 1) then (
        Option.bind (xCU N (Tok.text r1.1)) fun r2 =>
        bif r2 then (
          some ((Exp.mk 3 0 (Tok.text r1.1) []), (Psr.mk (Psr.list r1.2) (IntKind.i64.wrap ((Psr.pos r1.2) + 1)) (Psr.bad r1.2)))
        ) else (
          Option.bind (xCN N (Tok.text r1.1)) fun r3 =>
          bif (decide ((r3 : Int) ≥ 0)) then (
            Option.bind (xAL N (Psr.mk (Psr.list r1.2) (IntKind.i64.wrap ((Psr.pos r1.2) + 1)) (Psr.bad r1.2)) [40]) fun r4 =>
            Option.bind (q2 r4 [41]) fun r5 =>
            some ((Exp.mk 5 0 (Tok.text r1.1) r5.1), r5.2)
          ) else (
            Option.bind (xAQ N r1.2 [91]) fun r4 =>
            bif r4.1 then (
              Option.bind (q2 r4.2 [93]) fun r5 =>
              some ((Exp.mk 4 0 [] r5.1), r5.2)
            ) else (
              Option.bind (xAQ N r4.2 [40]) fun r5 =>
              bif r5.1 then (
                Option.bind (q1 r5.2) fun r6 =>
                Option.bind (xAL N r6.2 [41]) fun r7 =>
                some (r6.1, r7)
              ) else (
                Option.bind (xBZ N r5.2) fun r6 =>
                some (r6.1, r6.2)
              )
            )
          )
        )
      ) else (
        Option.bind (xAQ N r1.2 [91]) fun r2 =>
        bif r2.1 then (
          Option.bind (q2 r2.2 [93]) fun r3 =>
          some ((Exp.mk 4 0 [] r3.1), r3.2)
        ) else (
          Option.bind (xAQ N r2.2 [40]) fun r3 =>
          bif r3.1 then (
            Option.bind (q1 r3.2) fun r4 =>
            Option.bind (xAL N r4.2 [41]) fun r5 =>
            some (r4.1, r5)
          ) else (
            Option.bind (xBZ N r3.2) fun r4 =>
            some (r4.1, r4.2)
          )
        )
      )
    )
  )
def xAl (a0 : Psr) : List Arg := [.box [.sl .ro .tok (Psr.list a0), .int .i64 (Psr.pos a0), .int .i64 (Psr.bad a0)]]
def xAe (r : Exp × Psr) : CallO := ⟨.v true [.int .i64 (Exp.kind r.1), .int .i64 (Exp.n r.1), .str (Exp.text r.1), .sl .own .exp (Exp.args r.1)], [[.sl .ro .tok (Psr.list r.2), .int .i64 (Psr.pos r.2), .int .i64 (Psr.bad r.2)]], []⟩
def xCI (N : Nat) (q0 : Psr → Option (Exp × Psr)) (q1 : Psr → Option (Exp × Psr)) (q2 : Psr → Str → Option ((List Exp) × Psr)) (q3 : Psr → Option (Exp × Psr)) (q4 : Psr → Option (Exp × Psr)) : Nat → (List Int) → Int → Int → Psr → Exp → Exp → Option (Exp × Psr)
  | 0, _, _, _, _, _, _ => none
  | n + 1, x115, x116, x117, b0, b2, b6 =>
    bif (decide ((x117 : Int) < x116)) then (
      if (0 : Int) ≤ x117 ∧ x117 < (List.length x115) then
      Option.bind (xE5 N (List.getD x115 (Int.toNat x117) Ty.int.dflt)) fun r1 =>
      Option.bind (xAQ N b0 r1) fun r2 =>
      bif r2.1 then (
        Option.bind (q4 r2.2) fun r3 =>
        some ((Exp.mk 6 (List.getD x115 (Int.toNat x117) Ty.int.dflt) [] [(Exp.re b6), (Exp.re r3.1)]), r3.2)
      ) else (
        (xCI N q0 q1 q2 q3 q4 n x115 x116 (IntKind.i64.wrap (x117 + 1)) r2.2 b2 b6)
      )
      else none
    ) else (
      some (b6, b0)
    )
def xCt (N : Nat) (q0 : Psr → Option (Exp × Psr)) (q1 : Psr → Option (Exp × Psr)) (q2 : Psr → Str → Option ((List Exp) × Psr)) (q3 : Psr → Option (Exp × Psr)) (q4 : Psr → Option (Exp × Psr)) (a0 : Psr) : Option (Exp × Psr) :=
  Option.bind (xBA N a0) fun r1 =>
  Option.bind (xDH N r1.1 [108, 101, 116]) fun r2 =>
  bif r2 then (
    Option.bind (xB0 N (Psr.mk (Psr.list r1.2) (IntKind.i64.wrap ((Psr.pos r1.2) + 1)) (Psr.bad r1.2))) fun r3 =>
    Option.bind (xAL N r3.2 [61]) fun r4 =>
    Option.bind (q1 r4) fun r5 =>
    if 0 + List.length [(Exp.re r5.1)] ≤ Lim then
    Option.bind (xAL N r5.2 [105, 110]) fun r6 =>
    Option.bind (q1 r6) fun r7 =>
    if List.length ([] ++ [(Exp.re r5.1)]) + List.length [(Exp.re r7.1)] ≤ Lim then
    some ((Exp.mk 7 0 r3.1 (([] ++ [(Exp.re r5.1)]) ++ [(Exp.re r7.1)])), r7.2)
    else none
    else none
  ) else (
    Option.bind (xBA N r1.2) fun r3 =>
    Option.bind (xDH N r3.1 [105, 102]) fun r4 =>
    bif r4 then (
      Option.bind (q1 (Psr.mk (Psr.list r3.2) (IntKind.i64.wrap ((Psr.pos r3.2) + 1)) (Psr.bad r3.2))) fun r5 =>
      if 0 + List.length [(Exp.re r5.1)] ≤ Lim then
      Option.bind (xAL N r5.2 [116, 104, 101, 110]) fun r6 =>
      Option.bind (q1 r6) fun r7 =>
      if List.length ([] ++ [(Exp.re r5.1)]) + List.length [(Exp.re r7.1)] ≤ Lim then
      Option.bind (xAL N r7.2 [101, 108, 115, 101]) fun r8 =>
      Option.bind (q1 r8) fun r9 =>
      if List.length (([] ++ [(Exp.re r5.1)]) ++ [(Exp.re r7.1)]) + List.length [(Exp.re r9.1)] ≤ Lim then
      some ((Exp.mk 8 0 [] ((([] ++ [(Exp.re r5.1)]) ++ [(Exp.re r7.1)]) ++ [(Exp.re r9.1)])), r9.2)
      else none
      else none
      else none
    ) else (
      Option.bind (xBA N r3.2) fun r5 =>
      Option.bind (xDH N r5.1 [102, 111, 114]) fun r6 =>
      bif r6 then (
        Option.bind (xB0 N (Psr.mk (Psr.list r5.2) (IntKind.i64.wrap ((Psr.pos r5.2) + 1)) (Psr.bad r5.2))) fun r7 =>
        Option.bind (xAL N r7.2 [105, 110]) fun r8 =>
        Option.bind (q1 r8) fun r9 =>
        if 0 + List.length [(Exp.re r9.1)] ≤ Lim then
        Option.bind (xAL N r9.2 [100, 111]) fun r10 =>
        Option.bind (q1 r10) fun r11 =>
        if List.length ([] ++ [(Exp.re r9.1)]) + List.length [(Exp.re r11.1)] ≤ Lim then
        some ((Exp.mk 9 0 r7.1 (([] ++ [(Exp.re r9.1)]) ++ [(Exp.re r11.1)])), r11.2)
        else none
        else none
      ) else (
        Option.bind (q4 r5.2) fun r7 =>
        (xCI N q0 q1 q2 q3 q4 N [4, 5] (List.length [4, 5] : Int) 0 r7.2 (Exp.mk 0 0 [] []) r7.1)
      )
    )
  )
def xCj (a0 : Psr) (a1 : Str) : List Arg := [.box [.sl .ro .tok (Psr.list a0), .int .i64 (Psr.pos a0), .int .i64 (Psr.bad a0)], .val (.v false [.str a1])]
def xBd (r : (List Exp) × Psr) : CallO := ⟨.v false [.sl .own .exp r.1], [[.sl .ro .tok (Psr.list r.2), .int .i64 (Psr.pos r.2), .int .i64 (Psr.bad r.2)]], []⟩
def xCk (N : Nat) (q0 : Psr → Option (Exp × Psr)) (q1 : Psr → Option (Exp × Psr)) (q2 : Psr → Str → Option ((List Exp) × Psr)) (q3 : Psr → Option (Exp × Psr)) (q4 : Psr → Option (Exp × Psr)) : Nat → Str → (List Exp) → Psr → Option ((List Exp) × Psr)
  | 0, _, _, _ => none
  | n + 1, x1, x5, b0 =>
    bif (decide (((Psr.bad b0) : Int) < 0)) then (
      Option.bind (q1 b0) fun r1 =>
      if List.length x5 + List.length [(Exp.re r1.1)] ≤ Lim then
      Option.bind (xAQ N r1.2 x1) fun r2 =>
      bif r2.1 then (
        some ((x5 ++ [(Exp.re r1.1)]), r2.2)
      ) else (
        Option.bind (xAL N r2.2 [44]) fun r3 =>
        (xCk N q0 q1 q2 q3 q4 n x1 (x5 ++ [(Exp.re r1.1)]) r3)
      )
      else none
    ) else (
      some (x5, b0)
    )
def xCm (N : Nat) (q0 : Psr → Option (Exp × Psr)) (q1 : Psr → Option (Exp × Psr)) (q2 : Psr → Str → Option ((List Exp) × Psr)) (q3 : Psr → Option (Exp × Psr)) (q4 : Psr → Option (Exp × Psr)) (a0 : Psr) (a1 : Str) : Option ((List Exp) × Psr) :=
  Option.bind (xAQ N a0 a1) fun r1 =>
  bif r1.1 then (
    some ([], r1.2)
  ) else (
    (xCk N q0 q1 q2 q3 q4 N a1 [] r1.2)
  )
def xCn (a0 : Psr) : List Arg := [.box [.sl .ro .tok (Psr.list a0), .int .i64 (Psr.pos a0), .int .i64 (Psr.bad a0)]]
def xBi (r : Exp × Psr) : CallO := ⟨.v true [.int .i64 (Exp.kind r.1), .int .i64 (Exp.n r.1), .str (Exp.text r.1), .sl .own .exp (Exp.args r.1)], [[.sl .ro .tok (Psr.list r.2), .int .i64 (Psr.pos r.2), .int .i64 (Psr.bad r.2)]], []⟩
def xBV (N : Nat) (q0 : Psr → Option (Exp × Psr)) (q1 : Psr → Option (Exp × Psr)) (q2 : Psr → Str → Option ((List Exp) × Psr)) (q3 : Psr → Option (Exp × Psr)) (q4 : Psr → Option (Exp × Psr)) : Nat → Psr → Exp → Exp → Option (Exp × Psr)
  | 0, _, _, _ => none
  | n + 1, b0, b2, b3 =>
    Option.bind (xAQ N b0 [42]) fun r1 =>
    bif r1.1 then (
      Option.bind (q0 r1.2) fun r2 =>
      (xBV N q0 q1 q2 q3 q4 n r2.2 b2 (Exp.mk 6 3 [] [(Exp.re b3), (Exp.re r2.1)]))
    ) else (
      some (b3, r1.2)
    )
def xB3 (N : Nat) (q0 : Psr → Option (Exp × Psr)) (q1 : Psr → Option (Exp × Psr)) (q2 : Psr → Str → Option ((List Exp) × Psr)) (q3 : Psr → Option (Exp × Psr)) (q4 : Psr → Option (Exp × Psr)) (a0 : Psr) : Option (Exp × Psr) :=
  Option.bind (q0 a0) fun r1 =>
  (xBV N q0 q1 q2 q3 q4 N r1.2 (Exp.mk 0 0 [] []) r1.1)
def xDB (a0 : Psr) : List Arg := [.box [.sl .ro .tok (Psr.list a0), .int .i64 (Psr.pos a0), .int .i64 (Psr.bad a0)]]
def xB8 (r : Exp × Psr) : CallO := ⟨.v true [.int .i64 (Exp.kind r.1), .int .i64 (Exp.n r.1), .str (Exp.text r.1), .sl .own .exp (Exp.args r.1)], [[.sl .ro .tok (Psr.list r.2), .int .i64 (Psr.pos r.2), .int .i64 (Psr.bad r.2)]], []⟩
def xB7 (N : Nat) (q0 : Psr → Option (Exp × Psr)) (q1 : Psr → Option (Exp × Psr)) (q2 : Psr → Str → Option ((List Exp) × Psr)) (q3 : Psr → Option (Exp × Psr)) (q4 : Psr → Option (Exp × Psr)) : Nat → Psr → Exp → Exp → Option (Exp × Psr)
  | 0, _, _, _ => none
  | n + 1, b0, b2, b3 =>
    bif (decide (((Psr.bad b0) : Int) < 0)) then (
      Option.bind (xAQ N b0 [43]) fun r1 =>
      bif (!r1.1) then (
        Option.bind (xAQ N r1.2 [45]) fun r2 =>
        bif (!r2.1) then (
          some (b3, r2.2)
        ) else (
          Option.bind (q3 r2.2) fun r3 =>
          (xB7 N q0 q1 q2 q3 q4 n r3.2 b2 (Exp.mk 6 2 [] [(Exp.re b3), (Exp.re r3.1)]))
        )
      ) else (
        Option.bind (q3 r1.2) fun r2 =>
        (xB7 N q0 q1 q2 q3 q4 n r2.2 b2 (Exp.mk 6 1 [] [(Exp.re b3), (Exp.re r2.1)]))
      )
    ) else (
      some (b3, b0)
    )
def xCJ (N : Nat) (q0 : Psr → Option (Exp × Psr)) (q1 : Psr → Option (Exp × Psr)) (q2 : Psr → Str → Option ((List Exp) × Psr)) (q3 : Psr → Option (Exp × Psr)) (q4 : Psr → Option (Exp × Psr)) (a0 : Psr) : Option (Exp × Psr) :=
  Option.bind (q3 a0) fun r1 =>
  (xB7 N q0 q1 q2 q3 q4 N r1.2 (Exp.mk 0 0 [] []) r1.1)
structure impl_parser_atom_rec where
  c_impl_parser_atom : Psr → Option (Exp × Psr)
  c_impl_parser_expr : Psr → Option (Exp × Psr)
  c_impl_parser_list2 : Psr → Str → Option ((List Exp) × Psr)
  c_impl_parser_product : Psr → Option (Exp × Psr)
  c_impl_parser_sum : Psr → Option (Exp × Psr)
def xAb (N : Nat) : Nat → impl_parser_atom_rec
  | 0 => ⟨fun _ => none, fun _ => none, fun _ _ => none, fun _ => none, fun _ => none⟩
  | d + 1 => ⟨xCs N (xAb N d).c_impl_parser_atom (xAb N d).c_impl_parser_expr (xAb N d).c_impl_parser_list2 (xAb N d).c_impl_parser_product (xAb N d).c_impl_parser_sum, xCt N (xAb N d).c_impl_parser_atom (xAb N d).c_impl_parser_expr (xAb N d).c_impl_parser_list2 (xAb N d).c_impl_parser_product (xAb N d).c_impl_parser_sum, xCm N (xAb N d).c_impl_parser_atom (xAb N d).c_impl_parser_expr (xAb N d).c_impl_parser_list2 (xAb N d).c_impl_parser_product (xAb N d).c_impl_parser_sum, xB3 N (xAb N d).c_impl_parser_atom (xAb N d).c_impl_parser_expr (xAb N d).c_impl_parser_list2 (xAb N d).c_impl_parser_product (xAb N d).c_impl_parser_sum, xCJ N (xAb N d).c_impl_parser_atom (xAb N d).c_impl_parser_expr (xAb N d).c_impl_parser_list2 (xAb N d).c_impl_parser_product (xAb N d).c_impl_parser_sum⟩
def xEP (N : Nat) (a0 : Psr) : Option (Exp × Psr) := (xAb N N).c_impl_parser_expr a0
def xCF (a0 : Exp) : List Arg := [.val (.v true [.int .i64 (Exp.kind a0), .int .i64 (Exp.n a0), .str (Exp.text a0), .sl .ro .exp (Exp.args a0)])]
def xBq (r : Int) : CallO := ⟨.v false [.int .i64 r], [], []⟩
def xDj (N : Nat) (q0 : Exp → Option (Int)) : Nat → Int → (List Exp) → Int → Int → Option (Int)
  | 0, _, _, _, _ => none
  | n + 1, x3, x7, x8, x9 =>
    bif (decide ((x9 : Int) < x8)) then (
      if (0 : Int) ≤ x9 ∧ x9 < (List.length x7) then
      Option.bind (q0 (List.getD x7 (Int.toNat x9) Ty.exp.dflt)) fun r1 =>
      (xDj N q0 n (IntKind.i64.wrap (x3 + r1)) x7 x8 (IntKind.i64.wrap (x9 + 1)))
      else none
    ) else (
      some x3
    )
def xEW (N : Nat) (q0 : Exp → Option (Int)) (a0 : Exp) : Option (Int) :=
  (xDj N q0 N 1 (Exp.args a0) (List.length (Exp.args a0) : Int) 0)
def xDA (N : Nat) : Nat → Exp → Option (Int)
  | 0, _ => none
  | d + 1, a0 => xEW N (xDA N d) a0
def xFY (N : Nat) (a0 : Exp) : Option (Int) := xDA N N a0
def xC1 (a0 : Exp) : List Arg := [.val (.v true [.int .i64 (Exp.kind a0), .int .i64 (Exp.n a0), .str (Exp.text a0), .sl .ro .exp (Exp.args a0)])]
def xBI (r : Int) : CallO := ⟨.v false [.int .i64 r], [], []⟩
def xDK (N : Nat) (q0 : Exp → Option (Int)) : Nat → Int → (List Exp) → Int → Int → Option (Int)
  | 0, _, _, _, _ => none
  | n + 1, x3, x7, x8, x9 =>
    bif (decide ((x9 : Int) < x8)) then (
      if (0 : Int) ≤ x9 ∧ x9 < (List.length x7) then
      Option.bind (q0 (List.getD x7 (Int.toNat x9) Ty.exp.dflt)) fun r1 =>
      (xDK N q0 n (if (r1 : Int) > x3 then r1 else x3) x7 x8 (IntKind.i64.wrap (x9 + 1)))
      else none
    ) else (
      some (IntKind.i64.wrap (x3 + 1))
    )
def xEV (N : Nat) (q0 : Exp → Option (Int)) (a0 : Exp) : Option (Int) :=
  (xDK N q0 N 0 (Exp.args a0) (List.length (Exp.args a0) : Int) 0)
def xD1 (N : Nat) : Nat → Exp → Option (Int)
  | 0, _ => none
  | d + 1, a0 => xEV N (xD1 N d) a0
def xFX (N : Nat) (a0 : Exp) : Option (Int) := xD1 N N a0
def xAK (a0 : Exp) : List Arg := [.val (.v true [.int .i64 (Exp.kind a0), .int .i64 (Exp.n a0), .str (Exp.text a0), .sl .ro .exp (Exp.args a0)])]
def xAI (r : Bool) : CallO := ⟨.v false [.bool r], [], []⟩
def xFF (N : Nat) (a0 : Exp) : Option (Bool) :=
  bif (((Exp.kind a0) : Int) == 1) then (
    Option.bind (xEv N (Exp.n a0) 0 1000000000) fun r1 =>
    bif r1 then (
      bif (((Exp.text a0) : Str) == []) then (
        some (((List.length (Exp.args a0) : Int) : Int) == 0)
      ) else (
        some false
      )
    ) else (
      some false
    )
  ) else (
    bif (((Exp.kind a0) : Int) == 2) then (
      bif (((Exp.n a0) : Int) == 0) then (
        Option.bind (xCV N (Exp.text a0)) fun r1 =>
        bif r1 then (
          some (((List.length (Exp.args a0) : Int) : Int) == 0)
        ) else (
          some false
        )
      ) else (
        some false
      )
    ) else (
      bif (((Exp.kind a0) : Int) == 3) then (
        bif (((Exp.n a0) : Int) == 0) then (
          Option.bind (xCU N (Exp.text a0)) fun r1 =>
          bif r1 then (
            some (((List.length (Exp.args a0) : Int) : Int) == 0)
          ) else (
            some false
          )
        ) else (
          some false
        )
      ) else (
        bif (((Exp.kind a0) : Int) == 4) then (
          bif (((Exp.n a0) : Int) == 0) then (
            bif (((Exp.text a0) : Str) == []) then (
              some (decide (((List.length (Exp.args a0) : Int) : Int) ≤ 8))
            ) else (
              some false
            )
          ) else (
            some false
          )
        ) else (
          bif (((Exp.kind a0) : Int) == 5) then (
            bif (((Exp.n a0) : Int) == 0) then (
              Option.bind (xCN N (Exp.text a0)) fun r1 =>
              some (((List.length (Exp.args a0) : Int) : Int) == r1)
            ) else (
              some false
            )
          ) else (
            bif (((Exp.kind a0) : Int) == 6) then (
              Option.bind (xEv N (Exp.n a0) 1 5) fun r1 =>
              bif r1 then (
                bif (((Exp.text a0) : Str) == []) then (
                  some (((List.length (Exp.args a0) : Int) : Int) == 2)
                ) else (
                  some false
                )
              ) else (
                some false
              )
            ) else (
              bif (((Exp.kind a0) : Int) == 7) then (
                bif (((Exp.n a0) : Int) == 0) then (
                  Option.bind (xCU N (Exp.text a0)) fun r1 =>
                  bif r1 then (
                    some (((List.length (Exp.args a0) : Int) : Int) == 2)
                  ) else (
                    some false
                  )
                ) else (
                  some false
                )
              ) else (
                bif (((Exp.kind a0) : Int) == 9) then (
                  bif (((Exp.n a0) : Int) == 0) then (
                    Option.bind (xCU N (Exp.text a0)) fun r1 =>
                    bif r1 then (
                      some (((List.length (Exp.args a0) : Int) : Int) == 2)
                    ) else (
                      some false
                    )
                  ) else (
                    some false
                  )
                ) else (
                  bif (((Exp.kind a0) : Int) == 8) then (
                    bif (((Exp.n a0) : Int) == 0) then (
                      bif (((Exp.text a0) : Str) == []) then (
                        some (((List.length (Exp.args a0) : Int) : Int) == 3)
                      ) else (
                        some false
                      )
                    ) else (
                      some false
                    )
                  ) else (
                    some false
                  )
                )
              )
            )
          )
        )
      )
    )
  )
def xDd (a0 : Exp) : List Arg := [.val (.v true [.int .i64 (Exp.kind a0), .int .i64 (Exp.n a0), .str (Exp.text a0), .sl .ro .exp (Exp.args a0)])]
def xBK (r : Bool) : CallO := ⟨.v false [.bool r], [], []⟩
def xDD (N : Nat) (q0 : Exp → Option (Bool)) : Nat → (List Exp) → Int → Int → Exp → Option (Bool)
  | 0, _, _, _, _ => none
  | n + 1, x6, x7, x8, b1 =>
    bif (decide ((x8 : Int) < x7)) then (
      if (0 : Int) ≤ x8 ∧ x8 < (List.length x6) then
      Option.bind (q0 (List.getD x6 (Int.toNat x8) Ty.exp.dflt)) fun r1 =>
      bif (!r1) then (
        some false
      ) else (
        (xDD N q0 n x6 x7 (IntKind.i64.wrap (x8 + 1)) b1)
      )
      else none
    ) else (
      Option.bind (xFF N b1) fun r1 =>
      some r1
    )
def xE6 (N : Nat) (q0 : Exp → Option (Bool)) (a0 : Exp) : Option (Bool) :=
  (xDD N q0 N (Exp.args a0) (List.length (Exp.args a0) : Int) 0 a0)
def xEb (N : Nat) : Nat → Exp → Option (Bool)
  | 0, _ => none
  | d + 1, a0 => xE6 N (xEb N d) a0
def xGh (N : Nat) (a0 : Exp) : Option (Bool) := xEb N N a0
def xBD (a0 : Exp) : List Arg := [.val (.v true [.int .i64 (Exp.kind a0), .int .i64 (Exp.n a0), .str (Exp.text a0), .sl .ro .exp (Exp.args a0)])]
def xAV (r : Bool) : CallO := ⟨.v false [.bool r], [], []⟩
def xCT (N : Nat) (a0 : Exp) : Option (Bool) :=
  Option.bind (xFY N a0) fun r1 =>
  bif (decide ((r1 : Int) ≤ 40)) then (
    Option.bind (xFX N a0) fun r2 =>
    bif (decide ((r2 : Int) ≤ 8)) then (
      Option.bind (xGh N a0) fun r3 =>
      some r3
    ) else (
      some false
    )
  ) else (
    some false
  )
def xAx (a0 : Str) : List Arg := [.val (.v false [.str a0])]
def xAg (r : Exp × Int) : CallO := ⟨.tup [(true, [.int .i64 (Exp.kind r.1), .int .i64 (Exp.n r.1), .str (Exp.text r.1), .sl .own .exp (Exp.args r.1)]), (false, [.int .i64 r.2])], [], []⟩
def xDI (N : Nat) (a0 : Str) : Option (Exp × Int) :=
  Option.bind (xED N a0) fun r1 =>
  bif (decide ((r1.2 : Int) ≥ 0)) then (
    some ((Exp.mk 0 0 [] []), r1.2)
  ) else (
    Option.bind (xEP N (Psr.mk r1.1 0 (-1))) fun r2 =>
    bif (decide (((Psr.bad r2.2) : Int) < 0)) then (
      bif (decide (((Psr.pos r2.2) : Int) < (List.length r1.1 : Int))) then (
        bif (decide (((Psr.pos r2.2) : Int) ≥ (List.length r1.1 : Int))) then (
          some ((Exp.mk 0 0 [] []), (List.length a0 : Int))
        ) else (
          bif (decide (((Psr.pos r2.2) : Int) ≥ 0)) then (
            if (0 : Int) ≤ (Psr.pos r2.2) ∧ (Psr.pos r2.2) < (List.length r1.1) then
            some ((Exp.mk 0 0 [] []), (Tok.pos (List.getD r1.1 (Int.toNat (Psr.pos r2.2)) Ty.tok.dflt)))
            else none
          ) else (
            Option.bind (xCT N r2.1) fun r3 =>
            bif (!r3) then (
              some ((Exp.mk 0 0 [] []), 0)
            ) else (
              some (r2.1, (-1))
            )
          )
        )
      ) else (
        bif (decide (((Psr.bad r2.2) : Int) ≥ (List.length r1.1 : Int))) then (
          some ((Exp.mk 0 0 [] []), (List.length a0 : Int))
        ) else (
          bif (decide (((Psr.bad r2.2) : Int) ≥ 0)) then (
            if (0 : Int) ≤ (Psr.bad r2.2) ∧ (Psr.bad r2.2) < (List.length r1.1) then
            some ((Exp.mk 0 0 [] []), (Tok.pos (List.getD r1.1 (Int.toNat (Psr.bad r2.2)) Ty.tok.dflt)))
            else none
          ) else (
            Option.bind (xCT N r2.1) fun r3 =>
            bif (!r3) then (
              some ((Exp.mk 0 0 [] []), 0)
            ) else (
              some (r2.1, (-1))
            )
          )
        )
      )
    ) else (
      bif (decide (((Psr.bad r2.2) : Int) ≥ (List.length r1.1 : Int))) then (
        some ((Exp.mk 0 0 [] []), (List.length a0 : Int))
      ) else (
        bif (decide (((Psr.bad r2.2) : Int) ≥ 0)) then (
          if (0 : Int) ≤ (Psr.bad r2.2) ∧ (Psr.bad r2.2) < (List.length r1.1) then
          some ((Exp.mk 0 0 [] []), (Tok.pos (List.getD r1.1 (Int.toNat (Psr.bad r2.2)) Ty.tok.dflt)))
          else none
        ) else (
          Option.bind (xCT N r2.1) fun r3 =>
          bif (!r3) then (
            some ((Exp.mk 0 0 [] []), 0)
          ) else (
            some (r2.1, (-1))
          )
        )
      )
    )
  )
def xA0 (a0 : Exp) (a1 : Exp) : List Arg := [.val (.v true [.int .i64 (Exp.kind a0), .int .i64 (Exp.n a0), .str (Exp.text a0), .sl .ro .exp (Exp.args a0)]), .val (.v true [.int .i64 (Exp.kind a1), .int .i64 (Exp.n a1), .str (Exp.text a1), .sl .ro .exp (Exp.args a1)])]
def xAs (r : Bool) : CallO := ⟨.v false [.bool r], [], []⟩
def xEp (N : Nat) (q0 : Exp → Exp → Option (Bool)) (q1 : (List Exp) → (List Exp) → Option (Bool)) (a0 : Exp) (a1 : Exp) : Option (Bool) :=
  bif (((Exp.kind a0) : Int) != (Exp.kind a1)) then (
    some false
  ) else (
    bif (((Exp.n a0) : Int) != (Exp.n a1)) then (
      some false
    ) else (
      bif (!(((Exp.text a0) : Str) == (Exp.text a1))) then (
        some false
      ) else (
        Option.bind (q1 (Exp.args a0) (Exp.args a1)) fun r1 =>
        bif (!r1) then (
          some false
        ) else (
          some true
        )
      )
    )
  )
def xDS (a0 : List Exp) (a1 : List Exp) : List Arg := [.val (.v false [.sl .ro .exp a0]), .val (.v false [.sl .ro .exp a1])]
def xCv (r : Bool) : CallO := ⟨.v false [.bool r], [], []⟩
def xEc (N : Nat) (q0 : Exp → Exp → Option (Bool)) (q1 : (List Exp) → (List Exp) → Option (Bool)) : Nat → (List Exp) → (List Exp) → Int → Option (Bool)
  | 0, _, _, _ => none
  | n + 1, x0, x1, x5 =>
    bif (decide ((x5 : Int) < (List.length x0 : Int))) then (
      if (0 : Int) ≤ x5 ∧ x5 < (List.length x0) then
      if (0 : Int) ≤ x5 ∧ x5 < (List.length x1) then
      Option.bind (q0 (List.getD x0 (Int.toNat x5) Ty.exp.dflt) (List.getD x1 (Int.toNat x5) Ty.exp.dflt)) fun r1 =>
      bif (!r1) then (
        some false
      ) else (
        (xEc N q0 q1 n x0 x1 (IntKind.i64.wrap (x5 + 1)))
      )
      else none
      else none
    ) else (
      some true
    )
def xEd (N : Nat) (q0 : Exp → Exp → Option (Bool)) (q1 : (List Exp) → (List Exp) → Option (Bool)) (a0 : List Exp) (a1 : List Exp) : Option (Bool) :=
  bif (((List.length a0 : Int) : Int) != (List.length a1 : Int)) then (
    some false
  ) else (
    (xEc N q0 q1 N a0 a1 0)
  )
structure laws_eqExpr_rec where
  c_laws_eqExpr : Exp → Exp → Option (Bool)
  c_laws_eqExprS : (List Exp) → (List Exp) → Option (Bool)
def xB4 (N : Nat) : Nat → laws_eqExpr_rec
  | 0 => ⟨fun _ _ => none, fun _ _ => none⟩
  | d + 1 => ⟨xEp N (xB4 N d).c_laws_eqExpr (xB4 N d).c_laws_eqExprS, xEd N (xB4 N d).c_laws_eqExpr (xB4 N d).c_laws_eqExprS⟩
def xGm (N : Nat) (a0 : Exp) (a1 : Exp) : Option (Bool) := (xB4 N N).c_laws_eqExpr a0 a1
def xDe (a0 : Int) : List Arg := [.val (.v false [.int .i64 a0])]
def xBL (r : Str) : CallO := ⟨.v false [.str r], [], []⟩
def xDW (N : Nat) : Nat → Int → Str → Option (Str)
  | 0, _, _ => none
  | n + 1, x0, x3 =>
    bif (decide ((x0 : Int) > 0)) then (
      if List.length (List.map (fun n => UInt8.ofNat (Int.toNat n)) [(IntKind.u8.wrap ((IntKind.i64.wrap (48 + (Int.tmod x0 10)))))]) + List.length x3 ≤ Lim then
      (xDW N n (IntKind.i64.wrap (Int.tdiv x0 10)) ((List.map (fun n => UInt8.ofNat (Int.toNat n)) [(IntKind.u8.wrap ((IntKind.i64.wrap (48 + (Int.tmod x0 10)))))]) ++ x3))
      else none
    ) else (
      if List.length [109] + List.length x3 ≤ Lim then
      some ([109] ++ x3)
      else none
    )
def xEF (N : Nat) (a0 : Int) : Option (Str) :=
  bif (decide ((a0 : Int) ≤ 0)) then (
    some [109, 48]
  ) else (
    (xDW N N a0 [])
  )
def xDk (a0 : List Exp) (a1 : Int) : List Arg := [.val (.v false [.sl (.lnt 0) .exp a0]), .val (.v false [.int .i64 a1])]
def xCg (r : Int × (List Exp)) : CallO := ⟨.v false [.int .i64 r.1], [], [.sl (.lnt 0) .exp r.2]⟩
def xDM (N : Nat) (q0 : (List Exp) → Int → Option (Int × (List Exp))) : Nat → (List Exp) → Int → Int → Option (Int × (List Exp))
  | 0, _, _, _ => none
  | n + 1, x0, x1, x5 =>
    bif (decide ((x5 : Int) < (List.length x0 : Int))) then (
      if (0 : Int) ≤ x5 ∧ x5 < (List.length x0) then
      if (0 : Int) ≤ x5 ∧ x5 < (List.length (List.set x0 (Int.toNat x5) (Exp.mk x1 (Exp.n (List.getD x0 (Int.toNat x5) Ty.exp.dflt)) (Exp.text (List.getD x0 (Int.toNat x5) Ty.exp.dflt)) (Exp.args (List.getD x0 (Int.toNat x5) Ty.exp.dflt))))) then
      Option.bind (xEF N (IntKind.i64.wrap ((IntKind.i64.wrap (x1 + 1)) + 1))) fun r1 =>
      if (0 : Int) ≤ x5 ∧ x5 < (List.length ((fun (z8 : List Exp) => List.set z8 (Int.toNat x5) (Exp.mk (Exp.kind (List.getD z8 (Int.toNat x5) Ty.exp.dflt)) (IntKind.i64.wrap (x1 + 1)) (Exp.text (List.getD z8 (Int.toNat x5) Ty.exp.dflt)) (Exp.args (List.getD z8 (Int.toNat x5) Ty.exp.dflt)))) (List.set x0 (Int.toNat x5) (Exp.mk x1 (Exp.n (List.getD x0 (Int.toNat x5) Ty.exp.dflt)) (Exp.text (List.getD x0 (Int.toNat x5) Ty.exp.dflt)) (Exp.args (List.getD x0 (Int.toNat x5) Ty.exp.dflt)))))) then
      if (0 : Int) ≤ x5 ∧ x5 < (List.length ((fun (z9 : List Exp) => List.set z9 (Int.toNat x5) (Exp.mk (Exp.kind (List.getD z9 (Int.toNat x5) Ty.exp.dflt)) (Exp.n (List.getD z9 (Int.toNat x5) Ty.exp.dflt)) r1 (Exp.args (List.getD z9 (Int.toNat x5) Ty.exp.dflt)))) ((fun (z8 : List Exp) => List.set z8 (Int.toNat x5) (Exp.mk (Exp.kind (List.getD z8 (Int.toNat x5) Ty.exp.dflt)) (IntKind.i64.wrap (x1 + 1)) (Exp.text (List.getD z8 (Int.toNat x5) Ty.exp.dflt)) (Exp.args (List.getD z8 (Int.toNat x5) Ty.exp.dflt)))) (List.set x0 (Int.toNat x5) (Exp.mk x1 (Exp.n (List.getD x0 (Int.toNat x5) Ty.exp.dflt)) (Exp.text (List.getD x0 (Int.toNat x5) Ty.exp.dflt)) (Exp.args (List.getD x0 (Int.toNat x5) Ty.exp.dflt))))))) then
      Option.bind (q0 (Exp.args (List.getD ((fun (z9 : List Exp) => List.set z9 (Int.toNat x5) (Exp.mk (Exp.kind (List.getD z9 (Int.toNat x5) Ty.exp.dflt)) (Exp.n (List.getD z9 (Int.toNat x5) Ty.exp.dflt)) r1 (Exp.args (List.getD z9 (Int.toNat x5) Ty.exp.dflt)))) ((fun (z8 : List Exp) => List.set z8 (Int.toNat x5) (Exp.mk (Exp.kind (List.getD z8 (Int.toNat x5) Ty.exp.dflt)) (IntKind.i64.wrap (x1 + 1)) (Exp.text (List.getD z8 (Int.toNat x5) Ty.exp.dflt)) (Exp.args (List.getD z8 (Int.toNat x5) Ty.exp.dflt)))) (List.set x0 (Int.toNat x5) (Exp.mk x1 (Exp.n (List.getD x0 (Int.toNat x5) Ty.exp.dflt)) (Exp.text (List.getD x0 (Int.toNat x5) Ty.exp.dflt)) (Exp.args (List.getD x0 (Int.toNat x5) Ty.exp.dflt)))))) (Int.toNat x5) Ty.exp.dflt)) (IntKind.i64.wrap ((IntKind.i64.wrap ((IntKind.i64.wrap (x1 + 1)) + 1)) + 1))) fun r2 =>
      if List.length r2.2 = List.length (Exp.args (List.getD ((fun (z9 : List Exp) => List.set z9 (Int.toNat x5) (Exp.mk (Exp.kind (List.getD z9 (Int.toNat x5) Ty.exp.dflt)) (Exp.n (List.getD z9 (Int.toNat x5) Ty.exp.dflt)) r1 (Exp.args (List.getD z9 (Int.toNat x5) Ty.exp.dflt)))) ((fun (z8 : List Exp) => List.set z8 (Int.toNat x5) (Exp.mk (Exp.kind (List.getD z8 (Int.toNat x5) Ty.exp.dflt)) (IntKind.i64.wrap (x1 + 1)) (Exp.text (List.getD z8 (Int.toNat x5) Ty.exp.dflt)) (Exp.args (List.getD z8 (Int.toNat x5) Ty.exp.dflt)))) (List.set x0 (Int.toNat x5) (Exp.mk x1 (Exp.n (List.getD x0 (Int.toNat x5) Ty.exp.dflt)) (Exp.text (List.getD x0 (Int.toNat x5) Ty.exp.dflt)) (Exp.args (List.getD x0 (Int.toNat x5) Ty.exp.dflt)))))) (Int.toNat x5) Ty.exp.dflt)) then
      (xDM N q0 n ((fun (z10 : List Exp) => List.set z10 (Int.toNat x5) (Exp.mk (Exp.kind (List.getD z10 (Int.toNat x5) Ty.exp.dflt)) (Exp.n (List.getD z10 (Int.toNat x5) Ty.exp.dflt)) (Exp.text (List.getD z10 (Int.toNat x5) Ty.exp.dflt)) r2.2)) ((fun (z9 : List Exp) => List.set z9 (Int.toNat x5) (Exp.mk (Exp.kind (List.getD z9 (Int.toNat x5) Ty.exp.dflt)) (Exp.n (List.getD z9 (Int.toNat x5) Ty.exp.dflt)) r1 (Exp.args (List.getD z9 (Int.toNat x5) Ty.exp.dflt)))) ((fun (z8 : List Exp) => List.set z8 (Int.toNat x5) (Exp.mk (Exp.kind (List.getD z8 (Int.toNat x5) Ty.exp.dflt)) (IntKind.i64.wrap (x1 + 1)) (Exp.text (List.getD z8 (Int.toNat x5) Ty.exp.dflt)) (Exp.args (List.getD z8 (Int.toNat x5) Ty.exp.dflt)))) (List.set x0 (Int.toNat x5) (Exp.mk x1 (Exp.n (List.getD x0 (Int.toNat x5) Ty.exp.dflt)) (Exp.text (List.getD x0 (Int.toNat x5) Ty.exp.dflt)) (Exp.args (List.getD x0 (Int.toNat x5) Ty.exp.dflt))))))) r2.1 (IntKind.i64.wrap (x5 + 1)))
      else none
      else none
      else none
      else none
      else none
    ) else (
      some (x1, x0)
    )
def xEY (N : Nat) (q0 : (List Exp) → Int → Option (Int × (List Exp))) (a0 : List Exp) (a1 : Int) : Option (Int × (List Exp)) :=
  (xDM N q0 N a0 a1 0)
def xD4 (N : Nat) : Nat → (List Exp) → Int → Option (Int × (List Exp))
  | 0, _, _ => none
  | d + 1, a0, a1 => xEY N (xD4 N d) a0 a1
def xF1 (N : Nat) (a0 : List Exp) (a1 : Int) : Option (Int × (List Exp)) := xD4 N N a0 a1
def xCB (a0 : Exp) (a1 : Int) : List Arg := [.val (.v true [.int .i64 (Exp.kind a0), .int .i64 (Exp.n a0), .str (Exp.text a0), .sl (.lnt 0) .exp (Exp.args a0)]), .val (.v false [.int .i64 a1])]
def xBg (r : Int × (List Exp)) : CallO := ⟨.v false [.int .i64 r.1], [], [.sl (.lnt 0) .exp r.2]⟩
def xE7 (N : Nat) (a0 : Exp) (a1 : Int) : Option (Int × (List Exp)) :=
  Option.bind (xF1 N (Exp.args a0) a1) fun r1 =>
  if List.length r1.2 = List.length (Exp.args a0) then
  some (r1.1, r1.2)
  else none
def xCG (a0 : List Exp) (a1 : Int) : List Arg := [.val (.v false [.sl .ro .exp a0]), .val (.v false [.int .i64 a1])]
def xA4 (r : Int) : CallO := ⟨.v false [.int .i64 r], [], []⟩
def xDL (N : Nat) (q0 : (List Exp) → Int → Option (Int)) : Nat → (List Exp) → Int → Int → Option (Int)
  | 0, _, _, _ => none
  | n + 1, x0, x1, x5 =>
    bif (decide ((x5 : Int) < (List.length x0 : Int))) then (
      if (0 : Int) ≤ x5 ∧ x5 < (List.length x0) then
      bif (((Exp.kind (List.getD x0 (Int.toNat x5) Ty.exp.dflt)) : Int) != x1) then (
        some (-1)
      ) else (
        bif (((Exp.n (List.getD x0 (Int.toNat x5) Ty.exp.dflt)) : Int) != (IntKind.i64.wrap (x1 + 1))) then (
          some (-1)
        ) else (
          Option.bind (xEF N (IntKind.i64.wrap ((IntKind.i64.wrap (x1 + 1)) + 1))) fun r1 =>
          bif (!(((Exp.text (List.getD x0 (Int.toNat x5) Ty.exp.dflt)) : Str) == r1)) then (
            some (-1)
          ) else (
            Option.bind (q0 (Exp.args (List.getD x0 (Int.toNat x5) Ty.exp.dflt)) (IntKind.i64.wrap ((IntKind.i64.wrap ((IntKind.i64.wrap (x1 + 1)) + 1)) + 1))) fun r2 =>
            bif (decide ((r2 : Int) < 0)) then (
              some (-1)
            ) else (
              (xDL N q0 n x0 r2 (IntKind.i64.wrap (x5 + 1)))
            )
          )
        )
      )
      else none
    ) else (
      some x1
    )
def xEX (N : Nat) (q0 : (List Exp) → Int → Option (Int)) (a0 : List Exp) (a1 : Int) : Option (Int) :=
  (xDL N q0 N a0 a1 0)
def xD3 (N : Nat) : Nat → (List Exp) → Int → Option (Int)
  | 0, _, _ => none
  | d + 1, a0, a1 => xEX N (xD3 N d) a0 a1
def xF0 (N : Nat) (a0 : List Exp) (a1 : Int) : Option (Int) := xD3 N N a0 a1
def xBB (a0 : Exp) (a1 : Int) : List Arg := [.val (.v true [.int .i64 (Exp.kind a0), .int .i64 (Exp.n a0), .str (Exp.text a0), .sl .ro .exp (Exp.args a0)]), .val (.v false [.int .i64 a1])]
def xAM (r : Int) : CallO := ⟨.v false [.int .i64 r], [], []⟩
def xEE (N : Nat) (a0 : Exp) (a1 : Int) : Option (Int) :=
  Option.bind (xF0 N (Exp.args a0) a1) fun r1 =>
  bif (decide ((r1 : Int) < 0)) then (
    some (-1)
  ) else (
    some r1
  )
def xA1 (a0 : Str) : List Arg := [.val (.v false [.str a0])]
def xA2 (r : Bool) : CallO := ⟨.v false [.bool r], [], []⟩
def xD2 (N : Nat) (a0 : Str) : Option (Bool) :=
  bif (decide (((List.length a0 : Int) : Int) > 1048576)) then (
    some true
  ) else (
    Option.bind (xD8 N a0) fun r1 =>
    Option.bind (xDI N a0) fun r2 =>
    Option.bind (xGm N r2.1 r1.1) fun r3 =>
    bif (!r3) then (
      some false
    ) else (
      bif ((r2.2 : Int) != r1.2) then (
        some false
      ) else (
        Option.bind (xE7 N r2.1 1) fun r4 =>
        if List.length r4.2 = List.length (Exp.args r2.1) then
        Option.bind (xEE N (Exp.mk (Exp.kind r2.1) (Exp.n r2.1) (Exp.text r2.1) r4.2) 1) fun r5 =>
        bif (decide ((r5 : Int) < 0)) then (
          some false
        ) else (
          bif ((r5 : Int) != r4.1) then (
            some false
          ) else (
            Option.bind (xDI N a0) fun r6 =>
            Option.bind (xGm N r6.1 r1.1) fun r7 =>
            bif (!r7) then (
              some false
            ) else (
              bif ((r6.2 : Int) != r1.2) then (
                some false
              ) else (
                Option.bind (xEE N (Exp.mk (Exp.kind r2.1) (Exp.n r2.1) (Exp.text r2.1) r4.2) 1) fun r8 =>
                bif (decide ((r8 : Int) < 0)) then (
                  some false
                ) else (
                  bif ((r8 : Int) != r4.1) then (
                    some false
                  ) else (
                    some true
                  )
                )
              )
            )
          )
        )
        else none
      )
    )
  )
end Go.Ab
end
section
namespace Go.Ab
theorem tab_obj {P : Program} {w : World} {nm : String} {k : IntKind} {zs : List Int} (h : Lib.TabIs P w nm k zs) : ∃ (g : Nat) (o : Obj), w.heap[g]? = some o ∧ ∀ w' : World, w'.heap[g]? = some o → Lib.TabIs P w' nm k zs := by
  unfold Lib.TabIs World.var? at h
  obtain ⟨g, hg, h⟩ := Option.bind_eq_some_iff.1 h
  split at h
  · rename_i cs ty fr hh
    refine ⟨g, _, hh, fun w' hw => ?_⟩
    unfold Lib.TabIs World.var?
    rw [hg, Option.bind_some, hw]
    exact h
  · cases h
end Go.Ab
namespace Go.Ab
variable [Inhabited Lb]
open Go.Proofs Go.Shelf Go.RowKit Go.Lib
variable {P : Program} {ρ : Ren}
theorem enter_IndexByte (L : Lays.n137 P ρ) : ∀ args w, (callFunc (ρ.f 137) args).run P w = .ok (.enter (ρ.f 137) args) w := enters_of L.f137 (by kernel_rfl) rfl
theorem enter_HasPrefix (L : Lays.n99 P ρ) : ∀ args w, (callFunc (ρ.f 99) args).run P w = .ok (.enter (ρ.f 99) args) w := enters_of L.f99 (by kernel_rfl) rfl
end Go.Ab
end
section
namespace Go.Ab
open Go.Proofs Go.Shelf Go.RowKit Go.Lib
variable {P : Program} {ρ : Ren}
def AtoiEnd (s : Str) (e : Ending) : Prop :=
  (∃ v, Lib.atoiAll s = .ok v ∧ e = .returned (.tuple #[.int .i64 v, .nilIface])) ∨ ((∀ v, Lib.atoiAll s ≠ .ok v) ∧ ∃ n t b, e = .returned (.tuple #[.int .i64 n, .iface t (.pointer (some ⟨b, 0, none⟩))]))
theorem atoi_any (L : LaysC.n172 P ρ) (s : ByteArray) (hl : s.size ≤ 1000000) (w : World) (he : (∃ t1 p1, w.var? P "strconv.ErrSyntax" = some #[.iface t1 p1]) ∧ ∃ t2 p2, w.var? P "strconv.ErrRange" = some #[.iface t2 p2]) :
    Calls P (ρ.f 172) #[.string s] w fun e w' => AtoiEnd s.data.toList e ∧ Below w.heap.size w w' := by
  obtain ⟨⟨t1, p1, h1⟩, t2, p2, h2⟩ := he
  cases hc : Lib.atoiAll s.data.toList with
  | ok v =>
    refine (Any.strconv_Atoi_ok L s (by omega) v hc w).mono ?_
    rintro e w' ⟨rfl, hw⟩
    refine ⟨.inl ⟨v, hc, rfl⟩, ?_⟩
    rcases hw with rfl | ⟨t, rfl⟩
    · exact Below.refl _ _
    · exact Lib.bytesWorld_below w _ t
  | «syntax» =>
    refine (Any.strconv_Atoi_syntax_var L s (by omega) hc t1 p1 w h1).mono ?_
    rintro e w' ⟨N, rfl, _, _, hb⟩
    exact ⟨.inr ⟨fun v h => (by rw [hc] at h; cases h), _, _, _, rfl⟩, hb⟩
  | range =>
    refine (Any.strconv_Atoi_range_var L s (by omega) hc t2 p2 w h2).mono ?_
    rintro e w' ⟨N, rfl, _, _, hb⟩
    exact ⟨.inr ⟨fun v h => (by rw [hc] at h; cases h), _, _, _, rfl⟩, hb⟩
theorem itoa_any (L : LaysM.n171 P ρ) (n : Int) (h0 : -9223372036854775808 ≤ n) (h1 : n ≤ 9223372036854775807) (w : World) (ht : Lib.TabIs P w "internal/strconv.uint64pow10" .u64 Lib.pow10Tab) :
    Calls P (ρ.f 171) #[.int .i64 n] w fun e w' => e = .returned (.string ⟨(Lib.itoa n).toArray⟩) ∧ Below w.heap.size w w' := by
  refine (Any.strconv_Itoa L n h0 h1 w ht).mono ?_
  rintro e w' ⟨he, k, os, rfl⟩
  refine ⟨he, rfl, rfl, rfl, ?_, fun j hj => ?_⟩
  · show w.heap.size ≤ (w.heap ++ os).size
    rw [Array.size_append]; omega
  · show (w.heap ++ os)[j]? = _
    rw [Array.getElem?_append_left hj]
theorem var_obj {w : World} {nm : String} {cs : Array Value} (h : w.var? P nm = some cs) : ∃ (g : Nat) (o : Obj), w.heap[g]? = some o ∧ ∀ w' : World, w'.heap[g]? = some o → w'.var? P nm = some cs := by
  unfold World.var? at h
  obtain ⟨g, hg, h⟩ := Option.bind_eq_some_iff.1 h
  split at h
  · rename_i cs ty fr hh
    refine ⟨g, _, hh, fun w' hw => ?_⟩
    unfold World.var?
    rw [hg, Option.bind_some, hw]
    exact h
  · cases h
end Go.Ab
end
section
namespace Go.Proofs
open Go.Shelf
def Tryz.lays137_ren : Go.Shelf.Ren := ⟨fun | 137 => 90 | 217 => 112 | 266 => 130 | n => n, fun | 9 => 9 | 5 => 5 | 3 => 3 | n => n, fun | n => n⟩
theorem Tryz.lays137 : Go.Proofs.Lays.n137 Tryz.prog Tryz.lays137_ren := {
  mixed := by kernel_rfl
  f137 := Tryz.func90.trans (congrArg some (by kernel_rfl))
  f217 := Tryz.func112.trans (congrArg some (by kernel_rfl))
  f266 := Tryz.func130.trans (congrArg some (by kernel_rfl))
  t3 := Tryz.underlying3
  a3 := Tryz.isAgg3
  z3 := Tryz.sizeOf3
  v3 := Tryz.zeroValue3
  t5 := Tryz.underlying5
  a5 := Tryz.isAgg5
  z5 := Tryz.sizeOf5
  v5 := Tryz.zeroValue5
  t9 := Tryz.underlying9
  a9 := Tryz.isAgg9
  z9 := Tryz.sizeOf9
  v9 := Tryz.zeroValue9 }
def Tryz.laysM171_ren : Go.Shelf.Ren := ⟨fun | 171 => 102 | 243 => 123 | 246 => 133 | 283 => 143 | 284 => 144 | 285 => 145 | 286 => 146 | 129 => 153 | 317 => 152 | 318 => 154 | 319 => 155 | 320 => 156 | 337 => 161 | 338 => 162 | n => n, fun | 3 => 3 | 9 => 9 | 2 => 2 | 4 => 4 | 171 => 122 | 0 => 0 | 53 => 123 | 37 => 32 | 5 => 5 | 173 => 126 | 212 => 137 | 51 => 138 | 20 => 20 | 213 => 139 | 46 => 104 | 232 => 150 | 233 => 151 | n => n, fun | 17 => 3 | 18 => 4 | 19 => 5 | n => n⟩
theorem Tryz.laysM171 : Go.Proofs.LaysM.n171 Tryz.prog Tryz.laysM171_ren := {
  mixed := by kernel_rfl
  f129 := Tryz.func153.trans (congrArg some (by kernel_rfl))
  f171 := Tryz.func102.trans (congrArg some (by kernel_rfl))
  f243 := Tryz.func123.trans (congrArg some (by kernel_rfl))
  f246 := Tryz.func133.trans (congrArg some (by kernel_rfl))
  f283 := Tryz.func143.trans (congrArg some (by kernel_rfl))
  f284 := Tryz.func144.trans (congrArg some (by kernel_rfl))
  f285 := Tryz.func145.trans (congrArg some (by kernel_rfl))
  f286 := Tryz.func146.trans (congrArg some (by kernel_rfl))
  f317 := Tryz.func152.trans (congrArg some (by kernel_rfl))
  f318 := Tryz.func154.trans (congrArg some (by kernel_rfl))
  f319 := Tryz.func155.trans (congrArg some (by kernel_rfl))
  f320 := Tryz.func156.trans (congrArg some (by kernel_rfl))
  f337 := Tryz.func161.trans (congrArg some (by kernel_rfl))
  f338 := Tryz.func162.trans (congrArg some (by kernel_rfl))
  t0 := Tryz.underlying0
  a0 := Tryz.isAgg0
  z0 := Tryz.sizeOf0
  v0 := Tryz.zeroValue0
  t2 := Tryz.underlying2
  a2 := Tryz.isAgg2
  z2 := Tryz.sizeOf2
  v2 := Tryz.zeroValue2
  t3 := Tryz.underlying3
  a3 := Tryz.isAgg3
  z3 := Tryz.sizeOf3
  v3 := Tryz.zeroValue3
  t4 := Tryz.underlying4
  a4 := Tryz.isAgg4
  z4 := Tryz.sizeOf4
  v4 := Tryz.zeroValue4
  t5 := Tryz.underlying5
  a5 := Tryz.isAgg5
  z5 := Tryz.sizeOf5
  v5 := Tryz.zeroValue5
  t9 := Tryz.underlying9
  a9 := Tryz.isAgg9
  z9 := Tryz.sizeOf9
  v9 := Tryz.zeroValue9
  t20 := Tryz.underlying20
  a20 := Tryz.isAgg20
  z20 := Tryz.sizeOf20
  v20 := Tryz.zeroValue20
  t37 := Tryz.underlying32
  a37 := Tryz.isAgg32
  z37 := Tryz.sizeOf32
  v37 := Tryz.zeroValue32
  t46 := Tryz.underlying104
  a46 := Tryz.isAgg104
  z46 := Tryz.sizeOf104
  v46 := Tryz.zeroValue104
  t51 := Tryz.underlying138
  a51 := Tryz.isAgg138
  z51 := Tryz.sizeOf138
  v51 := Tryz.zeroValue138
  t53 := Tryz.underlying123
  a53 := Tryz.isAgg123
  z53 := Tryz.sizeOf123
  v53 := Tryz.zeroValue123
  t171 := Tryz.underlying122
  a171 := Tryz.isAgg122
  z171 := Tryz.sizeOf122
  v171 := Tryz.zeroValue122
  t173 := Tryz.underlying126
  a173 := Tryz.isAgg126
  z173 := Tryz.sizeOf126
  v173 := Tryz.zeroValue126
  t212 := Tryz.underlying137
  a212 := Tryz.isAgg137
  z212 := Tryz.sizeOf137
  v212 := Tryz.zeroValue137
  t213 := Tryz.underlying139
  a213 := Tryz.isAgg139
  z213 := Tryz.sizeOf139
  t232 := Tryz.underlying150
  a232 := Tryz.isAgg150
  z232 := Tryz.sizeOf150
  v232 := Tryz.zeroValue150
  t233 := Tryz.underlying151
  a233 := Tryz.isAgg151
  z233 := Tryz.sizeOf151
  v233 := Tryz.zeroValue151
  g17 := by kernel_rfl
  g18 := by kernel_rfl
  g19 := by kernel_rfl
  i0 := by kernel_rfl
  i2 := by kernel_rfl
  i3 := by kernel_rfl
  i4 := by kernel_rfl
  i5 := by kernel_rfl
  i9 := by kernel_rfl
  i20 := by kernel_rfl
  i37 := by kernel_rfl
  i46 := by kernel_rfl
  i51 := by kernel_rfl
  i53 := by kernel_rfl
  i171 := by kernel_rfl
  i173 := by kernel_rfl
  i212 := by kernel_rfl
  i232 := by kernel_rfl
  i233 := by kernel_rfl
  m17 := by kernel_rfl
  m18 := by kernel_rfl
  m19 := by kernel_rfl }
def Tryz.laysC172_ren : Go.Shelf.Ren := ⟨fun | 172 => 111 | 244 => 128 | 245 => 129 | 247 => 138 | 279 => 139 | 280 => 140 | 281 => 141 | 282 => 142 | 287 => 149 | 316 => 150 | 171 => 102 | 205 => 151 | 321 => 159 | 322 => 160 | 243 => 123 | 246 => 133 | 283 => 143 | 284 => 144 | 285 => 145 | 286 => 146 | 129 => 153 | 317 => 152 | 318 => 154 | 319 => 155 | 320 => 156 | 337 => 161 | 338 => 162 | n => n, fun | 9 => 9 | 3 => 3 | 75 => 99 | 76 => 100 | 4 => 4 | 5 => 5 | 167 => 116 | 37 => 32 | 0 => 0 | 85 => 117 | 2 => 2 | 168 => 119 | 53 => 123 | 175 => 129 | 46 => 104 | 210 => 133 | 127 => 128 | 145 => 148 | 143 => 146 | 21 => 21 | 171 => 122 | 173 => 126 | 212 => 137 | 51 => 138 | 20 => 20 | 213 => 139 | 232 => 150 | 233 => 151 | 80 => 67 | n => n, fun | 15 => 1 | 16 => 2 | 17 => 3 | 18 => 4 | 19 => 5 | n => n⟩
theorem Tryz.laysC172 : Go.Proofs.LaysC.n172 Tryz.prog Tryz.laysC172_ren := {
  mixed := by kernel_rfl
  f129 := Tryz.func153.trans (congrArg some (by kernel_rfl))
  f171 := Tryz.func102.trans (congrArg some (by kernel_rfl))
  f172 := Tryz.func111.trans (congrArg some (by kernel_rfl))
  f205 := Tryz.func151.trans (congrArg some (by kernel_rfl))
  f243 := Tryz.func123.trans (congrArg some (by kernel_rfl))
  f244 := Tryz.func128.trans (congrArg some (by kernel_rfl))
  f245 := Tryz.func129.trans (congrArg some (by kernel_rfl))
  f246 := Tryz.func133.trans (congrArg some (by kernel_rfl))
  f247 := Tryz.func138.trans (congrArg some (by kernel_rfl))
  f279 := Tryz.func139.trans (congrArg some (by kernel_rfl))
  f280 := Tryz.func140.trans (congrArg some (by kernel_rfl))
  f281 := Tryz.func141.trans (congrArg some (by kernel_rfl))
  f282 := Tryz.func142.trans (congrArg some (by kernel_rfl))
  f283 := Tryz.func143.trans (congrArg some (by kernel_rfl))
  f284 := Tryz.func144.trans (congrArg some (by kernel_rfl))
  f285 := Tryz.func145.trans (congrArg some (by kernel_rfl))
  f286 := Tryz.func146.trans (congrArg some (by kernel_rfl))
  f287 := Tryz.func149.trans (congrArg some (by kernel_rfl))
  f316 := Tryz.func150.trans (congrArg some (by kernel_rfl))
  f317 := Tryz.func152.trans (congrArg some (by kernel_rfl))
  f318 := Tryz.func154.trans (congrArg some (by kernel_rfl))
  f319 := Tryz.func155.trans (congrArg some (by kernel_rfl))
  f320 := Tryz.func156.trans (congrArg some (by kernel_rfl))
  f321 := Tryz.func159.trans (congrArg some (by kernel_rfl))
  f322 := Tryz.func160.trans (congrArg some (by kernel_rfl))
  f337 := Tryz.func161.trans (congrArg some (by kernel_rfl))
  f338 := Tryz.func162.trans (congrArg some (by kernel_rfl))
  t0 := Tryz.underlying0
  a0 := Tryz.isAgg0
  z0 := Tryz.sizeOf0
  v0 := Tryz.zeroValue0
  t2 := Tryz.underlying2
  a2 := Tryz.isAgg2
  z2 := Tryz.sizeOf2
  v2 := Tryz.zeroValue2
  t3 := Tryz.underlying3
  a3 := Tryz.isAgg3
  z3 := Tryz.sizeOf3
  v3 := Tryz.zeroValue3
  t4 := Tryz.underlying4
  a4 := Tryz.isAgg4
  z4 := Tryz.sizeOf4
  v4 := Tryz.zeroValue4
  t5 := Tryz.underlying5
  a5 := Tryz.isAgg5
  z5 := Tryz.sizeOf5
  v5 := Tryz.zeroValue5
  t9 := Tryz.underlying9
  a9 := Tryz.isAgg9
  z9 := Tryz.sizeOf9
  v9 := Tryz.zeroValue9
  t20 := Tryz.underlying20
  a20 := Tryz.isAgg20
  z20 := Tryz.sizeOf20
  v20 := Tryz.zeroValue20
  t21 := Tryz.underlying21
  a21 := Tryz.isAgg21
  z21 := Tryz.sizeOf21
  v21 := Tryz.zeroValue21
  t37 := Tryz.underlying32
  a37 := Tryz.isAgg32
  z37 := Tryz.sizeOf32
  v37 := Tryz.zeroValue32
  t46 := Tryz.underlying104
  a46 := Tryz.isAgg104
  z46 := Tryz.sizeOf104
  v46 := Tryz.zeroValue104
  t51 := Tryz.underlying138
  a51 := Tryz.isAgg138
  z51 := Tryz.sizeOf138
  v51 := Tryz.zeroValue138
  t53 := Tryz.underlying123
  a53 := Tryz.isAgg123
  z53 := Tryz.sizeOf123
  v53 := Tryz.zeroValue123
  t75 := Tryz.underlying99
  a75 := Tryz.isAgg99
  z75 := Tryz.sizeOf99
  v75 := Tryz.zeroValue99
  t76 := Tryz.underlying100
  a76 := Tryz.isAgg100
  z76 := Tryz.sizeOf100
  v76 := Tryz.zeroValue100
  t85 := Tryz.underlying117
  a85 := Tryz.isAgg117
  z85 := Tryz.sizeOf117
  v85 := Tryz.zeroValue117
  t127 := Tryz.underlying128
  a127 := Tryz.isAgg128
  z127 := Tryz.sizeOf128
  v127 := Tryz.zeroValue128
  t143 := Tryz.underlying146
  a143 := Tryz.isAgg146
  z143 := Tryz.sizeOf146
  v143 := Tryz.zeroValue146
  t145 := Tryz.underlying148
  a145 := Tryz.isAgg148
  z145 := Tryz.sizeOf148
  v145 := Tryz.zeroValue148
  t167 := Tryz.underlying116
  a167 := Tryz.isAgg116
  z167 := Tryz.sizeOf116
  v167 := Tryz.zeroValue116
  t168 := Tryz.underlying119
  a168 := Tryz.isAgg119
  z168 := Tryz.sizeOf119
  v168 := Tryz.zeroValue119
  t171 := Tryz.underlying122
  a171 := Tryz.isAgg122
  z171 := Tryz.sizeOf122
  v171 := Tryz.zeroValue122
  t173 := Tryz.underlying126
  a173 := Tryz.isAgg126
  z173 := Tryz.sizeOf126
  v173 := Tryz.zeroValue126
  t175 := Tryz.underlying129
  a175 := Tryz.isAgg129
  z175 := Tryz.sizeOf129
  v175 := Tryz.zeroValue129
  t210 := Tryz.underlying133
  a210 := Tryz.isAgg133
  z210 := Tryz.sizeOf133
  v210 := Tryz.zeroValue133
  t212 := Tryz.underlying137
  a212 := Tryz.isAgg137
  z212 := Tryz.sizeOf137
  v212 := Tryz.zeroValue137
  t213 := Tryz.underlying139
  a213 := Tryz.isAgg139
  z213 := Tryz.sizeOf139
  t232 := Tryz.underlying150
  a232 := Tryz.isAgg150
  z232 := Tryz.sizeOf150
  v232 := Tryz.zeroValue150
  t233 := Tryz.underlying151
  a233 := Tryz.isAgg151
  z233 := Tryz.sizeOf151
  v233 := Tryz.zeroValue151
  g15 := by kernel_rfl
  g16 := by kernel_rfl
  g17 := by kernel_rfl
  g18 := by kernel_rfl
  g19 := by kernel_rfl
  t80 := Tryz.underlying67
  a80 := Tryz.isAgg67
  z80 := Tryz.sizeOf67
  v80 := Tryz.zeroValue67
  i0 := by kernel_rfl
  i2 := by kernel_rfl
  i3 := by kernel_rfl
  i4 := by kernel_rfl
  i5 := by kernel_rfl
  i9 := by kernel_rfl
  i20 := by kernel_rfl
  i21 := by kernel_rfl
  i37 := by kernel_rfl
  i46 := by kernel_rfl
  i51 := by kernel_rfl
  i53 := by kernel_rfl
  i75 := by kernel_rfl
  i76 := by kernel_rfl
  i80 := by kernel_rfl
  i85 := by kernel_rfl
  i127 := by kernel_rfl
  i143 := by kernel_rfl
  i145 := by kernel_rfl
  i167 := by kernel_rfl
  i168 := by kernel_rfl
  i171 := by kernel_rfl
  i173 := by kernel_rfl
  i175 := by kernel_rfl
  i210 := by kernel_rfl
  i212 := by kernel_rfl
  i232 := by kernel_rfl
  i233 := by kernel_rfl
  m15 := by kernel_rfl
  m16 := by kernel_rfl
  m17 := by kernel_rfl
  m18 := by kernel_rfl
  m19 := by kernel_rfl
  c0 := by kernel_rfl
  c2 := by kernel_rfl
  c3 := by kernel_rfl
  c4 := by kernel_rfl
  c5 := by kernel_rfl
  c9 := by kernel_rfl
  c20 := by kernel_rfl
  c21 := by kernel_rfl
  c37 := by kernel_rfl
  c46 := by kernel_rfl
  c51 := by kernel_rfl
  c53 := by kernel_rfl
  c75 := by kernel_rfl
  c76 := by kernel_rfl
  c80 := by kernel_rfl
  c85 := by kernel_rfl
  c127 := by kernel_rfl
  c143 := by kernel_rfl
  c145 := by kernel_rfl
  c167 := by kernel_rfl
  c168 := by kernel_rfl
  c171 := by kernel_rfl
  c173 := by kernel_rfl
  c175 := by kernel_rfl
  c210 := by kernel_rfl
  c212 := by kernel_rfl
  c213 := by kernel_rfl
  c232 := by kernel_rfl
  c233 := by kernel_rfl }
def Tryz.lays99_ren : Go.Shelf.Ren := ⟨fun | 99 => 92 | 206 => 113 | n => n, fun | 9 => 9 | 4 => 4 | 3 => 3 | n => n, fun | n => n⟩
theorem Tryz.lays99 : Go.Proofs.Lays.n99 Tryz.prog Tryz.lays99_ren := {
  mixed := by kernel_rfl
  f99 := Tryz.func92.trans (congrArg some (by kernel_rfl))
  f206 := Tryz.func113.trans (congrArg some (by kernel_rfl))
  t3 := Tryz.underlying3
  a3 := Tryz.isAgg3
  z3 := Tryz.sizeOf3
  v3 := Tryz.zeroValue3
  t4 := Tryz.underlying4
  a4 := Tryz.isAgg4
  z4 := Tryz.sizeOf4
  v4 := Tryz.zeroValue4
  t9 := Tryz.underlying9
  a9 := Tryz.isAgg9
  z9 := Tryz.sizeOf9
  v9 := Tryz.zeroValue9 }
end Go.Proofs
end
section
namespace Go.Ab
open Go.Proofs Go.RowKit Go.Shelf
theorem enter_parse : ∀ args w, (callFunc 89 args).run Tryz.prog w = .ok (.enter 89 args) w := enters_of Tryz.func89 (by kernel_rfl) rfl
theorem enter_Atoi : Enters Tryz.prog 111 := enters_of Tryz.func111 (by kernel_rfl) rfl
theorem enter_ItoaN : Enters Tryz.prog 102 := enters_of Tryz.func102 (by kernel_rfl) rfl
set_option maxRecDepth 100000 in
set_option maxHeartbeats 4000000 in
theorem parse_calls (s : ByteArray) (lo hi : Int) (hl : s.size ≤ 1000000) {Q : World → Prop} (hQ : ∀ w w', Q w → Below w.heap.size w w' → Q w') (ht : ∀ w, Q w → Lib.TabIs Tryz.prog w "internal/strconv.uint64pow10" .u64 Lib.pow10Tab)
    (he : ∀ w, Q w → (∃ t1 p1, w.var? Tryz.prog "strconv.ErrSyntax" = some #[.iface t1 p1]) ∧ ∃ t2 p2, w.var? Tryz.prog "strconv.ErrRange" = some #[.iface t2 p2]) (w : World) (hw : Q w) :
    Calls Tryz.prog 89 #[.string s, .int .i64 lo, .int .i64 hi] w fun e w' => e = .returned (.tuple #[.int .i64 (numOf s.data.toList lo hi).1, .bool (numOf s.data.toList lo hi).2]) ∧ Below w.heap.size w w' := by
  have hA := atoi_any Tryz.laysC172 s hl w (he w hw)
  change Calls Tryz.prog 111 _ _ _ at hA
  have e1 := enter_Atoi
  have e2 := enter_ItoaN
  by_cases hok : ∃ v, Lib.atoiAll s.data.toList = .ok v
  · obtain ⟨v, hv⟩ := hok
    obtain ⟨vb0, vb1⟩ := Lib.atoiAll_bounds hv
    have hA : Calls Tryz.prog 111 #[.string s] w fun e w' => e = .returned (.tuple #[.int .i64 v, .nilIface]) ∧ Below w.heap.size w w' := hA.mono fun e w' ⟨h, hb⟩ => ⟨by
      rcases h with ⟨v', h1, h2⟩ | ⟨h1, _⟩
      · rw [hv] at h1; cases h1; exact h2
      · exact absurd hv (h1 v), hb⟩
    have hI : ∀ W, Below w.heap.size w W → ∀ (f : Ending → World → Prop), (∀ W', Below w.heap.size w W' → f (.returned (.string ⟨(Lib.itoa v).toArray⟩)) W') → Calls Tryz.prog 102 #[.int .i64 v] W f := fun W hb f hf =>
      (itoa_any Tryz.laysM171 v vb0 vb1 W (ht W (hQ w W hw hb))).mono fun e W' ⟨h1, h2⟩ => by rw [h1]; exact hf W' (hb.trans (h2.mono hb.size))
    have hN : numOf s.data.toList lo hi = if v < lo then (0, false) else if v > hi then (0, false) else if Lib.itoa v = s.data.toList then (v, true) else (0, false) := by unfold numOf; rw [hv]
    rw [hN]
    clear hN hv
    by_cases h1 : v < lo
    · rw [if_pos h1]
      go_enter Tryz.func89, Tryz.ntmps89
      go_wp2_with (go_at_call 111; refine hA.mono ?_; rintro e W1 ⟨rfl, hb⟩)
      go_wp2
      go_ret2
      exact ⟨rfl, hb⟩
    · rw [if_neg h1]
      by_cases h2 : v > hi
      · rw [if_pos h2]
        go_enter Tryz.func89, Tryz.ntmps89
        go_wp2_with (go_at_call 111; refine hA.mono ?_; rintro e W1 ⟨rfl, hb⟩)
        go_wp2
        go_ret2
        exact ⟨rfl, hb⟩
      · rw [if_neg h2]
        go_enter Tryz.func89, Tryz.ntmps89
        go_wp2_with (go_at_call 111; refine hA.mono ?_; rintro e W1 ⟨rfl, hb⟩)
        go_wp2_with (go_at_call 102; refine hI _ (by assumption) _ ?_; intro W2 hb2)
        all_goals first
          | (go_ret2; exact ⟨rfl, hb2⟩)
          | (exfalso; simp_all [ByteArray.toList_eq]; done)
          | (exfalso; rename_i hx; rw [ByteArray.toList_eq, h] at hx; rcases hx with (hx | hx) | hx <;> first | omega | (simp at hx; done))
  · have hN : numOf s.data.toList lo hi = (0, false) := by
      unfold numOf
      cases hc : Lib.atoiAll s.data.toList with
      | ok v => exact absurd ⟨v, hc⟩ hok
      | _ => rfl
    have hA : Calls Tryz.prog 111 #[.string s] w fun e w' => (∃ n t b, e = .returned (.tuple #[.int .i64 n, .iface t (.pointer (some ⟨b, 0, none⟩))])) ∧ Below w.heap.size w w' := hA.mono fun e w' ⟨h, hb⟩ => ⟨by
      rcases h with ⟨v', h1, h2⟩ | ⟨_, h1⟩
      · exact absurd ⟨v', h1⟩ hok
      · exact h1, hb⟩
    rw [hN]
    clear hN hok
    go_enter Tryz.func89, Tryz.ntmps89
    go_wp2_with (go_at_call 111; refine hA.mono ?_; rintro e W1 ⟨⟨n, t, b, rfl⟩, hb⟩)
    go_wp2
    go_ret2
    exact ⟨rfl, hb⟩
end Go.Ab
end
section
open Go.Proofs
namespace Go.Ab.T
variable [Inhabited Lb]
abbrev AbC (f : FuncId) (a : List Arg) (r : CallO) : Prop := AbsCalls Tryz.prog f a r
abbrev W (x : Int) : Int := IntKind.i64.wrap x
abbrev Ln {α : Type} (l : List α) : Nat := List.length l
abbrev tN (x : Int) : Nat := Int.toNat x
abbrev gD {α : Type} (l : List α) (i : Nat) (d : α) : α := List.getD l i d
abbrev vd : Val := Ty.val.dflt
abbrev rd : Rowd := Ty.row.dflt
end Go.Ab.T
end
section
open Go.Proofs
namespace Go.Ab.T
set_option linter.unusedVariables false
set_option maxRecDepth 100000
variable [Inhabited Lb]
def p10 : String := ((Go.Proofs.YthbobcapimmnhaaGreatDoor.Rows.fnExactParseErrorRow.laid[2]?).map fun x => x.1).getD ""
def Tab10 : Prop := ∀ w : World, (∀ x ∈ laidB, w.heap[x.1]? = some x.2) → Lib.TabIs Tryz.prog w p10 .u64 Lib.pow10Tab
variable [Nonempty Tab10]
theorem tab10 : Tab10 := (inferInstance : Nonempty Tab10).elim fun h => h
def ErrVars : Prop := ∀ w : World, (∀ x ∈ laidB, w.heap[x.1]? = some x.2) → (∃ t1 p1, w.var? Tryz.prog "strconv.ErrSyntax" = some #[.iface t1 p1]) ∧ ∃ t2 p2, w.var? Tryz.prog "strconv.ErrRange" = some #[.iface t2 p2]
variable [Nonempty ErrVars]
theorem errVars : ErrVars := (inferInstance : Nonempty ErrVars).elim fun h => h
def tt : TT := [(3, { zero := some [.int .i64 0], ik := some .i64 }),
 (4, { zero := some [.bool false], isBool := true }),
 (5, { zero := some [.int .u8 0], ik := some .u8 }),
 (9, { zero := some [.str []], isStr := true }),
 (23, { zero := some [.sl .own .exp []], elem := some (25, .exp) }),
 (25, { sz := 4, agg := true, zero := some [.int .i64 0, .int .i64 0, .str [], .sl .own .exp []], offs := [0, 1, 2, 3], fsz := [1, 1, 1, 1] }),
 (32, { zero := some [.sl .own .byte []], elem := some (5, .byte) }),
 (37, { zero := some [.sl .own .tok []], elem := some (50, .tok) }),
 (43, { sz := 4, agg := true, zero := some [.sl .own .tok [], .int .i64 0, .int .i64 0, .int .i64 0], offs := [0, 1, 2, 3], fsz := [1, 1, 1, 1] }),
 (47, { sz := 3, agg := true, zero := some [.sl .own .tok [], .int .i64 0, .int .i64 0], offs := [0, 1, 2], fsz := [1, 1, 1] }),
 (50, { sz := 4, agg := true, zero := some [.int .i64 0, .int .i64 0, .int .i64 0, .str []], offs := [0, 1, 2, 3], fsz := [1, 1, 1, 1] }),
 (69, { zero := some [.sl .own .int []], elem := some (3, .int) }),
 (73, { zero := some [.sl .own .str []], elem := some (9, .str) }),
 (79, { sz := 3, agg := true, zero := some [.sl .own .byte [], .int .i64 0, .int .i64 0], offs := [0, 1, 2], fsz := [1, 1, 1] })]
theorem ttok : TTok Tryz.prog tt := ttChk_ok (by kernel_rfl)
theorem mix : Tryz.prog.follows .mixedOrders = true := by kernel_rfl
def F : Bool := false
def Y : Bool := true
noncomputable def rE (I : Info) (ag : List Arg) (bs : List Bool) (cs : List CallO) : Option Res := run tt (AbsCalls Tryz.prog) I 3000 false [.code I.body] ⟨zBr 0 ag, bs, cs, []⟩
noncomputable def rS (k : Nat) (I : Info) (σ : St) (bs : List Bool) (cs : List CallO) : Option Res := run tt (AbsCalls Tryz.prog) I 3000 true (stkAt k I.body) ⟨σ, bs, cs, []⟩
noncomputable def dn (r : CallO) (ob : List Prop) : Option Res := some (.done r ob)
noncomputable def st (k : Nat) (I : Info) (σ : St) (ob : List Prop) : Option Res := some (.stop (stkAt k I.body) σ ob)
def RE (fn : Func) (I : Info) (ag : List Arg) (r : CallO) : Prop := Reach Tryz.prog fn I [.code I.body] (zBr 0 ag) r
def RS (fn : Func) (I : Info) (k : Nat) (σ : St) (r : CallO) : Prop := Reach Tryz.prog fn I (stkAt k I.body) σ r
section
variable {ρ : Type} {f : FuncId} {fn : Func} {I : Info} {ag : List Arg} {bs : List Bool} {cs : List CallO} {k j : Nat} {σ σ' : St} {ob : List Prop} {ro : ρ → CallO} {x r : ρ} {q : CallO}
theorem dE (e : some x = some r) (hf : FnOk Tryz.prog f fn I) (h : rE I ag bs cs = dn (ro x) ob) (o : ∀ p ∈ ob, p) : RE fn I ag (ro r) := by
 cases e; exact Reach.done ttok mix hf h o
theorem dS (e : some x = some r) (hf : FnOk Tryz.prog f fn I) (h : rS k I σ bs cs = dn (ro x) ob) (o : ∀ p ∈ ob, p) : RS fn I k σ (ro r) := by
 cases e; exact Reach.done ttok mix hf h o
theorem tE (hf : FnOk Tryz.prog f fn I) (h : rE I ag bs cs = st k I σ ob) (o : ∀ p ∈ ob, p) (t : RS fn I k σ q) : RE fn I ag q := Reach.stop ttok mix hf h o t
theorem tS (hf : FnOk Tryz.prog f fn I) (h : rS j I σ' bs cs = st k I σ ob) (o : ∀ p ∈ ob, p) (t : RS fn I k σ q) : RS fn I j σ' q := Reach.stop ttok mix hf h o t
end
theorem oc {p : Prop} {l : List Prop} (h : p) (t : ∀ q ∈ l, q) : ∀ q ∈ p :: l, q := obs_cons h t
theorem on : ∀ q ∈ ([] : List Prop), q := obs_nil
theorem cE {α : Type} {C : Prop} {b : Bool} {x y : Option α} {r : α} (h : cond b x y = some r) (f : b = true → x = some r → C) (g : b = false → y = some r → C) : C := (cond_inv h).elim (fun h => f h.1 h.2) fun h => g h.1 h.2
theorem bE {α β : Type} {C : Prop} {o : Option α} {f : α → Option β} {r : β} (h : Option.bind o f = some r) (g : ∀ a, o = some a → f a = some r → C) : C := (bind_inv h).elim fun a h => g a h.1 h.2
theorem iE {α : Type} {C p : Prop} [Decidable p] {x : Option α} {r : α} (h : (if p then x else none) = some r) (g : p → x = some r → C) : C := (ite_inv h).elim g
theorem nE {α : Type} {C : Prop} {r : α} (h : none = some r) : C := nomatch h
noncomputable def I79 : Info := { body := (Tryz.f79.body).getD .skip, nt := 9, results := [.tmp 2], keep := [0, 4], live := [], modes := [(1, [(2, .take, false)])] }
theorem fk79 : FnOk Tryz.prog 79 Tryz.f79 I79 := ⟨Tryz.func79, by kernel_rfl, by kernel_rfl, by kernel_rfl, by kernel_rfl⟩
theorem p79_e_0 (a0 : Int) : rE I79 (xB2 a0) [Y] [] = dn (xA3 (decide ((a0 : Int) ≤ 122))) [(decide ((a0 : Int) ≥ 97)) = true] := by kernel_rfl
theorem p79_e_1 (a0 : Int) : rE I79 (xB2 a0) [F] [] = dn (xA3 false) [(decide ((a0 : Int) ≥ 97)) = false] := by kernel_rfl
theorem c79_e {N : Nat} : ∀ a0 r, xEJ N a0 = some r → RE Tryz.f79 I79 (xB2 a0) (xA3 r) := fun a0 r h =>
 cE h (fun h0 h => dE h fk79 (p79_e_0 a0) (oc h0 on)) fun h0 h =>
 dE h fk79 (p79_e_1 a0) (oc h0 on)
theorem xDg {N : Nat} {a0 : Int} {r : Bool} (h : xEJ N  a0 = some r) : AbC 79 (xB2 a0) (xA3 r) :=
 AbsCalls.of_reach fk79 rfl rfl (Nat.le_of_ble_eq_true rfl) (c79_e a0 r h)
noncomputable def I80 : Info := { body := (Tryz.f80.body).getD .skip, nt := 9, results := [.tmp 2], keep := [0, 4], live := [], modes := [(1, [(2, .take, false)])] }
theorem fk80 : FnOk Tryz.prog 80 Tryz.f80 I80 := ⟨Tryz.func80, by kernel_rfl, by kernel_rfl, by kernel_rfl, by kernel_rfl⟩
theorem p80_e_0 (a0 : Int) : rE I80 (xBQ a0) [Y] [] = dn (xAU (decide ((a0 : Int) ≤ 57))) [(decide ((a0 : Int) ≥ 48)) = true] := by kernel_rfl
theorem p80_e_1 (a0 : Int) : rE I80 (xBQ a0) [F] [] = dn (xAU false) [(decide ((a0 : Int) ≥ 48)) = false] := by kernel_rfl
theorem c80_e {N : Nat} : ∀ a0 r, xEB N a0 = some r → RE Tryz.f80 I80 (xBQ a0) (xAU r) := fun a0 r h =>
 cE h (fun h0 h => dE h fk80 (p80_e_0 a0) (oc h0 on)) fun h0 h =>
 dE h fk80 (p80_e_1 a0) (oc h0 on)
theorem xCS {N : Nat} {a0 : Int} {r : Bool} (h : xEB N  a0 = some r) : AbC 80 (xBQ a0) (xAU r) :=
 AbsCalls.of_reach fk80 rfl rfl (Nat.le_of_ble_eq_true rfl) (c80_e a0 r h)
noncomputable def I72 : Info := { body := (Tryz.f72.body).getD .skip, nt := 31, results := [.tmp 2], keep := [0, 4, 6, 8, 10, 14, 22, 30, 54], live := [(5, [0, 6, 8])], modes := [(11, [(0, .take, false)])] }
theorem fk72 : FnOk Tryz.prog 72 Tryz.f72 I72 := ⟨Tryz.func72, by kernel_rfl, by kernel_rfl, by kernel_rfl, by kernel_rfl⟩
def S72_5 (x0 : Int) (x3 : Bool) (x4 : Str) : St := [(0, .v false [.int .i64 x0]), (6, .v false [.bool x3]), (8, .v false [.str x4])]
theorem p72_5_0 (x0 : Int) (x3 : Bool) (x4 : Str) : rS 5 I72 (S72_5 x0 x3 x4) [Y, Y] [] = st 5 I72 (S72_5 (W (Int.tdiv x0 10)) x3 ((List.map (fun n => UInt8.ofNat (tN n)) [(IntKind.u8.wrap ((W (48 + (W (0 - (Int.tmod x0 10)))))))]) ++ x4)) [((x0 : Int) != 0) = true, 10 ≠ (0 : Int), (decide (((Int.tmod x0 10) : Int) < 0)) = true, Ln (List.map (fun n => UInt8.ofNat (tN n)) [(IntKind.u8.wrap ((W (48 + (W (0 - (Int.tmod x0 10)))))))]) + Ln x4 ≤ Lim, 10 ≠ (0 : Int)] := by kernel_rfl
theorem p72_5_1 (x0 : Int) (x3 : Bool) (x4 : Str) : rS 5 I72 (S72_5 x0 x3 x4) [Y, F] [] = st 5 I72 (S72_5 (W (Int.tdiv x0 10)) x3 ((List.map (fun n => UInt8.ofNat (tN n)) [(IntKind.u8.wrap ((W (48 + (Int.tmod x0 10)))))]) ++ x4)) [((x0 : Int) != 0) = true, 10 ≠ (0 : Int), (decide (((Int.tmod x0 10) : Int) < 0)) = false, Ln (List.map (fun n => UInt8.ofNat (tN n)) [(IntKind.u8.wrap ((W (48 + (Int.tmod x0 10)))))]) + Ln x4 ≤ Lim, 10 ≠ (0 : Int)] := by kernel_rfl
theorem p72_5_2 (x0 : Int) (x3 : Bool) (x4 : Str) : rS 5 I72 (S72_5 x0 x3 x4) [F, Y] [] = dn (xBs ([45] ++ x4)) [((x0 : Int) != 0) = false, x3 = true, Ln [45] + Ln x4 ≤ Lim] := by kernel_rfl
theorem p72_5_3 (x0 : Int) (x3 : Bool) (x4 : Str) : rS 5 I72 (S72_5 x0 x3 x4) [F, F] [] = dn (xBs x4) [((x0 : Int) != 0) = false, x3 = false] := by kernel_rfl
theorem p72_e_4 (a0 : Int) : rE I72 (xC2 a0) [Y] [] = dn (xBs [48]) [((a0 : Int) == 0) = true] := by kernel_rfl
theorem p72_e_5 (a0 : Int) : rE I72 (xC2 a0) [F] [] = st 5 I72 (S72_5 a0 (decide ((a0 : Int) < 0)) []) [((a0 : Int) == 0) = false] := by kernel_rfl
theorem c72_5 {N : Nat} : ∀ n x0 x3 x4 r, xCh N n x0 x3 x4 = some r → RS Tryz.f72 I72 5 (S72_5 x0 x3 x4) (xBs r) := by
 intro n
 induction n with
 | zero => exact fun _ _ _ _ h => nE h
 | succ n ih =>
  exact fun x0 x3 x4 r h =>
   cE h (fun h0 h => cE h (fun h2 h => iE h fun h3 h => tS fk72 (p72_5_0 x0 x3 x4) (oc h0 (oc (by decide) (oc h2 (oc h3 (oc (by decide) on))))) (ih _ _ _ _ h)) fun h2 h =>
   iE h fun h3 h => tS fk72 (p72_5_1 x0 x3 x4) (oc h0 (oc (by decide) (oc h2 (oc h3 (oc (by decide) on))))) (ih _ _ _ _ h)) fun h0 h =>
   cE h (fun h1 h => iE h fun h2 h => dS h fk72 (p72_5_2 x0 x3 x4) (oc h0 (oc h1 (oc h2 on)))) fun h1 h =>
   dS h fk72 (p72_5_3 x0 x3 x4) (oc h0 (oc h1 on))
theorem c72_e {N : Nat} : ∀ a0 r, xEq N a0 = some r → RE Tryz.f72 I72 (xC2 a0) (xBs r) := fun a0 r h =>
 cE h (fun h0 h => dE h fk72 (p72_e_4 a0) (oc h0 on)) fun h0 h =>
 tE fk72 (p72_e_5 a0) (oc h0 on) (c72_5 _ _ _ _ _ h)
theorem xEG {N : Nat} {a0 : Int} {r : Str} (h : xEq N  a0 = some r) : AbC 72 (xC2 a0) (xBs r) :=
 AbsCalls.of_reach fk72 rfl rfl (Nat.le_of_ble_eq_true rfl) (c72_e a0 r h)
noncomputable def I107 : Info := { body := (Tryz.f107.body).getD .skip, nt := 63, results := [.tmp 4, .tmp 5], keep := [0, 2, 8, 10, 12, 14, 16, 18, 38, 60, 68, 92, 110, 122], live := [(9, [0, 12, 14, 16, 18])], modes := [(1, [(3, .take, false)]), (5, [(3, .take, false)]), (11, [(4, .take, false)])] }
theorem xGy : FnOk Tryz.prog 107 Tryz.f107 I107 := ⟨Tryz.func107, by kernel_rfl, by kernel_rfl, by kernel_rfl, by kernel_rfl⟩
def xGq (x0 : Str) (x6 : Bool) (x7 : Str) (x8 x9 : Int) : St := [(0, .v false [.str x0]), (12, .v false [.bool x6]), (14, .v false [.str x7]), (16, .v false [.int .i64 x8]), (18, .v false [.int .i64 x9])]
theorem p107_9_0 (x0 : Str) (x6 : Bool) (x7 : Str) (x8 x9 : Int) : rS 9 I107 (xGq x0 x6 x7 x8 x9) [Y, Y, Y] [] = dn (xBy (0, false)) [(decide ((x9 : Int) < (Ln x7 : Int))) = true, (0 : Int) ≤ x9 ∧ x9 < (Ln x7), (decide ((((gD x7 (tN x9) 0).toNat : Int) : Int) < 48)) = true, true = true] := by kernel_rfl
theorem p107_9_1 (x0 : Str) (x6 : Bool) (x7 : Str) (x8 x9 : Int) : rS 9 I107 (xGq x0 x6 x7 x8 x9) [Y, F, Y] [] = dn (xBy (0, false)) [(decide ((x9 : Int) < (Ln x7 : Int))) = true, (0 : Int) ≤ x9 ∧ x9 < (Ln x7), (decide ((((gD x7 (tN x9) 0).toNat : Int) : Int) < 48)) = false, (0 : Int) ≤ x9 ∧ x9 < (Ln x7), (decide ((((gD x7 (tN x9) 0).toNat : Int) : Int) > 57)) = true] := by kernel_rfl
theorem p107_9_2 (x0 : Str) (x6 : Bool) (x7 : Str) (x8 x9 : Int) : rS 9 I107 (xGq x0 x6 x7 x8 x9) [Y, F, F] [] = st 9 I107 (xGq x0 x6 x7 (W ((W (10 * x8)) + (W ((IntKind.u8.wrap (((gD x7 (tN x9) 0).toNat : Int) - 48)))))) (W (x9 + 1))) [(decide ((x9 : Int) < (Ln x7 : Int))) = true, (0 : Int) ≤ x9 ∧ x9 < (Ln x7), (decide ((((gD x7 (tN x9) 0).toNat : Int) : Int) < 48)) = false, (0 : Int) ≤ x9 ∧ x9 < (Ln x7), (decide ((((gD x7 (tN x9) 0).toNat : Int) : Int) > 57)) = false, (0 : Int) ≤ x9 ∧ x9 < (Ln x7)] := by kernel_rfl
theorem p107_9_3 (x0 : Str) (x6 : Bool) (x7 : Str) (x8 x9 : Int) (r1 : Str) : rS 9 I107 (xGq x0 x6 x7 x8 x9) [F, Y, Y] [xBs r1] = dn (xBy (0, false)) [(decide ((x9 : Int) < (Ln x7 : Int))) = false, x6 = true, AbC 72 (xC2 (W (0 - x8))) (xBs r1), (!((r1 : Str) == x0)) = true] := by kernel_rfl
theorem p107_9_4 (x0 : Str) (x6 : Bool) (x7 : Str) (x8 x9 : Int) (r1 : Str) : rS 9 I107 (xGq x0 x6 x7 x8 x9) [F, Y, F] [xBs r1] = dn (xBy ((W (0 - x8)), true)) [(decide ((x9 : Int) < (Ln x7 : Int))) = false, x6 = true, AbC 72 (xC2 (W (0 - x8))) (xBs r1), (!((r1 : Str) == x0)) = false] := by kernel_rfl
theorem p107_9_5 (x0 : Str) (x6 : Bool) (x7 : Str) (x8 x9 : Int) (r1 : Str) : rS 9 I107 (xGq x0 x6 x7 x8 x9) [F, F, Y] [xBs r1] = dn (xBy (0, false)) [(decide ((x9 : Int) < (Ln x7 : Int))) = false, x6 = false, AbC 72 (xC2 x8) (xBs r1), (!((r1 : Str) == x0)) = true] := by kernel_rfl
theorem p107_9_6 (x0 : Str) (x6 : Bool) (x7 : Str) (x8 x9 : Int) (r1 : Str) : rS 9 I107 (xGq x0 x6 x7 x8 x9) [F, F, F] [xBs r1] = dn (xBy (x8, true)) [(decide ((x9 : Int) < (Ln x7 : Int))) = false, x6 = false, AbC 72 (xC2 x8) (xBs r1), (!((r1 : Str) == x0)) = false] := by kernel_rfl
theorem p107_e_7 (a0 : Str) (a1 : Int) : rE I107 (xCE a0 a1) [Y, Y, Y, Y] [] = dn (xBy (0, false)) [(decide (((Ln a0 : Int) : Int) > 0)) = true, (0 : Int) ≤ 0 ∧ (0 : Int) < (Ln a0), ((((gD a0 (tN 0) 0).toNat : Int) : Int) == 45) = true, (0 : Int) ≤ (1 : Int) ∧ (1 : Int) ≤ (Ln a0), (decide (((Ln (List.drop (tN (1 : Int)) a0) : Int) : Int) < 1)) = true, true = true] := by kernel_rfl
theorem p107_e_8 (a0 : Str) (a1 : Int) : rE I107 (xCE a0 a1) [Y, Y, F, Y] [] = dn (xBy (0, false)) [(decide (((Ln a0 : Int) : Int) > 0)) = true, (0 : Int) ≤ 0 ∧ (0 : Int) < (Ln a0), ((((gD a0 (tN 0) 0).toNat : Int) : Int) == 45) = true, (0 : Int) ≤ (1 : Int) ∧ (1 : Int) ≤ (Ln a0), (decide (((Ln (List.drop (tN (1 : Int)) a0) : Int) : Int) < 1)) = false, (decide (((Ln (List.drop (tN (1 : Int)) a0) : Int) : Int) > a1)) = true] := by kernel_rfl
theorem p107_e_9 (a0 : Str) (a1 : Int) : rE I107 (xCE a0 a1) [Y, Y, F, F] [] = st 9 I107 (xGq a0 ((((gD a0 (tN 0) 0).toNat : Int) : Int) == 45) (List.drop (tN (1 : Int)) a0) 0 0) [(decide (((Ln a0 : Int) : Int) > 0)) = true, (0 : Int) ≤ 0 ∧ (0 : Int) < (Ln a0), ((((gD a0 (tN 0) 0).toNat : Int) : Int) == 45) = true, (0 : Int) ≤ (1 : Int) ∧ (1 : Int) ≤ (Ln a0), (decide (((Ln (List.drop (tN (1 : Int)) a0) : Int) : Int) < 1)) = false, (decide (((Ln (List.drop (tN (1 : Int)) a0) : Int) : Int) > a1)) = false] := by kernel_rfl
theorem p107_e_10 (a0 : Str) (a1 : Int) : rE I107 (xCE a0 a1) [Y, F, Y, Y] [] = dn (xBy (0, false)) [(decide (((Ln a0 : Int) : Int) > 0)) = true, (0 : Int) ≤ 0 ∧ (0 : Int) < (Ln a0), ((((gD a0 (tN 0) 0).toNat : Int) : Int) == 45) = false, (decide (((Ln a0 : Int) : Int) < 1)) = true, true = true] := by kernel_rfl
theorem p107_e_11 (a0 : Str) (a1 : Int) : rE I107 (xCE a0 a1) [Y, F, F, Y] [] = dn (xBy (0, false)) [(decide (((Ln a0 : Int) : Int) > 0)) = true, (0 : Int) ≤ 0 ∧ (0 : Int) < (Ln a0), ((((gD a0 (tN 0) 0).toNat : Int) : Int) == 45) = false, (decide (((Ln a0 : Int) : Int) < 1)) = false, (decide (((Ln a0 : Int) : Int) > a1)) = true] := by kernel_rfl
theorem p107_e_12 (a0 : Str) (a1 : Int) : rE I107 (xCE a0 a1) [Y, F, F, F] [] = st 9 I107 (xGq a0 ((((gD a0 (tN 0) 0).toNat : Int) : Int) == 45) a0 0 0) [(decide (((Ln a0 : Int) : Int) > 0)) = true, (0 : Int) ≤ 0 ∧ (0 : Int) < (Ln a0), ((((gD a0 (tN 0) 0).toNat : Int) : Int) == 45) = false, (decide (((Ln a0 : Int) : Int) < 1)) = false, (decide (((Ln a0 : Int) : Int) > a1)) = false] := by kernel_rfl
theorem p107_e_13 (a0 : Str) (a1 : Int) : rE I107 (xCE a0 a1) [F, F, Y, Y] [] = dn (xBy (0, false)) [(decide (((Ln a0 : Int) : Int) > 0)) = false, false = false, (decide (((Ln a0 : Int) : Int) < 1)) = true, true = true] := by kernel_rfl
theorem p107_e_14 (a0 : Str) (a1 : Int) : rE I107 (xCE a0 a1) [F, F, F, Y] [] = dn (xBy (0, false)) [(decide (((Ln a0 : Int) : Int) > 0)) = false, false = false, (decide (((Ln a0 : Int) : Int) < 1)) = false, (decide (((Ln a0 : Int) : Int) > a1)) = true] := by kernel_rfl
theorem p107_e_15 (a0 : Str) (a1 : Int) : rE I107 (xCE a0 a1) [F, F, F, F] [] = st 9 I107 (xGq a0 false a0 0 0) [(decide (((Ln a0 : Int) : Int) > 0)) = false, false = false, (decide (((Ln a0 : Int) : Int) < 1)) = false, (decide (((Ln a0 : Int) : Int) > a1)) = false] := by kernel_rfl
theorem c107_9 {N : Nat} : ∀ n x0 x6 x7 x8 x9 r, xC4 N n x0 x6 x7 x8 x9 = some r → RS Tryz.f107 I107 9 (xGq x0 x6 x7 x8 x9) (xBy r) := by
 intro n
 induction n with
 | zero => exact fun _ _ _ _ _ _ h => nE h
 | succ n ih =>
  exact fun x0 x6 x7 x8 x9 r h =>
   cE h (fun h0 h => iE h fun h1 h => cE h (fun h2 h => dS h xGy (p107_9_0 x0 x6 x7 x8 x9) (oc h0 (oc h1 (oc h2 (oc rfl on))))) fun h2 h =>
   cE h (fun h4 h => dS h xGy (p107_9_1 x0 x6 x7 x8 x9) (oc h0 (oc h1 (oc h2 (oc h1 (oc h4 on)))))) fun h4 h =>
   tS xGy (p107_9_2 x0 x6 x7 x8 x9) (oc h0 (oc h1 (oc h2 (oc h1 (oc h4 (oc h1 on)))))) (ih _ _ _ _ _ _ h)) fun h0 h =>
   cE h (fun h1 h => bE h fun r1 h2 h => cE h (fun h3 h => dS h xGy (p107_9_3 x0 x6 x7 x8 x9 r1) (oc h0 (oc h1 (oc (xEG h2) (oc h3 on))))) fun h3 h =>
   dS h xGy (p107_9_4 x0 x6 x7 x8 x9 r1) (oc h0 (oc h1 (oc (xEG h2) (oc h3 on))))) fun h1 h =>
   bE h fun r1 h2 h => cE h (fun h3 h => dS h xGy (p107_9_5 x0 x6 x7 x8 x9 r1) (oc h0 (oc h1 (oc (xEG h2) (oc h3 on))))) fun h3 h =>
   dS h xGy (p107_9_6 x0 x6 x7 x8 x9 r1) (oc h0 (oc h1 (oc (xEG h2) (oc h3 on))))
theorem c107_e {N : Nat} : ∀ a0 a1 r, xFO N a0 a1 = some r → RE Tryz.f107 I107 (xCE a0 a1) (xBy r) := fun a0 a1 r h =>
 cE h (fun h0 h => iE h fun h1 h => cE h (fun h2 h => iE h fun h3 h => cE h (fun h4 h => dE h xGy (p107_e_7 a0 a1) (oc h0 (oc h1 (oc h2 (oc h3 (oc h4 (oc rfl on))))))) fun h4 h =>
 cE h (fun h5 h => dE h xGy (p107_e_8 a0 a1) (oc h0 (oc h1 (oc h2 (oc h3 (oc h4 (oc h5 on))))))) fun h5 h =>
 tE xGy (p107_e_9 a0 a1) (oc h0 (oc h1 (oc h2 (oc h3 (oc h4 (oc h5 on)))))) (c107_9 _ _ _ _ _ _ _ h)) fun h2 h =>
 cE h (fun h3 h => dE h xGy (p107_e_10 a0 a1) (oc h0 (oc h1 (oc h2 (oc h3 (oc rfl on)))))) fun h3 h =>
 cE h (fun h4 h => dE h xGy (p107_e_11 a0 a1) (oc h0 (oc h1 (oc h2 (oc h3 (oc h4 on)))))) fun h4 h =>
 tE xGy (p107_e_12 a0 a1) (oc h0 (oc h1 (oc h2 (oc h3 (oc h4 on))))) (c107_9 _ _ _ _ _ _ _ h)) fun h0 h =>
 cE h (fun h2 h => dE h xGy (p107_e_13 a0 a1) (oc h0 (oc rfl (oc h2 (oc rfl on))))) fun h2 h =>
 cE h (fun h3 h => dE h xGy (p107_e_14 a0 a1) (oc h0 (oc rfl (oc h2 (oc h3 on))))) fun h3 h =>
 tE xGy (p107_e_15 a0 a1) (oc h0 (oc rfl (oc h2 (oc h3 on)))) (c107_9 _ _ _ _ _ _ _ h)
theorem spec_l1Read_ok {N : Nat} {a0 : Str} {a1 : Int} {r : Int × Bool} (h : xFO N  a0 a1 = some r) : AbC 107 (xCE a0 a1) (xBy r) :=
 AbsCalls.of_reach xGy rfl rfl (Nat.le_of_ble_eq_true rfl) (c107_e a0 a1 r h)
noncomputable def I81 : Info := { body := (Tryz.f81.body).getD .skip, nt := 8, results := [.tmp 2, .tmp 3], keep := [0, 4, 6], live := [], modes := [] }
theorem fk81 : FnOk Tryz.prog 81 Tryz.f81 I81 := ⟨Tryz.func81, by kernel_rfl, by kernel_rfl, by kernel_rfl, by kernel_rfl⟩
theorem p81_e_0 (a0 : Str) (r1 : Int × Bool) : rE I81 (xCY a0) [] [xBy r1] = dn (xBu (r1.1, r1.2)) [AbC 107 (xCE a0 12) (xBy r1)] := by kernel_rfl
theorem c81_e {N : Nat} : ∀ a0 r, xEl N a0 = some r → RE Tryz.f81 I81 (xCY a0) (xBu r) := fun a0 r h =>
 bE h fun r1 h0 h => dE h fk81 (p81_e_0 a0 r1) (oc (spec_l1Read_ok h0) on)
theorem xDZ {N : Nat} {a0 : Str} {r : Int × Bool} (h : xEl N  a0 = some r) : AbC 81 (xCY a0) (xBu r) :=
 AbsCalls.of_reach fk81 rfl rfl (Nat.le_of_ble_eq_true rfl) (c81_e a0 r h)
noncomputable def I82 : Info := { body := (Tryz.f82.body).getD .skip, nt := 29, results := [.tmp 2], keep := [0, 4, 6, 14, 50], live := [(2, [0, 6])], modes := [(4, [(4, .take, false), (10, .take, false)])] }
theorem fk82 : FnOk Tryz.prog 82 Tryz.f82 I82 := ⟨Tryz.func82, by kernel_rfl, by kernel_rfl, by kernel_rfl, by kernel_rfl⟩
def S82_2 (x0 : Str) (x3 : Int) : St := [(0, .v false [.str x0]), (6, .v false [.int .i64 x3])]
theorem p82_2_0 (x0 : Str) (x3 : Int) : rS 2 I82 (S82_2 x0 x3) [Y, Y, Y, Y] [] = dn (xAZ false) [(decide ((x3 : Int) < (Ln x0 : Int))) = true, (0 : Int) ≤ x3 ∧ x3 < (Ln x0), (decide ((((gD x0 (tN x3) 0).toNat : Int) : Int) < 32)) = true, true = true, true = true] := by kernel_rfl
theorem p82_2_1 (x0 : Str) (x3 : Int) : rS 2 I82 (S82_2 x0 x3) [Y, F, Y, Y] [] = dn (xAZ false) [(decide ((x3 : Int) < (Ln x0 : Int))) = true, (0 : Int) ≤ x3 ∧ x3 < (Ln x0), (decide ((((gD x0 (tN x3) 0).toNat : Int) : Int) < 32)) = false, (0 : Int) ≤ x3 ∧ x3 < (Ln x0), (decide ((((gD x0 (tN x3) 0).toNat : Int) : Int) > 126)) = true, true = true] := by kernel_rfl
theorem p82_2_2 (x0 : Str) (x3 : Int) : rS 2 I82 (S82_2 x0 x3) [Y, F, F, Y] [] = dn (xAZ false) [(decide ((x3 : Int) < (Ln x0 : Int))) = true, (0 : Int) ≤ x3 ∧ x3 < (Ln x0), (decide ((((gD x0 (tN x3) 0).toNat : Int) : Int) < 32)) = false, (0 : Int) ≤ x3 ∧ x3 < (Ln x0), (decide ((((gD x0 (tN x3) 0).toNat : Int) : Int) > 126)) = false, (0 : Int) ≤ x3 ∧ x3 < (Ln x0), ((((gD x0 (tN x3) 0).toNat : Int) : Int) == 34) = true] := by kernel_rfl
theorem p82_2_3 (x0 : Str) (x3 : Int) : rS 2 I82 (S82_2 x0 x3) [Y, F, F, F] [] = st 2 I82 (S82_2 x0 (W (x3 + 1))) [(decide ((x3 : Int) < (Ln x0 : Int))) = true, (0 : Int) ≤ x3 ∧ x3 < (Ln x0), (decide ((((gD x0 (tN x3) 0).toNat : Int) : Int) < 32)) = false, (0 : Int) ≤ x3 ∧ x3 < (Ln x0), (decide ((((gD x0 (tN x3) 0).toNat : Int) : Int) > 126)) = false, (0 : Int) ≤ x3 ∧ x3 < (Ln x0), ((((gD x0 (tN x3) 0).toNat : Int) : Int) == 34) = false] := by kernel_rfl
theorem p82_2_4 (x0 : Str) (x3 : Int) : rS 2 I82 (S82_2 x0 x3) [F] [] = dn (xAZ (decide (((Ln x0 : Int) : Int) ≤ 20))) [(decide ((x3 : Int) < (Ln x0 : Int))) = false] := by kernel_rfl
theorem p82_e_5 (a0 : Str) : rE I82 (xCw a0) [] [] = st 2 I82 (S82_2 a0 0) [] := by kernel_rfl
theorem c82_2 {N : Nat} : ∀ n x0 x3 r, xCx N n x0 x3 = some r → RS Tryz.f82 I82 2 (S82_2 x0 x3) (xAZ r) := by
 intro n
 induction n with
 | zero => exact fun _ _ _ h => nE h
 | succ n ih =>
  exact fun x0 x3 r h =>
   cE h (fun h0 h => iE h fun h1 h => cE h (fun h2 h => dS h fk82 (p82_2_0 x0 x3) (oc h0 (oc h1 (oc h2 (oc rfl (oc rfl on)))))) fun h2 h =>
   cE h (fun h4 h => dS h fk82 (p82_2_1 x0 x3) (oc h0 (oc h1 (oc h2 (oc h1 (oc h4 (oc rfl on))))))) fun h4 h =>
   cE h (fun h6 h => dS h fk82 (p82_2_2 x0 x3) (oc h0 (oc h1 (oc h2 (oc h1 (oc h4 (oc h1 (oc h6 on)))))))) fun h6 h =>
   tS fk82 (p82_2_3 x0 x3) (oc h0 (oc h1 (oc h2 (oc h1 (oc h4 (oc h1 (oc h6 on))))))) (ih _ _ _ h)) fun h0 h =>
   dS h fk82 (p82_2_4 x0 x3) (oc h0 on)
theorem c82_e {N : Nat} : ∀ a0 r, xDY N a0 = some r → RE Tryz.f82 I82 (xCw a0) (xAZ r) := fun a0 r h =>
 tE fk82 (p82_e_5 a0) on (c82_2 _ _ _ _ h)
theorem xDT {N : Nat} {a0 : Str} {r : Bool} (h : xDY N  a0 = some r) : AbC 82 (xCw a0) (xAZ r) :=
 AbsCalls.of_reach fk82 rfl rfl (Nat.le_of_ble_eq_true rfl) (c82_e a0 r h)
noncomputable def I83 : Info := { body := (Tryz.f83.body).getD .skip, nt := 32, results := [.tmp 4], keep := [0, 2, 8, 14, 16, 36, 62], live := [], modes := [(13, [(5, .take, false)])] }
theorem fk83 : FnOk Tryz.prog 83 Tryz.f83 I83 := ⟨Tryz.func83, by kernel_rfl, by kernel_rfl, by kernel_rfl, by kernel_rfl⟩
theorem p83_e_0 (a0 : Str) (a1 : Int) : rE I83 (xBm a0 a1) [Y, Y] [] = dn (xBh 1) [(0 : Int) ≤ a1 ∧ a1 < (Ln a0), ((((gD a0 (tN a1) 0).toNat : Int) : Int) == 40) = true, ((((gD a0 (tN a1) 0).toNat : Int) : Int) == 40) = true] := by kernel_rfl
theorem p83_e_1 (a0 : Str) (a1 : Int) : rE I83 (xBm a0 a1) [F, Y, Y] [] = dn (xBh 1) [(0 : Int) ≤ a1 ∧ a1 < (Ln a0), ((((gD a0 (tN a1) 0).toNat : Int) : Int) == 40) = false, ((((gD a0 (tN a1) 0).toNat : Int) : Int) == 41) = true, ((((gD a0 (tN a1) 0).toNat : Int) : Int) == 41) = true] := by kernel_rfl
theorem p83_e_2 (a0 : Str) (a1 : Int) : rE I83 (xBm a0 a1) [F, F, Y, Y] [] = dn (xBh 1) [(0 : Int) ≤ a1 ∧ a1 < (Ln a0), ((((gD a0 (tN a1) 0).toNat : Int) : Int) == 40) = false, ((((gD a0 (tN a1) 0).toNat : Int) : Int) == 41) = false, ((((gD a0 (tN a1) 0).toNat : Int) : Int) == 91) = true, ((((gD a0 (tN a1) 0).toNat : Int) : Int) == 91) = true] := by kernel_rfl
theorem p83_e_3 (a0 : Str) (a1 : Int) : rE I83 (xBm a0 a1) [F, F, F, Y, Y] [] = dn (xBh 1) [(0 : Int) ≤ a1 ∧ a1 < (Ln a0), ((((gD a0 (tN a1) 0).toNat : Int) : Int) == 40) = false, ((((gD a0 (tN a1) 0).toNat : Int) : Int) == 41) = false, ((((gD a0 (tN a1) 0).toNat : Int) : Int) == 91) = false, ((((gD a0 (tN a1) 0).toNat : Int) : Int) == 93) = true, ((((gD a0 (tN a1) 0).toNat : Int) : Int) == 93) = true] := by kernel_rfl
theorem p83_e_4 (a0 : Str) (a1 : Int) : rE I83 (xBm a0 a1) [F, F, F, F, Y, Y] [] = dn (xBh 1) [(0 : Int) ≤ a1 ∧ a1 < (Ln a0), ((((gD a0 (tN a1) 0).toNat : Int) : Int) == 40) = false, ((((gD a0 (tN a1) 0).toNat : Int) : Int) == 41) = false, ((((gD a0 (tN a1) 0).toNat : Int) : Int) == 91) = false, ((((gD a0 (tN a1) 0).toNat : Int) : Int) == 93) = false, ((((gD a0 (tN a1) 0).toNat : Int) : Int) == 44) = true, ((((gD a0 (tN a1) 0).toNat : Int) : Int) == 44) = true] := by kernel_rfl
theorem p83_e_5 (a0 : Str) (a1 : Int) : rE I83 (xBm a0 a1) [F, F, F, F, F, Y, Y] [] = dn (xBh 1) [(0 : Int) ≤ a1 ∧ a1 < (Ln a0), ((((gD a0 (tN a1) 0).toNat : Int) : Int) == 40) = false, ((((gD a0 (tN a1) 0).toNat : Int) : Int) == 41) = false, ((((gD a0 (tN a1) 0).toNat : Int) : Int) == 91) = false, ((((gD a0 (tN a1) 0).toNat : Int) : Int) == 93) = false, ((((gD a0 (tN a1) 0).toNat : Int) : Int) == 44) = false, ((((gD a0 (tN a1) 0).toNat : Int) : Int) == 43) = true, ((((gD a0 (tN a1) 0).toNat : Int) : Int) == 43) = true] := by kernel_rfl
theorem p83_e_6 (a0 : Str) (a1 : Int) : rE I83 (xBm a0 a1) [F, F, F, F, F, F, Y, Y] [] = dn (xBh 1) [(0 : Int) ≤ a1 ∧ a1 < (Ln a0), ((((gD a0 (tN a1) 0).toNat : Int) : Int) == 40) = false, ((((gD a0 (tN a1) 0).toNat : Int) : Int) == 41) = false, ((((gD a0 (tN a1) 0).toNat : Int) : Int) == 91) = false, ((((gD a0 (tN a1) 0).toNat : Int) : Int) == 93) = false, ((((gD a0 (tN a1) 0).toNat : Int) : Int) == 44) = false, ((((gD a0 (tN a1) 0).toNat : Int) : Int) == 43) = false, ((((gD a0 (tN a1) 0).toNat : Int) : Int) == 45) = true, ((((gD a0 (tN a1) 0).toNat : Int) : Int) == 45) = true] := by kernel_rfl
theorem p83_e_7 (a0 : Str) (a1 : Int) : rE I83 (xBm a0 a1) [F, F, F, F, F, F, F, Y, Y] [] = dn (xBh 1) [(0 : Int) ≤ a1 ∧ a1 < (Ln a0), ((((gD a0 (tN a1) 0).toNat : Int) : Int) == 40) = false, ((((gD a0 (tN a1) 0).toNat : Int) : Int) == 41) = false, ((((gD a0 (tN a1) 0).toNat : Int) : Int) == 91) = false, ((((gD a0 (tN a1) 0).toNat : Int) : Int) == 93) = false, ((((gD a0 (tN a1) 0).toNat : Int) : Int) == 44) = false, ((((gD a0 (tN a1) 0).toNat : Int) : Int) == 43) = false, ((((gD a0 (tN a1) 0).toNat : Int) : Int) == 45) = false, ((((gD a0 (tN a1) 0).toNat : Int) : Int) == 42) = true, ((((gD a0 (tN a1) 0).toNat : Int) : Int) == 42) = true] := by kernel_rfl
theorem p83_e_8 (a0 : Str) (a1 : Int) : rE I83 (xBm a0 a1) [F, F, F, F, F, F, F, F, Y] [] = dn (xBh 1) [(0 : Int) ≤ a1 ∧ a1 < (Ln a0), ((((gD a0 (tN a1) 0).toNat : Int) : Int) == 40) = false, ((((gD a0 (tN a1) 0).toNat : Int) : Int) == 41) = false, ((((gD a0 (tN a1) 0).toNat : Int) : Int) == 91) = false, ((((gD a0 (tN a1) 0).toNat : Int) : Int) == 93) = false, ((((gD a0 (tN a1) 0).toNat : Int) : Int) == 44) = false, ((((gD a0 (tN a1) 0).toNat : Int) : Int) == 43) = false, ((((gD a0 (tN a1) 0).toNat : Int) : Int) == 45) = false, ((((gD a0 (tN a1) 0).toNat : Int) : Int) == 42) = false, ((((gD a0 (tN a1) 0).toNat : Int) : Int) == 60) = true] := by kernel_rfl
theorem p83_e_9 (a0 : Str) (a1 : Int) : rE I83 (xBm a0 a1) [F, F, F, F, F, F, F, F, F, Y, Y, Y] [] = dn (xBh 2) [(0 : Int) ≤ a1 ∧ a1 < (Ln a0), ((((gD a0 (tN a1) 0).toNat : Int) : Int) == 40) = false, ((((gD a0 (tN a1) 0).toNat : Int) : Int) == 41) = false, ((((gD a0 (tN a1) 0).toNat : Int) : Int) == 91) = false, ((((gD a0 (tN a1) 0).toNat : Int) : Int) == 93) = false, ((((gD a0 (tN a1) 0).toNat : Int) : Int) == 44) = false, ((((gD a0 (tN a1) 0).toNat : Int) : Int) == 43) = false, ((((gD a0 (tN a1) 0).toNat : Int) : Int) == 45) = false, ((((gD a0 (tN a1) 0).toNat : Int) : Int) == 42) = false, ((((gD a0 (tN a1) 0).toNat : Int) : Int) == 60) = false, ((((gD a0 (tN a1) 0).toNat : Int) : Int) == 61) = true, (decide (((W (a1 + 1)) : Int) < (Ln a0 : Int))) = true, (0 : Int) ≤ (W (a1 + 1)) ∧ (W (a1 + 1)) < (Ln a0), ((((gD a0 (tN (W (a1 + 1))) 0).toNat : Int) : Int) == 61) = true] := by kernel_rfl
theorem p83_e_10 (a0 : Str) (a1 : Int) : rE I83 (xBm a0 a1) [F, F, F, F, F, F, F, F, F, Y, Y, F] [] = dn (xBh 1) [(0 : Int) ≤ a1 ∧ a1 < (Ln a0), ((((gD a0 (tN a1) 0).toNat : Int) : Int) == 40) = false, ((((gD a0 (tN a1) 0).toNat : Int) : Int) == 41) = false, ((((gD a0 (tN a1) 0).toNat : Int) : Int) == 91) = false, ((((gD a0 (tN a1) 0).toNat : Int) : Int) == 93) = false, ((((gD a0 (tN a1) 0).toNat : Int) : Int) == 44) = false, ((((gD a0 (tN a1) 0).toNat : Int) : Int) == 43) = false, ((((gD a0 (tN a1) 0).toNat : Int) : Int) == 45) = false, ((((gD a0 (tN a1) 0).toNat : Int) : Int) == 42) = false, ((((gD a0 (tN a1) 0).toNat : Int) : Int) == 60) = false, ((((gD a0 (tN a1) 0).toNat : Int) : Int) == 61) = true, (decide (((W (a1 + 1)) : Int) < (Ln a0 : Int))) = true, (0 : Int) ≤ (W (a1 + 1)) ∧ (W (a1 + 1)) < (Ln a0), ((((gD a0 (tN (W (a1 + 1))) 0).toNat : Int) : Int) == 61) = false] := by kernel_rfl
theorem p83_e_11 (a0 : Str) (a1 : Int) : rE I83 (xBm a0 a1) [F, F, F, F, F, F, F, F, F, Y, F, F] [] = dn (xBh 1) [(0 : Int) ≤ a1 ∧ a1 < (Ln a0), ((((gD a0 (tN a1) 0).toNat : Int) : Int) == 40) = false, ((((gD a0 (tN a1) 0).toNat : Int) : Int) == 41) = false, ((((gD a0 (tN a1) 0).toNat : Int) : Int) == 91) = false, ((((gD a0 (tN a1) 0).toNat : Int) : Int) == 93) = false, ((((gD a0 (tN a1) 0).toNat : Int) : Int) == 44) = false, ((((gD a0 (tN a1) 0).toNat : Int) : Int) == 43) = false, ((((gD a0 (tN a1) 0).toNat : Int) : Int) == 45) = false, ((((gD a0 (tN a1) 0).toNat : Int) : Int) == 42) = false, ((((gD a0 (tN a1) 0).toNat : Int) : Int) == 60) = false, ((((gD a0 (tN a1) 0).toNat : Int) : Int) == 61) = true, (decide (((W (a1 + 1)) : Int) < (Ln a0 : Int))) = false, false = false] := by kernel_rfl
theorem p83_e_12 (a0 : Str) (a1 : Int) : rE I83 (xBm a0 a1) [F, F, F, F, F, F, F, F, F, F] [] = dn (xBh 0) [(0 : Int) ≤ a1 ∧ a1 < (Ln a0), ((((gD a0 (tN a1) 0).toNat : Int) : Int) == 40) = false, ((((gD a0 (tN a1) 0).toNat : Int) : Int) == 41) = false, ((((gD a0 (tN a1) 0).toNat : Int) : Int) == 91) = false, ((((gD a0 (tN a1) 0).toNat : Int) : Int) == 93) = false, ((((gD a0 (tN a1) 0).toNat : Int) : Int) == 44) = false, ((((gD a0 (tN a1) 0).toNat : Int) : Int) == 43) = false, ((((gD a0 (tN a1) 0).toNat : Int) : Int) == 45) = false, ((((gD a0 (tN a1) 0).toNat : Int) : Int) == 42) = false, ((((gD a0 (tN a1) 0).toNat : Int) : Int) == 60) = false, ((((gD a0 (tN a1) 0).toNat : Int) : Int) == 61) = false] := by kernel_rfl
theorem c83_e {N : Nat} : ∀ a0 a1 r, xFc N a0 a1 = some r → RE Tryz.f83 I83 (xBm a0 a1) (xBh r) := fun a0 a1 r h =>
 iE h fun h0 h => cE h (fun h1 h => dE h fk83 (p83_e_0 a0 a1) (oc h0 (oc h1 (oc h1 on)))) fun h1 h =>
 cE h (fun h2 h => dE h fk83 (p83_e_1 a0 a1) (oc h0 (oc h1 (oc h2 (oc h2 on))))) fun h2 h =>
 cE h (fun h3 h => dE h fk83 (p83_e_2 a0 a1) (oc h0 (oc h1 (oc h2 (oc h3 (oc h3 on)))))) fun h3 h =>
 cE h (fun h4 h => dE h fk83 (p83_e_3 a0 a1) (oc h0 (oc h1 (oc h2 (oc h3 (oc h4 (oc h4 on))))))) fun h4 h =>
 cE h (fun h5 h => dE h fk83 (p83_e_4 a0 a1) (oc h0 (oc h1 (oc h2 (oc h3 (oc h4 (oc h5 (oc h5 on)))))))) fun h5 h =>
 cE h (fun h6 h => dE h fk83 (p83_e_5 a0 a1) (oc h0 (oc h1 (oc h2 (oc h3 (oc h4 (oc h5 (oc h6 (oc h6 on))))))))) fun h6 h =>
 cE h (fun h7 h => dE h fk83 (p83_e_6 a0 a1) (oc h0 (oc h1 (oc h2 (oc h3 (oc h4 (oc h5 (oc h6 (oc h7 (oc h7 on)))))))))) fun h7 h =>
 cE h (fun h8 h => dE h fk83 (p83_e_7 a0 a1) (oc h0 (oc h1 (oc h2 (oc h3 (oc h4 (oc h5 (oc h6 (oc h7 (oc h8 (oc h8 on))))))))))) fun h8 h =>
 cE h (fun h9 h => dE h fk83 (p83_e_8 a0 a1) (oc h0 (oc h1 (oc h2 (oc h3 (oc h4 (oc h5 (oc h6 (oc h7 (oc h8 (oc h9 on))))))))))) fun h9 h =>
 cE h (fun h10 h => cE h (fun h11 h => iE h fun h12 h => cE h (fun h13 h => dE h fk83 (p83_e_9 a0 a1) (oc h0 (oc h1 (oc h2 (oc h3 (oc h4 (oc h5 (oc h6 (oc h7 (oc h8 (oc h9 (oc h10 (oc h11 (oc h12 (oc h13 on))))))))))))))) fun h13 h =>
 dE h fk83 (p83_e_10 a0 a1) (oc h0 (oc h1 (oc h2 (oc h3 (oc h4 (oc h5 (oc h6 (oc h7 (oc h8 (oc h9 (oc h10 (oc h11 (oc h12 (oc h13 on))))))))))))))) fun h11 h =>
 dE h fk83 (p83_e_11 a0 a1) (oc h0 (oc h1 (oc h2 (oc h3 (oc h4 (oc h5 (oc h6 (oc h7 (oc h8 (oc h9 (oc h10 (oc h11 (oc rfl on)))))))))))))) fun h10 h =>
 dE h fk83 (p83_e_12 a0 a1) (oc h0 (oc h1 (oc h2 (oc h3 (oc h4 (oc h5 (oc h6 (oc h7 (oc h8 (oc h9 (oc h10 on)))))))))))
theorem spec_l9Symbol_ok {N : Nat} {a0 : Str} {a1 : Int} {r : Int} (h : xFc N  a0 a1 = some r) : AbC 83 (xBm a0 a1) (xBh r) :=
 AbsCalls.of_reach fk83 rfl rfl (Nat.le_of_ble_eq_true rfl) (c83_e a0 a1 r h)
noncomputable def I43 : Info := { body := (Tryz.f43.body).getD .skip, nt := 136, results := [.cell 4 50, .tmp 5], keep := [0, 2, 8, 10, 12, 14, 16, 18, 48, 88, 112, 116, 144, 182, 186, 218, 256, 9, 13], live := [(7, [0, 2, 8, 12, 14, 9, 13]), (14, [0, 2, 8, 12, 14, 9, 13]), (23, [0, 2, 8, 12, 14, 9, 13])], modes := [(7, [(4, .take, false), (9, .take, false)]), (14, [(4, .take, false)]), (16, [(5, .take, false)]), (19, [(0, .take, false), (2, .take, false)]), (23, [(4, .take, false)]), (27, [(4, .take, false)])] }
theorem fk43 : FnOk Tryz.prog 43 Tryz.f43 I43 := ⟨Tryz.func43, by kernel_rfl, by kernel_rfl, by kernel_rfl, by kernel_rfl⟩
def S43_7 (x0 : Str) (x1 x7 : Int) (b4 b6 : Tok) : St := [(0, .v false [.str x0]), (2, .v false [.int .i64 x1]), (8, .v false [.ptr 4 0]), (12, .v false [.ptr 6 0]), (14, .v false [.int .i64 x7]), (9, .v true [.int .i64 (Tok.kind b4), .int .i64 (Tok.n b4), .int .i64 (Tok.pos b4), .str (Tok.text b4)]), (13, .v true [.int .i64 (Tok.kind b6), .int .i64 (Tok.n b6), .int .i64 (Tok.pos b6), .str (Tok.text b6)])]
def xGN (x0 : Str) (x1 x7 : Int) (b4 b6 : Tok) : St := [(0, .v false [.str x0]), (2, .v false [.int .i64 x1]), (8, .v false [.ptr 4 0]), (12, .v false [.ptr 6 0]), (14, .v false [.int .i64 x7]), (9, .v true [.int .i64 (Tok.kind b4), .int .i64 (Tok.n b4), .int .i64 (Tok.pos b4), .str (Tok.text b4)]), (13, .v true [.int .i64 (Tok.kind b6), .int .i64 (Tok.n b6), .int .i64 (Tok.pos b6), .str (Tok.text b6)])]
def xGO (x0 : Str) (x1 x7 : Int) (b4 b6 : Tok) : St := [(0, .v false [.str x0]), (2, .v false [.int .i64 x1]), (8, .v false [.ptr 4 0]), (12, .v false [.ptr 6 0]), (14, .v false [.int .i64 x7]), (9, .v true [.int .i64 (Tok.kind b4), .int .i64 (Tok.n b4), .int .i64 (Tok.pos b4), .str (Tok.text b4)]), (13, .v true [.int .i64 (Tok.kind b6), .int .i64 (Tok.n b6), .int .i64 (Tok.pos b6), .str (Tok.text b6)])]
theorem p43_7_0 (x0 : Str) (x1 x7 : Int) (b4 b6 : Tok) (r1 : Bool) : rS 7 I43 (S43_7 x0 x1 x7 b4 b6) [Y, Y, Y] [xA3 r1] = st 7 I43 (S43_7 x0 x1 (W (x7 + 1)) b4 b6) [(decide ((x7 : Int) < (Ln x0 : Int))) = true, (0 : Int) ≤ x7 ∧ x7 < (Ln x0), AbC 79 (xB2 ((gD x0 (tN x7) 0).toNat : Int)) (xA3 r1), r1 = true, true = true] := by kernel_rfl
theorem p43_7_1 (x0 : Str) (x1 x7 : Int) (b4 b6 : Tok) (r1 r2 : Bool) : rS 7 I43 (S43_7 x0 x1 x7 b4 b6) [Y, F, Y] [xA3 r1, xAU r2] = st 7 I43 (S43_7 x0 x1 (W (x7 + 1)) b4 b6) [(decide ((x7 : Int) < (Ln x0 : Int))) = true, (0 : Int) ≤ x7 ∧ x7 < (Ln x0), AbC 79 (xB2 ((gD x0 (tN x7) 0).toNat : Int)) (xA3 r1), r1 = false, (0 : Int) ≤ x7 ∧ x7 < (Ln x0), AbC 80 (xBQ ((gD x0 (tN x7) 0).toNat : Int)) (xAU r2), r2 = true] := by kernel_rfl
theorem p43_7_2 (x0 : Str) (x1 x7 : Int) (b4 b6 : Tok) (r1 r2 : Bool) : rS 7 I43 (S43_7 x0 x1 x7 b4 b6) [Y, F, F, Y] [xA3 r1, xAU r2] = dn (xAP ((Tok.mk 1 (Tok.n b6) (Tok.pos b6) (List.drop (tN x1) (List.take (tN x7) x0))), 0)) [(decide ((x7 : Int) < (Ln x0 : Int))) = true, (0 : Int) ≤ x7 ∧ x7 < (Ln x0), AbC 79 (xB2 ((gD x0 (tN x7) 0).toNat : Int)) (xA3 r1), r1 = false, (0 : Int) ≤ x7 ∧ x7 < (Ln x0), AbC 80 (xBQ ((gD x0 (tN x7) 0).toNat : Int)) (xAU r2), r2 = false, (0 : Int) ≤ x1 ∧ x1 ≤ x7 ∧ x7 ≤ (Ln x0), (decide (((W (x7 - x1)) : Int) > 8)) = true] := by kernel_rfl
theorem p43_7_3 (x0 : Str) (x1 x7 : Int) (b4 b6 : Tok) (r1 r2 : Bool) : rS 7 I43 (S43_7 x0 x1 x7 b4 b6) [Y, F, F, F] [xA3 r1, xAU r2] = dn (xAP ((Tok.mk 1 (Tok.n b6) (Tok.pos b6) (List.drop (tN x1) (List.take (tN x7) x0))), (W (x7 - x1)))) [(decide ((x7 : Int) < (Ln x0 : Int))) = true, (0 : Int) ≤ x7 ∧ x7 < (Ln x0), AbC 79 (xB2 ((gD x0 (tN x7) 0).toNat : Int)) (xA3 r1), r1 = false, (0 : Int) ≤ x7 ∧ x7 < (Ln x0), AbC 80 (xBQ ((gD x0 (tN x7) 0).toNat : Int)) (xAU r2), r2 = false, (0 : Int) ≤ x1 ∧ x1 ≤ x7 ∧ x7 ≤ (Ln x0), (decide (((W (x7 - x1)) : Int) > 8)) = false] := by kernel_rfl
theorem p43_7_4 (x0 : Str) (x1 x7 : Int) (b4 b6 : Tok) : rS 7 I43 (S43_7 x0 x1 x7 b4 b6) [F, F, Y] [] = dn (xAP ((Tok.mk 1 (Tok.n b6) (Tok.pos b6) (List.drop (tN x1) (List.take (tN x7) x0))), 0)) [(decide ((x7 : Int) < (Ln x0 : Int))) = false, false = false, (0 : Int) ≤ x1 ∧ x1 ≤ x7 ∧ x7 ≤ (Ln x0), (decide (((W (x7 - x1)) : Int) > 8)) = true] := by kernel_rfl
theorem p43_7_5 (x0 : Str) (x1 x7 : Int) (b4 b6 : Tok) : rS 7 I43 (S43_7 x0 x1 x7 b4 b6) [F, F, F] [] = dn (xAP ((Tok.mk 1 (Tok.n b6) (Tok.pos b6) (List.drop (tN x1) (List.take (tN x7) x0))), (W (x7 - x1)))) [(decide ((x7 : Int) < (Ln x0 : Int))) = false, false = false, (0 : Int) ≤ x1 ∧ x1 ≤ x7 ∧ x7 ≤ (Ln x0), (decide (((W (x7 - x1)) : Int) > 8)) = false] := by kernel_rfl
theorem p43_14_6 (x0 : Str) (x1 x7 : Int) (b4 b6 : Tok) (r1 : Bool) : rS 14 I43 (xGN x0 x1 x7 b4 b6) [Y, Y] [xAU r1] = st 14 I43 (xGN x0 x1 (W (x7 + 1)) b4 b6) [(decide ((x7 : Int) < (Ln x0 : Int))) = true, (0 : Int) ≤ x7 ∧ x7 < (Ln x0), AbC 80 (xBQ ((gD x0 (tN x7) 0).toNat : Int)) (xAU r1), r1 = true] := by kernel_rfl
theorem p43_14_7 (x0 : Str) (x1 x7 : Int) (b4 b6 : Tok) (r1 : Bool) (r2 : Int × Bool) : rS 14 I43 (xGN x0 x1 x7 b4 b6) [Y, F, Y, Y] [xAU r1, xBu r2] = dn (xAP ((Tok.mk 2 r2.1 (Tok.pos b6) (Tok.text b6)), 0)) [(decide ((x7 : Int) < (Ln x0 : Int))) = true, (0 : Int) ≤ x7 ∧ x7 < (Ln x0), AbC 80 (xBQ ((gD x0 (tN x7) 0).toNat : Int)) (xAU r1), r1 = false, (0 : Int) ≤ x1 ∧ x1 ≤ x7 ∧ x7 ≤ (Ln x0), AbC 81 (xCY (List.drop (tN x1) (List.take (tN x7) x0))) (xBu r2), (!r2.2) = true, true = true] := by kernel_rfl
theorem p43_14_8 (x0 : Str) (x1 x7 : Int) (b4 b6 : Tok) (r1 : Bool) (r2 : Int × Bool) : rS 14 I43 (xGN x0 x1 x7 b4 b6) [Y, F, F, Y] [xAU r1, xBu r2] = dn (xAP ((Tok.mk 2 r2.1 (Tok.pos b6) (Tok.text b6)), 0)) [(decide ((x7 : Int) < (Ln x0 : Int))) = true, (0 : Int) ≤ x7 ∧ x7 < (Ln x0), AbC 80 (xBQ ((gD x0 (tN x7) 0).toNat : Int)) (xAU r1), r1 = false, (0 : Int) ≤ x1 ∧ x1 ≤ x7 ∧ x7 ≤ (Ln x0), AbC 81 (xCY (List.drop (tN x1) (List.take (tN x7) x0))) (xBu r2), (!r2.2) = false, (decide ((r2.1 : Int) > 1000000000)) = true] := by kernel_rfl
theorem p43_14_9 (x0 : Str) (x1 x7 : Int) (b4 b6 : Tok) (r1 : Bool) (r2 : Int × Bool) : rS 14 I43 (xGN x0 x1 x7 b4 b6) [Y, F, F, F] [xAU r1, xBu r2] = dn (xAP ((Tok.mk 2 r2.1 (Tok.pos b6) (Tok.text b6)), (W (x7 - x1)))) [(decide ((x7 : Int) < (Ln x0 : Int))) = true, (0 : Int) ≤ x7 ∧ x7 < (Ln x0), AbC 80 (xBQ ((gD x0 (tN x7) 0).toNat : Int)) (xAU r1), r1 = false, (0 : Int) ≤ x1 ∧ x1 ≤ x7 ∧ x7 ≤ (Ln x0), AbC 81 (xCY (List.drop (tN x1) (List.take (tN x7) x0))) (xBu r2), (!r2.2) = false, (decide ((r2.1 : Int) > 1000000000)) = false] := by kernel_rfl
theorem p43_14_10 (x0 : Str) (x1 x7 : Int) (b4 b6 : Tok) (r1 : Int × Bool) : rS 14 I43 (xGN x0 x1 x7 b4 b6) [F, F, Y, Y] [xBu r1] = dn (xAP ((Tok.mk 2 r1.1 (Tok.pos b6) (Tok.text b6)), 0)) [(decide ((x7 : Int) < (Ln x0 : Int))) = false, false = false, (0 : Int) ≤ x1 ∧ x1 ≤ x7 ∧ x7 ≤ (Ln x0), AbC 81 (xCY (List.drop (tN x1) (List.take (tN x7) x0))) (xBu r1), (!r1.2) = true, true = true] := by kernel_rfl
theorem p43_14_11 (x0 : Str) (x1 x7 : Int) (b4 b6 : Tok) (r1 : Int × Bool) : rS 14 I43 (xGN x0 x1 x7 b4 b6) [F, F, F, Y] [xBu r1] = dn (xAP ((Tok.mk 2 r1.1 (Tok.pos b6) (Tok.text b6)), 0)) [(decide ((x7 : Int) < (Ln x0 : Int))) = false, false = false, (0 : Int) ≤ x1 ∧ x1 ≤ x7 ∧ x7 ≤ (Ln x0), AbC 81 (xCY (List.drop (tN x1) (List.take (tN x7) x0))) (xBu r1), (!r1.2) = false, (decide ((r1.1 : Int) > 1000000000)) = true] := by kernel_rfl
theorem p43_14_12 (x0 : Str) (x1 x7 : Int) (b4 b6 : Tok) (r1 : Int × Bool) : rS 14 I43 (xGN x0 x1 x7 b4 b6) [F, F, F, F] [xBu r1] = dn (xAP ((Tok.mk 2 r1.1 (Tok.pos b6) (Tok.text b6)), (W (x7 - x1)))) [(decide ((x7 : Int) < (Ln x0 : Int))) = false, false = false, (0 : Int) ≤ x1 ∧ x1 ≤ x7 ∧ x7 ≤ (Ln x0), AbC 81 (xCY (List.drop (tN x1) (List.take (tN x7) x0))) (xBu r1), (!r1.2) = false, (decide ((r1.1 : Int) > 1000000000)) = false] := by kernel_rfl
theorem p43_23_13 (x0 : Str) (x1 x7 : Int) (b4 b6 : Tok) : rS 23 I43 (xGO x0 x1 x7 b4 b6) [Y, Y] [] = st 23 I43 (xGO x0 x1 (W (x7 + 1)) b4 b6) [(decide ((x7 : Int) < (Ln x0 : Int))) = true, (0 : Int) ≤ x7 ∧ x7 < (Ln x0), ((((gD x0 (tN x7) 0).toNat : Int) : Int) != 34) = true] := by kernel_rfl
theorem p43_23_14 (x0 : Str) (x1 x7 : Int) (b4 b6 : Tok) : rS 23 I43 (xGO x0 x1 x7 b4 b6) [Y, F, Y, Y] [] = dn (xAP ((Tok.mk 3 (Tok.n b6) (Tok.pos b6) (List.drop (tN (W (x1 + 1))) (List.take (tN x7) x0))), 0)) [(decide ((x7 : Int) < (Ln x0 : Int))) = true, (0 : Int) ≤ x7 ∧ x7 < (Ln x0), ((((gD x0 (tN x7) 0).toNat : Int) : Int) != 34) = false, (0 : Int) ≤ (W (x1 + 1)) ∧ (W (x1 + 1)) ≤ x7 ∧ x7 ≤ (Ln x0), ((x7 : Int) == (Ln x0 : Int)) = true, true = true] := by kernel_rfl
theorem p43_23_15 (x0 : Str) (x1 x7 : Int) (b4 b6 : Tok) (r1 : Bool) : rS 23 I43 (xGO x0 x1 x7 b4 b6) [Y, F, F, Y] [xAZ r1] = dn (xAP ((Tok.mk 3 (Tok.n b6) (Tok.pos b6) (List.drop (tN (W (x1 + 1))) (List.take (tN x7) x0))), 0)) [(decide ((x7 : Int) < (Ln x0 : Int))) = true, (0 : Int) ≤ x7 ∧ x7 < (Ln x0), ((((gD x0 (tN x7) 0).toNat : Int) : Int) != 34) = false, (0 : Int) ≤ (W (x1 + 1)) ∧ (W (x1 + 1)) ≤ x7 ∧ x7 ≤ (Ln x0), ((x7 : Int) == (Ln x0 : Int)) = false, AbC 82 (xCw (List.drop (tN (W (x1 + 1))) (List.take (tN x7) x0))) (xAZ r1), (!r1) = true] := by kernel_rfl
theorem p43_23_16 (x0 : Str) (x1 x7 : Int) (b4 b6 : Tok) (r1 : Bool) : rS 23 I43 (xGO x0 x1 x7 b4 b6) [Y, F, F, F] [xAZ r1] = dn (xAP ((Tok.mk 3 (Tok.n b6) (Tok.pos b6) (List.drop (tN (W (x1 + 1))) (List.take (tN x7) x0))), (W ((W (x7 + 1)) - x1)))) [(decide ((x7 : Int) < (Ln x0 : Int))) = true, (0 : Int) ≤ x7 ∧ x7 < (Ln x0), ((((gD x0 (tN x7) 0).toNat : Int) : Int) != 34) = false, (0 : Int) ≤ (W (x1 + 1)) ∧ (W (x1 + 1)) ≤ x7 ∧ x7 ≤ (Ln x0), ((x7 : Int) == (Ln x0 : Int)) = false, AbC 82 (xCw (List.drop (tN (W (x1 + 1))) (List.take (tN x7) x0))) (xAZ r1), (!r1) = false] := by kernel_rfl
theorem p43_23_17 (x0 : Str) (x1 x7 : Int) (b4 b6 : Tok) : rS 23 I43 (xGO x0 x1 x7 b4 b6) [F, F, Y, Y] [] = dn (xAP ((Tok.mk 3 (Tok.n b6) (Tok.pos b6) (List.drop (tN (W (x1 + 1))) (List.take (tN x7) x0))), 0)) [(decide ((x7 : Int) < (Ln x0 : Int))) = false, false = false, (0 : Int) ≤ (W (x1 + 1)) ∧ (W (x1 + 1)) ≤ x7 ∧ x7 ≤ (Ln x0), ((x7 : Int) == (Ln x0 : Int)) = true, true = true] := by kernel_rfl
theorem p43_23_18 (x0 : Str) (x1 x7 : Int) (b4 b6 : Tok) (r1 : Bool) : rS 23 I43 (xGO x0 x1 x7 b4 b6) [F, F, F, Y] [xAZ r1] = dn (xAP ((Tok.mk 3 (Tok.n b6) (Tok.pos b6) (List.drop (tN (W (x1 + 1))) (List.take (tN x7) x0))), 0)) [(decide ((x7 : Int) < (Ln x0 : Int))) = false, false = false, (0 : Int) ≤ (W (x1 + 1)) ∧ (W (x1 + 1)) ≤ x7 ∧ x7 ≤ (Ln x0), ((x7 : Int) == (Ln x0 : Int)) = false, AbC 82 (xCw (List.drop (tN (W (x1 + 1))) (List.take (tN x7) x0))) (xAZ r1), (!r1) = true] := by kernel_rfl
theorem p43_23_19 (x0 : Str) (x1 x7 : Int) (b4 b6 : Tok) (r1 : Bool) : rS 23 I43 (xGO x0 x1 x7 b4 b6) [F, F, F, F] [xAZ r1] = dn (xAP ((Tok.mk 3 (Tok.n b6) (Tok.pos b6) (List.drop (tN (W (x1 + 1))) (List.take (tN x7) x0))), (W ((W (x7 + 1)) - x1)))) [(decide ((x7 : Int) < (Ln x0 : Int))) = false, false = false, (0 : Int) ≤ (W (x1 + 1)) ∧ (W (x1 + 1)) ≤ x7 ∧ x7 ≤ (Ln x0), ((x7 : Int) == (Ln x0 : Int)) = false, AbC 82 (xCw (List.drop (tN (W (x1 + 1))) (List.take (tN x7) x0))) (xAZ r1), (!r1) = false] := by kernel_rfl
theorem p43_e_20 (a0 : Str) (a1 : Int) (r1 : Bool) : rE I43 (xDt a0 a1) [Y] [xA3 r1] = st 7 I43 (S43_7 a0 a1 a1 (Tok.mk 0 0 0 []) (Tok.mk 0 0 a1 [])) [(0 : Int) ≤ a1 ∧ a1 < (Ln a0), AbC 79 (xB2 ((gD a0 (tN a1) 0).toNat : Int)) (xA3 r1), r1 = true] := by kernel_rfl
theorem p43_e_21 (a0 : Str) (a1 : Int) (r1 r2 : Bool) : rE I43 (xDt a0 a1) [F, Y] [xA3 r1, xAU r2] = st 14 I43 (xGN a0 a1 a1 (Tok.mk 0 0 0 []) (Tok.mk 0 0 a1 [])) [(0 : Int) ≤ a1 ∧ a1 < (Ln a0), AbC 79 (xB2 ((gD a0 (tN a1) 0).toNat : Int)) (xA3 r1), r1 = false, (0 : Int) ≤ a1 ∧ a1 < (Ln a0), AbC 80 (xBQ ((gD a0 (tN a1) 0).toNat : Int)) (xAU r2), r2 = true] := by kernel_rfl
theorem p43_e_22 (a0 : Str) (a1 : Int) (r1 r2 : Bool) : rE I43 (xDt a0 a1) [F, F, Y] [xA3 r1, xAU r2] = st 23 I43 (xGO a0 a1 (W (a1 + 1)) (Tok.mk 0 0 0 []) (Tok.mk 0 0 a1 [])) [(0 : Int) ≤ a1 ∧ a1 < (Ln a0), AbC 79 (xB2 ((gD a0 (tN a1) 0).toNat : Int)) (xA3 r1), r1 = false, (0 : Int) ≤ a1 ∧ a1 < (Ln a0), AbC 80 (xBQ ((gD a0 (tN a1) 0).toNat : Int)) (xAU r2), r2 = false, (0 : Int) ≤ a1 ∧ a1 < (Ln a0), ((((gD a0 (tN a1) 0).toNat : Int) : Int) == 34) = true] := by kernel_rfl
theorem p43_e_23 (a0 : Str) (a1 : Int) (r1 r2 : Bool) (r3 : Int) : rE I43 (xDt a0 a1) [F, F, F] [xA3 r1, xAU r2, xBh r3] = dn (xAP ((Tok.mk 4 0 a1 (List.drop (tN a1) (List.take (tN (W (a1 + r3))) a0))), (W ((W (a1 + r3)) - a1)))) [(0 : Int) ≤ a1 ∧ a1 < (Ln a0), AbC 79 (xB2 ((gD a0 (tN a1) 0).toNat : Int)) (xA3 r1), r1 = false, (0 : Int) ≤ a1 ∧ a1 < (Ln a0), AbC 80 (xBQ ((gD a0 (tN a1) 0).toNat : Int)) (xAU r2), r2 = false, (0 : Int) ≤ a1 ∧ a1 < (Ln a0), ((((gD a0 (tN a1) 0).toNat : Int) : Int) == 34) = false, AbC 83 (xBm a0 a1) (xBh r3), (0 : Int) ≤ a1 ∧ a1 ≤ (W (a1 + r3)) ∧ (W (a1 + r3)) ≤ (Ln a0)] := by kernel_rfl
theorem c43_7 {N : Nat} : ∀ n x0 x1 x7 b4 b6 r, xDu N n x0 x1 x7 b4 b6 = some r → RS Tryz.f43 I43 7 (S43_7 x0 x1 x7 b4 b6) (xAP r) := by
 intro n
 induction n with
 | zero => exact fun _ _ _ _ _ _ h => nE h
 | succ n ih =>
  exact fun x0 x1 x7 b4 b6 r h =>
   cE h (fun h0 h => iE h fun h1 h => bE h fun r1 h2 h => cE h (fun h3 h => tS fk43 (p43_7_0 x0 x1 x7 b4 b6 r1) (oc h0 (oc h1 (oc (xDg h2) (oc h3 (oc rfl on))))) (ih _ _ _ _ _ _ h)) fun h3 h =>
   bE h fun r2 h5 h => cE h (fun h6 h => tS fk43 (p43_7_1 x0 x1 x7 b4 b6 r1 r2) (oc h0 (oc h1 (oc (xDg h2) (oc h3 (oc h1 (oc (xCS h5) (oc h6 on))))))) (ih _ _ _ _ _ _ h)) fun h6 h =>
   iE h fun h7 h => cE h (fun h8 h => dS h fk43 (p43_7_2 x0 x1 x7 b4 b6 r1 r2) (oc h0 (oc h1 (oc (xDg h2) (oc h3 (oc h1 (oc (xCS h5) (oc h6 (oc h7 (oc h8 on)))))))))) fun h8 h =>
   dS h fk43 (p43_7_3 x0 x1 x7 b4 b6 r1 r2) (oc h0 (oc h1 (oc (xDg h2) (oc h3 (oc h1 (oc (xCS h5) (oc h6 (oc h7 (oc h8 on)))))))))) fun h0 h =>
   iE h fun h2 h => cE h (fun h3 h => dS h fk43 (p43_7_4 x0 x1 x7 b4 b6) (oc h0 (oc rfl (oc h2 (oc h3 on))))) fun h3 h =>
   dS h fk43 (p43_7_5 x0 x1 x7 b4 b6) (oc h0 (oc rfl (oc h2 (oc h3 on))))
theorem c43_14 {N : Nat} : ∀ n x0 x1 x7 b4 b6 r, xDa N n x0 x1 x7 b4 b6 = some r → RS Tryz.f43 I43 14 (xGN x0 x1 x7 b4 b6) (xAP r) := by
 intro n
 induction n with
 | zero => exact fun _ _ _ _ _ _ h => nE h
 | succ n ih =>
  exact fun x0 x1 x7 b4 b6 r h =>
   cE h (fun h0 h => iE h fun h1 h => bE h fun r1 h2 h => cE h (fun h3 h => tS fk43 (p43_14_6 x0 x1 x7 b4 b6 r1) (oc h0 (oc h1 (oc (xCS h2) (oc h3 on)))) (ih _ _ _ _ _ _ h)) fun h3 h =>
   iE h fun h4 h => bE h fun r2 h5 h => cE h (fun h6 h => dS h fk43 (p43_14_7 x0 x1 x7 b4 b6 r1 r2) (oc h0 (oc h1 (oc (xCS h2) (oc h3 (oc h4 (oc (xDZ h5) (oc h6 (oc rfl on))))))))) fun h6 h =>
   cE h (fun h7 h => dS h fk43 (p43_14_8 x0 x1 x7 b4 b6 r1 r2) (oc h0 (oc h1 (oc (xCS h2) (oc h3 (oc h4 (oc (xDZ h5) (oc h6 (oc h7 on))))))))) fun h7 h =>
   dS h fk43 (p43_14_9 x0 x1 x7 b4 b6 r1 r2) (oc h0 (oc h1 (oc (xCS h2) (oc h3 (oc h4 (oc (xDZ h5) (oc h6 (oc h7 on))))))))) fun h0 h =>
   iE h fun h2 h => bE h fun r1 h3 h => cE h (fun h4 h => dS h fk43 (p43_14_10 x0 x1 x7 b4 b6 r1) (oc h0 (oc rfl (oc h2 (oc (xDZ h3) (oc h4 (oc rfl on))))))) fun h4 h =>
   cE h (fun h5 h => dS h fk43 (p43_14_11 x0 x1 x7 b4 b6 r1) (oc h0 (oc rfl (oc h2 (oc (xDZ h3) (oc h4 (oc h5 on))))))) fun h5 h =>
   dS h fk43 (p43_14_12 x0 x1 x7 b4 b6 r1) (oc h0 (oc rfl (oc h2 (oc (xDZ h3) (oc h4 (oc h5 on))))))
theorem c43_23 {N : Nat} : ∀ n x0 x1 x7 b4 b6 r, xEh N n x0 x1 x7 b4 b6 = some r → RS Tryz.f43 I43 23 (xGO x0 x1 x7 b4 b6) (xAP r) := by
 intro n
 induction n with
 | zero => exact fun _ _ _ _ _ _ h => nE h
 | succ n ih =>
  exact fun x0 x1 x7 b4 b6 r h =>
   cE h (fun h0 h => iE h fun h1 h => cE h (fun h2 h => tS fk43 (p43_23_13 x0 x1 x7 b4 b6) (oc h0 (oc h1 (oc h2 on))) (ih _ _ _ _ _ _ h)) fun h2 h =>
   iE h fun h3 h => cE h (fun h4 h => dS h fk43 (p43_23_14 x0 x1 x7 b4 b6) (oc h0 (oc h1 (oc h2 (oc h3 (oc h4 (oc rfl on))))))) fun h4 h =>
   bE h fun r1 h5 h => cE h (fun h6 h => dS h fk43 (p43_23_15 x0 x1 x7 b4 b6 r1) (oc h0 (oc h1 (oc h2 (oc h3 (oc h4 (oc (xDT h5) (oc h6 on)))))))) fun h6 h =>
   dS h fk43 (p43_23_16 x0 x1 x7 b4 b6 r1) (oc h0 (oc h1 (oc h2 (oc h3 (oc h4 (oc (xDT h5) (oc h6 on)))))))) fun h0 h =>
   iE h fun h2 h => cE h (fun h3 h => dS h fk43 (p43_23_17 x0 x1 x7 b4 b6) (oc h0 (oc rfl (oc h2 (oc h3 (oc rfl on)))))) fun h3 h =>
   bE h fun r1 h4 h => cE h (fun h5 h => dS h fk43 (p43_23_18 x0 x1 x7 b4 b6 r1) (oc h0 (oc rfl (oc h2 (oc h3 (oc (xDT h4) (oc h5 on))))))) fun h5 h =>
   dS h fk43 (p43_23_19 x0 x1 x7 b4 b6 r1) (oc h0 (oc rfl (oc h2 (oc h3 (oc (xDT h4) (oc h5 on))))))
theorem c43_e {N : Nat} : ∀ a0 a1 r, xFQ N a0 a1 = some r → RE Tryz.f43 I43 (xDt a0 a1) (xAP r) := fun a0 a1 r h =>
 iE h fun h0 h => bE h fun r1 h1 h => cE h (fun h2 h => tE fk43 (p43_e_20 a0 a1 r1) (oc h0 (oc (xDg h1) (oc h2 on))) (c43_7 _ _ _ _ _ _ _ h)) fun h2 h =>
 bE h fun r2 h4 h => cE h (fun h5 h => tE fk43 (p43_e_21 a0 a1 r1 r2) (oc h0 (oc (xDg h1) (oc h2 (oc h0 (oc (xCS h4) (oc h5 on)))))) (c43_14 _ _ _ _ _ _ _ h)) fun h5 h =>
 cE h (fun h7 h => tE fk43 (p43_e_22 a0 a1 r1 r2) (oc h0 (oc (xDg h1) (oc h2 (oc h0 (oc (xCS h4) (oc h5 (oc h0 (oc h7 on)))))))) (c43_23 _ _ _ _ _ _ _ h)) fun h7 h =>
 bE h fun r3 h8 h => iE h fun h9 h => dE h fk43 (p43_e_23 a0 a1 r1 r2 r3) (oc h0 (oc (xDg h1) (oc h2 (oc h0 (oc (xCS h4) (oc h5 (oc h0 (oc h7 (oc (spec_l9Symbol_ok h8) (oc h9 on))))))))))
theorem xF3 {N : Nat} {a0 : Str} {a1 : Int} {r : Tok × Int} (h : xFQ N  a0 a1 = some r) : AbC 43 (xDt a0 a1) (xAP r) :=
 AbsCalls.of_reach fk43 rfl rfl (Nat.le_of_ble_eq_true rfl) (c43_e a0 a1 r h)
noncomputable def I23 : Info := { body := (Tryz.f23.body).getD .skip, nt := 46, results := [.tmp 2, .tmp 3], keep := [0, 4, 6, 8, 10, 12, 14, 20, 32, 40, 70, 13], live := [(5, [0, 8, 10])], modes := [(8, [(3, .take, false)]), (9, [(2, .take, false)]), (11, [(0, .take, false)]), (13, [(0, .take, false)])] }
theorem fk23 : FnOk Tryz.prog 23 Tryz.f23 I23 := ⟨Tryz.func23, by kernel_rfl, by kernel_rfl, by kernel_rfl, by kernel_rfl⟩
def S23_5 (x0 : Str) (x4 : List Tok) (x5 : Int) : St := [(0, .v false [.str x0]), (8, .v false [.sl .own .tok x4]), (10, .v false [.int .i64 x5])]
theorem p23_5_0 (x0 : Str) (x4 : List Tok) (x5 : Int) : rS 5 I23 (S23_5 x0 x4 x5) [Y, Y] [] = st 5 I23 (S23_5 x0 x4 (W (x5 + 1))) [(decide ((x5 : Int) < (Ln x0 : Int))) = true, (0 : Int) ≤ x5 ∧ x5 < (Ln x0), ((((gD x0 (tN x5) 0).toNat : Int) : Int) == 32) = true] := by kernel_rfl
theorem p23_5_1 (x0 : Str) (x4 : List Tok) (x5 : Int) (r1 : Tok × Int) : rS 5 I23 (S23_5 x0 x4 x5) [Y, F, Y, Y] [xAP r1] = dn (xAG ([], x5)) [(decide ((x5 : Int) < (Ln x0 : Int))) = true, (0 : Int) ≤ x5 ∧ x5 < (Ln x0), ((((gD x0 (tN x5) 0).toNat : Int) : Int) == 32) = false, AbC 43 (xDt x0 x5) (xAP r1), ((r1.2 : Int) == 0) = true, true = true] := by kernel_rfl
theorem p23_5_2 (x0 : Str) (x4 : List Tok) (x5 : Int) (r1 : Tok × Int) : rS 5 I23 (S23_5 x0 x4 x5) [Y, F, F, Y] [xAP r1] = dn (xAG ([], x5)) [(decide ((x5 : Int) < (Ln x0 : Int))) = true, (0 : Int) ≤ x5 ∧ x5 < (Ln x0), ((((gD x0 (tN x5) 0).toNat : Int) : Int) == 32) = false, AbC 43 (xDt x0 x5) (xAP r1), ((r1.2 : Int) == 0) = false, (((Ln x4 : Int) : Int) == 60) = true] := by kernel_rfl
theorem p23_5_3 (x0 : Str) (x4 : List Tok) (x5 : Int) (r1 : Tok × Int) : rS 5 I23 (S23_5 x0 x4 x5) [Y, F, F, F] [xAP r1] = st 5 I23 (S23_5 x0 (x4 ++ [r1.1]) (W (x5 + r1.2))) [(decide ((x5 : Int) < (Ln x0 : Int))) = true, (0 : Int) ≤ x5 ∧ x5 < (Ln x0), ((((gD x0 (tN x5) 0).toNat : Int) : Int) == 32) = false, AbC 43 (xDt x0 x5) (xAP r1), ((r1.2 : Int) == 0) = false, (((Ln x4 : Int) : Int) == 60) = false, Ln x4 + Ln [r1.1] ≤ Lim] := by kernel_rfl
theorem p23_5_4 (x0 : Str) (x4 : List Tok) (x5 : Int) : rS 5 I23 (S23_5 x0 x4 x5) [F] [] = dn (xAG (x4, (-1))) [(decide ((x5 : Int) < (Ln x0 : Int))) = false] := by kernel_rfl
theorem p23_e_5 (a0 : Str) : rE I23 (xBC a0) [Y] [] = dn (xAG ([], 120)) [(decide (((Ln a0 : Int) : Int) > 120)) = true] := by kernel_rfl
theorem p23_e_6 (a0 : Str) : rE I23 (xBC a0) [F] [] = st 5 I23 (S23_5 a0 [] 0) [(decide (((Ln a0 : Int) : Int) > 120)) = false] := by kernel_rfl
theorem c23_5 {N : Nat} : ∀ n x0 x4 x5 r, xDF N n x0 x4 x5 = some r → RS Tryz.f23 I23 5 (S23_5 x0 x4 x5) (xAG r) := by
 intro n
 induction n with
 | zero => exact fun _ _ _ _ h => nE h
 | succ n ih =>
  exact fun x0 x4 x5 r h =>
   cE h (fun h0 h => iE h fun h1 h => cE h (fun h2 h => tS fk23 (p23_5_0 x0 x4 x5) (oc h0 (oc h1 (oc h2 on))) (ih _ _ _ _ h)) fun h2 h =>
   bE h fun r1 h3 h => cE h (fun h4 h => dS h fk23 (p23_5_1 x0 x4 x5 r1) (oc h0 (oc h1 (oc h2 (oc (xF3 h3) (oc h4 (oc rfl on))))))) fun h4 h =>
   cE h (fun h5 h => dS h fk23 (p23_5_2 x0 x4 x5 r1) (oc h0 (oc h1 (oc h2 (oc (xF3 h3) (oc h4 (oc h5 on))))))) fun h5 h =>
   iE h fun h6 h => tS fk23 (p23_5_3 x0 x4 x5 r1) (oc h0 (oc h1 (oc h2 (oc (xF3 h3) (oc h4 (oc h5 (oc h6 on))))))) (ih _ _ _ _ h)) fun h0 h =>
   dS h fk23 (p23_5_4 x0 x4 x5) (oc h0 on)
theorem c23_e {N : Nat} : ∀ a0 r, xEH N a0 = some r → RE Tryz.f23 I23 (xBC a0) (xAG r) := fun a0 r h =>
 cE h (fun h0 h => dE h fk23 (p23_e_5 a0) (oc h0 on)) fun h0 h =>
 tE fk23 (p23_e_6 a0) (oc h0 on) (c23_5 _ _ _ _ _ h)
theorem xCC {N : Nat} {a0 : Str} {r : (List Tok) × Int} (h : xEH N  a0 = some r) : AbC 23 (xBC a0) (xAG r) :=
 AbsCalls.of_reach fk23 rfl rfl (Nat.le_of_ble_eq_true rfl) (c23_e a0 r h)
noncomputable def I85 : Info := { body := (Tryz.f85.body).getD .skip, nt := 14, results := [.tmp 4], keep := [0, 2, 4, 8, 5], live := [], modes := [(1, [(3, .take, false)])] }
theorem fk85 : FnOk Tryz.prog 85 Tryz.f85 I85 := ⟨Tryz.func85, by kernel_rfl, by kernel_rfl, by kernel_rfl, by kernel_rfl⟩
theorem p85_e_0 (a0 : Tok) (a1 : Str) : rE I85 (xBl a0 a1) [Y] [] = dn (xAE (((Tok.text a0) : Str) == a1)) [(((Tok.kind a0) : Int) == 4) = true] := by kernel_rfl
theorem p85_e_1 (a0 : Tok) (a1 : Str) : rE I85 (xBl a0 a1) [F] [] = dn (xAE false) [(((Tok.kind a0) : Int) == 4) = false] := by kernel_rfl
theorem c85_e {N : Nat} : ∀ a0 a1 r, xC5 N a0 a1 = some r → RE Tryz.f85 I85 (xBl a0 a1) (xAE r) := fun a0 a1 r h =>
 cE h (fun h0 h => dE h fk85 (p85_e_0 a0 a1) (oc h0 on)) fun h0 h =>
 dE h fk85 (p85_e_1 a0 a1) (oc h0 on)
theorem xB1 {N : Nat} {a0 : Tok} {a1 : Str} {r : Bool} (h : xC5 N  a0 a1 = some r) : AbC 85 (xBl a0 a1) (xAE r) :=
 AbsCalls.of_reach fk85 rfl rfl (Nat.le_of_ble_eq_true rfl) (c85_e a0 a1 r h)
noncomputable def I86 : Info := { body := (Tryz.f86.body).getD .skip, nt := 14, results := [.tmp 4], keep := [0, 2, 4, 8, 5], live := [], modes := [(1, [(3, .take, false)])] }
theorem fk86 : FnOk Tryz.prog 86 Tryz.f86 I86 := ⟨Tryz.func86, by kernel_rfl, by kernel_rfl, by kernel_rfl, by kernel_rfl⟩
theorem p86_e_0 (a0 : Tok) (a1 : Str) : rE I86 (xEe a0 a1) [Y] [] = dn (xDN (((Tok.text a0) : Str) == a1)) [(((Tok.kind a0) : Int) == 1) = true] := by kernel_rfl
theorem p86_e_1 (a0 : Tok) (a1 : Str) : rE I86 (xEe a0 a1) [F] [] = dn (xDN false) [(((Tok.kind a0) : Int) == 1) = false] := by kernel_rfl
theorem c86_e {N : Nat} : ∀ a0 a1 r, xEM N a0 a1 = some r → RE Tryz.f86 I86 (xEe a0 a1) (xDN r) := fun a0 a1 r h =>
 cE h (fun h0 h => dE h fk86 (p86_e_0 a0 a1) (oc h0 on)) fun h0 h =>
 dE h fk86 (p86_e_1 a0 a1) (oc h0 on)
theorem spec_IsKeyword_ok {N : Nat} {a0 : Tok} {a1 : Str} {r : Bool} (h : xEM N  a0 a1 = some r) : AbC 86 (xEe a0 a1) (xDN r) :=
 AbsCalls.of_reach fk86 rfl rfl (Nat.le_of_ble_eq_true rfl) (c86_e a0 a1 r h)
noncomputable def I45 : Info := { body := (Tryz.f45.body).getD .skip, nt := 50, results := [.tmp 4], keep := [0, 2, 8, 1], live := [], modes := [(1, [(5, .take, false), (17, .take, false), (30, .take, false)])], ext := [0] }
theorem fk45 : FnOk Tryz.prog 45 Tryz.f45 I45 := ⟨Tryz.func45, by kernel_rfl, by kernel_rfl, by kernel_rfl, by kernel_rfl⟩
theorem p45_e_0 (a0 : Rdr) (a1 : Str) (r1 : Bool) : rE I45 (xAo a0 a1) [Y, Y, Y] [xAE r1] = dn (xAf (true, a0)) [(decide (((Rdr.bad a0) : Int) < 0)) = true, (decide (((Rdr.i a0) : Int) < (Ln (Rdr.toks a0) : Int))) = true, (0 : Int) ≤ (Rdr.i a0) ∧ (Rdr.i a0) < (Ln (Rdr.toks a0)), AbC 85 (xBl (gD (Rdr.toks a0) (tN (Rdr.i a0)) Ty.tok.dflt) a1) (xAE r1), r1 = true] := by kernel_rfl
theorem p45_e_1 (a0 : Rdr) (a1 : Str) (r1 r2 : Bool) : rE I45 (xAo a0 a1) [Y, Y, F] [xAE r1, xDN r2] = dn (xAf (r2, a0)) [(decide (((Rdr.bad a0) : Int) < 0)) = true, (decide (((Rdr.i a0) : Int) < (Ln (Rdr.toks a0) : Int))) = true, (0 : Int) ≤ (Rdr.i a0) ∧ (Rdr.i a0) < (Ln (Rdr.toks a0)), AbC 85 (xBl (gD (Rdr.toks a0) (tN (Rdr.i a0)) Ty.tok.dflt) a1) (xAE r1), r1 = false, (0 : Int) ≤ (Rdr.i a0) ∧ (Rdr.i a0) < (Ln (Rdr.toks a0)), AbC 86 (xEe (gD (Rdr.toks a0) (tN (Rdr.i a0)) Ty.tok.dflt) a1) (xDN r2)] := by kernel_rfl
theorem p45_e_2 (a0 : Rdr) (a1 : Str) : rE I45 (xAo a0 a1) [Y, F] [] = dn (xAf (false, a0)) [(decide (((Rdr.bad a0) : Int) < 0)) = true, (decide (((Rdr.i a0) : Int) < (Ln (Rdr.toks a0) : Int))) = false] := by kernel_rfl
theorem p45_e_3 (a0 : Rdr) (a1 : Str) : rE I45 (xAo a0 a1) [F, F] [] = dn (xAf (false, a0)) [(decide (((Rdr.bad a0) : Int) < 0)) = false, false = false] := by kernel_rfl
theorem c45_e {N : Nat} : ∀ a0 a1 r, xBx N a0 a1 = some r → RE Tryz.f45 I45 (xAo a0 a1) (xAf r) := fun a0 a1 r h =>
 cE h (fun h0 h => cE h (fun h1 h => iE h fun h2 h => bE h fun r1 h3 h => cE h (fun h4 h => dE h fk45 (p45_e_0 a0 a1 r1) (oc h0 (oc h1 (oc h2 (oc (xB1 h3) (oc h4 on)))))) fun h4 h =>
 bE h fun r2 h6 h => dE h fk45 (p45_e_1 a0 a1 r1 r2) (oc h0 (oc h1 (oc h2 (oc (xB1 h3) (oc h4 (oc h2 (oc (spec_IsKeyword_ok h6) on)))))))) fun h1 h =>
 dE h fk45 (p45_e_2 a0 a1) (oc h0 (oc h1 on))) fun h0 h =>
 dE h fk45 (p45_e_3 a0 a1) (oc h0 (oc rfl on))
theorem xAz {N : Nat} {a0 : Rdr} {a1 : Str} {r : Bool × Rdr} (h : xBx N  a0 a1 = some r) : AbC 45 (xAo a0 a1) (xAf r) :=
 AbsCalls.of_reach fk45 rfl rfl (Nat.le_of_ble_eq_true rfl) (c45_e a0 a1 r h)
noncomputable def I108 : Info := { body := (Tryz.f108.body).getD .skip, nt := 45, results := [.tmp 2], keep := [0, 4, 6, 8, 10, 18, 82], live := [(2, [0, 6])], modes := [(4, [(4, .take, false)]), (5, [(4, .take, false)]), (6, [(0, .take, false), (2, .take, false), (5, .take, false), (6, .take, false)])] }
theorem xGS : FnOk Tryz.prog 108 Tryz.f108 I108 := ⟨Tryz.func108, by kernel_rfl, by kernel_rfl, by kernel_rfl, by kernel_rfl⟩
def xE4 (x0 : Str) (x3 : Int) : St := [(0, .v false [.str x0]), (6, .v false [.int .i64 x3])]
theorem p108_2_0 (x0 : Str) (x3 : Int) : rS 2 I108 (xE4 x0 x3) [Y, Y, Y, Y, Y, Y] [] = dn (xBj false) [(decide ((x3 : Int) < (Ln x0 : Int))) = true, (0 : Int) ≤ x3 ∧ x3 < (Ln x0), (decide ((((gD x0 (tN x3) 0).toNat : Int) : Int) ≥ 97)) = true, (0 : Int) ≤ x3 ∧ x3 < (Ln x0), (0 : Int) ≤ x3 ∧ x3 < (Ln x0), (decide ((((gD x0 (tN x3) 0).toNat : Int) : Int) ≥ 48)) = true, (0 : Int) ≤ x3 ∧ x3 < (Ln x0), (!(decide ((((gD x0 (tN x3) 0).toNat : Int) : Int) ≤ 122))) = true, ((x3 : Int) == 0) = true, true = true] := by kernel_rfl
theorem p108_2_1 (x0 : Str) (x3 : Int) : rS 2 I108 (xE4 x0 x3) [Y, Y, Y, Y, F, Y] [] = dn (xBj false) [(decide ((x3 : Int) < (Ln x0 : Int))) = true, (0 : Int) ≤ x3 ∧ x3 < (Ln x0), (decide ((((gD x0 (tN x3) 0).toNat : Int) : Int) ≥ 97)) = true, (0 : Int) ≤ x3 ∧ x3 < (Ln x0), (0 : Int) ≤ x3 ∧ x3 < (Ln x0), (decide ((((gD x0 (tN x3) 0).toNat : Int) : Int) ≥ 48)) = true, (0 : Int) ≤ x3 ∧ x3 < (Ln x0), (!(decide ((((gD x0 (tN x3) 0).toNat : Int) : Int) ≤ 122))) = true, ((x3 : Int) == 0) = false, (!(decide ((((gD x0 (tN x3) 0).toNat : Int) : Int) ≤ 57))) = true] := by kernel_rfl
theorem p108_2_2 (x0 : Str) (x3 : Int) : rS 2 I108 (xE4 x0 x3) [Y, Y, Y, Y, F, F] [] = st 2 I108 (xE4 x0 (W (x3 + 1))) [(decide ((x3 : Int) < (Ln x0 : Int))) = true, (0 : Int) ≤ x3 ∧ x3 < (Ln x0), (decide ((((gD x0 (tN x3) 0).toNat : Int) : Int) ≥ 97)) = true, (0 : Int) ≤ x3 ∧ x3 < (Ln x0), (0 : Int) ≤ x3 ∧ x3 < (Ln x0), (decide ((((gD x0 (tN x3) 0).toNat : Int) : Int) ≥ 48)) = true, (0 : Int) ≤ x3 ∧ x3 < (Ln x0), (!(decide ((((gD x0 (tN x3) 0).toNat : Int) : Int) ≤ 122))) = true, ((x3 : Int) == 0) = false, (!(decide ((((gD x0 (tN x3) 0).toNat : Int) : Int) ≤ 57))) = false] := by kernel_rfl
theorem p108_2_3 (x0 : Str) (x3 : Int) : rS 2 I108 (xE4 x0 x3) [Y, Y, Y, F, F] [] = st 2 I108 (xE4 x0 (W (x3 + 1))) [(decide ((x3 : Int) < (Ln x0 : Int))) = true, (0 : Int) ≤ x3 ∧ x3 < (Ln x0), (decide ((((gD x0 (tN x3) 0).toNat : Int) : Int) ≥ 97)) = true, (0 : Int) ≤ x3 ∧ x3 < (Ln x0), (0 : Int) ≤ x3 ∧ x3 < (Ln x0), (decide ((((gD x0 (tN x3) 0).toNat : Int) : Int) ≥ 48)) = true, (0 : Int) ≤ x3 ∧ x3 < (Ln x0), (!(decide ((((gD x0 (tN x3) 0).toNat : Int) : Int) ≤ 122))) = false, false = false] := by kernel_rfl
theorem p108_2_4 (x0 : Str) (x3 : Int) : rS 2 I108 (xE4 x0 x3) [Y, Y, F, Y, Y, Y] [] = dn (xBj false) [(decide ((x3 : Int) < (Ln x0 : Int))) = true, (0 : Int) ≤ x3 ∧ x3 < (Ln x0), (decide ((((gD x0 (tN x3) 0).toNat : Int) : Int) ≥ 97)) = true, (0 : Int) ≤ x3 ∧ x3 < (Ln x0), (0 : Int) ≤ x3 ∧ x3 < (Ln x0), (decide ((((gD x0 (tN x3) 0).toNat : Int) : Int) ≥ 48)) = false, (!(decide ((((gD x0 (tN x3) 0).toNat : Int) : Int) ≤ 122))) = true, ((x3 : Int) == 0) = true, true = true] := by kernel_rfl
theorem p108_2_5 (x0 : Str) (x3 : Int) : rS 2 I108 (xE4 x0 x3) [Y, Y, F, Y, F, Y] [] = dn (xBj false) [(decide ((x3 : Int) < (Ln x0 : Int))) = true, (0 : Int) ≤ x3 ∧ x3 < (Ln x0), (decide ((((gD x0 (tN x3) 0).toNat : Int) : Int) ≥ 97)) = true, (0 : Int) ≤ x3 ∧ x3 < (Ln x0), (0 : Int) ≤ x3 ∧ x3 < (Ln x0), (decide ((((gD x0 (tN x3) 0).toNat : Int) : Int) ≥ 48)) = false, (!(decide ((((gD x0 (tN x3) 0).toNat : Int) : Int) ≤ 122))) = true, ((x3 : Int) == 0) = false, (!false) = true] := by kernel_rfl
theorem p108_2_6 (x0 : Str) (x3 : Int) : rS 2 I108 (xE4 x0 x3) [Y, Y, F, F, F] [] = st 2 I108 (xE4 x0 (W (x3 + 1))) [(decide ((x3 : Int) < (Ln x0 : Int))) = true, (0 : Int) ≤ x3 ∧ x3 < (Ln x0), (decide ((((gD x0 (tN x3) 0).toNat : Int) : Int) ≥ 97)) = true, (0 : Int) ≤ x3 ∧ x3 < (Ln x0), (0 : Int) ≤ x3 ∧ x3 < (Ln x0), (decide ((((gD x0 (tN x3) 0).toNat : Int) : Int) ≥ 48)) = false, (!(decide ((((gD x0 (tN x3) 0).toNat : Int) : Int) ≤ 122))) = false, false = false] := by kernel_rfl
theorem p108_2_7 (x0 : Str) (x3 : Int) : rS 2 I108 (xE4 x0 x3) [Y, F, Y, Y, Y, Y] [] = dn (xBj false) [(decide ((x3 : Int) < (Ln x0 : Int))) = true, (0 : Int) ≤ x3 ∧ x3 < (Ln x0), (decide ((((gD x0 (tN x3) 0).toNat : Int) : Int) ≥ 97)) = false, (0 : Int) ≤ x3 ∧ x3 < (Ln x0), (decide ((((gD x0 (tN x3) 0).toNat : Int) : Int) ≥ 48)) = true, (0 : Int) ≤ x3 ∧ x3 < (Ln x0), (!false) = true, ((x3 : Int) == 0) = true, true = true] := by kernel_rfl
theorem p108_2_8 (x0 : Str) (x3 : Int) : rS 2 I108 (xE4 x0 x3) [Y, F, Y, Y, F, Y] [] = dn (xBj false) [(decide ((x3 : Int) < (Ln x0 : Int))) = true, (0 : Int) ≤ x3 ∧ x3 < (Ln x0), (decide ((((gD x0 (tN x3) 0).toNat : Int) : Int) ≥ 97)) = false, (0 : Int) ≤ x3 ∧ x3 < (Ln x0), (decide ((((gD x0 (tN x3) 0).toNat : Int) : Int) ≥ 48)) = true, (0 : Int) ≤ x3 ∧ x3 < (Ln x0), (!false) = true, ((x3 : Int) == 0) = false, (!(decide ((((gD x0 (tN x3) 0).toNat : Int) : Int) ≤ 57))) = true] := by kernel_rfl
theorem p108_2_9 (x0 : Str) (x3 : Int) : rS 2 I108 (xE4 x0 x3) [Y, F, Y, Y, F, F] [] = st 2 I108 (xE4 x0 (W (x3 + 1))) [(decide ((x3 : Int) < (Ln x0 : Int))) = true, (0 : Int) ≤ x3 ∧ x3 < (Ln x0), (decide ((((gD x0 (tN x3) 0).toNat : Int) : Int) ≥ 97)) = false, (0 : Int) ≤ x3 ∧ x3 < (Ln x0), (decide ((((gD x0 (tN x3) 0).toNat : Int) : Int) ≥ 48)) = true, (0 : Int) ≤ x3 ∧ x3 < (Ln x0), (!false) = true, ((x3 : Int) == 0) = false, (!(decide ((((gD x0 (tN x3) 0).toNat : Int) : Int) ≤ 57))) = false] := by kernel_rfl
theorem p108_2_10 (x0 : Str) (x3 : Int) : rS 2 I108 (xE4 x0 x3) [Y, F, F, Y, Y, Y] [] = dn (xBj false) [(decide ((x3 : Int) < (Ln x0 : Int))) = true, (0 : Int) ≤ x3 ∧ x3 < (Ln x0), (decide ((((gD x0 (tN x3) 0).toNat : Int) : Int) ≥ 97)) = false, (0 : Int) ≤ x3 ∧ x3 < (Ln x0), (decide ((((gD x0 (tN x3) 0).toNat : Int) : Int) ≥ 48)) = false, (!false) = true, ((x3 : Int) == 0) = true, true = true] := by kernel_rfl
theorem p108_2_11 (x0 : Str) (x3 : Int) : rS 2 I108 (xE4 x0 x3) [Y, F, F, Y, F, Y] [] = dn (xBj false) [(decide ((x3 : Int) < (Ln x0 : Int))) = true, (0 : Int) ≤ x3 ∧ x3 < (Ln x0), (decide ((((gD x0 (tN x3) 0).toNat : Int) : Int) ≥ 97)) = false, (0 : Int) ≤ x3 ∧ x3 < (Ln x0), (decide ((((gD x0 (tN x3) 0).toNat : Int) : Int) ≥ 48)) = false, (!false) = true, ((x3 : Int) == 0) = false, (!false) = true] := by kernel_rfl
theorem p108_2_12 (x0 : Str) (x3 : Int) : rS 2 I108 (xE4 x0 x3) [F] [] = dn (xBj (decide (((Ln x0 : Int) : Int) > 0))) [(decide ((x3 : Int) < (Ln x0 : Int))) = false] := by kernel_rfl
theorem p108_e_13 (a0 : Str) : rE I108 (xEg a0) [] [] = st 2 I108 (xE4 a0 0) [] := by kernel_rfl
theorem c108_2 {N : Nat} : ∀ n x0 x3 r, xCR N n x0 x3 = some r → RS Tryz.f108 I108 2 (xE4 x0 x3) (xBj r) := by
 intro n
 induction n with
 | zero => exact fun _ _ _ h => nE h
 | succ n ih =>
  exact fun x0 x3 r h =>
   cE h (fun h0 h => iE h fun h1 h => cE h (fun h2 h => cE h (fun h5 h => cE h (fun h7 h => cE h (fun h8 h => dS h xGS (p108_2_0 x0 x3) (oc h0 (oc h1 (oc h2 (oc h1 (oc h1 (oc h5 (oc h1 (oc h7 (oc h8 (oc rfl on))))))))))) fun h8 h =>
   cE h (fun h9 h => dS h xGS (p108_2_1 x0 x3) (oc h0 (oc h1 (oc h2 (oc h1 (oc h1 (oc h5 (oc h1 (oc h7 (oc h8 (oc h9 on))))))))))) fun h9 h =>
   tS xGS (p108_2_2 x0 x3) (oc h0 (oc h1 (oc h2 (oc h1 (oc h1 (oc h5 (oc h1 (oc h7 (oc h8 (oc h9 on)))))))))) (ih _ _ _ h)) fun h7 h =>
   tS xGS (p108_2_3 x0 x3) (oc h0 (oc h1 (oc h2 (oc h1 (oc h1 (oc h5 (oc h1 (oc h7 (oc rfl on))))))))) (ih _ _ _ h)) fun h5 h =>
   cE h (fun h6 h => cE h (fun h7 h => dS h xGS (p108_2_4 x0 x3) (oc h0 (oc h1 (oc h2 (oc h1 (oc h1 (oc h5 (oc h6 (oc h7 (oc rfl on)))))))))) fun h7 h =>
   dS h xGS (p108_2_5 x0 x3) (oc h0 (oc h1 (oc h2 (oc h1 (oc h1 (oc h5 (oc h6 (oc h7 (oc rfl on)))))))))) fun h6 h =>
   tS xGS (p108_2_6 x0 x3) (oc h0 (oc h1 (oc h2 (oc h1 (oc h1 (oc h5 (oc h6 (oc rfl on)))))))) (ih _ _ _ h)) fun h2 h =>
   cE h (fun h4 h => cE h (fun h7 h => dS h xGS (p108_2_7 x0 x3) (oc h0 (oc h1 (oc h2 (oc h1 (oc h4 (oc h1 (oc rfl (oc h7 (oc rfl on)))))))))) fun h7 h =>
   cE h (fun h8 h => dS h xGS (p108_2_8 x0 x3) (oc h0 (oc h1 (oc h2 (oc h1 (oc h4 (oc h1 (oc rfl (oc h7 (oc h8 on)))))))))) fun h8 h =>
   tS xGS (p108_2_9 x0 x3) (oc h0 (oc h1 (oc h2 (oc h1 (oc h4 (oc h1 (oc rfl (oc h7 (oc h8 on))))))))) (ih _ _ _ h)) fun h4 h =>
   cE h (fun h6 h => dS h xGS (p108_2_10 x0 x3) (oc h0 (oc h1 (oc h2 (oc h1 (oc h4 (oc rfl (oc h6 (oc rfl on))))))))) fun h6 h =>
   dS h xGS (p108_2_11 x0 x3) (oc h0 (oc h1 (oc h2 (oc h1 (oc h4 (oc rfl (oc h6 (oc rfl on))))))))) fun h0 h =>
   dS h xGS (p108_2_12 x0 x3) (oc h0 on)
theorem c108_e {N : Nat} : ∀ a0 r, xFW N a0 = some r → RE Tryz.f108 I108 (xEg a0) (xBj r) := fun a0 r h =>
 tE xGS (p108_e_13 a0) on (c108_2 _ _ _ _ h)
theorem xFP {N : Nat} {a0 : Str} {r : Bool} (h : xFW N  a0 = some r) : AbC 108 (xEg a0) (xBj r) :=
 AbsCalls.of_reach xGS rfl rfl (Nat.le_of_ble_eq_true rfl) (c108_e a0 r h)
noncomputable def I126 : Info := { body := (Tryz.f126.body).getD .skip, nt := 2, results := [.tmp 0], keep := [0], live := [], modes := [] }
theorem fk126 : FnOk Tryz.prog 126 Tryz.f126 I126 := ⟨Tryz.func126, by kernel_rfl, by kernel_rfl, by kernel_rfl, by kernel_rfl⟩
theorem p126_e_0 : rE I126 (xEt ) [] [] = dn (xD7 [[108, 101, 116], [105, 110], [105, 102], [116, 104, 101, 110], [101, 108, 115, 101], [102, 111, 114], [100, 111], [108, 101, 110], [115, 117, 109], [116, 97, 107, 101], [115, 107, 105, 112], [114, 97, 110, 103, 101], [110, 116, 104], [119, 104, 101, 114, 101], [107, 101, 101, 112], [97, 100, 100], [103, 114, 111, 117, 112], [106, 111, 105, 110], [99, 111, 108, 117, 109, 110], [114, 111, 119, 115], [99, 108, 111, 99, 107], [99, 104, 97, 110, 99, 101], [102, 105, 108, 101], [116, 97, 98, 108, 101]]) [] := by kernel_rfl
theorem c126_e {N : Nat} : ∀ r, xFb N = some r → RE Tryz.f126 I126 (xEt ) (xD7 r) := fun r h =>
 dE h fk126 (p126_e_0) on
theorem spec_l2Reserved_ok {N : Nat} {r : (List Str)} (h : xFb N   = some r) : AbC 126 (xEt ) (xD7 r) :=
 AbsCalls.of_reach fk126 rfl rfl (Nat.le_of_ble_eq_true rfl) (c126_e  r h)
noncomputable def I125 : Info := { body := (Tryz.f125.body).getD .skip, nt := 18, results := [.tmp 4], keep := [0, 2, 8, 10, 18, 34], live := [(2, [0, 2, 10])], modes := [] }
theorem fk125 : FnOk Tryz.prog 125 Tryz.f125 I125 := ⟨Tryz.func125, by kernel_rfl, by kernel_rfl, by kernel_rfl, by kernel_rfl⟩
def S125_2 (x0 : List Str) (x1 : Str) (x5 : Int) : St := [(0, .v false [.sl .ro .str x0]), (2, .v false [.str x1]), (10, .v false [.int .i64 x5])]
theorem p125_2_0 (x0 : List Str) (x1 : Str) (x5 : Int) : rS 2 I125 (S125_2 x0 x1 x5) [Y, Y] [] = dn (xEo true) [(decide ((x5 : Int) < (Ln x0 : Int))) = true, (0 : Int) ≤ x5 ∧ x5 < (Ln x0), (((gD x0 (tN x5) Ty.str.dflt) : Str) == x1) = true] := by kernel_rfl
theorem p125_2_1 (x0 : List Str) (x1 : Str) (x5 : Int) : rS 2 I125 (S125_2 x0 x1 x5) [Y, F] [] = st 2 I125 (S125_2 x0 x1 (W (x5 + 1))) [(decide ((x5 : Int) < (Ln x0 : Int))) = true, (0 : Int) ≤ x5 ∧ x5 < (Ln x0), (((gD x0 (tN x5) Ty.str.dflt) : Str) == x1) = false] := by kernel_rfl
theorem p125_2_2 (x0 : List Str) (x1 : Str) (x5 : Int) : rS 2 I125 (S125_2 x0 x1 x5) [F] [] = dn (xEo false) [(decide ((x5 : Int) < (Ln x0 : Int))) = false] := by kernel_rfl
theorem p125_e_3 (a0 : List Str) (a1 : Str) : rE I125 (xFx a0 a1) [] [] = st 2 I125 (S125_2 a0 a1 0) [] := by kernel_rfl
theorem c125_2 {N : Nat} : ∀ n x0 x1 x5 r, xEn N n x0 x1 x5 = some r → RS Tryz.f125 I125 2 (S125_2 x0 x1 x5) (xEo r) := by
 intro n
 induction n with
 | zero => exact fun _ _ _ _ h => nE h
 | succ n ih =>
  exact fun x0 x1 x5 r h =>
   cE h (fun h0 h => iE h fun h1 h => cE h (fun h2 h => dS h fk125 (p125_2_0 x0 x1 x5) (oc h0 (oc h1 (oc h2 on)))) fun h2 h =>
   tS fk125 (p125_2_1 x0 x1 x5) (oc h0 (oc h1 (oc h2 on))) (ih _ _ _ _ h)) fun h0 h =>
   dS h fk125 (p125_2_2 x0 x1 x5) (oc h0 on)
theorem c125_e {N : Nat} : ∀ a0 a1 r, xGH N a0 a1 = some r → RE Tryz.f125 I125 (xFx a0 a1) (xEo r) := fun a0 a1 r h =>
 tE fk125 (p125_e_3 a0 a1) on (c125_2 _ _ _ _ _ h)
theorem spec_l1Has_ok {N : Nat} {a0 : List Str} {a1 : Str} {r : Bool} (h : xGH N  a0 a1 = some r) : AbC 125 (xFx a0 a1) (xEo r) :=
 AbsCalls.of_reach fk125 rfl rfl (Nat.le_of_ble_eq_true rfl) (c125_e a0 a1 r h)
noncomputable def I109 : Info := { body := (Tryz.f109.body).getD .skip, nt := 6, results := [.tmp 2], keep := [0, 4], live := [], modes := [] }
theorem fk109 : FnOk Tryz.prog 109 Tryz.f109 I109 := ⟨Tryz.func109, by kernel_rfl, by kernel_rfl, by kernel_rfl, by kernel_rfl⟩
theorem p109_e_0 (a0 : Str) (r1 : (List Str)) (r2 : Bool) : rE I109 (xEs a0) [] [xD7 r1, xEo r2] = dn (xD5 r2) [AbC 126 xEt (xD7 r1), AbC 125 (xFx r1 a0) (xEo r2)] := by kernel_rfl
theorem c109_e {N : Nat} : ∀ a0 r, xEy N a0 = some r → RE Tryz.f109 I109 (xEs a0) (xD5 r) := fun a0 r h =>
 bE h fun r1 h0 h => bE h fun r2 h1 h => dE h fk109 (p109_e_0 a0 r1 r2) (oc (spec_l2Reserved_ok h0) (oc (spec_l1Has_ok h1) on))
theorem spec_IsReserved_ok {N : Nat} {a0 : Str} {r : Bool} (h : xEy N  a0 = some r) : AbC 109 (xEs a0) (xD5 r) :=
 AbsCalls.of_reach fk109 rfl rfl (Nat.le_of_ble_eq_true rfl) (c109_e a0 r h)
noncomputable def I87 : Info := { body := (Tryz.f87.body).getD .skip, nt := 15, results := [.tmp 2], keep := [0, 4], live := [], modes := [(1, [(2, .take, false), (7, .take, false)])] }
theorem fk87 : FnOk Tryz.prog 87 Tryz.f87 I87 := ⟨Tryz.func87, by kernel_rfl, by kernel_rfl, by kernel_rfl, by kernel_rfl⟩
theorem p87_e_0 (a0 : Str) (r1 r2 : Bool) : rE I87 (xA7 a0) [Y, Y] [xBj r1, xD5 r2] = dn (xAB (!r2)) [AbC 108 (xEg a0) (xBj r1), r1 = true, (decide (((Ln a0 : Int) : Int) ≤ 8)) = true, AbC 109 (xEs a0) (xD5 r2)] := by kernel_rfl
theorem p87_e_1 (a0 : Str) (r1 : Bool) : rE I87 (xA7 a0) [Y, F] [xBj r1] = dn (xAB false) [AbC 108 (xEg a0) (xBj r1), r1 = true, (decide (((Ln a0 : Int) : Int) ≤ 8)) = false] := by kernel_rfl
theorem p87_e_2 (a0 : Str) (r1 : Bool) : rE I87 (xA7 a0) [F, F] [xBj r1] = dn (xAB false) [AbC 108 (xEg a0) (xBj r1), r1 = false, false = false] := by kernel_rfl
theorem c87_e {N : Nat} : ∀ a0 r, xCX N a0 = some r → RE Tryz.f87 I87 (xA7 a0) (xAB r) := fun a0 r h =>
 bE h fun r1 h0 h => cE h (fun h1 h => cE h (fun h2 h => bE h fun r2 h3 h => dE h fk87 (p87_e_0 a0 r1 r2) (oc (xFP h0) (oc h1 (oc h2 (oc (spec_IsReserved_ok h3) on))))) fun h2 h =>
 dE h fk87 (p87_e_1 a0 r1) (oc (xFP h0) (oc h1 (oc h2 on)))) fun h1 h =>
 dE h fk87 (p87_e_2 a0 r1) (oc (xFP h0) (oc h1 (oc rfl on)))
theorem xBS {N : Nat} {a0 : Str} {r : Bool} (h : xCX N  a0 = some r) : AbC 87 (xA7 a0) (xAB r) :=
 AbsCalls.of_reach fk87 rfl rfl (Nat.le_of_ble_eq_true rfl) (c87_e a0 r h)
noncomputable def I29 : Info := { body := (Tryz.f29.body).getD .skip, nt := 40, results := [.cell 2 25], keep := [0, 4, 14, 48, 1, 5], live := [], modes := [], ext := [0] }
theorem fk29 : FnOk Tryz.prog 29 Tryz.f29 I29 := ⟨Tryz.func29, by kernel_rfl, by kernel_rfl, by kernel_rfl, by kernel_rfl⟩
theorem p29_e_0 (a0 : Rdr) : rE I29 (xBp a0) [Y, Y] [] = dn (xAH ((Exp.mk 0 0 [] []), (Rdr.mk (Rdr.toks a0) (Rdr.i a0) (Rdr.fin a0) (Tok.pos (gD (Rdr.toks a0) (tN (Rdr.i a0)) Ty.tok.dflt))))) [(decide (((Rdr.bad a0) : Int) < 0)) = true, (decide (((Rdr.i a0) : Int) < (Ln (Rdr.toks a0) : Int))) = true, (0 : Int) ≤ (Rdr.i a0) ∧ (Rdr.i a0) < (Ln (Rdr.toks a0))] := by kernel_rfl
theorem p29_e_1 (a0 : Rdr) : rE I29 (xBp a0) [Y, F] [] = dn (xAH ((Exp.mk 0 0 [] []), (Rdr.mk (Rdr.toks a0) (Rdr.i a0) (Rdr.fin a0) (Rdr.fin a0)))) [(decide (((Rdr.bad a0) : Int) < 0)) = true, (decide (((Rdr.i a0) : Int) < (Ln (Rdr.toks a0) : Int))) = false] := by kernel_rfl
theorem p29_e_2 (a0 : Rdr) : rE I29 (xBp a0) [F] [] = dn (xAH ((Exp.mk 0 0 [] []), a0)) [(decide (((Rdr.bad a0) : Int) < 0)) = false] := by kernel_rfl
theorem c29_e {N : Nat} : ∀ a0 r, xBP N a0 = some r → RE Tryz.f29 I29 (xBp a0) (xAH r) := fun a0 r h =>
 cE h (fun h0 h => cE h (fun h1 h => iE h fun h2 h => dE h fk29 (p29_e_0 a0) (oc h0 (oc h1 (oc h2 on)))) fun h1 h =>
 dE h fk29 (p29_e_1 a0) (oc h0 (oc h1 on))) fun h0 h =>
 dE h fk29 (p29_e_2 a0) (oc h0 on)
theorem xCe {N : Nat} {a0 : Rdr} {r : Exp × Rdr} (h : xBP N  a0 = some r) : AbC 29 (xBp a0) (xAH r) :=
 AbsCalls.of_reach fk29 rfl rfl (Nat.le_of_ble_eq_true rfl) (c29_e a0 r h)
noncomputable def I46 : Info := { body := (Tryz.f46.body).getD .skip, nt := 71, results := [.tmp 2], keep := [0, 4, 96, 1], live := [], modes := [(1, [(5, .take, false), (17, .take, false), (31, .take, false)])], ext := [0] }
theorem fk46 : FnOk Tryz.prog 46 Tryz.f46 I46 := ⟨Tryz.func46, by kernel_rfl, by kernel_rfl, by kernel_rfl, by kernel_rfl⟩
theorem p46_e_0 (a0 : Rdr) (r1 : Exp × Rdr) : rE I46 (xC9 a0) [Y, Y, Y, Y] [xAH r1] = dn (xCy ([], r1.2)) [(decide (((Rdr.bad a0) : Int) ≥ 0)) = true, true = true, true = true, true = true, AbC 29 (xBp a0) (xAH r1)] := by kernel_rfl
theorem p46_e_1 (a0 : Rdr) (r1 : Exp × Rdr) : rE I46 (xC9 a0) [F, Y, Y, Y] [xAH r1] = dn (xCy ([], r1.2)) [(decide (((Rdr.bad a0) : Int) ≥ 0)) = false, (decide (((Rdr.i a0) : Int) ≥ (Ln (Rdr.toks a0) : Int))) = true, true = true, true = true, AbC 29 (xBp a0) (xAH r1)] := by kernel_rfl
theorem p46_e_2 (a0 : Rdr) (r1 : Exp × Rdr) : rE I46 (xC9 a0) [F, F, Y, Y] [xAH r1] = dn (xCy ([], r1.2)) [(decide (((Rdr.bad a0) : Int) ≥ 0)) = false, (decide (((Rdr.i a0) : Int) ≥ (Ln (Rdr.toks a0) : Int))) = false, (0 : Int) ≤ (Rdr.i a0) ∧ (Rdr.i a0) < (Ln (Rdr.toks a0)), (((Tok.kind (gD (Rdr.toks a0) (tN (Rdr.i a0)) Ty.tok.dflt)) : Int) != 1) = true, true = true, AbC 29 (xBp a0) (xAH r1)] := by kernel_rfl
theorem p46_e_3 (a0 : Rdr) (r1 : Bool) (r2 : Exp × Rdr) : rE I46 (xC9 a0) [F, F, F, Y] [xAB r1, xAH r2] = dn (xCy ([], r2.2)) [(decide (((Rdr.bad a0) : Int) ≥ 0)) = false, (decide (((Rdr.i a0) : Int) ≥ (Ln (Rdr.toks a0) : Int))) = false, (0 : Int) ≤ (Rdr.i a0) ∧ (Rdr.i a0) < (Ln (Rdr.toks a0)), (((Tok.kind (gD (Rdr.toks a0) (tN (Rdr.i a0)) Ty.tok.dflt)) : Int) != 1) = false, (0 : Int) ≤ (Rdr.i a0) ∧ (Rdr.i a0) < (Ln (Rdr.toks a0)), AbC 87 (xA7 (Tok.text (gD (Rdr.toks a0) (tN (Rdr.i a0)) Ty.tok.dflt))) (xAB r1), (!r1) = true, AbC 29 (xBp a0) (xAH r2)] := by kernel_rfl
theorem p46_e_4 (a0 : Rdr) (r1 : Bool) : rE I46 (xC9 a0) [F, F, F, F] [xAB r1] = dn (xCy ((Tok.text (gD (Rdr.toks a0) (tN (W ((W ((Rdr.i a0) + 1)) - 1))) Ty.tok.dflt)), (Rdr.mk (Rdr.toks a0) (W ((Rdr.i a0) + 1)) (Rdr.fin a0) (Rdr.bad a0)))) [(decide (((Rdr.bad a0) : Int) ≥ 0)) = false, (decide (((Rdr.i a0) : Int) ≥ (Ln (Rdr.toks a0) : Int))) = false, (0 : Int) ≤ (Rdr.i a0) ∧ (Rdr.i a0) < (Ln (Rdr.toks a0)), (((Tok.kind (gD (Rdr.toks a0) (tN (Rdr.i a0)) Ty.tok.dflt)) : Int) != 1) = false, (0 : Int) ≤ (Rdr.i a0) ∧ (Rdr.i a0) < (Ln (Rdr.toks a0)), AbC 87 (xA7 (Tok.text (gD (Rdr.toks a0) (tN (Rdr.i a0)) Ty.tok.dflt))) (xAB r1), (!r1) = false, (0 : Int) ≤ (W ((W ((Rdr.i a0) + 1)) - 1)) ∧ (W ((W ((Rdr.i a0) + 1)) - 1)) < (Ln (Rdr.toks a0))] := by kernel_rfl
theorem c46_e {N : Nat} : ∀ a0 r, xDf N a0 = some r → RE Tryz.f46 I46 (xC9 a0) (xCy r) := fun a0 r h =>
 cE h (fun h0 h => bE h fun r1 h4 h => dE h fk46 (p46_e_0 a0 r1) (oc h0 (oc rfl (oc rfl (oc rfl (oc (xCe h4) on)))))) fun h0 h =>
 cE h (fun h1 h => bE h fun r1 h4 h => dE h fk46 (p46_e_1 a0 r1) (oc h0 (oc h1 (oc rfl (oc rfl (oc (xCe h4) on)))))) fun h1 h =>
 iE h fun h2 h => cE h (fun h3 h => bE h fun r1 h5 h => dE h fk46 (p46_e_2 a0 r1) (oc h0 (oc h1 (oc h2 (oc h3 (oc rfl (oc (xCe h5) on))))))) fun h3 h =>
 bE h fun r1 h5 h => cE h (fun h6 h => bE h fun r2 h7 h => dE h fk46 (p46_e_3 a0 r1 r2) (oc h0 (oc h1 (oc h2 (oc h3 (oc h2 (oc (xBS h5) (oc h6 (oc (xCe h7) on))))))))) fun h6 h =>
 iE h fun h7 h => dE h fk46 (p46_e_4 a0 r1) (oc h0 (oc h1 (oc h2 (oc h3 (oc h2 (oc (xBS h5) (oc h6 (oc h7 on))))))))
theorem xGE {N : Nat} {a0 : Rdr} {r : Str × Rdr} (h : xDf N  a0 = some r) : AbC 46 (xC9 a0) (xCy r) :=
 AbsCalls.of_reach fk46 rfl rfl (Nat.le_of_ble_eq_true rfl) (c46_e a0 r h)
noncomputable def I47 : Info := { body := (Tryz.f47.body).getD .skip, nt := 18, results := [], keep := [0, 2, 14, 1], live := [], modes := [], ext := [0] }
theorem fk47 : FnOk Tryz.prog 47 Tryz.f47 I47 := ⟨Tryz.func47, by kernel_rfl, by kernel_rfl, by kernel_rfl, by kernel_rfl⟩
theorem p47_e_0 (a0 : Rdr) (a1 : Str) (r1 : Bool × Rdr) (r2 : Exp × Rdr) : rE I47 (xBG a0 a1) [Y] [xAf r1, xAH r2] = dn (xAN r2.2) [AbC 45 (xAo a0 a1) (xAf r1), (!r1.1) = true, AbC 29 (xBp r1.2) (xAH r2)] := by kernel_rfl
theorem p47_e_1 (a0 : Rdr) (a1 : Str) (r1 : Bool × Rdr) : rE I47 (xBG a0 a1) [F] [xAf r1] = dn (xAN (Rdr.mk (Rdr.toks r1.2) (W ((Rdr.i r1.2) + 1)) (Rdr.fin r1.2) (Rdr.bad r1.2))) [AbC 45 (xAo a0 a1) (xAf r1), (!r1.1) = false] := by kernel_rfl
theorem c47_e {N : Nat} : ∀ a0 a1 r, xBv N a0 a1 = some r → RE Tryz.f47 I47 (xBG a0 a1) (xAN r) := fun a0 a1 r h =>
 bE h fun r1 h0 h => cE h (fun h1 h => bE h fun r2 h2 h => dE h fk47 (p47_e_0 a0 a1 r1 r2) (oc (xAz h0) (oc h1 (oc (xCe h2) on)))) fun h1 h =>
 dE h fk47 (p47_e_1 a0 a1 r1) (oc (xAz h0) (oc h1 on))
theorem xCz {N : Nat} {a0 : Rdr} {a1 : Str} {r : Rdr} (h : xBv N  a0 a1 = some r) : AbC 47 (xBG a0 a1) (xAN r) :=
 AbsCalls.of_reach fk47 rfl rfl (Nat.le_of_ble_eq_true rfl) (c47_e a0 a1 r h)
noncomputable def I67 : Info := { body := (Tryz.f67.body).getD .skip, nt := 5, results := [.cell 2 25], keep := [0, 4, 5], live := [], modes := [] }
theorem fk67 : FnOk Tryz.prog 67 Tryz.f67 I67 := ⟨Tryz.func67, by kernel_rfl, by kernel_rfl, by kernel_rfl, by kernel_rfl⟩
theorem p67_e_0 (a0 : Int) : rE I67 (xFj a0) [] [] = dn (xEN (Exp.mk 1 a0 [] [])) [] := by kernel_rfl
theorem c67_e {N : Nat} : ∀ a0 r, xG1 N a0 = some r → RE Tryz.f67 I67 (xFj a0) (xEN r) := fun a0 r h =>
 dE h fk67 (p67_e_0 a0) on
theorem spec_l10Num_ok {N : Nat} {a0 : Int} {r : Exp} (h : xG1 N  a0 = some r) : AbC 67 (xFj a0) (xEN r) :=
 AbsCalls.of_reach fk67 rfl rfl (Nat.le_of_ble_eq_true rfl) (c67_e a0 r h)
noncomputable def I101 : Info := { body := (Tryz.f101.body).getD .skip, nt := 5, results := [.cell 2 25], keep := [0, 4, 5], live := [], modes := [] }
theorem fk101 : FnOk Tryz.prog 101 Tryz.f101 I101 := ⟨Tryz.func101, by kernel_rfl, by kernel_rfl, by kernel_rfl, by kernel_rfl⟩
theorem p101_e_0 (a0 : Str) : rE I101 (xE9 a0) [] [] = dn (xEA (Exp.mk 3 0 a0 [])) [] := by kernel_rfl
theorem c101_e {N : Nat} : ∀ a0 r, xGD N a0 = some r → RE Tryz.f101 I101 (xE9 a0) (xEA r) := fun a0 r h =>
 dE h fk101 (p101_e_0 a0) on
theorem spec_l10Name_ok {N : Nat} {a0 : Str} {r : Exp} (h : xGD N  a0 = some r) : AbC 101 (xE9 a0) (xEA r) :=
 AbsCalls.of_reach fk101 rfl rfl (Nat.le_of_ble_eq_true rfl) (c101_e a0 r h)
noncomputable def I106 : Info := { body := (Tryz.f106.body).getD .skip, nt := 26, results := [.tmp 2], keep := [0, 4, 6, 8, 12, 24, 40, 48], live := [], modes := [] }
theorem xGf : FnOk Tryz.prog 106 Tryz.f106 I106 := ⟨Tryz.func106, by kernel_rfl, by kernel_rfl, by kernel_rfl, by kernel_rfl⟩
theorem p106_e_0 (a0 : Str) : rE I106 (xAr a0) [Y] [] = dn (xAk 0) [((a0 : Str) == [99, 108, 111, 99, 107]) = true] := by kernel_rfl
theorem p106_e_1 (a0 : Str) : rE I106 (xAr a0) [F, Y, Y] [] = dn (xAk 1) [((a0 : Str) == [99, 108, 111, 99, 107]) = false, ((a0 : Str) == [108, 101, 110]) = true, ((a0 : Str) == [108, 101, 110]) = true] := by kernel_rfl
theorem p106_e_2 (a0 : Str) : rE I106 (xAr a0) [F, F, Y, Y] [] = dn (xAk 1) [((a0 : Str) == [99, 108, 111, 99, 107]) = false, ((a0 : Str) == [108, 101, 110]) = false, ((a0 : Str) == [115, 117, 109]) = true, ((a0 : Str) == [115, 117, 109]) = true] := by kernel_rfl
theorem p106_e_3 (a0 : Str) : rE I106 (xAr a0) [F, F, F, Y, Y] [] = dn (xAk 1) [((a0 : Str) == [99, 108, 111, 99, 107]) = false, ((a0 : Str) == [108, 101, 110]) = false, ((a0 : Str) == [115, 117, 109]) = false, ((a0 : Str) == [114, 111, 119, 115]) = true, ((a0 : Str) == [114, 111, 119, 115]) = true] := by kernel_rfl
theorem p106_e_4 (a0 : Str) : rE I106 (xAr a0) [F, F, F, F, Y, Y] [] = dn (xAk 1) [((a0 : Str) == [99, 108, 111, 99, 107]) = false, ((a0 : Str) == [108, 101, 110]) = false, ((a0 : Str) == [115, 117, 109]) = false, ((a0 : Str) == [114, 111, 119, 115]) = false, ((a0 : Str) == [99, 104, 97, 110, 99, 101]) = true, ((a0 : Str) == [99, 104, 97, 110, 99, 101]) = true] := by kernel_rfl
theorem p106_e_5 (a0 : Str) : rE I106 (xAr a0) [F, F, F, F, F, Y] [] = dn (xAk 1) [((a0 : Str) == [99, 108, 111, 99, 107]) = false, ((a0 : Str) == [108, 101, 110]) = false, ((a0 : Str) == [115, 117, 109]) = false, ((a0 : Str) == [114, 111, 119, 115]) = false, ((a0 : Str) == [99, 104, 97, 110, 99, 101]) = false, ((a0 : Str) == [102, 105, 108, 101]) = true] := by kernel_rfl
theorem p106_e_6 (a0 : Str) : rE I106 (xAr a0) [F, F, F, F, F, F, Y, Y] [] = dn (xAk 2) [((a0 : Str) == [99, 108, 111, 99, 107]) = false, ((a0 : Str) == [108, 101, 110]) = false, ((a0 : Str) == [115, 117, 109]) = false, ((a0 : Str) == [114, 111, 119, 115]) = false, ((a0 : Str) == [99, 104, 97, 110, 99, 101]) = false, ((a0 : Str) == [102, 105, 108, 101]) = false, ((a0 : Str) == [116, 97, 107, 101]) = true, ((a0 : Str) == [116, 97, 107, 101]) = true] := by kernel_rfl
theorem p106_e_7 (a0 : Str) : rE I106 (xAr a0) [F, F, F, F, F, F, F, Y, Y] [] = dn (xAk 2) [((a0 : Str) == [99, 108, 111, 99, 107]) = false, ((a0 : Str) == [108, 101, 110]) = false, ((a0 : Str) == [115, 117, 109]) = false, ((a0 : Str) == [114, 111, 119, 115]) = false, ((a0 : Str) == [99, 104, 97, 110, 99, 101]) = false, ((a0 : Str) == [102, 105, 108, 101]) = false, ((a0 : Str) == [116, 97, 107, 101]) = false, ((a0 : Str) == [115, 107, 105, 112]) = true, ((a0 : Str) == [115, 107, 105, 112]) = true] := by kernel_rfl
theorem p106_e_8 (a0 : Str) : rE I106 (xAr a0) [F, F, F, F, F, F, F, F, Y, Y] [] = dn (xAk 2) [((a0 : Str) == [99, 108, 111, 99, 107]) = false, ((a0 : Str) == [108, 101, 110]) = false, ((a0 : Str) == [115, 117, 109]) = false, ((a0 : Str) == [114, 111, 119, 115]) = false, ((a0 : Str) == [99, 104, 97, 110, 99, 101]) = false, ((a0 : Str) == [102, 105, 108, 101]) = false, ((a0 : Str) == [116, 97, 107, 101]) = false, ((a0 : Str) == [115, 107, 105, 112]) = false, ((a0 : Str) == [114, 97, 110, 103, 101]) = true, ((a0 : Str) == [114, 97, 110, 103, 101]) = true] := by kernel_rfl
theorem p106_e_9 (a0 : Str) : rE I106 (xAr a0) [F, F, F, F, F, F, F, F, F, Y, Y] [] = dn (xAk 2) [((a0 : Str) == [99, 108, 111, 99, 107]) = false, ((a0 : Str) == [108, 101, 110]) = false, ((a0 : Str) == [115, 117, 109]) = false, ((a0 : Str) == [114, 111, 119, 115]) = false, ((a0 : Str) == [99, 104, 97, 110, 99, 101]) = false, ((a0 : Str) == [102, 105, 108, 101]) = false, ((a0 : Str) == [116, 97, 107, 101]) = false, ((a0 : Str) == [115, 107, 105, 112]) = false, ((a0 : Str) == [114, 97, 110, 103, 101]) = false, ((a0 : Str) == [110, 116, 104]) = true, ((a0 : Str) == [110, 116, 104]) = true] := by kernel_rfl
theorem p106_e_10 (a0 : Str) : rE I106 (xAr a0) [F, F, F, F, F, F, F, F, F, F, Y, Y] [] = dn (xAk 2) [((a0 : Str) == [99, 108, 111, 99, 107]) = false, ((a0 : Str) == [108, 101, 110]) = false, ((a0 : Str) == [115, 117, 109]) = false, ((a0 : Str) == [114, 111, 119, 115]) = false, ((a0 : Str) == [99, 104, 97, 110, 99, 101]) = false, ((a0 : Str) == [102, 105, 108, 101]) = false, ((a0 : Str) == [116, 97, 107, 101]) = false, ((a0 : Str) == [115, 107, 105, 112]) = false, ((a0 : Str) == [114, 97, 110, 103, 101]) = false, ((a0 : Str) == [110, 116, 104]) = false, ((a0 : Str) == [107, 101, 101, 112]) = true, ((a0 : Str) == [107, 101, 101, 112]) = true] := by kernel_rfl
theorem p106_e_11 (a0 : Str) : rE I106 (xAr a0) [F, F, F, F, F, F, F, F, F, F, F, Y, Y] [] = dn (xAk 2) [((a0 : Str) == [99, 108, 111, 99, 107]) = false, ((a0 : Str) == [108, 101, 110]) = false, ((a0 : Str) == [115, 117, 109]) = false, ((a0 : Str) == [114, 111, 119, 115]) = false, ((a0 : Str) == [99, 104, 97, 110, 99, 101]) = false, ((a0 : Str) == [102, 105, 108, 101]) = false, ((a0 : Str) == [116, 97, 107, 101]) = false, ((a0 : Str) == [115, 107, 105, 112]) = false, ((a0 : Str) == [114, 97, 110, 103, 101]) = false, ((a0 : Str) == [110, 116, 104]) = false, ((a0 : Str) == [107, 101, 101, 112]) = false, ((a0 : Str) == [99, 111, 108, 117, 109, 110]) = true, ((a0 : Str) == [99, 111, 108, 117, 109, 110]) = true] := by kernel_rfl
theorem p106_e_12 (a0 : Str) : rE I106 (xAr a0) [F, F, F, F, F, F, F, F, F, F, F, F, Y] [] = dn (xAk 2) [((a0 : Str) == [99, 108, 111, 99, 107]) = false, ((a0 : Str) == [108, 101, 110]) = false, ((a0 : Str) == [115, 117, 109]) = false, ((a0 : Str) == [114, 111, 119, 115]) = false, ((a0 : Str) == [99, 104, 97, 110, 99, 101]) = false, ((a0 : Str) == [102, 105, 108, 101]) = false, ((a0 : Str) == [116, 97, 107, 101]) = false, ((a0 : Str) == [115, 107, 105, 112]) = false, ((a0 : Str) == [114, 97, 110, 103, 101]) = false, ((a0 : Str) == [110, 116, 104]) = false, ((a0 : Str) == [107, 101, 101, 112]) = false, ((a0 : Str) == [99, 111, 108, 117, 109, 110]) = false, ((a0 : Str) == [116, 97, 98, 108, 101]) = true] := by kernel_rfl
theorem p106_e_13 (a0 : Str) : rE I106 (xAr a0) [F, F, F, F, F, F, F, F, F, F, F, F, F, Y, Y] [] = dn (xAk 3) [((a0 : Str) == [99, 108, 111, 99, 107]) = false, ((a0 : Str) == [108, 101, 110]) = false, ((a0 : Str) == [115, 117, 109]) = false, ((a0 : Str) == [114, 111, 119, 115]) = false, ((a0 : Str) == [99, 104, 97, 110, 99, 101]) = false, ((a0 : Str) == [102, 105, 108, 101]) = false, ((a0 : Str) == [116, 97, 107, 101]) = false, ((a0 : Str) == [115, 107, 105, 112]) = false, ((a0 : Str) == [114, 97, 110, 103, 101]) = false, ((a0 : Str) == [110, 116, 104]) = false, ((a0 : Str) == [107, 101, 101, 112]) = false, ((a0 : Str) == [99, 111, 108, 117, 109, 110]) = false, ((a0 : Str) == [116, 97, 98, 108, 101]) = false, ((a0 : Str) == [119, 104, 101, 114, 101]) = true, ((a0 : Str) == [119, 104, 101, 114, 101]) = true] := by kernel_rfl
theorem p106_e_14 (a0 : Str) : rE I106 (xAr a0) [F, F, F, F, F, F, F, F, F, F, F, F, F, F, Y, Y] [] = dn (xAk 3) [((a0 : Str) == [99, 108, 111, 99, 107]) = false, ((a0 : Str) == [108, 101, 110]) = false, ((a0 : Str) == [115, 117, 109]) = false, ((a0 : Str) == [114, 111, 119, 115]) = false, ((a0 : Str) == [99, 104, 97, 110, 99, 101]) = false, ((a0 : Str) == [102, 105, 108, 101]) = false, ((a0 : Str) == [116, 97, 107, 101]) = false, ((a0 : Str) == [115, 107, 105, 112]) = false, ((a0 : Str) == [114, 97, 110, 103, 101]) = false, ((a0 : Str) == [110, 116, 104]) = false, ((a0 : Str) == [107, 101, 101, 112]) = false, ((a0 : Str) == [99, 111, 108, 117, 109, 110]) = false, ((a0 : Str) == [116, 97, 98, 108, 101]) = false, ((a0 : Str) == [119, 104, 101, 114, 101]) = false, ((a0 : Str) == [103, 114, 111, 117, 112]) = true, ((a0 : Str) == [103, 114, 111, 117, 112]) = true] := by kernel_rfl
theorem p106_e_15 (a0 : Str) : rE I106 (xAr a0) [F, F, F, F, F, F, F, F, F, F, F, F, F, F, F, Y] [] = dn (xAk 3) [((a0 : Str) == [99, 108, 111, 99, 107]) = false, ((a0 : Str) == [108, 101, 110]) = false, ((a0 : Str) == [115, 117, 109]) = false, ((a0 : Str) == [114, 111, 119, 115]) = false, ((a0 : Str) == [99, 104, 97, 110, 99, 101]) = false, ((a0 : Str) == [102, 105, 108, 101]) = false, ((a0 : Str) == [116, 97, 107, 101]) = false, ((a0 : Str) == [115, 107, 105, 112]) = false, ((a0 : Str) == [114, 97, 110, 103, 101]) = false, ((a0 : Str) == [110, 116, 104]) = false, ((a0 : Str) == [107, 101, 101, 112]) = false, ((a0 : Str) == [99, 111, 108, 117, 109, 110]) = false, ((a0 : Str) == [116, 97, 98, 108, 101]) = false, ((a0 : Str) == [119, 104, 101, 114, 101]) = false, ((a0 : Str) == [103, 114, 111, 117, 112]) = false, ((a0 : Str) == [106, 111, 105, 110]) = true] := by kernel_rfl
theorem p106_e_16 (a0 : Str) : rE I106 (xAr a0) [F, F, F, F, F, F, F, F, F, F, F, F, F, F, F, F, Y] [] = dn (xAk 4) [((a0 : Str) == [99, 108, 111, 99, 107]) = false, ((a0 : Str) == [108, 101, 110]) = false, ((a0 : Str) == [115, 117, 109]) = false, ((a0 : Str) == [114, 111, 119, 115]) = false, ((a0 : Str) == [99, 104, 97, 110, 99, 101]) = false, ((a0 : Str) == [102, 105, 108, 101]) = false, ((a0 : Str) == [116, 97, 107, 101]) = false, ((a0 : Str) == [115, 107, 105, 112]) = false, ((a0 : Str) == [114, 97, 110, 103, 101]) = false, ((a0 : Str) == [110, 116, 104]) = false, ((a0 : Str) == [107, 101, 101, 112]) = false, ((a0 : Str) == [99, 111, 108, 117, 109, 110]) = false, ((a0 : Str) == [116, 97, 98, 108, 101]) = false, ((a0 : Str) == [119, 104, 101, 114, 101]) = false, ((a0 : Str) == [103, 114, 111, 117, 112]) = false, ((a0 : Str) == [106, 111, 105, 110]) = false, ((a0 : Str) == [97, 100, 100]) = true] := by kernel_rfl
theorem p106_e_17 (a0 : Str) : rE I106 (xAr a0) [F, F, F, F, F, F, F, F, F, F, F, F, F, F, F, F, F] [] = dn (xAk (-1)) [((a0 : Str) == [99, 108, 111, 99, 107]) = false, ((a0 : Str) == [108, 101, 110]) = false, ((a0 : Str) == [115, 117, 109]) = false, ((a0 : Str) == [114, 111, 119, 115]) = false, ((a0 : Str) == [99, 104, 97, 110, 99, 101]) = false, ((a0 : Str) == [102, 105, 108, 101]) = false, ((a0 : Str) == [116, 97, 107, 101]) = false, ((a0 : Str) == [115, 107, 105, 112]) = false, ((a0 : Str) == [114, 97, 110, 103, 101]) = false, ((a0 : Str) == [110, 116, 104]) = false, ((a0 : Str) == [107, 101, 101, 112]) = false, ((a0 : Str) == [99, 111, 108, 117, 109, 110]) = false, ((a0 : Str) == [116, 97, 98, 108, 101]) = false, ((a0 : Str) == [119, 104, 101, 114, 101]) = false, ((a0 : Str) == [103, 114, 111, 117, 112]) = false, ((a0 : Str) == [106, 111, 105, 110]) = false, ((a0 : Str) == [97, 100, 100]) = false] := by kernel_rfl
theorem c106_e {N : Nat} : ∀ a0 r, xCa N a0 = some r → RE Tryz.f106 I106 (xAr a0) (xAk r) := fun a0 r h =>
 cE h (fun h0 h => dE h xGf (p106_e_0 a0) (oc h0 on)) fun h0 h =>
 cE h (fun h1 h => dE h xGf (p106_e_1 a0) (oc h0 (oc h1 (oc h1 on)))) fun h1 h =>
 cE h (fun h2 h => dE h xGf (p106_e_2 a0) (oc h0 (oc h1 (oc h2 (oc h2 on))))) fun h2 h =>
 cE h (fun h3 h => dE h xGf (p106_e_3 a0) (oc h0 (oc h1 (oc h2 (oc h3 (oc h3 on)))))) fun h3 h =>
 cE h (fun h4 h => dE h xGf (p106_e_4 a0) (oc h0 (oc h1 (oc h2 (oc h3 (oc h4 (oc h4 on))))))) fun h4 h =>
 cE h (fun h5 h => dE h xGf (p106_e_5 a0) (oc h0 (oc h1 (oc h2 (oc h3 (oc h4 (oc h5 on))))))) fun h5 h =>
 cE h (fun h6 h => dE h xGf (p106_e_6 a0) (oc h0 (oc h1 (oc h2 (oc h3 (oc h4 (oc h5 (oc h6 (oc h6 on))))))))) fun h6 h =>
 cE h (fun h7 h => dE h xGf (p106_e_7 a0) (oc h0 (oc h1 (oc h2 (oc h3 (oc h4 (oc h5 (oc h6 (oc h7 (oc h7 on)))))))))) fun h7 h =>
 cE h (fun h8 h => dE h xGf (p106_e_8 a0) (oc h0 (oc h1 (oc h2 (oc h3 (oc h4 (oc h5 (oc h6 (oc h7 (oc h8 (oc h8 on))))))))))) fun h8 h =>
 cE h (fun h9 h => dE h xGf (p106_e_9 a0) (oc h0 (oc h1 (oc h2 (oc h3 (oc h4 (oc h5 (oc h6 (oc h7 (oc h8 (oc h9 (oc h9 on)))))))))))) fun h9 h =>
 cE h (fun h10 h => dE h xGf (p106_e_10 a0) (oc h0 (oc h1 (oc h2 (oc h3 (oc h4 (oc h5 (oc h6 (oc h7 (oc h8 (oc h9 (oc h10 (oc h10 on))))))))))))) fun h10 h =>
 cE h (fun h11 h => dE h xGf (p106_e_11 a0) (oc h0 (oc h1 (oc h2 (oc h3 (oc h4 (oc h5 (oc h6 (oc h7 (oc h8 (oc h9 (oc h10 (oc h11 (oc h11 on)))))))))))))) fun h11 h =>
 cE h (fun h12 h => dE h xGf (p106_e_12 a0) (oc h0 (oc h1 (oc h2 (oc h3 (oc h4 (oc h5 (oc h6 (oc h7 (oc h8 (oc h9 (oc h10 (oc h11 (oc h12 on)))))))))))))) fun h12 h =>
 cE h (fun h13 h => dE h xGf (p106_e_13 a0) (oc h0 (oc h1 (oc h2 (oc h3 (oc h4 (oc h5 (oc h6 (oc h7 (oc h8 (oc h9 (oc h10 (oc h11 (oc h12 (oc h13 (oc h13 on)))))))))))))))) fun h13 h =>
 cE h (fun h14 h => dE h xGf (p106_e_14 a0) (oc h0 (oc h1 (oc h2 (oc h3 (oc h4 (oc h5 (oc h6 (oc h7 (oc h8 (oc h9 (oc h10 (oc h11 (oc h12 (oc h13 (oc h14 (oc h14 on))))))))))))))))) fun h14 h =>
 cE h (fun h15 h => dE h xGf (p106_e_15 a0) (oc h0 (oc h1 (oc h2 (oc h3 (oc h4 (oc h5 (oc h6 (oc h7 (oc h8 (oc h9 (oc h10 (oc h11 (oc h12 (oc h13 (oc h14 (oc h15 on))))))))))))))))) fun h15 h =>
 cE h (fun h16 h => dE h xGf (p106_e_16 a0) (oc h0 (oc h1 (oc h2 (oc h3 (oc h4 (oc h5 (oc h6 (oc h7 (oc h8 (oc h9 (oc h10 (oc h11 (oc h12 (oc h13 (oc h14 (oc h15 (oc h16 on)))))))))))))))))) fun h16 h =>
 dE h xGf (p106_e_17 a0) (oc h0 (oc h1 (oc h2 (oc h3 (oc h4 (oc h5 (oc h6 (oc h7 (oc h8 (oc h9 (oc h10 (oc h11 (oc h12 (oc h13 (oc h14 (oc h15 (oc h16 on)))))))))))))))))
theorem xDw {N : Nat} {a0 : Str} {r : Int} (h : xCa N  a0 = some r) : AbC 106 (xAr a0) (xAk r) :=
 AbsCalls.of_reach xGf rfl rfl (Nat.le_of_ble_eq_true rfl) (c106_e a0 r h)
noncomputable def I66 : Info := { body := (Tryz.f66.body).getD .skip, nt := 12, results := [.cell 6 25], keep := [0, 2, 4, 8, 10, 12, 9, 11, 13], live := [], modes := [] }
theorem fk66 : FnOk Tryz.prog 66 Tryz.f66 I66 := ⟨Tryz.func66, by kernel_rfl, by kernel_rfl, by kernel_rfl, by kernel_rfl⟩
theorem p66_e_0 (a0 : Int) (a1 a2 : Exp) : rE I66 (xDr a0 a1 a2) [] [] = dn (xBO (Exp.mk 6 a0 [] [(Exp.re a1), (Exp.re a2)])) [] := by kernel_rfl
theorem c66_e {N : Nat} : ∀ a0 a1 a2 r, xDP N a0 a1 a2 = some r → RE Tryz.f66 I66 (xDr a0 a1 a2) (xBO r) := fun a0 a1 a2 r h =>
 dE h fk66 (p66_e_0 a0 a1 a2) on
theorem xEm {N : Nat} {a0 : Int} {a1 : Exp} {a2 : Exp} {r : Exp} (h : xDP N  a0 a1 a2 = some r) : AbC 66 (xDr a0 a1 a2) (xBO r) :=
 AbsCalls.of_reach fk66 rfl rfl (Nat.le_of_ble_eq_true rfl) (c66_e a0 a1 a2 r h)
end Go.Ab.T
end
