/- The statement FnKeepAdd holds: plain functions, certificates, laws. Conditions: none. -/
import Derived.LaidMore
import Derived.Lay
import Derived.Lib.LaidTab
import Derived.OpenVars
import Derived.SevenTiedAt
import Derived.Shelf.Strconv.Itoa3
import Derived.Shelf.Strings.OnBuilder
import Derived.Shelf.Strings.Split
import Derived.Stop.Joined
import Derived.Stop.LaidErr
import Derived.Test.YthbobcapimmnhaaDoorCards
import Derived.Test.YthbobcapimmnhaaDoorChecked
import Derived.Test.YthbobcapimmnhaaDoorProg
import Derived.Test.YthbobcapimmnhaaDoorRows
import Derived.Test.YthbobcapimmnhaaDoorTie
import Derived.Test.YthbobcapimmnhaaDoorL2
set_option linter.all false
section
namespace Go.Ab
set_option linter.unusedVariables false
def xAQ (a0 : List Int) : List Arg := [.val (.v false [.sl .ro .byte a0])]
def xAt (r : Bool) : CallO := ⟨.v false [.bool r], [], []⟩
def xHB (N : Nat) (a0 : List Int) : Option (Bool) :=
  some (decide (((List.length a0 : Int) : Int) > 1048576))
def xE9 (a0 : List Int) : List Arg := [.val (.v false [.sl .ro .byte a0])]
def xC2 (r : Cur) : CallO := ⟨.tup [(false, [.ptr 0 0]), (true, [.sl .ro .byte (Cur.b r), .int .i64 (Cur.i r), .int .i64 (Cur.h r)])], [], []⟩
def xFa (N : Nat) : Nat → (List Int) → Int → Int → Option (Cur)
  | 0, _, _, _ => none
  | n + 1, x0, x3, x4 =>
    bif (decide ((x4 : Int) < (List.length x0 : Int))) then (
      bif (decide ((x4 : Int) < 4000)) then (
        if (0 : Int) ≤ x4 ∧ x4 < (List.length x0) then
        (xFa N n x0 (andI .i64 (IntKind.i64.wrap ((IntKind.i64.wrap ((IntKind.i64.wrap (x3 * 131)) + (IntKind.i64.wrap ((List.getD x0 (Int.toNat x4) Ty.byte.dflt))))) + 7)) 1073741823) (IntKind.i64.wrap (x4 + 1)))
        else none
      ) else (
        some (Cur.mk x0 0 x3)
      )
    ) else (
      some (Cur.mk x0 0 x3)
    )
def xF0 (N : Nat) (a0 : List Int) : Option (Cur) :=
  (xFa N N a0 (IntKind.i64.wrap (26583 + (List.length a0 : Int))) 0)
def xDm (a0 : Cur) : List Arg := [.box [.sl .ro .byte (Cur.b a0), .int .i64 (Cur.i a0), .int .i64 (Cur.h a0)]]
def xB5 (r : Int × Cur) : CallO := ⟨.v false [.int .i64 r.1], [[.sl .ro .byte (Cur.b r.2), .int .i64 (Cur.i r.2), .int .i64 (Cur.h r.2)]], []⟩
def xED (N : Nat) (a0 : Cur) : Option (Int × Cur) :=
  bif (decide (((Cur.i a0) : Int) < (List.length (Cur.b a0) : Int))) then (
    if (0 : Int) ≤ (Cur.i a0) ∧ (Cur.i a0) < (List.length (Cur.b a0)) then
    some ((andI .i64 (IntKind.i64.wrap ((andI .i64 (xorI .i64 (Int.fdiv (IntKind.i64.wrap ((IntKind.i64.wrap ((Cur.h a0) * 6364136223846793005)) + 1442695040888963407)) ((2 : Int) ^ (Int.toNat 33))) (Int.fdiv (IntKind.i64.wrap ((IntKind.i64.wrap ((Cur.h a0) * 6364136223846793005)) + 1442695040888963407)) ((2 : Int) ^ (Int.toNat 45)))) 255) + (IntKind.i64.wrap ((List.getD (Cur.b a0) (Int.toNat (Cur.i a0)) Ty.byte.dflt))))) 255), (Cur.mk (Cur.b a0) (IntKind.i64.wrap ((Cur.i a0) + 1)) (IntKind.i64.wrap ((IntKind.i64.wrap ((Cur.h a0) * 6364136223846793005)) + 1442695040888963407))))
    else none
  ) else (
    some ((andI .i64 (xorI .i64 (Int.fdiv (IntKind.i64.wrap ((IntKind.i64.wrap ((Cur.h a0) * 6364136223846793005)) + 1442695040888963407)) ((2 : Int) ^ (Int.toNat 33))) (Int.fdiv (IntKind.i64.wrap ((IntKind.i64.wrap ((Cur.h a0) * 6364136223846793005)) + 1442695040888963407)) ((2 : Int) ^ (Int.toNat 45)))) 255), (Cur.mk (Cur.b a0) (Cur.i a0) (IntKind.i64.wrap ((IntKind.i64.wrap ((Cur.h a0) * 6364136223846793005)) + 1442695040888963407))))
  )
def xAR (a0 : Cur) (a1 : Int) : List Arg := [.box [.sl .ro .byte (Cur.b a0), .int .i64 (Cur.i a0), .int .i64 (Cur.h a0)], .val (.v false [.int .i64 a1])]
def xAy (r : Int × Cur) : CallO := ⟨.v false [.int .i64 r.1], [[.sl .ro .byte (Cur.b r.2), .int .i64 (Cur.i r.2), .int .i64 (Cur.h r.2)]], []⟩
def xBE (N : Nat) (a0 : Cur) (a1 : Int) : Option (Int × Cur) :=
  bif (decide ((a1 : Int) ≤ 0)) then (
    some (0, a0)
  ) else (
    bif (decide ((a1 : Int) ≤ 256)) then (
      Option.bind (xED N a0) fun r1 =>
      if a1 ≠ (0 : Int) then
      some ((Int.tmod r1.1 a1), r1.2)
      else none
    ) else (
      Option.bind (xED N a0) fun r1 =>
      Option.bind (xED N r1.2) fun r2 =>
      Option.bind (xED N r2.2) fun r3 =>
      Option.bind (xED N r3.2) fun r4 =>
      if a1 ≠ (0 : Int) then
      some ((Int.tmod (IntKind.i64.wrap ((IntKind.i64.wrap ((IntKind.i64.wrap ((IntKind.i64.wrap (r1.1 * 16777216)) + (IntKind.i64.wrap (r2.1 * 65536)))) + (IntKind.i64.wrap (r3.1 * 256)))) + r4.1)) a1), r4.2)
      else none
    )
  )
def xDn (a0 : Cur) (a1 : List Str) : List Arg := [.box [.sl .ro .byte (Cur.b a0), .int .i64 (Cur.i a0), .int .i64 (Cur.h a0)], .val (.v false [.sl .ro .str a1])]
def xBR (r : Str × Cur) : CallO := ⟨.v false [.str r.1], [[.sl .ro .byte (Cur.b r.2), .int .i64 (Cur.i r.2), .int .i64 (Cur.h r.2)]], []⟩
def xD6 (N : Nat) (a0 : Cur) (a1 : List Str) : Option (Str × Cur) :=
  Option.bind (xBE N a0 (List.length a1 : Int)) fun r1 =>
  if (0 : Int) ≤ r1.1 ∧ r1.1 < (List.length a1) then
  some ((List.getD a1 (Int.toNat r1.1) Ty.str.dflt), r1.2)
  else none
def xBF (a0 : Str) : List Arg := [.val (.v false [.str a0])]
def xA6 (r : Val) : CallO := ⟨.v true [.int .i64 (Val.kind r), .int .i64 (Val.n r), .int .i64 (Val.step r), .str (Val.text r), .sl .own .val (Val.list r), .sl .own .str (Val.columns r), .sl .own .row (Val.rows r)], [], []⟩
def xCj (N : Nat) (a0 : Str) : Option (Val) :=
  some (Val.mk 2 0 0 a0 [] [] [])
def xBl (a0 : Cur) (a1 : Int) : List Arg := [.box [.sl .ro .byte (Cur.b a0), .int .i64 (Cur.i a0), .int .i64 (Cur.h a0)], .val (.v false [.int .i64 a1])]
def xAP (r : Bool × Cur) : CallO := ⟨.v false [.bool r.1], [[.sl .ro .byte (Cur.b r.2), .int .i64 (Cur.i r.2), .int .i64 (Cur.h r.2)]], []⟩
def xCT (N : Nat) (a0 : Cur) (a1 : Int) : Option (Bool × Cur) :=
  Option.bind (xBE N a0 a1) fun r1 =>
  some (((r1.1 : Int) == 0), r1.2)
def xEu (a0 : Cur) (a1 : List Int) : List Arg := [.box [.sl .ro .byte (Cur.b a0), .int .i64 (Cur.i a0), .int .i64 (Cur.h a0)], .val (.v false [.sl .ro .int a1])]
def xDh (r : Int × Cur) : CallO := ⟨.v false [.int .i64 r.1], [[.sl .ro .byte (Cur.b r.2), .int .i64 (Cur.i r.2), .int .i64 (Cur.h r.2)]], []⟩
def xEk (N : Nat) (a0 : Cur) (a1 : List Int) : Option (Int × Cur) :=
  Option.bind (xBE N a0 (List.length a1 : Int)) fun r1 =>
  if (0 : Int) ≤ r1.1 ∧ r1.1 < (List.length a1) then
  some ((List.getD a1 (Int.toNat r1.1) Ty.int.dflt), r1.2)
  else none
def xCC (a0 : Cur) : List Arg := [.box [.sl .ro .byte (Cur.b a0), .int .i64 (Cur.i a0), .int .i64 (Cur.h a0)]]
def xBA (r : Int × Cur) : CallO := ⟨.v false [.int .i64 r.1], [[.sl .ro .byte (Cur.b r.2), .int .i64 (Cur.i r.2), .int .i64 (Cur.h r.2)]], []⟩
def xDj (N : Nat) (a0 : Cur) : Option (Int × Cur) :=
  Option.bind (xCT N a0 12) fun r1 =>
  bif r1.1 then (
    Option.bind (xEk N r1.2 [1000000000, (-1000000000), 999999999, 500000000, 40000]) fun r2 =>
    some (r2.1, r2.2)
  ) else (
    Option.bind (xBE N r1.2 12) fun r2 =>
    some ((IntKind.i64.wrap (r2.1 - 3)), r2.2)
  )
def xCe (a0 : Int) : List Arg := [.val (.v false [.int .i64 a0])]
def xBr (r : Val) : CallO := ⟨.v true [.int .i64 (Val.kind r), .int .i64 (Val.n r), .int .i64 (Val.step r), .str (Val.text r), .sl .own .val (Val.list r), .sl .own .str (Val.columns r), .sl .own .row (Val.rows r)], [], []⟩
def xCy (N : Nat) (a0 : Int) : Option (Val) :=
  some (Val.mk 1 a0 0 [] [] [] [])
def xES (a0 : Cur) : List Arg := [.box [.sl .ro .byte (Cur.b a0), .int .i64 (Cur.i a0), .int .i64 (Cur.h a0)]]
def xDp (r : Str × Cur) : CallO := ⟨.v false [.str r.1], [[.sl .ro .byte (Cur.b r.2), .int .i64 (Cur.i r.2), .int .i64 (Cur.h r.2)]], []⟩
def xFB (N : Nat) (a0 : Cur) : Option (Str × Cur) :=
  Option.bind (xD6 N a0 [[], [97], [98], [97, 98], [104, 101, 108, 108, 111], [116, 119, 101, 110, 116, 121, 32, 99, 104, 97, 114, 97, 99, 116, 101, 114, 115, 32, 111, 107], [110, 105, 110, 101, 116, 101, 101, 110, 32, 99, 104, 97, 114, 97, 99, 116, 101, 114, 46]]) fun r1 =>
  some (r1.1, r1.2)
def xC3 (a0 : Cur) (a1 : Int) : List Arg := [.box [.sl .ro .byte (Cur.b a0), .int .i64 (Cur.i a0), .int .i64 (Cur.h a0)], .val (.v false [.int .i64 a1])]
def xB8 (r : Val × Cur) : CallO := ⟨.v true [.int .i64 (Val.kind r.1), .int .i64 (Val.n r.1), .int .i64 (Val.step r.1), .str (Val.text r.1), .sl .own .val (Val.list r.1), .sl .own .str (Val.columns r.1), .sl .own .row (Val.rows r.1)], [[.sl .ro .byte (Cur.b r.2), .int .i64 (Cur.i r.2), .int .i64 (Cur.h r.2)]], []⟩
def xDw (N : Nat) (q0 : Cur → Int → Option (Val × Cur)) (q1 : Cur → Int → Option (Val × Cur)) : Nat → Int → Int → Int → Cur → Val → Val → Option (Val × Cur)
  | 0, _, _, _, _, _, _ => none
  | n + 1, x1, x6, x7, b0, b4, b5 =>
    bif (decide ((x7 : Int) < x6)) then (
      Option.bind (q1 b0 x1) fun r1 =>
      if List.length (Val.list b5) + List.length [(Val.re r1.1)] ≤ Lim then
      (xDw N q0 q1 n x1 x6 (IntKind.i64.wrap (x7 + 1)) r1.2 b4 (Val.mk (Val.kind b5) (Val.n b5) (Val.step b5) (Val.text b5) ((Val.list b5) ++ [(Val.re r1.1)]) (Val.columns b5) (Val.rows b5)))
      else none
    ) else (
      some (b5, b0)
    )
def xDD (N : Nat) (q0 : Cur → Int → Option (Val × Cur)) (q1 : Cur → Int → Option (Val × Cur)) (a0 : Cur) (a1 : Int) : Option (Val × Cur) :=
  Option.bind (xEk N a0 [0, 1, 2, 3, 3, 4, 5, 8]) fun r1 =>
  (xDw N q0 q1 N a1 r1.1 0 r1.2 (Val.mk 0 0 0 [] [] [] []) (Val.mk 3 0 0 [] [] [] []))
def xCs (a0 : Cur) (a1 : Int) : List Arg := [.box [.sl .ro .byte (Cur.b a0), .int .i64 (Cur.i a0), .int .i64 (Cur.h a0)], .val (.v false [.int .i64 a1])]
def xB9 (r : Val × Cur) : CallO := ⟨.v true [.int .i64 (Val.kind r.1), .int .i64 (Val.n r.1), .int .i64 (Val.step r.1), .str (Val.text r.1), .sl .own .val (Val.list r.1), .sl .own .str (Val.columns r.1), .sl .own .row (Val.rows r.1)], [[.sl .ro .byte (Cur.b r.2), .int .i64 (Cur.i r.2), .int .i64 (Cur.h r.2)]], []⟩
def xDE (N : Nat) (q0 : Cur → Int → Option (Val × Cur)) (q1 : Cur → Int → Option (Val × Cur)) (a0 : Cur) (a1 : Int) : Option (Val × Cur) :=
  bif (decide ((a1 : Int) > 1)) then (
    Option.bind (xCT N a0 4) fun r1 =>
    bif r1.1 then (
      Option.bind (q0 r1.2 (IntKind.i64.wrap (a1 - 1))) fun r2 =>
      some (r2.1, r2.2)
    ) else (
      Option.bind (xCT N r1.2 4) fun r2 =>
      bif r2.1 then (
        Option.bind (xFB N r2.2) fun r3 =>
        Option.bind (xCj N r3.1) fun r4 =>
        some (r4, r3.2)
      ) else (
        Option.bind (xDj N r2.2) fun r3 =>
        Option.bind (xCy N r3.1) fun r4 =>
        some (r4, r3.2)
      )
    )
  ) else (
    Option.bind (xCT N a0 4) fun r1 =>
    bif r1.1 then (
      Option.bind (xFB N r1.2) fun r2 =>
      Option.bind (xCj N r2.1) fun r3 =>
      some (r3, r2.2)
    ) else (
      Option.bind (xDj N r1.2) fun r2 =>
      Option.bind (xCy N r2.1) fun r3 =>
      some (r3, r2.2)
    )
  )
structure spec_l3DrawList_rec where
  c_spec_l3DrawList : Cur → Int → Option (Val × Cur)
  c_spec_l3Element2 : Cur → Int → Option (Val × Cur)
def xBb (N : Nat) : Nat → spec_l3DrawList_rec
  | 0 => ⟨fun _ _ => none, fun _ _ => none⟩
  | d + 1 => ⟨xDD N (xBb N d).c_spec_l3DrawList (xBb N d).c_spec_l3Element2, xDE N (xBb N d).c_spec_l3DrawList (xBb N d).c_spec_l3Element2⟩
def xGF (N : Nat) (a0 : Cur) (a1 : Int) : Option (Val × Cur) := (xBb N N).c_spec_l3DrawList a0 a1
def xFc (a0 : Cur) : List Arg := [.box [.sl .ro .byte (Cur.b a0), .int .i64 (Cur.i a0), .int .i64 (Cur.h a0)]]
def xDR (r : Val × Cur) : CallO := ⟨.v true [.int .i64 (Val.kind r.1), .int .i64 (Val.n r.1), .int .i64 (Val.step r.1), .str (Val.text r.1), .sl .own .val (Val.list r.1), .sl .own .str (Val.columns r.1), .sl .own .row (Val.rows r.1)], [[.sl .ro .byte (Cur.b r.2), .int .i64 (Cur.i r.2), .int .i64 (Cur.h r.2)]], []⟩
def xDQ (N : Nat) : Nat → Int → Int → Cur → Val → Val → Option (Val × Cur)
  | 0, _, _, _, _, _ => none
  | n + 1, x4, x5, b0, b2, b3 =>
    bif (decide ((x5 : Int) < x4)) then (
      Option.bind (xDj N b0) fun r1 =>
      Option.bind (xCy N r1.1) fun r2 =>
      if List.length (Val.list b3) + List.length [(Val.re r2)] ≤ Lim then
      (xDQ N n x4 (IntKind.i64.wrap (x5 + 1)) r1.2 b2 (Val.mk (Val.kind b3) (Val.n b3) (Val.step b3) (Val.text b3) ((Val.list b3) ++ [(Val.re r2)]) (Val.columns b3) (Val.rows b3)))
      else none
    ) else (
      some (b3, b0)
    )
def xGc (N : Nat) (a0 : Cur) : Option (Val × Cur) :=
  Option.bind (xBE N a0 9) fun r1 =>
  (xDQ N N r1.1 0 r1.2 (Val.mk 0 0 0 [] [] [] []) (Val.mk 3 0 0 [] [] [] []))
def xEC (a0 : Int) (a1 : Int) : List Arg := [.val (.v false [.int .i64 a0]), .val (.v false [.int .i64 a1])]
def xD5 (r : Val) : CallO := ⟨.v true [.int .i64 (Val.kind r), .int .i64 (Val.n r), .int .i64 (Val.step r), .str (Val.text r), .sl .own .val (Val.list r), .sl .own .str (Val.columns r), .sl .own .row (Val.rows r)], [], []⟩
def xGl (N : Nat) (a0 : Int) (a1 : Int) : Option (Val) :=
  some (Val.mk 4 a0 a1 [] [] [] [])
def xBw (a0 : Int) : List Arg := [.val (.v false [.int .i64 a0])]
def xAV (r : Val) : CallO := ⟨.v true [.int .i64 (Val.kind r), .int .i64 (Val.n r), .int .i64 (Val.step r), .str (Val.text r), .sl .own .val (Val.list r), .sl .own .str (Val.columns r), .sl .own .row (Val.rows r)], [], []⟩
def xBd (N : Nat) (a0 : Int) : Option (Val) :=
  some (Val.mk 6 a0 0 [] [] [] [])
def xGb (a0 : Cur) : List Arg := [.box [.sl .ro .byte (Cur.b a0), .int .i64 (Cur.i a0), .int .i64 (Cur.h a0)]]
def xEQ (r : (List Org) × Cur) : CallO := ⟨.v false [.sl .own .org r.1], [[.sl .ro .byte (Cur.b r.2), .int .i64 (Cur.i r.2), .int .i64 (Cur.h r.2)]], []⟩
def xEP (N : Nat) : Nat → (List Org) → Int → Int → Int → Cur → Option ((List Org) × Cur)
  | 0, _, _, _, _, _ => none
  | n + 1, x3, x4, x5, x6, b0 =>
    bif (decide ((x6 : Int) < x5)) then (
      Option.bind (xBE N b0 2) fun r1 =>
      if List.length x3 + List.length [(Org.mk x4 (IntKind.i64.wrap (x6 + (IntKind.i64.wrap (r1.1 * 2)))))] ≤ Lim then
      Option.bind (xBE N r1.2 2) fun r2 =>
      (xEP N n (x3 ++ [(Org.mk x4 (IntKind.i64.wrap (x6 + (IntKind.i64.wrap (r1.1 * 2)))))]) (IntKind.i64.wrap ((IntKind.i64.wrap (x4 + 1)) + r2.1)) x5 (IntKind.i64.wrap (x6 + 1)) r2.2)
      else none
    ) else (
      some (x3, b0)
    )
def xHg (N : Nat) (a0 : Cur) : Option ((List Org) × Cur) :=
  Option.bind (xBE N a0 3) fun r1 =>
  (xEP N N [] 1 r1.1 0 r1.2)
def xDi (a0 : Cur) : List Arg := [.box [.sl .ro .byte (Cur.b a0), .int .i64 (Cur.i a0), .int .i64 (Cur.h a0)]]
def xBS (r : Val × Cur) : CallO := ⟨.v true [.int .i64 (Val.kind r.1), .int .i64 (Val.n r.1), .int .i64 (Val.step r.1), .str (Val.text r.1), .sl .own .val (Val.list r.1), .sl .own .str (Val.columns r.1), .sl .own .row (Val.rows r.1)], [[.sl .ro .byte (Cur.b r.2), .int .i64 (Cur.i r.2), .int .i64 (Cur.h r.2)]], []⟩
def xC5 (N : Nat) (k10 : Int → Int → Int → Cur → Val → Val → Option (Val × Cur)) : Nat → Int → Int → Int → Int → Cur → Val → Val → Rowd → Option (Val × Cur)
  | 0, _, _, _, _, _, _, _, _ => none
  | n + 1, x4, x6, x7, x9, b0, b2, b5, b8 =>
    bif (decide ((x9 : Int) < x4)) then (
      Option.bind (xDj N b0) fun r1 =>
      if List.length (Rowd.cells b8) + List.length [r1.1] ≤ Lim then
      (xC5 N k10 n x4 x6 x7 (IntKind.i64.wrap (x9 + 1)) r1.2 b2 b5 (Rowd.mk ((Rowd.cells b8) ++ [r1.1]) (Rowd.frm b8)))
      else none
    ) else (
      if List.length (Val.rows b5) + List.length [b8] ≤ Lim then
      (k10 x4 x6 (IntKind.i64.wrap (x7 + 1)) b0 b2 (Val.mk (Val.kind b5) (Val.n b5) (Val.step b5) (Val.text b5) (Val.list b5) (Val.columns b5) ((Val.rows b5) ++ [b8])))
      else none
    )
def xBY (N : Nat) : Nat → Int → Int → Int → Cur → Val → Val → Option (Val × Cur)
  | 0, _, _, _, _, _, _ => none
  | n + 1, x4, x6, x7, b0, b2, b5 =>
    bif (decide ((x7 : Int) < x6)) then (
      Option.bind (xHg N b0) fun r1 =>
      (xC5 N (fun z0 z1 z2 z3 z4 z5 => (xBY N n z0 z1 z2 z3 z4 z5)) N x4 x6 x7 0 r1.2 b2 b5 (Rowd.mk [] r1.1))
    ) else (
      some (b5, b0)
    )
def xEe (N : Nat) (a0 : Cur) : Option (Val × Cur) :=
  Option.bind (xBE N a0 3) fun r1 =>
  if (0 : Int) ≤ (IntKind.i64.wrap (1 + r1.1)) ∧ (IntKind.i64.wrap (1 + r1.1)) ≤ (List.length ([[97], [98], [99], [120]] : List Str)) then
  if 0 + List.length (List.take (Int.toNat (IntKind.i64.wrap (1 + r1.1))) ([[97], [98], [99], [120]] : List Str)) ≤ Lim then
  Option.bind (xCT N r1.2 5) fun r2 =>
  bif r2.1 then (
    if (0 : Int) ≤ 0 ∧ (0 : Int) < (List.length ([] ++ (List.take (Int.toNat (IntKind.i64.wrap (1 + r1.1))) ([[97], [98], [99], [120]] : List Str)))) then
    if (0 : Int) ≤ 1 ∧ (1 : Int) ≤ (List.length ((fun (z8 : List Str) => List.set z8 (Int.toNat 0) [120]) ([] ++ (List.take (Int.toNat (IntKind.i64.wrap (1 + r1.1))) ([[97], [98], [99], [120]] : List Str))))) then
    Option.bind (xBE N r2.2 6) fun r3 =>
    (xBY N N 1 r3.1 0 r3.2 (Val.mk 0 0 0 [] [] [] []) (Val.mk 5 0 0 [] [] (List.take (Int.toNat 1) ((fun (z8 : List Str) => List.set z8 (Int.toNat 0) [120]) ([] ++ (List.take (Int.toNat (IntKind.i64.wrap (1 + r1.1))) ([[97], [98], [99], [120]] : List Str))))) []))
    else none
    else none
  ) else (
    Option.bind (xBE N r2.2 6) fun r3 =>
    (xBY N N (IntKind.i64.wrap (1 + r1.1)) r3.1 0 r3.2 (Val.mk 0 0 0 [] [] [] []) (Val.mk 5 0 0 [] [] ([] ++ (List.take (Int.toNat (IntKind.i64.wrap (1 + r1.1))) ([[97], [98], [99], [120]] : List Str))) []))
  )
  else none
  else none
def xBz (a0 : Cur) : List Arg := [.box [.sl .ro .byte (Cur.b a0), .int .i64 (Cur.i a0), .int .i64 (Cur.h a0)]]
def xA7 (r : Val × Cur) : CallO := ⟨.v true [.int .i64 (Val.kind r.1), .int .i64 (Val.n r.1), .int .i64 (Val.step r.1), .str (Val.text r.1), .sl .own .val (Val.list r.1), .sl .own .str (Val.columns r.1), .sl .own .row (Val.rows r.1)], [[.sl .ro .byte (Cur.b r.2), .int .i64 (Cur.i r.2), .int .i64 (Cur.h r.2)]], []⟩
def xF3 (N : Nat) (a0 : Cur) : Option (Val × Cur) :=
  Option.bind (xBE N a0 10) fun r1 =>
  bif ((r1.1 : Int) == 0) then (
    Option.bind (xDj N r1.2) fun r2 =>
    Option.bind (xCy N r2.1) fun r3 =>
    some (r3, r2.2)
  ) else (
    bif ((r1.1 : Int) == 1) then (
      Option.bind (xDj N r1.2) fun r2 =>
      Option.bind (xCy N r2.1) fun r3 =>
      some (r3, r2.2)
    ) else (
      bif ((r1.1 : Int) == 2) then (
        Option.bind (xDj N r1.2) fun r2 =>
        Option.bind (xCy N r2.1) fun r3 =>
        some (r3, r2.2)
      ) else (
        bif ((r1.1 : Int) == 3) then (
          Option.bind (xFB N r1.2) fun r2 =>
          Option.bind (xCj N r2.1) fun r3 =>
          some (r3, r2.2)
        ) else (
          bif ((r1.1 : Int) == 4) then (
            Option.bind (xGF N r1.2 3) fun r2 =>
            some (r2.1, r2.2)
          ) else (
            bif ((r1.1 : Int) == 5) then (
              Option.bind (xGc N r1.2) fun r2 =>
              some (r2.1, r2.2)
            ) else (
              bif ((r1.1 : Int) == 6) then (
                Option.bind (xDj N r1.2) fun r2 =>
                Option.bind (xDj N r2.2) fun r3 =>
                Option.bind (xGl N r2.1 r3.1) fun r4 =>
                some (r4, r3.2)
              ) else (
                bif ((r1.1 : Int) == 7) then (
                  Option.bind (xBE N r1.2 8) fun r2 =>
                  Option.bind (xBd N (IntKind.i64.wrap (1 + r2.1))) fun r3 =>
                  some (r3, r2.2)
                ) else (
                  Option.bind (xEe N r1.2) fun r2 =>
                  some (r2.1, r2.2)
                )
              )
            )
          )
        )
      )
    )
  )
def xF8 (a0 : Cur) : List Arg := [.box [.sl .ro .byte (Cur.b a0), .int .i64 (Cur.i a0), .int .i64 (Cur.h a0)]]
def xFn (r : Str × Cur) : CallO := ⟨.v false [.str r.1], [[.sl .ro .byte (Cur.b r.2), .int .i64 (Cur.i r.2), .int .i64 (Cur.h r.2)]], []⟩
def xHS (N : Nat) (a0 : Cur) : Option (Str × Cur) :=
  Option.bind (xD6 N a0 [[97], [98], [99], [100], [120], [121], [116], [117]]) fun r1 =>
  some (r1.1, r1.2)
def xFP (a0 : Cur) : List Arg := [.box [.sl .ro .byte (Cur.b a0), .int .i64 (Cur.i a0), .int .i64 (Cur.h a0)]]
def xFb (r : Str × Cur) : CallO := ⟨.v false [.str r.1], [[.sl .ro .byte (Cur.b r.2), .int .i64 (Cur.i r.2), .int .i64 (Cur.h r.2)]], []⟩
def xHD (N : Nat) (a0 : Cur) : Option (Str × Cur) :=
  Option.bind (xCT N a0 2) fun r1 =>
  bif r1.1 then (
    Option.bind (xHS N r1.2) fun r2 =>
    some (r2.1, r2.2)
  ) else (
    Option.bind (xD6 N r1.2 [[], [49, 97], [97, 49], [97, 98, 99, 100, 101, 102, 103, 104], [97, 98, 99, 100, 101, 102, 103, 104, 105], [108, 101, 116], [116, 97, 98, 108, 101], [115, 117, 109], [115, 117, 109, 115], [65], [97, 95, 98], [108, 101, 110]]) fun r2 =>
    some (r2.1, r2.2)
  )
def xCz (a0 : Cur) : List Arg := [.box [.sl .ro .byte (Cur.b a0), .int .i64 (Cur.i a0), .int .i64 (Cur.h a0)]]
def xB7 (r : Val × Cur) : CallO := ⟨.v true [.int .i64 (Val.kind r.1), .int .i64 (Val.n r.1), .int .i64 (Val.step r.1), .str (Val.text r.1), .sl .own .val (Val.list r.1), .sl .own .str (Val.columns r.1), .sl .own .row (Val.rows r.1)], [[.sl .ro .byte (Cur.b r.2), .int .i64 (Cur.i r.2), .int .i64 (Cur.h r.2)]], []⟩
def xF1 (N : Nat) (a0 : Cur) : Option (Val × Cur) :=
  Option.bind (xF3 N a0) fun r1 =>
  Option.bind (xBE N r1.2 16) fun r2 =>
  bif ((r2.1 : Int) == 0) then (
    some ((Val.mk (Val.kind r1.1) (IntKind.i64.wrap ((Val.n r1.1) + 1000000000)) (Val.step r1.1) (Val.text r1.1) (Val.list r1.1) (Val.columns r1.1) (Val.rows r1.1)), r2.2)
  ) else (
    bif ((r2.1 : Int) == 1) then (
      if List.length (Val.text r1.1) + List.length [120, 34, 121] ≤ Lim then
      some ((Val.mk (Val.kind r1.1) (Val.n r1.1) (Val.step r1.1) ((Val.text r1.1) ++ [120, 34, 121]) (Val.list r1.1) (Val.columns r1.1) (Val.rows r1.1)), r2.2)
      else none
    ) else (
      bif ((r2.1 : Int) == 2) then (
        Option.bind (xBE N r2.2 8) fun r3 =>
        some ((Val.mk r3.1 (Val.n r1.1) (Val.step r1.1) (Val.text r1.1) (Val.list r1.1) (Val.columns r1.1) (Val.rows r1.1)), r3.2)
      ) else (
        bif ((r2.1 : Int) == 3) then (
          Option.bind (xF3 N r2.2) fun r3 =>
          if List.length (Val.list r1.1) + List.length [(Val.re r3.1)] ≤ Lim then
          some ((Val.mk (Val.kind r1.1) (Val.n r1.1) (Val.step r1.1) (Val.text r1.1) ((Val.list r1.1) ++ [(Val.re r3.1)]) (Val.columns r1.1) (Val.rows r1.1)), r3.2)
          else none
        ) else (
          bif ((r2.1 : Int) == 4) then (
            if List.length (Val.rows r1.1) + List.length [(Rowd.mk [1] [(Org.mk 2 1), (Org.mk 1 1)])] ≤ Lim then
            some ((Val.mk (Val.kind r1.1) (Val.n r1.1) (Val.step r1.1) (Val.text r1.1) (Val.list r1.1) (Val.columns r1.1) ((Val.rows r1.1) ++ [(Rowd.mk [1] [(Org.mk 2 1), (Org.mk 1 1)])])), r2.2)
            else none
          ) else (
            bif ((r2.1 : Int) == 5) then (
              Option.bind (xHD N r2.2) fun r3 =>
              if List.length (Val.columns r1.1) + List.length [r3.1] ≤ Lim then
              some ((Val.mk (Val.kind r1.1) (Val.n r1.1) (Val.step r1.1) (Val.text r1.1) (Val.list r1.1) ((Val.columns r1.1) ++ [r3.1]) (Val.rows r1.1)), r3.2)
              else none
            ) else (
              bif ((r2.1 : Int) == 6) then (
                some ((Val.mk (Val.kind r1.1) (Val.n r1.1) 7 (Val.text r1.1) (Val.list r1.1) (Val.columns r1.1) (Val.rows r1.1)), r2.2)
              ) else (
                some (r1.1, r2.2)
              )
            )
          )
        )
      )
    )
  )
def xEn (a0 : Cur) : List Arg := [.box [.sl .ro .byte (Cur.b a0), .int .i64 (Cur.i a0), .int .i64 (Cur.h a0)]]
def xCZ (r : Val × Cur) : CallO := ⟨.v true [.int .i64 (Val.kind r.1), .int .i64 (Val.n r.1), .int .i64 (Val.step r.1), .str (Val.text r.1), .sl .own .val (Val.list r.1), .sl .own .str (Val.columns r.1), .sl .own .row (Val.rows r.1)], [[.sl .ro .byte (Cur.b r.2), .int .i64 (Cur.i r.2), .int .i64 (Cur.h r.2)]], []⟩
def xFC (N : Nat) (a0 : Cur) : Option (Val × Cur) :=
  Option.bind (xCT N a0 16) fun r1 =>
  bif r1.1 then (
    Option.bind (xF1 N r1.2) fun r2 =>
    some (r2.1, r2.2)
  ) else (
    Option.bind (xD6 N r1.2 [[97], [97], [97], [98], [98], [99], [120], [122], []]) fun r2 =>
    Option.bind (xCj N r2.1) fun r3 =>
    some (r3, r2.2)
  )
def xEy (a0 : Cur) : List Arg := [.box [.sl .ro .byte (Cur.b a0), .int .i64 (Cur.i a0), .int .i64 (Cur.h a0)]]
def xB2 (r : Val × Cur) : CallO := ⟨.v true [.int .i64 (Val.kind r.1), .int .i64 (Val.n r.1), .int .i64 (Val.step r.1), .str (Val.text r.1), .sl .own .val (Val.list r.1), .sl .own .str (Val.columns r.1), .sl .own .row (Val.rows r.1)], [[.sl .ro .byte (Cur.b r.2), .int .i64 (Cur.i r.2), .int .i64 (Cur.h r.2)]], []⟩
def xEc (N : Nat) (k3 : Int → Cur → Val → Val → Option (Val × Cur)) : Nat → Int → Int → Cur → Val → Val → Option (Val × Cur)
  | 0, _, _, _, _, _ => none
  | n + 1, x4, x5, b0, b2, b3 =>
    if (0 : Int) ≤ x4 ∧ x4 < (List.length (Val.rows b3)) then
    bif (decide ((x5 : Int) < (List.length (Rowd.cells (List.getD (Val.rows b3) (Int.toNat x4) Ty.row.dflt)) : Int))) then (
      Option.bind (xCT N b0 8) fun r1 =>
      bif (!r1.1) then (
        Option.bind (xBE N r1.2 4) fun r2 =>
        if (0 : Int) ≤ x5 ∧ x5 < (List.length (Rowd.cells (List.getD (Val.rows b3) (Int.toNat x4) Ty.row.dflt))) then
        (xEc N k3 n x4 (IntKind.i64.wrap (x5 + 1)) r2.2 b2 (Val.mk (Val.kind b3) (Val.n b3) (Val.step b3) (Val.text b3) (Val.list b3) (Val.columns b3) (List.set (Val.rows b3) (Int.toNat x4) (Rowd.mk ((fun (z1 : List Int) => List.set z1 (Int.toNat x5) r2.1) (Rowd.cells (List.getD (Val.rows b3) (Int.toNat x4) Ty.row.dflt))) (Rowd.frm (List.getD (Val.rows b3) (Int.toNat x4) Ty.row.dflt))))))
        else none
      ) else (
        (xEc N k3 n x4 (IntKind.i64.wrap (x5 + 1)) r1.2 b2 b3)
      )
    ) else (
      (k3 (IntKind.i64.wrap (x4 + 1)) b0 b2 b3)
    )
    else none
def xEb (N : Nat) : Nat → Int → Cur → Val → Val → Option (Val × Cur)
  | 0, _, _, _, _ => none
  | n + 1, x4, b0, b2, b3 =>
    bif (decide ((x4 : Int) < (List.length (Val.rows b3) : Int))) then (
      (xEc N (fun z0 z1 z2 z3 => (xEb N n z0 z1 z2 z3)) N x4 0 b0 b2 b3)
    ) else (
      Option.bind (xCT N b0 12) fun r1 =>
      bif r1.1 then (
        Option.bind (xF1 N r1.2) fun r2 =>
        some (r2.1, r2.2)
      ) else (
        some (b3, r1.2)
      )
    )
def xE2 (N : Nat) (a0 : Cur) : Option (Val × Cur) :=
  Option.bind (xEe N a0) fun r1 =>
  (xEb N N 0 r1.2 (Val.mk 0 0 0 [] [] [] []) r1.1)
def xAo (a0 : List Int) : List Arg := [.val (.v false [.sl .ro .byte a0])]
def xAe (r : Val × Val × Val × Val) : CallO := ⟨.tup [(true, [.int .i64 (Val.kind r.1), .int .i64 (Val.n r.1), .int .i64 (Val.step r.1), .str (Val.text r.1), .sl .own .val (Val.list r.1), .sl .own .str (Val.columns r.1), .sl .own .row (Val.rows r.1)]), (true, [.int .i64 (Val.kind r.2.1), .int .i64 (Val.n r.2.1), .int .i64 (Val.step r.2.1), .str (Val.text r.2.1), .sl .own .val (Val.list r.2.1), .sl .own .str (Val.columns r.2.1), .sl .own .row (Val.rows r.2.1)]), (true, [.int .i64 (Val.kind r.2.2.1), .int .i64 (Val.n r.2.2.1), .int .i64 (Val.step r.2.2.1), .str (Val.text r.2.2.1), .sl .own .val (Val.list r.2.2.1), .sl .own .str (Val.columns r.2.2.1), .sl .own .row (Val.rows r.2.2.1)]), (true, [.int .i64 (Val.kind r.2.2.2), .int .i64 (Val.n r.2.2.2), .int .i64 (Val.step r.2.2.2), .str (Val.text r.2.2.2), .sl .own .val (Val.list r.2.2.2), .sl .own .str (Val.columns r.2.2.2), .sl .own .row (Val.rows r.2.2.2)])], [], []⟩
def xEg (N : Nat) (a0 : List Int) : Option (Val × Val × Val × Val) :=
  Option.bind (xF0 N a0) fun r1 =>
  Option.bind (xD6 N r1 [[115], [115], [116, 111, 116, 97, 108], [97], [108, 101, 110], []]) fun r2 =>
  Option.bind (xCj N r2.1) fun r3 =>
  Option.bind (xFC N r2.2) fun r4 =>
  Option.bind (xFC N r4.2) fun r5 =>
  Option.bind (xE2 N r5.2) fun r6 =>
  some (r3, r4.1, r5.1, r6.1)
def xDl (a0 : Int) (a1 : Int) (a2 : Int) : List Arg := [.val (.v false [.int .i64 a0]), .val (.v false [.int .i64 a1]), .val (.v false [.int .i64 a2])]
def xB4 (r : Bool) : CallO := ⟨.v false [.bool r], [], []⟩
def xEZ (N : Nat) (a0 : Int) (a1 : Int) (a2 : Int) : Option (Bool) :=
  bif (decide ((a1 : Int) ≤ a0)) then (
    some (decide ((a0 : Int) ≤ a2))
  ) else (
    some false
  )
def xCg (a0 : Int) : List Arg := [.val (.v false [.int .i64 a0])]
def xBp (r : Bool) : CallO := ⟨.v false [.bool r], [], []⟩
def xDG (N : Nat) (a0 : Int) : Option (Bool) :=
  Option.bind (xEZ N a0 (-1000000000) 1000000000) fun r1 =>
  some r1
def xEA (a0 : Str) : List Arg := [.val (.v false [.str a0])]
def xCa (r : Bool) : CallO := ⟨.v false [.bool r], [], []⟩
def xDW (N : Nat) : Nat → Str → Int → Option (Bool)
  | 0, _, _ => none
  | n + 1, x0, x3 =>
    bif (decide ((x3 : Int) < (List.length x0 : Int))) then (
      if (0 : Int) ≤ x3 ∧ x3 < (List.length x0) then
      bif (decide ((((List.getD x0 (Int.toNat x3) 0).toNat : Int) : Int) < 32)) then (
        some false
      ) else (
        bif (decide ((((List.getD x0 (Int.toNat x3) 0).toNat : Int) : Int) > 126)) then (
          some false
        ) else (
          bif ((((List.getD x0 (Int.toNat x3) 0).toNat : Int) : Int) == 34) then (
            some false
          ) else (
            (xDW N n x0 (IntKind.i64.wrap (x3 + 1)))
          )
        )
      )
      else none
    ) else (
      some (decide (((List.length x0 : Int) : Int) ≤ 20))
    )
def xFr (N : Nat) (a0 : Str) : Option (Bool) :=
  (xDW N N a0 0)
def xFi (a0 : Str) : List Arg := [.val (.v false [.str a0])]
def xB3 (r : Bool) : CallO := ⟨.v false [.bool r], [], []⟩
def xDk (N : Nat) : Nat → Str → Int → Option (Bool)
  | 0, _, _ => none
  | n + 1, x0, x3 =>
    bif (decide ((x3 : Int) < (List.length x0 : Int))) then (
      if (0 : Int) ≤ x3 ∧ x3 < (List.length x0) then
      bif (decide ((((List.getD x0 (Int.toNat x3) 0).toNat : Int) : Int) ≥ 97)) then (
        bif (!(decide ((((List.getD x0 (Int.toNat x3) 0).toNat : Int) : Int) ≤ 122))) then (
          bif ((x3 : Int) == 0) then (
            some false
          ) else (
            bif (decide ((((List.getD x0 (Int.toNat x3) 0).toNat : Int) : Int) < 48)) then (
              some false
            ) else (
              bif (decide ((((List.getD x0 (Int.toNat x3) 0).toNat : Int) : Int) > 57)) then (
                some false
              ) else (
                (xDk N n x0 (IntKind.i64.wrap (x3 + 1)))
              )
            )
          )
        ) else (
          (xDk N n x0 (IntKind.i64.wrap (x3 + 1)))
        )
      ) else (
        bif ((x3 : Int) == 0) then (
          some false
        ) else (
          bif (decide ((((List.getD x0 (Int.toNat x3) 0).toNat : Int) : Int) < 48)) then (
            some false
          ) else (
            bif (decide ((((List.getD x0 (Int.toNat x3) 0).toNat : Int) : Int) > 57)) then (
              some false
            ) else (
              (xDk N n x0 (IntKind.i64.wrap (x3 + 1)))
            )
          )
        )
      )
      else none
    ) else (
      Option.bind (xEZ N (List.length x0 : Int) 1 8) fun r1 =>
      some r1
    )
def xHa (N : Nat) (a0 : Str) : Option (Bool) :=
  (xDk N N a0 0)
def xAY (a0 : Str) : List Arg := [.val (.v false [.str a0])]
def xAW (r : Int) : CallO := ⟨.v false [.int .i64 r], [], []⟩
def xET (N : Nat) (a0 : Str) : Option (Int) :=
  bif ((a0 : Str) == [99, 108, 111, 99, 107]) then (
    some 0
  ) else (
    bif ((a0 : Str) == [108, 101, 110]) then (
      some 1
    ) else (
      bif ((a0 : Str) == [115, 117, 109]) then (
        some 1
      ) else (
        bif ((a0 : Str) == [114, 111, 119, 115]) then (
          some 1
        ) else (
          bif ((a0 : Str) == [99, 104, 97, 110, 99, 101]) then (
            some 1
          ) else (
            bif ((a0 : Str) == [102, 105, 108, 101]) then (
              some 1
            ) else (
              bif ((a0 : Str) == [116, 97, 107, 101]) then (
                some 2
              ) else (
                bif ((a0 : Str) == [115, 107, 105, 112]) then (
                  some 2
                ) else (
                  bif ((a0 : Str) == [114, 97, 110, 103, 101]) then (
                    some 2
                  ) else (
                    bif ((a0 : Str) == [110, 116, 104]) then (
                      some 2
                    ) else (
                      bif ((a0 : Str) == [107, 101, 101, 112]) then (
                        some 2
                      ) else (
                        bif ((a0 : Str) == [99, 111, 108, 117, 109, 110]) then (
                          some 2
                        ) else (
                          bif ((a0 : Str) == [116, 97, 98, 108, 101]) then (
                            some 2
                          ) else (
                            bif ((a0 : Str) == [119, 104, 101, 114, 101]) then (
                              some 3
                            ) else (
                              bif ((a0 : Str) == [103, 114, 111, 117, 112]) then (
                                some 3
                              ) else (
                                bif ((a0 : Str) == [106, 111, 105, 110]) then (
                                  some 3
                                ) else (
                                  bif ((a0 : Str) == [97, 100, 100]) then (
                                    some 4
                                  ) else (
                                    some (-1)
                                  )
                                )
                              )
                            )
                          )
                        )
                      )
                    )
                  )
                )
              )
            )
          )
        )
      )
    )
  )
def xBQ (a0 : Str) : List Arg := [.val (.v false [.str a0])]
def xBG (r : Bool) : CallO := ⟨.v false [.bool r], [], []⟩
def xEX (N : Nat) (a0 : Str) : Option (Bool) :=
  bif ((a0 : Str) == [108, 101, 116]) then (
    some true
  ) else (
    bif ((a0 : Str) == [105, 110]) then (
      some true
    ) else (
      bif ((a0 : Str) == [105, 102]) then (
        some true
      ) else (
        bif ((a0 : Str) == [116, 104, 101, 110]) then (
          some true
        ) else (
          bif ((a0 : Str) == [101, 108, 115, 101]) then (
            some true
          ) else (
            bif ((a0 : Str) == [102, 111, 114]) then (
              some true
            ) else (
              bif ((a0 : Str) == [100, 111]) then (
                some true
              ) else (
                Option.bind (xET N a0) fun r1 =>
                some (decide ((r1 : Int) ≥ 0))
              )
            )
          )
        )
      )
    )
  )
def xBe (a0 : Str) : List Arg := [.val (.v false [.str a0])]
def xAL (r : Bool) : CallO := ⟨.v false [.bool r], [], []⟩
def xDy (N : Nat) (a0 : Str) : Option (Bool) :=
  Option.bind (xHa N a0) fun r1 =>
  bif r1 then (
    Option.bind (xEX N a0) fun r2 =>
    some (!r2)
  ) else (
    some false
  )
def xEr (a0 : List Str) (a1 : Str) : List Arg := [.val (.v false [.sl .ro .str a0]), .val (.v false [.str a1])]
def xCt (r : Int) : CallO := ⟨.v false [.int .i64 r], [], []⟩
def xDV (N : Nat) : Nat → Str → (List Str) → Int → Int → Option (Int)
  | 0, _, _, _, _ => none
  | n + 1, x1, x7, x8, x9 =>
    bif (decide ((x9 : Int) < x8)) then (
      if (0 : Int) ≤ x9 ∧ x9 < (List.length x7) then
      bif (((List.getD x7 (Int.toNat x9) Ty.str.dflt) : Str) == x1) then (
        some x9
      ) else (
        (xDV N n x1 x7 x8 (IntKind.i64.wrap (x9 + 1)))
      )
      else none
    ) else (
      some (-1)
    )
def xGe (N : Nat) (a0 : List Str) (a1 : Str) : Option (Int) :=
  (xDV N N a1 a0 (List.length a0 : Int) 0)
def xDc (a0 : List Str) : List Arg := [.val (.v false [.sl .ro .str a0])]
def xBJ (r : Bool) : CallO := ⟨.v false [.bool r], [], []⟩
def xCR (N : Nat) : Nat → (List Str) → (List Str) → Int → Int → Option (Bool)
  | 0, _, _, _, _ => none
  | n + 1, x0, x5, x6, x7 =>
    bif (decide ((x7 : Int) < x6)) then (
      if (0 : Int) ≤ x7 ∧ x7 < (List.length x5) then
      Option.bind (xGe N x0 (List.getD x5 (Int.toNat x7) Ty.str.dflt)) fun r1 =>
      bif ((r1 : Int) != x7) then (
        some false
      ) else (
        (xCR N n x0 x5 x6 (IntKind.i64.wrap (x7 + 1)))
      )
      else none
    ) else (
      some true
    )
def xEF (N : Nat) (a0 : List Str) : Option (Bool) :=
  (xCR N N a0 a0 (List.length a0 : Int) 0)
def xDt (a0 : List Str) : List Arg := [.val (.v false [.sl .ro .str a0])]
def xBH (r : Bool) : CallO := ⟨.v false [.bool r], [], []⟩
def xDu (N : Nat) : Nat → (List Str) → (List Str) → Int → Int → Option (Bool)
  | 0, _, _, _, _ => none
  | n + 1, x0, x5, x6, x7 =>
    bif (decide ((x7 : Int) < x6)) then (
      if (0 : Int) ≤ x7 ∧ x7 < (List.length x5) then
      Option.bind (xDy N (List.getD x5 (Int.toNat x7) Ty.str.dflt)) fun r1 =>
      bif (!r1) then (
        some false
      ) else (
        (xDu N n x0 x5 x6 (IntKind.i64.wrap (x7 + 1)))
      )
      else none
    ) else (
      Option.bind (xEZ N (List.length x0 : Int) 1 4) fun r1 =>
      bif r1 then (
        Option.bind (xEF N x0) fun r2 =>
        some r2
      ) else (
        some false
      )
    )
def xFI (N : Nat) (a0 : List Str) : Option (Bool) :=
  (xDu N N a0 a0 (List.length a0 : Int) 0)
def xCF (a0 : Org) (a1 : Org) : List Arg := [.val (.v true [.int .i64 (Org.cell a0), .int .i64 (Org.row a0)]), .val (.v true [.int .i64 (Org.cell a1), .int .i64 (Org.row a1)])]
def xBV (r : Bool) : CallO := ⟨.v false [.bool r], [], []⟩
def xE5 (N : Nat) (a0 : Org) (a1 : Org) : Option (Bool) :=
  bif (decide (((Org.cell a0) : Int) < (Org.cell a1))) then (
    some true
  ) else (
    bif (((Org.cell a0) : Int) == (Org.cell a1)) then (
      some (decide (((Org.row a0) : Int) < (Org.row a1)))
    ) else (
      some false
    )
  )
def xDY (a0 : Val) : List Arg := [.val (.v true [.int .i64 (Val.kind a0), .int .i64 (Val.n a0), .int .i64 (Val.step a0), .str (Val.text a0), .sl .ro .val (Val.list a0), .sl .ro .str (Val.columns a0), .sl .ro .row (Val.rows a0)])]
def xBv (r : Bool) : CallO := ⟨.v false [.bool r], [], []⟩
def xC7 (N : Nat) (k4 : (List Rowd) → Int → Int → Val → Option (Bool)) : Nat → (List Rowd) → Int → Int → (List Org) → Int → Int → Val → Rowd → Option (Bool)
  | 0, _, _, _, _, _, _, _, _ => none
  | n + 1, x20, x21, x22, x45, x46, x47, b1, b4 =>
    bif (decide ((x47 : Int) < x46)) then (
      if (0 : Int) ≤ x47 ∧ x47 < (List.length x45) then
      bif (decide (((Org.cell (List.getD x45 (Int.toNat x47) Ty.org.dflt)) : Int) < 0)) then (
        some false
      ) else (
        bif (decide (((Org.row (List.getD x45 (Int.toNat x47) Ty.org.dflt)) : Int) < 0)) then (
          some false
        ) else (
          bif (decide ((x47 : Int) > 0)) then (
            if (0 : Int) ≤ (IntKind.i64.wrap (x47 - 1)) ∧ (IntKind.i64.wrap (x47 - 1)) < (List.length (Rowd.frm b4)) then
            Option.bind (xE5 N (List.getD (Rowd.frm b4) (Int.toNat (IntKind.i64.wrap (x47 - 1))) Ty.org.dflt) (List.getD x45 (Int.toNat x47) Ty.org.dflt)) fun r1 =>
            bif (!r1) then (
              some false
            ) else (
              (xC7 N k4 n x20 x21 x22 x45 x46 (IntKind.i64.wrap (x47 + 1)) b1 b4)
            )
            else none
          ) else (
            (xC7 N k4 n x20 x21 x22 x45 x46 (IntKind.i64.wrap (x47 + 1)) b1 b4)
          )
        )
      )
      else none
    ) else (
      (k4 x20 x21 (IntKind.i64.wrap (x22 + 1)) b1)
    )
def xD0 (N : Nat) (k4 : (List Rowd) → Int → Int → Val → Option (Bool)) : Nat → (List Rowd) → Int → Int → (List Int) → Int → Int → Val → Rowd → Option (Bool)
  | 0, _, _, _, _, _, _, _, _ => none
  | n + 1, x20, x21, x22, x34, x35, x36, b1, b4 =>
    bif (decide ((x36 : Int) < x35)) then (
      if (0 : Int) ≤ x36 ∧ x36 < (List.length x34) then
      Option.bind (xDG N (List.getD x34 (Int.toNat x36) Ty.int.dflt)) fun r1 =>
      bif (!r1) then (
        some false
      ) else (
        (xD0 N k4 n x20 x21 x22 x34 x35 (IntKind.i64.wrap (x36 + 1)) b1 b4)
      )
      else none
    ) else (
      (xC7 N k4 N x20 x21 x22 (Rowd.frm b4) (List.length (Rowd.frm b4) : Int) 0 b1 b4)
    )
def xDZ (N : Nat) : Nat → (List Rowd) → Int → Int → Val → Option (Bool)
  | 0, _, _, _, _ => none
  | n + 1, x20, x21, x22, b1 =>
    bif (decide ((x22 : Int) < x21)) then (
      if (0 : Int) ≤ x22 ∧ x22 < (List.length x20) then
      bif (((List.length (Rowd.cells (List.getD x20 (Int.toNat x22) Ty.row.dflt)) : Int) : Int) != (List.length (Val.columns b1) : Int)) then (
        some false
      ) else (
        (xD0 N (fun z0 z1 z2 z3 => (xDZ N n z0 z1 z2 z3)) N x20 x21 x22 (Rowd.cells (List.getD x20 (Int.toNat x22) Ty.row.dflt)) (List.length (Rowd.cells (List.getD x20 (Int.toNat x22) Ty.row.dflt)) : Int) 0 b1 (List.getD x20 (Int.toNat x22) Ty.row.dflt))
      )
      else none
    ) else (
      some true
    )
def xFF (N : Nat) (a0 : Val) : Option (Bool) :=
  Option.bind (xFI N (Val.columns a0)) fun r1 =>
  bif (!r1) then (
    some false
  ) else (
    bif (decide (((List.length (Val.rows a0) : Int) : Int) > 12)) then (
      some false
    ) else (
      (xDZ N N (Val.rows a0) (List.length (Val.rows a0) : Int) 0 a0)
    )
  )
def xDU (a0 : Val) : List Arg := [.val (.v true [.int .i64 (Val.kind a0), .int .i64 (Val.n a0), .int .i64 (Val.step a0), .str (Val.text a0), .sl .ro .val (Val.list a0), .sl .ro .str (Val.columns a0), .sl .ro .row (Val.rows a0)])]
def xCJ (r : Int) : CallO := ⟨.v false [.int .i64 r], [], []⟩
def xEq (N : Nat) (q0 : Val → Option (Int)) : Nat → Int → (List Val) → Int → Int → Option (Int)
  | 0, _, _, _, _ => none
  | n + 1, x3, x7, x8, x9 =>
    bif (decide ((x9 : Int) < x8)) then (
      if (0 : Int) ≤ x9 ∧ x9 < (List.length x7) then
      Option.bind (q0 (List.getD x7 (Int.toNat x9) Ty.val.dflt)) fun r1 =>
      (xEq N q0 n (if (r1 : Int) > x3 then r1 else x3) x7 x8 (IntKind.i64.wrap (x9 + 1)))
      else none
    ) else (
      some (IntKind.i64.wrap (x3 + 1))
    )
def xFU (N : Nat) (q0 : Val → Option (Int)) (a0 : Val) : Option (Int) :=
  (xEq N q0 N 0 (Val.list a0) (List.length (Val.list a0) : Int) 0)
def xDx (N : Nat) : Nat → Val → Option (Int)
  | 0, _ => none
  | d + 1, a0 => xFU N (xDx N d) a0
def xGd (N : Nat) (a0 : Val) : Option (Int) := xDx N N a0
def xAs (a0 : Val) : List Arg := [.val (.v true [.int .i64 (Val.kind a0), .int .i64 (Val.n a0), .int .i64 (Val.step a0), .str (Val.text a0), .sl .ro .val (Val.list a0), .sl .ro .str (Val.columns a0), .sl .ro .row (Val.rows a0)])]
def xAl (r : Bool) : CallO := ⟨.v false [.bool r], [], []⟩
def xBx (N : Nat) (q0 : Val → Option (Bool)) : Nat → (List Val) → Int → Int → Val → Option (Bool)
  | 0, _, _, _, _ => none
  | n + 1, x124, x125, x126, b1 =>
    bif (decide ((x126 : Int) < x125)) then (
      if (0 : Int) ≤ x126 ∧ x126 < (List.length x124) then
      bif (((Val.kind (List.getD x124 (Int.toNat x126) Ty.val.dflt)) : Int) != 1) then (
        bif (((Val.kind (List.getD x124 (Int.toNat x126) Ty.val.dflt)) : Int) != 2) then (
          bif (((Val.kind (List.getD x124 (Int.toNat x126) Ty.val.dflt)) : Int) != 3) then (
            some false
          ) else (
            Option.bind (q0 (List.getD x124 (Int.toNat x126) Ty.val.dflt)) fun r1 =>
            bif (!r1) then (
              some false
            ) else (
              (xBx N q0 n x124 x125 (IntKind.i64.wrap (x126 + 1)) b1)
            )
          )
        ) else (
          Option.bind (q0 (List.getD x124 (Int.toNat x126) Ty.val.dflt)) fun r1 =>
          bif (!r1) then (
            some false
          ) else (
            (xBx N q0 n x124 x125 (IntKind.i64.wrap (x126 + 1)) b1)
          )
        )
      ) else (
        Option.bind (q0 (List.getD x124 (Int.toNat x126) Ty.val.dflt)) fun r1 =>
        bif (!r1) then (
          some false
        ) else (
          (xBx N q0 n x124 x125 (IntKind.i64.wrap (x126 + 1)) b1)
        )
      )
      else none
    ) else (
      bif (((Val.n b1) : Int) == 0) then (
        bif (((Val.step b1) : Int) == 0) then (
          bif (((Val.text b1) : Str) == []) then (
            bif (((List.length (Val.columns b1) : Int) : Int) == 0) then (
              bif (((List.length (Val.rows b1) : Int) : Int) == 0) then (
                bif (decide (((List.length (Val.list b1) : Int) : Int) ≤ 8)) then (
                  Option.bind (xGd N b1) fun r1 =>
                  some (decide ((r1 : Int) ≤ 3))
                ) else (
                  some false
                )
              ) else (
                some false
              )
            ) else (
              some false
            )
          ) else (
            some false
          )
        ) else (
          some false
        )
      ) else (
        some false
      )
    )
def xDa (N : Nat) (q0 : Val → Option (Bool)) (a0 : Val) : Option (Bool) :=
  bif (((List.length (Val.list a0) : Int) : Int) == 0) then (
    bif (((List.length (Val.columns a0) : Int) : Int) == 0) then (
      bif (((Val.kind a0) : Int) == 1) then (
        bif (((List.length (Val.rows a0) : Int) : Int) == 0) then (
          bif (((Val.step a0) : Int) == 0) then (
            bif (((Val.text a0) : Str) == []) then (
              Option.bind (xDG N (Val.n a0)) fun r1 =>
              some r1
            ) else (
              some false
            )
          ) else (
            some false
          )
        ) else (
          some false
        )
      ) else (
        bif (((Val.kind a0) : Int) == 2) then (
          bif (((List.length (Val.rows a0) : Int) : Int) == 0) then (
            bif (((Val.n a0) : Int) == 0) then (
              bif (((Val.step a0) : Int) == 0) then (
                Option.bind (xFr N (Val.text a0)) fun r1 =>
                some r1
              ) else (
                some false
              )
            ) else (
              some false
            )
          ) else (
            some false
          )
        ) else (
          bif (((Val.kind a0) : Int) == 4) then (
            bif (((List.length (Val.rows a0) : Int) : Int) == 0) then (
              bif (((Val.text a0) : Str) == []) then (
                Option.bind (xDG N (Val.n a0)) fun r1 =>
                bif r1 then (
                  Option.bind (xDG N (Val.step a0)) fun r2 =>
                  some r2
                ) else (
                  some false
                )
              ) else (
                some false
              )
            ) else (
              some false
            )
          ) else (
            bif (((Val.kind a0) : Int) == 6) then (
              bif (((List.length (Val.rows a0) : Int) : Int) == 0) then (
                bif (((Val.step a0) : Int) == 0) then (
                  bif (((Val.text a0) : Str) == []) then (
                    Option.bind (xEZ N (Val.n a0) 1 8) fun r1 =>
                    some r1
                  ) else (
                    some false
                  )
                ) else (
                  some false
                )
              ) else (
                some false
              )
            ) else (
              bif (((Val.kind a0) : Int) == 5) then (
                bif (((Val.n a0) : Int) == 0) then (
                  bif (((Val.step a0) : Int) == 0) then (
                    bif (((Val.text a0) : Str) == []) then (
                      Option.bind (xFF N a0) fun r1 =>
                      some r1
                    ) else (
                      some false
                    )
                  ) else (
                    some false
                  )
                ) else (
                  some false
                )
              ) else (
                bif (((Val.kind a0) : Int) == 3) then (
                  (xBx N q0 N (Val.list a0) (List.length (Val.list a0) : Int) 0 a0)
                ) else (
                  some false
                )
              )
            )
          )
        )
      )
    ) else (
      bif (((Val.kind a0) : Int) == 1) then (
        some false
      ) else (
        bif (((Val.kind a0) : Int) == 2) then (
          some false
        ) else (
          bif (((Val.kind a0) : Int) == 4) then (
            some false
          ) else (
            bif (((Val.kind a0) : Int) == 6) then (
              some false
            ) else (
              bif (((Val.kind a0) : Int) == 5) then (
                bif (((Val.n a0) : Int) == 0) then (
                  bif (((Val.step a0) : Int) == 0) then (
                    bif (((Val.text a0) : Str) == []) then (
                      Option.bind (xFF N a0) fun r1 =>
                      some r1
                    ) else (
                      some false
                    )
                  ) else (
                    some false
                  )
                ) else (
                  some false
                )
              ) else (
                bif (((Val.kind a0) : Int) == 3) then (
                  (xBx N q0 N (Val.list a0) (List.length (Val.list a0) : Int) 0 a0)
                ) else (
                  some false
                )
              )
            )
          )
        )
      )
    )
  ) else (
    bif (((Val.kind a0) : Int) == 1) then (
      some false
    ) else (
      bif (((Val.kind a0) : Int) == 2) then (
        some false
      ) else (
        bif (((Val.kind a0) : Int) == 4) then (
          some false
        ) else (
          bif (((Val.kind a0) : Int) == 6) then (
            some false
          ) else (
            bif (((Val.kind a0) : Int) == 5) then (
              bif (((Val.n a0) : Int) == 0) then (
                bif (((Val.step a0) : Int) == 0) then (
                  bif (((Val.text a0) : Str) == []) then (
                    some false
                  ) else (
                    some false
                  )
                ) else (
                  some false
                )
              ) else (
                some false
              )
            ) else (
              bif (((Val.kind a0) : Int) == 3) then (
                (xBx N q0 N (Val.list a0) (List.length (Val.list a0) : Int) 0 a0)
              ) else (
                some false
              )
            )
          )
        )
      )
    )
  )
def xBy (N : Nat) : Nat → Val → Option (Bool)
  | 0, _ => none
  | d + 1, a0 => xDa N (xBy N d) a0
def xFV (N : Nat) (a0 : Val) : Option (Bool) := xBy N N a0
def xBi (a0 : Int) : List Arg := [.val (.v false [.int .i64 a0])]
def xAO (r : Val) : CallO := ⟨.v true [.int .i64 (Val.kind r), .int .i64 (Val.n r), .int .i64 (Val.step r), .str (Val.text r), .sl .own .val (Val.list r), .sl .own .str (Val.columns r), .sl .own .row (Val.rows r)], [], []⟩
def xA5 (N : Nat) (a0 : Int) : Option (Val) :=
  some (Val.mk 6 a0 0 [] [] [] [])
def xCE (a0 : List Val) : List Arg := [.val (.v false [.sl .ro .val a0])]
def xCW (r : Val × Bool × Bool) : CallO := ⟨.tup [(true, [.int .i64 (Val.kind r.1), .int .i64 (Val.n r.1), .int .i64 (Val.step r.1), .str (Val.text r.1), .sl .ro .val (Val.list r.1), .sl .ro .str (Val.columns r.1), .sl .ro .row (Val.rows r.1)]), (false, [.bool r.2.1])], [], []⟩
def xCV (r : Val × Bool × Bool) : CallO := ⟨.tup [(true, [.int .i64 (Val.kind r.1), .int .i64 (Val.n r.1), .int .i64 (Val.step r.1), .str (Val.text r.1), .sl .own .val (Val.list r.1), .sl .own .str (Val.columns r.1), .sl .own .row (Val.rows r.1)]), (false, [.bool r.2.1])], [], []⟩
def xBM (r : Val × Bool × Bool) : CallO := bif r.2.2 then xCW r else xCV r
def xCn (N : Nat) : Nat → (List Val) → Int → Int → Val → Option (Val × Bool × Bool)
  | 0, _, _, _, _ => none
  | n + 1, x6, x7, x8, b2 =>
    bif (decide ((x8 : Int) < x7)) then (
      if (0 : Int) ≤ x8 ∧ x8 < (List.length x6) then
      Option.bind (xFV N (List.getD x6 (Int.toNat x8) Ty.val.dflt)) fun r1 =>
      bif (!r1) then (
        Option.bind (xA5 N 4) fun r2 =>
        some (r2, true, false)
      ) else (
        bif (((Val.kind (List.getD x6 (Int.toNat x8) Ty.val.dflt)) : Int) == 6) then (
          some ((List.getD x6 (Int.toNat x8) Ty.val.dflt), true, true)
        ) else (
          (xCn N n x6 x7 (IntKind.i64.wrap (x8 + 1)) b2)
        )
      )
      else none
    ) else (
      some ((Val.mk 0 0 0 [] [] [] []), false, false)
    )
def xE4 (N : Nat) (a0 : List Val) : Option (Val × Bool × Bool) :=
  (xCn N N a0 (List.length a0 : Int) 0 (Val.mk 0 0 0 [] [] [] []))
def xA4 (a0 : List Int) (a1 : List Val) : List Arg := [.val (.v false [.sl .ro .int a0]), .val (.v false [.sl .ro .val a1])]
def xFL (r : Val × Bool × Bool) : CallO := ⟨.tup [(true, [.int .i64 (Val.kind r.1), .int .i64 (Val.n r.1), .int .i64 (Val.step r.1), .str (Val.text r.1), .sl .ro .val (Val.list r.1), .sl .ro .str (Val.columns r.1), .sl .ro .row (Val.rows r.1)]), (false, [.bool r.2.1])], [], []⟩
def xBc (r : Val × Bool × Bool) : CallO := ⟨.tup [(true, [.int .i64 (Val.kind r.1), .int .i64 (Val.n r.1), .int .i64 (Val.step r.1), .str (Val.text r.1), .sl .own .val (Val.list r.1), .sl .own .str (Val.columns r.1), .sl .own .row (Val.rows r.1)]), (false, [.bool r.2.1])], [], []⟩
def xBf (r : Val × Bool × Bool) : CallO := ⟨.tup [(true, [.int .i64 (Val.kind r.1), .int .i64 (Val.n r.1), .int .i64 (Val.step r.1), .str (Val.text r.1), .sl .ro .val [], .sl .ro .str [], .sl .ro .row []]), (false, [.bool r.2.1])], [], []⟩
def xBO (r : Val × Bool × Bool) : CallO := bif r.2.2 then xFL r else xBc r
def xCA (N : Nat) : Nat → (List Int) → (List Val) → Int → Int → Val → Option (Val × Bool × Bool)
  | 0, _, _, _, _, _ => none
  | n + 1, x0, x17, x18, x19, b4 =>
    bif (decide ((x19 : Int) < x18)) then (
      if (0 : Int) ≤ x19 ∧ x19 < (List.length x17) then
      if (0 : Int) ≤ x19 ∧ x19 < (List.length x0) then
      bif (((Val.kind (List.getD x17 (Int.toNat x19) Ty.val.dflt)) : Int) != (List.getD x0 (Int.toNat x19) Ty.int.dflt)) then (
        Option.bind (xA5 N 4) fun r1 =>
        some (r1, true, false)
      ) else (
        (xCA N n x0 x17 x18 (IntKind.i64.wrap (x19 + 1)) b4)
      )
      else none
      else none
    ) else (
      some ((Val.mk 0 0 0 [] [] [] []), false, false)
    )
def xEL (N : Nat) (a0 : List Int) (a1 : List Val) : Option (Val × Bool × Bool) :=
  Option.bind (xE4 N a1) fun r1 =>
  bif r1.2.2 then (
    bif r1.2.1 then (
      some (r1.1, true, true)
    ) else (
      (xCA N N a0 a1 (List.length a1 : Int) 0 (Val.mk 0 0 0 [] [] [] []))
    )
  ) else (
    bif r1.2.1 then (
      some (r1.1, true, false)
    ) else (
      (xCA N N a0 a1 (List.length a1 : Int) 0 (Val.mk 0 0 0 [] [] [] []))
    )
  )
def xAH (a0 : Val) (a1 : Str) : List Arg := [.val (.v true [.int .i64 (Val.kind a0), .int .i64 (Val.n a0), .int .i64 (Val.step a0), .str (Val.text a0), .sl .ro .val (Val.list a0), .sl .ro .str (Val.columns a0), .sl .ro .row (Val.rows a0)]), .val (.v false [.str a1])]
def xAm (r : Int) : CallO := ⟨.v false [.int .i64 r], [], []⟩
def xCf (N : Nat) (a0 : Val) (a1 : Str) : Option (Int) :=
  Option.bind (xGe N (Val.columns a0) a1) fun r1 =>
  some r1
def xFK (a0 : Rowd) : List Arg := [.val (.v true [.sl .ro .int (Rowd.cells a0), .sl .ro .org (Rowd.frm a0)])]
def xEY (r : Rowd) : CallO := ⟨.v true [.sl .own .int (Rowd.cells r), .sl .own .org (Rowd.frm r)], [], []⟩
def xGK (N : Nat) (a0 : Rowd) : Option (Rowd) :=
  if 0 + List.length (Rowd.cells a0) ≤ Lim then
  if 0 + List.length (Rowd.frm a0) ≤ Lim then
  some (Rowd.mk ([] ++ (Rowd.cells a0)) ([] ++ (Rowd.frm a0)))
  else none
  else none
def xCU (a0 : Val) : List Arg := [.val (.v true [.int .i64 (Val.kind a0), .int .i64 (Val.n a0), .int .i64 (Val.step a0), .str (Val.text a0), .sl .ro .val (Val.list a0), .sl .ro .str (Val.columns a0), .sl .ro .row (Val.rows a0)])]
def xBN (r : Val) : CallO := ⟨.v true [.int .i64 (Val.kind r), .int .i64 (Val.n r), .int .i64 (Val.step r), .str (Val.text r), .sl .own .val (Val.list r), .sl .own .str (Val.columns r), .sl .own .row (Val.rows r)], [], []⟩
def xDe (N : Nat) (q0 : Val → Option (Val)) (q1 : (List Val) → Option ((List Val))) : Nat → (List Rowd) → Int → Int → Val → Val → Option (Val)
  | 0, _, _, _, _, _ => none
  | n + 1, x18, x19, x20, b2, b3 =>
    bif (decide ((x20 : Int) < x19)) then (
      if (0 : Int) ≤ x20 ∧ x20 < (List.length x18) then
      Option.bind (xGK N (List.getD x18 (Int.toNat x20) Ty.row.dflt)) fun r1 =>
      if List.length (Val.rows b3) + List.length [r1] ≤ Lim then
      (xDe N q0 q1 n x18 x19 (IntKind.i64.wrap (x20 + 1)) b2 (Val.mk (Val.kind b3) (Val.n b3) (Val.step b3) (Val.text b3) (Val.list b3) (Val.columns b3) ((Val.rows b3) ++ [r1])))
      else none
      else none
    ) else (
      some b3
    )
def xDX (N : Nat) (q0 : Val → Option (Val)) (q1 : (List Val) → Option ((List Val))) (a0 : Val) : Option (Val) :=
  Option.bind (q1 (Val.list a0)) fun r1 =>
  if 0 + List.length (Val.columns a0) ≤ Lim then
  (xDe N q0 q1 N (Val.rows a0) (List.length (Val.rows a0) : Int) 0 (Val.mk 0 0 0 [] [] [] []) (Val.mk (Val.kind a0) (Val.n a0) (Val.step a0) (Val.text a0) r1 ([] ++ (Val.columns a0)) []))
  else none
def xEf (a0 : List Val) : List Arg := [.val (.v false [.sl .ro .val a0])]
def xC0 (r : (List Val)) : CallO := ⟨.v false [.sl .own .val r], [], []⟩
def xDv (N : Nat) (q0 : Val → Option (Val)) (q1 : (List Val) → Option ((List Val))) : Nat → (List Val) → (List Val) → Int → Int → Option ((List Val))
  | 0, _, _, _, _ => none
  | n + 1, x3, x7, x8, x9 =>
    bif (decide ((x9 : Int) < x8)) then (
      if (0 : Int) ≤ x9 ∧ x9 < (List.length x7) then
      Option.bind (q0 (List.getD x7 (Int.toNat x9) Ty.val.dflt)) fun r1 =>
      if List.length x3 + List.length [(Val.re r1)] ≤ Lim then
      (xDv N q0 q1 n (x3 ++ [(Val.re r1)]) x7 x8 (IntKind.i64.wrap (x9 + 1)))
      else none
      else none
    ) else (
      some x3
    )
def xDC (N : Nat) (q0 : Val → Option (Val)) (q1 : (List Val) → Option ((List Val))) (a0 : List Val) : Option ((List Val)) :=
  (xDv N q0 q1 N [] a0 (List.length a0 : Int) 0)
structure impl_copyValue_rec where
  c_impl_copyValue : Val → Option (Val)
  c_impl_copyValues : (List Val) → Option ((List Val))
def xBj (N : Nat) : Nat → impl_copyValue_rec
  | 0 => ⟨fun _ => none, fun _ => none⟩
  | d + 1 => ⟨xDX N (xBj N d).c_impl_copyValue (xBj N d).c_impl_copyValues, xDC N (xBj N d).c_impl_copyValue (xBj N d).c_impl_copyValues⟩
def xF5 (N : Nat) (a0 : Val) : Option (Val) := (xBj N N).c_impl_copyValue a0
def xAp (a0 : Val) (a1 : Val) (a2 : Val) (a3 : Val) : List Arg := [.val (.v true [.int .i64 (Val.kind a0), .int .i64 (Val.n a0), .int .i64 (Val.step a0), .str (Val.text a0), .sl .ro .val (Val.list a0), .sl .ro .str (Val.columns a0), .sl .ro .row (Val.rows a0)]), .val (.v true [.int .i64 (Val.kind a1), .int .i64 (Val.n a1), .int .i64 (Val.step a1), .str (Val.text a1), .sl .ro .val (Val.list a1), .sl .ro .str (Val.columns a1), .sl .ro .row (Val.rows a1)]), .val (.v true [.int .i64 (Val.kind a2), .int .i64 (Val.n a2), .int .i64 (Val.step a2), .str (Val.text a2), .sl .ro .val (Val.list a2), .sl .ro .str (Val.columns a2), .sl .ro .row (Val.rows a2)]), .val (.v true [.int .i64 (Val.kind a3), .int .i64 (Val.n a3), .int .i64 (Val.step a3), .str (Val.text a3), .sl .ro .val (Val.list a3), .sl .ro .str (Val.columns a3), .sl .ro .row (Val.rows a3)])]
def xFH (r : Val × Bool) : CallO := ⟨.v true [.int .i64 (Val.kind r.1), .int .i64 (Val.n r.1), .int .i64 (Val.step r.1), .str (Val.text r.1), .sl .ro .val (Val.list r.1), .sl .ro .str (Val.columns r.1), .sl .ro .row (Val.rows r.1)], [], []⟩
def xAv (r : Val × Bool) : CallO := ⟨.v true [.int .i64 (Val.kind r.1), .int .i64 (Val.n r.1), .int .i64 (Val.step r.1), .str (Val.text r.1), .sl .own .val (Val.list r.1), .sl .own .str (Val.columns r.1), .sl .own .row (Val.rows r.1)], [], []⟩
def xAx (r : Val × Bool) : CallO := ⟨.v true [.int .i64 (Val.kind r.1), .int .i64 (Val.n r.1), .int .i64 (Val.step r.1), .str (Val.text r.1), .sl .ro .val [], .sl .ro .str [], .sl .ro .row []], [], []⟩
def xBa (r : Val × Bool) : CallO := bif r.2 then xFH r else xAv r
def xCp (N : Nat) : Nat → Int → Int → (List Rowd) → Int → Int → Val → Val → Option (Val × Bool)
  | 0, _, _, _, _, _, _, _ => none
  | n + 1, x11, x12, x72, x73, x74, b8, b13 =>
    bif (decide ((x74 : Int) < x73)) then (
      if (0 : Int) ≤ x74 ∧ x74 < (List.length x72) then
      if (0 : Int) ≤ x11 ∧ x11 < (List.length (Rowd.cells (List.getD x72 (Int.toNat x74) Ty.row.dflt))) then
      if (0 : Int) ≤ x12 ∧ x12 < (List.length (Rowd.cells (List.getD x72 (Int.toNat x74) Ty.row.dflt))) then
      Option.bind (xDG N (IntKind.i64.wrap ((List.getD (Rowd.cells (List.getD x72 (Int.toNat x74) Ty.row.dflt)) (Int.toNat x11) Ty.int.dflt) + (List.getD (Rowd.cells (List.getD x72 (Int.toNat x74) Ty.row.dflt)) (Int.toNat x12) Ty.int.dflt)))) fun r1 =>
      bif (!r1) then (
        Option.bind (xA5 N 5) fun r2 =>
        some (r2, false)
      ) else (
        if (0 : Int) ≤ x74 ∧ x74 < (List.length (Val.rows b13)) then
        if List.length (Rowd.cells (List.getD (Val.rows b13) (Int.toNat x74) Ty.row.dflt)) + List.length [(IntKind.i64.wrap ((List.getD (Rowd.cells (List.getD x72 (Int.toNat x74) Ty.row.dflt)) (Int.toNat x11) Ty.int.dflt) + (List.getD (Rowd.cells (List.getD x72 (Int.toNat x74) Ty.row.dflt)) (Int.toNat x12) Ty.int.dflt)))] ≤ Lim then
        (xCp N n x11 x12 x72 x73 (IntKind.i64.wrap (x74 + 1)) b8 (Val.mk (Val.kind b13) (Val.n b13) (Val.step b13) (Val.text b13) (Val.list b13) (Val.columns b13) (List.set (Val.rows b13) (Int.toNat x74) (Rowd.mk ((Rowd.cells (List.getD (Val.rows b13) (Int.toNat x74) Ty.row.dflt)) ++ [(IntKind.i64.wrap ((List.getD (Rowd.cells (List.getD x72 (Int.toNat x74) Ty.row.dflt)) (Int.toNat x11) Ty.int.dflt) + (List.getD (Rowd.cells (List.getD x72 (Int.toNat x74) Ty.row.dflt)) (Int.toNat x12) Ty.int.dflt)))]) (Rowd.frm (List.getD (Val.rows b13) (Int.toNat x74) Ty.row.dflt))))))
        else none
        else none
      )
      else none
      else none
      else none
    ) else (
      some (b13, false)
    )
def xCI (N : Nat) (a0 : Val) (a1 : Val) (a2 : Val) (a3 : Val) : Option (Val × Bool) :=
  Option.bind (xEL N [2, 2, 2, 5] [(Val.re a0), (Val.re a1), (Val.re a2), (Val.re a3)]) fun r1 =>
  bif r1.2.2 then (
    if List.isEmpty (Val.list r1.1) = true then
    if List.isEmpty (Val.columns r1.1) = true then
    if List.isEmpty (Val.rows r1.1) = true then
    bif r1.2.1 then (
      some ((Val.mk (Val.kind r1.1) (Val.n r1.1) (Val.step r1.1) (Val.text r1.1) [] [] []), true)
    ) else (
      Option.bind (xCf N a3 (Val.text a1)) fun r2 =>
      Option.bind (xCf N a3 (Val.text a2)) fun r3 =>
      Option.bind (xDy N (Val.text a0)) fun r4 =>
      bif (!r4) then (
        Option.bind (xA5 N 7) fun r5 =>
        some (r5, false)
      ) else (
        Option.bind (xCf N a3 (Val.text a0)) fun r5 =>
        bif (decide ((r5 : Int) ≥ 0)) then (
          Option.bind (xA5 N 7) fun r6 =>
          some (r6, false)
        ) else (
          bif (decide ((r2 : Int) < 0)) then (
            Option.bind (xA5 N 7) fun r6 =>
            some (r6, false)
          ) else (
            bif (decide ((r3 : Int) < 0)) then (
              Option.bind (xA5 N 7) fun r6 =>
              some (r6, false)
            ) else (
              bif (decide (((List.length (Val.columns a3) : Int) : Int) ≥ 4)) then (
                Option.bind (xA5 N 6) fun r6 =>
                some (r6, false)
              ) else (
                Option.bind (xF5 N a3) fun r6 =>
                if List.length (Val.columns r6) + List.length [(Val.text a0)] ≤ Lim then
                (xCp N N r2 r3 (Val.rows a3) (List.length (Val.rows a3) : Int) 0 (Val.mk 0 0 0 [] [] [] []) (Val.mk (Val.kind r6) (Val.n r6) (Val.step r6) (Val.text r6) (Val.list r6) ((Val.columns r6) ++ [(Val.text a0)]) (Val.rows r6)))
                else none
              )
            )
          )
        )
      )
    )
    else none
    else none
    else none
  ) else (
    bif r1.2.1 then (
      some (r1.1, false)
    ) else (
      Option.bind (xCf N a3 (Val.text a1)) fun r2 =>
      Option.bind (xCf N a3 (Val.text a2)) fun r3 =>
      Option.bind (xDy N (Val.text a0)) fun r4 =>
      bif (!r4) then (
        Option.bind (xA5 N 7) fun r5 =>
        some (r5, false)
      ) else (
        Option.bind (xCf N a3 (Val.text a0)) fun r5 =>
        bif (decide ((r5 : Int) ≥ 0)) then (
          Option.bind (xA5 N 7) fun r6 =>
          some (r6, false)
        ) else (
          bif (decide ((r2 : Int) < 0)) then (
            Option.bind (xA5 N 7) fun r6 =>
            some (r6, false)
          ) else (
            bif (decide ((r3 : Int) < 0)) then (
              Option.bind (xA5 N 7) fun r6 =>
              some (r6, false)
            ) else (
              bif (decide (((List.length (Val.columns a3) : Int) : Int) ≥ 4)) then (
                Option.bind (xA5 N 6) fun r6 =>
                some (r6, false)
              ) else (
                Option.bind (xF5 N a3) fun r6 =>
                if List.length (Val.columns r6) + List.length [(Val.text a0)] ≤ Lim then
                (xCp N N r2 r3 (Val.rows a3) (List.length (Val.rows a3) : Int) 0 (Val.mk 0 0 0 [] [] [] []) (Val.mk (Val.kind r6) (Val.n r6) (Val.step r6) (Val.text r6) (Val.list r6) ((Val.columns r6) ++ [(Val.text a0)]) (Val.rows r6)))
                else none
              )
            )
          )
        )
      )
    )
  )
def xEz (a0 : Int) (a1 : Int) (a2 : Int) : List Arg := [.val (.v false [.int .i64 a0]), .val (.v false [.int .i64 a1]), .val (.v false [.int .i64 a2])]
def xC8 (r : Bool) : CallO := ⟨.v false [.bool r], [], []⟩
def xGB (N : Nat) (a0 : Int) (a1 : Int) (a2 : Int) : Option (Bool) :=
  bif (decide ((a0 : Int) ≥ a1)) then (
    some (decide ((a0 : Int) ≤ a2))
  ) else (
    some false
  )
def xCh (a0 : Int) : List Arg := [.val (.v false [.int .i64 a0])]
def xBq (r : Bool) : CallO := ⟨.v false [.bool r], [], []⟩
def xDI (N : Nat) (a0 : Int) : Option (Bool) :=
  Option.bind (xGB N a0 (-1000000000) 1000000000) fun r1 =>
  some r1
def xEB (a0 : Str) : List Arg := [.val (.v false [.str a0])]
def xCc (r : Bool) : CallO := ⟨.v false [.bool r], [], []⟩
def xCv (N : Nat) : Nat → Str → Int → Option (Bool)
  | 0, _, _ => none
  | n + 1, x0, x3 =>
    bif (decide ((x3 : Int) < (List.length x0 : Int))) then (
      if (0 : Int) ≤ x3 ∧ x3 < (List.length x0) then
      bif (decide ((((List.getD x0 (Int.toNat x3) 0).toNat : Int) : Int) < 32)) then (
        some false
      ) else (
        bif (decide ((((List.getD x0 (Int.toNat x3) 0).toNat : Int) : Int) > 126)) then (
          some false
        ) else (
          bif ((((List.getD x0 (Int.toNat x3) 0).toNat : Int) : Int) == 34) then (
            some false
          ) else (
            (xCv N n x0 (IntKind.i64.wrap (x3 + 1)))
          )
        )
      )
      else none
    ) else (
      some (decide (((List.length x0 : Int) : Int) ≤ 20))
    )
def xFu (N : Nat) (a0 : Str) : Option (Bool) :=
  (xCv N N a0 0)
def xCX (a0 : Val) : List Arg := [.val (.v true [.int .i64 (Val.kind a0), .int .i64 (Val.n a0), .int .i64 (Val.step a0), .str (Val.text a0), .sl .ro .val (Val.list a0), .sl .ro .str (Val.columns a0), .sl .ro .row (Val.rows a0)])]
def xBZ (r : Bool) : CallO := ⟨.v false [.bool r], [], []⟩
def xGa (N : Nat) (a0 : Val) : Option (Bool) :=
  bif (((Val.kind a0) : Int) == 1) then (
    some true
  ) else (
    bif (((Val.kind a0) : Int) == 2) then (
      some true
    ) else (
      some (((Val.kind a0) : Int) == 3)
    )
  )
def xFO (a0 : Int) (a1 : Int) : List Arg := [.val (.v false [.int .i64 a0]), .val (.v false [.int .i64 a1])]
def xE8 (r : Int) : CallO := ⟨.v false [.int .i64 r], [], []⟩
def xG4 (N : Nat) (a0 : Int) (a1 : Int) : Option (Int) :=
  bif (decide ((a0 : Int) > a1)) then (
    some a0
  ) else (
    some a1
  )
def xD2 (a0 : Val) : List Arg := [.val (.v true [.int .i64 (Val.kind a0), .int .i64 (Val.n a0), .int .i64 (Val.step a0), .str (Val.text a0), .sl .ro .val (Val.list a0), .sl .ro .str (Val.columns a0), .sl .ro .row (Val.rows a0)])]
def xCK (r : Int) : CallO := ⟨.v false [.int .i64 r], [], []⟩
def xEt (N : Nat) (q0 : Val → Option (Int)) : Nat → Int → Int → Val → Option (Int)
  | 0, _, _, _ => none
  | n + 1, x3, x4, b1 =>
    bif (decide ((x4 : Int) < (List.length (Val.list b1) : Int))) then (
      if (0 : Int) ≤ x4 ∧ x4 < (List.length (Val.list b1)) then
      Option.bind (q0 (List.getD (Val.list b1) (Int.toNat x4) Ty.val.dflt)) fun r1 =>
      Option.bind (xG4 N x3 r1) fun r2 =>
      (xEt N q0 n r2 (IntKind.i64.wrap (x4 + 1)) b1)
      else none
    ) else (
      some (IntKind.i64.wrap (x3 + 1))
    )
def xFY (N : Nat) (q0 : Val → Option (Int)) (a0 : Val) : Option (Int) :=
  (xEt N q0 N 0 0 a0)
def xDz (N : Nat) : Nat → Val → Option (Int)
  | 0, _ => none
  | d + 1, a0 => xFY N (xDz N d) a0
def xGL (N : Nat) (a0 : Val) : Option (Int) := xDz N N a0
def xEv (a0 : Str) : List Arg := [.val (.v false [.str a0])]
def xBB (r : Bool) : CallO := ⟨.v false [.bool r], [], []⟩
def xCL (N : Nat) : Nat → Str → Int → Option (Bool)
  | 0, _, _ => none
  | n + 1, x0, x3 =>
    bif (decide ((x3 : Int) < (List.length x0 : Int))) then (
      if (0 : Int) ≤ x3 ∧ x3 < (List.length x0) then
      bif (decide ((((List.getD x0 (Int.toNat x3) 0).toNat : Int) : Int) ≥ 97)) then (
        bif (decide ((((List.getD x0 (Int.toNat x3) 0).toNat : Int) : Int) ≥ 48)) then (
          bif (!(decide ((((List.getD x0 (Int.toNat x3) 0).toNat : Int) : Int) ≤ 122))) then (
            bif ((x3 : Int) == 0) then (
              some false
            ) else (
              bif (!(decide ((((List.getD x0 (Int.toNat x3) 0).toNat : Int) : Int) ≤ 57))) then (
                some false
              ) else (
                (xCL N n x0 (IntKind.i64.wrap (x3 + 1)))
              )
            )
          ) else (
            (xCL N n x0 (IntKind.i64.wrap (x3 + 1)))
          )
        ) else (
          bif (!(decide ((((List.getD x0 (Int.toNat x3) 0).toNat : Int) : Int) ≤ 122))) then (
            bif ((x3 : Int) == 0) then (
              some false
            ) else (
              some false
            )
          ) else (
            (xCL N n x0 (IntKind.i64.wrap (x3 + 1)))
          )
        )
      ) else (
        bif (decide ((((List.getD x0 (Int.toNat x3) 0).toNat : Int) : Int) ≥ 48)) then (
          bif ((x3 : Int) == 0) then (
            some false
          ) else (
            bif (!(decide ((((List.getD x0 (Int.toNat x3) 0).toNat : Int) : Int) ≤ 57))) then (
              some false
            ) else (
              (xCL N n x0 (IntKind.i64.wrap (x3 + 1)))
            )
          )
        ) else (
          bif ((x3 : Int) == 0) then (
            some false
          ) else (
            some false
          )
        )
      )
      else none
    ) else (
      some (decide (((List.length x0 : Int) : Int) > 0))
    )
def xGO (N : Nat) (a0 : Str) : Option (Bool) :=
  (xCL N N a0 0)
def xEV : List Arg := []
def xEi (r : (List Str)) : CallO := ⟨.v false [.sl .own .str r], [], []⟩
def xFQ (N : Nat) : Option ((List Str)) :=
  some [[108, 101, 116], [105, 110], [105, 102], [116, 104, 101, 110], [101, 108, 115, 101], [102, 111, 114], [100, 111], [108, 101, 110], [115, 117, 109], [116, 97, 107, 101], [115, 107, 105, 112], [114, 97, 110, 103, 101], [110, 116, 104], [119, 104, 101, 114, 101], [107, 101, 101, 112], [97, 100, 100], [103, 114, 111, 117, 112], [106, 111, 105, 110], [99, 111, 108, 117, 109, 110], [114, 111, 119, 115], [99, 108, 111, 99, 107], [99, 104, 97, 110, 99, 101], [102, 105, 108, 101], [116, 97, 98, 108, 101]]
def xE7 (a0 : List Str) (a1 : Str) : List Arg := [.val (.v false [.sl .ro .str a0]), .val (.v false [.str a1])]
def xC1 (r : Bool) : CallO := ⟨.v false [.bool r], [], []⟩
def xEE (N : Nat) : Nat → (List Str) → Str → Int → Option (Bool)
  | 0, _, _, _ => none
  | n + 1, x0, x1, x5 =>
    bif (decide ((x5 : Int) < (List.length x0 : Int))) then (
      if (0 : Int) ≤ x5 ∧ x5 < (List.length x0) then
      bif (((List.getD x0 (Int.toNat x5) Ty.str.dflt) : Str) == x1) then (
        some true
      ) else (
        (xEE N n x0 x1 (IntKind.i64.wrap (x5 + 1)))
      )
      else none
    ) else (
      some false
    )
def xG3 (N : Nat) (a0 : List Str) (a1 : Str) : Option (Bool) :=
  (xEE N N a0 a1 0)
def xEU (a0 : Str) : List Arg := [.val (.v false [.str a0])]
def xEh (r : Bool) : CallO := ⟨.v false [.bool r], [], []⟩
def xE0 (N : Nat) (a0 : Str) : Option (Bool) :=
  Option.bind (xFQ N) fun r1 =>
  Option.bind (xG3 N r1 a0) fun r2 =>
  some r2
def xBC (a0 : Str) : List Arg := [.val (.v false [.str a0])]
def xA2 (r : Bool) : CallO := ⟨.v false [.bool r], [], []⟩
def xEd (N : Nat) (a0 : Str) : Option (Bool) :=
  Option.bind (xGO N a0) fun r1 =>
  bif r1 then (
    bif (decide (((List.length a0 : Int) : Int) ≤ 8)) then (
      Option.bind (xE0 N a0) fun r2 =>
      some (!r2)
    ) else (
      some false
    )
  ) else (
    some false
  )
def xDf (a0 : List Str) : List Arg := [.val (.v false [.sl .ro .str a0])]
def xBK (r : Bool) : CallO := ⟨.v false [.bool r], [], []⟩
def xCS (N : Nat) : Nat → (List Str) → Int → Option (Bool)
  | 0, _, _ => none
  | n + 1, x0, x3 =>
    bif (decide ((x3 : Int) < (List.length x0 : Int))) then (
      if (0 : Int) ≤ x3 ∧ x3 ≤ (List.length x0) then
      if (0 : Int) ≤ x3 ∧ x3 < (List.length x0) then
      Option.bind (xG3 N (List.take (Int.toNat x3) x0) (List.getD x0 (Int.toNat x3) Ty.str.dflt)) fun r1 =>
      bif r1 then (
        some false
      ) else (
        (xCS N n x0 (IntKind.i64.wrap (x3 + 1)))
      )
      else none
      else none
    ) else (
      some true
    )
def xEH (N : Nat) (a0 : List Str) : Option (Bool) :=
  (xCS N N a0 0)
def xDO (a0 : List Str) : List Arg := [.val (.v false [.sl .ro .str a0])]
def xBP (r : Bool) : CallO := ⟨.v false [.bool r], [], []⟩
def xDP (N : Nat) : Nat → (List Str) → Int → Option (Bool)
  | 0, _, _ => none
  | n + 1, x0, x3 =>
    bif (decide ((x3 : Int) < (List.length x0 : Int))) then (
      if (0 : Int) ≤ x3 ∧ x3 < (List.length x0) then
      Option.bind (xEd N (List.getD x0 (Int.toNat x3) Ty.str.dflt)) fun r1 =>
      bif (!r1) then (
        some false
      ) else (
        (xDP N n x0 (IntKind.i64.wrap (x3 + 1)))
      )
      else none
    ) else (
      Option.bind (xGB N (List.length x0 : Int) 1 4) fun r1 =>
      bif r1 then (
        Option.bind (xEH N x0) fun r2 =>
        some r2
      ) else (
        some false
      )
    )
def xF9 (N : Nat) (a0 : List Str) : Option (Bool) :=
  (xDP N N a0 0)
def xDA (a0 : Org) (a1 : Org) : List Arg := [.val (.v true [.int .i64 (Org.cell a0), .int .i64 (Org.row a0)]), .val (.v true [.int .i64 (Org.cell a1), .int .i64 (Org.row a1)])]
def xCQ (r : Bool) : CallO := ⟨.v false [.bool r], [], []⟩
def xFR (N : Nat) (a0 : Org) (a1 : Org) : Option (Bool) :=
  bif (decide (((Org.cell a0) : Int) < (Org.cell a1))) then (
    some true
  ) else (
    bif (((Org.cell a0) : Int) == (Org.cell a1)) then (
      some (decide (((Org.row a0) : Int) < (Org.row a1)))
    ) else (
      some false
    )
  )
def xD7 (a0 : List Org) : List Arg := [.val (.v false [.sl .ro .org a0])]
def xBL (r : Bool) : CallO := ⟨.v false [.bool r], [], []⟩
def xCw (N : Nat) : Nat → (List Org) → Int → Option (Bool)
  | 0, _, _ => none
  | n + 1, x0, x3 =>
    bif (decide ((x3 : Int) < (List.length x0 : Int))) then (
      if (0 : Int) ≤ x3 ∧ x3 < (List.length x0) then
      bif (decide (((Org.cell (List.getD x0 (Int.toNat x3) Ty.org.dflt)) : Int) < 0)) then (
        some false
      ) else (
        bif (decide (((Org.row (List.getD x0 (Int.toNat x3) Ty.org.dflt)) : Int) < 0)) then (
          some false
        ) else (
          bif (decide ((x3 : Int) > 0)) then (
            if (0 : Int) ≤ (IntKind.i64.wrap (x3 - 1)) ∧ (IntKind.i64.wrap (x3 - 1)) < (List.length x0) then
            Option.bind (xFR N (List.getD x0 (Int.toNat (IntKind.i64.wrap (x3 - 1))) Ty.org.dflt) (List.getD x0 (Int.toNat x3) Ty.org.dflt)) fun r1 =>
            bif (!r1) then (
              some false
            ) else (
              (xCw N n x0 (IntKind.i64.wrap (x3 + 1)))
            )
            else none
          ) else (
            (xCw N n x0 (IntKind.i64.wrap (x3 + 1)))
          )
        )
      )
      else none
    ) else (
      some true
    )
def xFv (N : Nat) (a0 : List Org) : Option (Bool) :=
  (xCw N N a0 0)
def xEw (a0 : Val) : List Arg := [.val (.v true [.int .i64 (Val.kind a0), .int .i64 (Val.n a0), .int .i64 (Val.step a0), .str (Val.text a0), .sl .ro .val (Val.list a0), .sl .ro .str (Val.columns a0), .sl .ro .row (Val.rows a0)])]
def xB0 (r : Bool) : CallO := ⟨.v false [.bool r], [], []⟩
def xDB (N : Nat) (k4 : Int → Val → Option (Bool)) : Nat → Int → Int → Val → Rowd → Option (Bool)
  | 0, _, _, _, _ => none
  | n + 1, x3, x5, b1, b4 =>
    bif (decide ((x5 : Int) < (List.length (Rowd.cells b4) : Int))) then (
      if (0 : Int) ≤ x5 ∧ x5 < (List.length (Rowd.cells b4)) then
      Option.bind (xDI N (List.getD (Rowd.cells b4) (Int.toNat x5) Ty.int.dflt)) fun r1 =>
      bif (!r1) then (
        some false
      ) else (
        (xDB N k4 n x3 (IntKind.i64.wrap (x5 + 1)) b1 b4)
      )
      else none
    ) else (
      (k4 (IntKind.i64.wrap (x3 + 1)) b1)
    )
def xD9 (N : Nat) : Nat → Int → Val → Option (Bool)
  | 0, _, _ => none
  | n + 1, x3, b1 =>
    bif (decide ((x3 : Int) < (List.length (Val.rows b1) : Int))) then (
      if (0 : Int) ≤ x3 ∧ x3 < (List.length (Val.rows b1)) then
      bif (((List.length (Rowd.cells (List.getD (Val.rows b1) (Int.toNat x3) Ty.row.dflt)) : Int) : Int) != (List.length (Val.columns b1) : Int)) then (
        some false
      ) else (
        Option.bind (xFv N (Rowd.frm (List.getD (Val.rows b1) (Int.toNat x3) Ty.row.dflt))) fun r1 =>
        bif (!r1) then (
          some false
        ) else (
          (xDB N (fun z0 z1 => (xD9 N n z0 z1)) N x3 0 b1 (List.getD (Val.rows b1) (Int.toNat x3) Ty.row.dflt))
        )
      )
      else none
    ) else (
      some true
    )
def xGh (N : Nat) (a0 : Val) : Option (Bool) :=
  Option.bind (xF9 N (Val.columns a0)) fun r1 =>
  bif (!r1) then (
    some false
  ) else (
    bif (decide (((List.length (Val.rows a0) : Int) : Int) > 12)) then (
      some false
    ) else (
      (xD9 N N 0 a0)
    )
  )
def xAM (a0 : Val) : List Arg := [.val (.v true [.int .i64 (Val.kind a0), .int .i64 (Val.n a0), .int .i64 (Val.step a0), .str (Val.text a0), .sl .ro .val (Val.list a0), .sl .ro .str (Val.columns a0), .sl .ro .row (Val.rows a0)])]
def xAJ (r : Bool) : CallO := ⟨.v false [.bool r], [], []⟩
def xDb (N : Nat) (q0 : Val → Option (Bool)) (q1 : Val → Option (Bool)) (a0 : Val) : Option (Bool) :=
  bif (((Val.kind a0) : Int) != 3) then (
    bif (decide (((List.length (Val.list a0) : Int) : Int) > 0)) then (
      some false
    ) else (
      bif (((Val.kind a0) : Int) != 5) then (
        bif (decide (((IntKind.i64.wrap ((List.length (Val.columns a0) : Int) + (List.length (Val.rows a0) : Int))) : Int) > 0)) then (
          some false
        ) else (
          bif (((Val.kind a0) : Int) != 2) then (
            bif (!(((Val.text a0) : Str) == [])) then (
              some false
            ) else (
              bif (((Val.kind a0) : Int) != 4) then (
                bif (((Val.step a0) : Int) != 0) then (
                  some false
                ) else (
                  bif (((Val.kind a0) : Int) == 1) then (
                    Option.bind (xDI N (Val.n a0)) fun r1 =>
                    some r1
                  ) else (
                    bif (((Val.kind a0) : Int) == 6) then (
                      Option.bind (xGB N (Val.n a0) 1 8) fun r1 =>
                      some r1
                    ) else (
                      some false
                    )
                  )
                )
              ) else (
                Option.bind (xDI N (Val.n a0)) fun r1 =>
                bif r1 then (
                  Option.bind (xDI N (Val.step a0)) fun r2 =>
                  some r2
                ) else (
                  some false
                )
              )
            )
          ) else (
            bif (((Val.step a0) : Int) != 0) then (
              some false
            ) else (
              bif (((Val.n a0) : Int) == 0) then (
                Option.bind (xFu N (Val.text a0)) fun r1 =>
                some r1
              ) else (
                some false
              )
            )
          )
        )
      ) else (
        bif (!(((Val.text a0) : Str) == [])) then (
          some false
        ) else (
          bif (((Val.step a0) : Int) != 0) then (
            some false
          ) else (
            bif (((Val.n a0) : Int) == 0) then (
              Option.bind (xGh N a0) fun r1 =>
              some r1
            ) else (
              some false
            )
          )
        )
      )
    )
  ) else (
    bif (decide (((IntKind.i64.wrap ((List.length (Val.columns a0) : Int) + (List.length (Val.rows a0) : Int))) : Int) > 0)) then (
      some false
    ) else (
      bif (!(((Val.text a0) : Str) == [])) then (
        some false
      ) else (
        bif (((Val.step a0) : Int) != 0) then (
          some false
        ) else (
          bif (((Val.n a0) : Int) == 0) then (
            Option.bind (q1 a0) fun r1 =>
            some r1
          ) else (
            some false
          )
        )
      )
    )
  )
def xFo (a0 : Val) : List Arg := [.val (.v true [.int .i64 (Val.kind a0), .int .i64 (Val.n a0), .int .i64 (Val.step a0), .str (Val.text a0), .sl .ro .val (Val.list a0), .sl .ro .str (Val.columns a0), .sl .ro .row (Val.rows a0)])]
def xCY (r : Bool) : CallO := ⟨.v false [.bool r], [], []⟩
def xDL (N : Nat) (q0 : Val → Option (Bool)) (q1 : Val → Option (Bool)) : Nat → Int → Val → Option (Bool)
  | 0, _, _ => none
  | n + 1, x3, b1 =>
    bif (decide ((x3 : Int) < (List.length (Val.list b1) : Int))) then (
      if (0 : Int) ≤ x3 ∧ x3 < (List.length (Val.list b1)) then
      Option.bind (xGa N (List.getD (Val.list b1) (Int.toNat x3) Ty.val.dflt)) fun r1 =>
      bif (!r1) then (
        some false
      ) else (
        Option.bind (q0 (List.getD (Val.list b1) (Int.toNat x3) Ty.val.dflt)) fun r2 =>
        bif (!r2) then (
          some false
        ) else (
          (xDL N q0 q1 n (IntKind.i64.wrap (x3 + 1)) b1)
        )
      )
      else none
    ) else (
      bif (decide (((List.length (Val.list b1) : Int) : Int) ≤ 8)) then (
        Option.bind (xGL N b1) fun r1 =>
        some (decide ((r1 : Int) ≤ 3))
      ) else (
        some false
      )
    )
def xGm (N : Nat) (q0 : Val → Option (Bool)) (q1 : Val → Option (Bool)) (a0 : Val) : Option (Bool) :=
  (xDL N q0 q1 N 0 a0)
structure spec_IsValidValue_rec where
  c_spec_IsValidValue : Val → Option (Bool)
  c_spec_l3List : Val → Option (Bool)
def xAZ (N : Nat) : Nat → spec_IsValidValue_rec
  | 0 => ⟨fun _ => none, fun _ => none⟩
  | d + 1 => ⟨xDb N (xAZ N d).c_spec_IsValidValue (xAZ N d).c_spec_l3List, xGm N (xAZ N d).c_spec_IsValidValue (xAZ N d).c_spec_l3List⟩
def xFZ (N : Nat) (a0 : Val) : Option (Bool) := (xAZ N N).c_spec_IsValidValue a0
def xE1 (a0 : List Val) : List Arg := [.val (.v false [.sl .ro .val a0])]
def xCO (r : Val × Bool) : CallO := ⟨.tup [(true, [.int .i64 (Val.kind r.1), .int .i64 (Val.n r.1), .int .i64 (Val.step r.1), .str (Val.text r.1), .sl .own .val (Val.list r.1), .sl .own .str (Val.columns r.1), .sl .own .row (Val.rows r.1)]), (false, [.bool r.2])], [], []⟩
def xDq (N : Nat) : Nat → (List Val) → Int → Val → Option (Val × Bool)
  | 0, _, _, _ => none
  | n + 1, x0, x4, b2 =>
    bif (decide ((x4 : Int) < (List.length x0 : Int))) then (
      if (0 : Int) ≤ x4 ∧ x4 < (List.length x0) then
      Option.bind (xFZ N (List.getD x0 (Int.toNat x4) Ty.val.dflt)) fun r1 =>
      bif (!r1) then (
        Option.bind (xBd N 4) fun r2 =>
        some (r2, true)
      ) else (
        bif (((Val.kind (List.getD x0 (Int.toNat x4) Ty.val.dflt)) : Int) == 6) then (
          Option.bind (xBd N (Val.n (List.getD x0 (Int.toNat x4) Ty.val.dflt))) fun r2 =>
          some (r2, true)
        ) else (
          (xDq N n x0 (IntKind.i64.wrap (x4 + 1)) b2)
        )
      )
      else none
    ) else (
      some ((Val.mk 0 0 0 [] [] [] []), false)
    )
def xGR (N : Nat) (a0 : List Val) : Option (Val × Bool) :=
  (xDq N N a0 0 (Val.mk 0 0 0 [] [] [] []))
def xB1 (a0 : List Val) (a1 : List Int) : List Arg := [.val (.v false [.sl .ro .val a0]), .val (.v false [.sl .ro .int a1])]
def xBg (r : Val × Bool) : CallO := ⟨.tup [(true, [.int .i64 (Val.kind r.1), .int .i64 (Val.n r.1), .int .i64 (Val.step r.1), .str (Val.text r.1), .sl .own .val (Val.list r.1), .sl .own .str (Val.columns r.1), .sl .own .row (Val.rows r.1)]), (false, [.bool r.2])], [], []⟩
def xDr (N : Nat) : Nat → (List Val) → (List Int) → Int → Val → Option (Val × Bool)
  | 0, _, _, _, _ => none
  | n + 1, x0, x1, x8, b4 =>
    bif (decide ((x8 : Int) < (List.length x0 : Int))) then (
      if (0 : Int) ≤ x8 ∧ x8 < (List.length x0) then
      if (0 : Int) ≤ x8 ∧ x8 < (List.length x1) then
      bif (((Val.kind (List.getD x0 (Int.toNat x8) Ty.val.dflt)) : Int) != (List.getD x1 (Int.toNat x8) Ty.int.dflt)) then (
        Option.bind (xBd N 4) fun r1 =>
        some (r1, true)
      ) else (
        (xDr N n x0 x1 (IntKind.i64.wrap (x8 + 1)) b4)
      )
      else none
      else none
    ) else (
      some ((Val.mk 0 0 0 [] [] [] []), false)
    )
def xFG (N : Nat) (a0 : List Val) (a1 : List Int) : Option (Val × Bool) :=
  Option.bind (xGR N a0) fun r1 =>
  bif r1.2 then (
    some (r1.1, true)
  ) else (
    (xDr N N a0 a1 0 (Val.mk 0 0 0 [] [] [] []))
  )
def xFM (a0 : List Str) (a1 : Str) : List Arg := [.val (.v false [.sl .ro .str a0]), .val (.v false [.str a1])]
def xD4 (r : Int) : CallO := ⟨.v false [.int .i64 r], [], []⟩
def xD3 (N : Nat) : Nat → (List Str) → Str → Int → Option (Int)
  | 0, _, _, _ => none
  | n + 1, x0, x1, x5 =>
    bif (decide ((x5 : Int) < (List.length x0 : Int))) then (
      if (0 : Int) ≤ x5 ∧ x5 < (List.length x0) then
      bif (((List.getD x0 (Int.toNat x5) Ty.str.dflt) : Str) == x1) then (
        some x5
      ) else (
        (xD3 N n x0 x1 (IntKind.i64.wrap (x5 + 1)))
      )
      else none
    ) else (
      some (-1)
    )
def xGM (N : Nat) (a0 : List Str) (a1 : Str) : Option (Int) :=
  (xD3 N N a0 a1 0)
def xAX (a0 : Val) (a1 : Str) : List Arg := [.val (.v true [.int .i64 (Val.kind a0), .int .i64 (Val.n a0), .int .i64 (Val.step a0), .str (Val.text a0), .sl .ro .val (Val.list a0), .sl .ro .str (Val.columns a0), .sl .ro .row (Val.rows a0)]), .val (.v false [.str a1])]
def xAE (r : Int) : CallO := ⟨.v false [.int .i64 r], [], []⟩
def xCP (N : Nat) (a0 : Val) (a1 : Str) : Option (Int) :=
  Option.bind (xGM N (Val.columns a0) a1) fun r1 =>
  some r1
def xGq (a0 : Rowd) : List Arg := [.val (.v true [.sl .ro .int (Rowd.cells a0), .sl .ro .org (Rowd.frm a0)])]
def xFS (r : Rowd) : CallO := ⟨.v true [.sl .own .int (Rowd.cells r), .sl .own .org (Rowd.frm r)], [], []⟩
def xG7 (N : Nat) (a0 : Rowd) : Option (Rowd) :=
  if 0 + List.length (Rowd.cells a0) ≤ Lim then
  if 0 + List.length (Rowd.frm a0) ≤ Lim then
  some (Rowd.mk ([] ++ (Rowd.cells a0)) ([] ++ (Rowd.frm a0)))
  else none
  else none
def xEl (a0 : Val) : List Arg := [.val (.v true [.int .i64 (Val.kind a0), .int .i64 (Val.n a0), .int .i64 (Val.step a0), .str (Val.text a0), .sl .ro .val (Val.list a0), .sl .ro .str (Val.columns a0), .sl .ro .row (Val.rows a0)])]
def xCM (r : Val) : CallO := ⟨.v true [.int .i64 (Val.kind r), .int .i64 (Val.n r), .int .i64 (Val.step r), .str (Val.text r), .sl .own .val (Val.list r), .sl .own .str (Val.columns r), .sl .own .row (Val.rows r)], [], []⟩
def xEm (N : Nat) (q0 : Val → Option (Val)) : Nat → Int → Val → Val → Val → Option (Val)
  | 0, _, _, _, _ => none
  | n + 1, x5, b1, b2, b3 =>
    bif (decide ((x5 : Int) < (List.length (Val.rows b1) : Int))) then (
      if (0 : Int) ≤ x5 ∧ x5 < (List.length (Val.rows b1)) then
      Option.bind (xG7 N (List.getD (Val.rows b1) (Int.toNat x5) Ty.row.dflt)) fun r1 =>
      if List.length (Val.rows b3) + List.length [r1] ≤ Lim then
      (xEm N q0 n (IntKind.i64.wrap (x5 + 1)) b1 b2 (Val.mk (Val.kind b3) (Val.n b3) (Val.step b3) (Val.text b3) (Val.list b3) (Val.columns b3) ((Val.rows b3) ++ [r1])))
      else none
      else none
    ) else (
      some b3
    )
def xEO (N : Nat) (q0 : Val → Option (Val)) : Nat → Int → Val → Val → Val → Option (Val)
  | 0, _, _, _, _ => none
  | n + 1, x4, b1, b2, b3 =>
    bif (decide ((x4 : Int) < (List.length (Val.list b1) : Int))) then (
      if (0 : Int) ≤ x4 ∧ x4 < (List.length (Val.list b1)) then
      Option.bind (q0 (List.getD (Val.list b1) (Int.toNat x4) Ty.val.dflt)) fun r1 =>
      if List.length (Val.list b3) + List.length [(Val.re r1)] ≤ Lim then
      (xEO N q0 n (IntKind.i64.wrap (x4 + 1)) b1 b2 (Val.mk (Val.kind b3) (Val.n b3) (Val.step b3) (Val.text b3) ((Val.list b3) ++ [(Val.re r1)]) (Val.columns b3) (Val.rows b3)))
      else none
      else none
    ) else (
      (xEm N q0 N 0 b1 b2 b3)
    )
def xEI (N : Nat) (q0 : Val → Option (Val)) (a0 : Val) : Option (Val) :=
  if 0 + List.length (Val.columns a0) ≤ Lim then
  (xEO N q0 N 0 a0 (Val.mk 0 0 0 [] [] [] []) (Val.mk (Val.kind a0) (Val.n a0) (Val.step a0) (Val.text a0) [] ([] ++ (Val.columns a0)) []))
  else none
def xD8 (N : Nat) : Nat → Val → Option (Val)
  | 0, _ => none
  | d + 1, a0 => xEI N (xD8 N d) a0
def xHU (N : Nat) (a0 : Val) : Option (Val) := xD8 N N a0
def xAu (a0 : Val) (a1 : Val) (a2 : Val) (a3 : Val) : List Arg := [.val (.v true [.int .i64 (Val.kind a0), .int .i64 (Val.n a0), .int .i64 (Val.step a0), .str (Val.text a0), .sl .ro .val (Val.list a0), .sl .ro .str (Val.columns a0), .sl .ro .row (Val.rows a0)]), .val (.v true [.int .i64 (Val.kind a1), .int .i64 (Val.n a1), .int .i64 (Val.step a1), .str (Val.text a1), .sl .ro .val (Val.list a1), .sl .ro .str (Val.columns a1), .sl .ro .row (Val.rows a1)]), .val (.v true [.int .i64 (Val.kind a2), .int .i64 (Val.n a2), .int .i64 (Val.step a2), .str (Val.text a2), .sl .ro .val (Val.list a2), .sl .ro .str (Val.columns a2), .sl .ro .row (Val.rows a2)]), .val (.v true [.int .i64 (Val.kind a3), .int .i64 (Val.n a3), .int .i64 (Val.step a3), .str (Val.text a3), .sl .ro .val (Val.list a3), .sl .ro .str (Val.columns a3), .sl .ro .row (Val.rows a3)])]
def xAg (r : Val) : CallO := ⟨.v true [.int .i64 (Val.kind r), .int .i64 (Val.n r), .int .i64 (Val.step r), .str (Val.text r), .sl .own .val (Val.list r), .sl .own .str (Val.columns r), .sl .own .row (Val.rows r)], [], []⟩
def xCH (N : Nat) : Nat → Int → Int → Int → Val → Val → Val → Option (Val)
  | 0, _, _, _, _, _, _ => none
  | n + 1, x11, x12, x14, b7, b8, b13 =>
    bif (decide ((x14 : Int) < (List.length (Val.rows b13) : Int))) then (
      if (0 : Int) ≤ x14 ∧ x14 < (List.length (Val.rows b7)) then
      if (0 : Int) ≤ x11 ∧ x11 < (List.length (Rowd.cells (List.getD (Val.rows b7) (Int.toNat x14) Ty.row.dflt))) then
      if (0 : Int) ≤ x12 ∧ x12 < (List.length (Rowd.cells (List.getD (Val.rows b7) (Int.toNat x14) Ty.row.dflt))) then
      Option.bind (xDI N (IntKind.i64.wrap ((List.getD (Rowd.cells (List.getD (Val.rows b7) (Int.toNat x14) Ty.row.dflt)) (Int.toNat x11) Ty.int.dflt) + (List.getD (Rowd.cells (List.getD (Val.rows b7) (Int.toNat x14) Ty.row.dflt)) (Int.toNat x12) Ty.int.dflt)))) fun r1 =>
      bif (!r1) then (
        Option.bind (xBd N 5) fun r2 =>
        some r2
      ) else (
        if (0 : Int) ≤ x14 ∧ x14 < (List.length (Val.rows b13)) then
        if List.length (Rowd.cells (List.getD (Val.rows b13) (Int.toNat x14) Ty.row.dflt)) + List.length [(IntKind.i64.wrap ((List.getD (Rowd.cells (List.getD (Val.rows b7) (Int.toNat x14) Ty.row.dflt)) (Int.toNat x11) Ty.int.dflt) + (List.getD (Rowd.cells (List.getD (Val.rows b7) (Int.toNat x14) Ty.row.dflt)) (Int.toNat x12) Ty.int.dflt)))] ≤ Lim then
        (xCH N n x11 x12 (IntKind.i64.wrap (x14 + 1)) b7 b8 (Val.mk (Val.kind b13) (Val.n b13) (Val.step b13) (Val.text b13) (Val.list b13) (Val.columns b13) (List.set (Val.rows b13) (Int.toNat x14) (Rowd.mk ((Rowd.cells (List.getD (Val.rows b13) (Int.toNat x14) Ty.row.dflt)) ++ [(IntKind.i64.wrap ((List.getD (Rowd.cells (List.getD (Val.rows b7) (Int.toNat x14) Ty.row.dflt)) (Int.toNat x11) Ty.int.dflt) + (List.getD (Rowd.cells (List.getD (Val.rows b7) (Int.toNat x14) Ty.row.dflt)) (Int.toNat x12) Ty.int.dflt)))]) (Rowd.frm (List.getD (Val.rows b13) (Int.toNat x14) Ty.row.dflt))))))
        else none
        else none
      )
      else none
      else none
      else none
    ) else (
      some b13
    )
def xCx (N : Nat) (a0 : Val) (a1 : Val) (a2 : Val) (a3 : Val) : Option (Val) :=
  Option.bind (xFG N [(Val.re a0), (Val.re a1), (Val.re a2), (Val.re a3)] [2, 2, 2, 5]) fun r1 =>
  bif r1.2 then (
    some r1.1
  ) else (
    Option.bind (xCP N a3 (Val.text a1)) fun r2 =>
    Option.bind (xCP N a3 (Val.text a2)) fun r3 =>
    Option.bind (xEd N (Val.text a0)) fun r4 =>
    bif (!r4) then (
      Option.bind (xBd N 7) fun r5 =>
      some r5
    ) else (
      Option.bind (xCP N a3 (Val.text a0)) fun r5 =>
      bif (decide ((r5 : Int) ≥ 0)) then (
        Option.bind (xBd N 7) fun r6 =>
        some r6
      ) else (
        bif (decide ((r2 : Int) < 0)) then (
          Option.bind (xBd N 7) fun r6 =>
          some r6
        ) else (
          bif (decide ((r3 : Int) < 0)) then (
            Option.bind (xBd N 7) fun r6 =>
            some r6
          ) else (
            bif (((List.length (Val.columns a3) : Int) : Int) == 4) then (
              Option.bind (xBd N 6) fun r6 =>
              some r6
            ) else (
              Option.bind (xHU N a3) fun r6 =>
              if List.length (Val.columns r6) + List.length [(Val.text a0)] ≤ Lim then
              (xCH N N r2 r3 0 a3 (Val.mk 0 0 0 [] [] [] []) (Val.mk (Val.kind r6) (Val.n r6) (Val.step r6) (Val.text r6) (Val.list r6) ((Val.columns r6) ++ [(Val.text a0)]) (Val.rows r6)))
              else none
            )
          )
        )
      )
    )
  )
def xEa (a0 : List Str) (a1 : List Str) : List Arg := [.val (.v false [.sl .ro .str a0]), .val (.v false [.sl .ro .str a1])]
def xCi (r : Bool) : CallO := ⟨.v false [.bool r], [], []⟩
def xEx (N : Nat) : Nat → (List Str) → (List Str) → Int → Option (Bool)
  | 0, _, _, _ => none
  | n + 1, x0, x1, x5 =>
    bif (decide ((x5 : Int) < (List.length x0 : Int))) then (
      if (0 : Int) ≤ x5 ∧ x5 < (List.length x0) then
      if (0 : Int) ≤ x5 ∧ x5 < (List.length x1) then
      bif (!(((List.getD x0 (Int.toNat x5) Ty.str.dflt) : Str) == (List.getD x1 (Int.toNat x5) Ty.str.dflt))) then (
        some false
      ) else (
        (xEx N n x0 x1 (IntKind.i64.wrap (x5 + 1)))
      )
      else none
      else none
    ) else (
      some true
    )
def xGi (N : Nat) (a0 : List Str) (a1 : List Str) : Option (Bool) :=
  bif (((List.length a0 : Int) : Int) != (List.length a1 : Int)) then (
    some false
  ) else (
    (xEx N N a0 a1 0)
  )
def xDK (a0 : List Int) (a1 : List Int) : List Arg := [.val (.v false [.sl .ro .int a0]), .val (.v false [.sl .ro .int a1])]
def xB6 (r : Bool) : CallO := ⟨.v false [.bool r], [], []⟩
def xEM (N : Nat) : Nat → (List Int) → (List Int) → Int → Option (Bool)
  | 0, _, _, _ => none
  | n + 1, x0, x1, x5 =>
    bif (decide ((x5 : Int) < (List.length x0 : Int))) then (
      if (0 : Int) ≤ x5 ∧ x5 < (List.length x0) then
      if (0 : Int) ≤ x5 ∧ x5 < (List.length x1) then
      bif (((List.getD x0 (Int.toNat x5) Ty.int.dflt) : Int) != (List.getD x1 (Int.toNat x5) Ty.int.dflt)) then (
        some false
      ) else (
        (xEM N n x0 x1 (IntKind.i64.wrap (x5 + 1)))
      )
      else none
      else none
    ) else (
      some true
    )
def xGC (N : Nat) (a0 : List Int) (a1 : List Int) : Option (Bool) :=
  bif (((List.length a0 : Int) : Int) != (List.length a1 : Int)) then (
    some false
  ) else (
    (xEM N N a0 a1 0)
  )
def xDS (a0 : List Org) (a1 : List Org) : List Arg := [.val (.v false [.sl .ro .org a0]), .val (.v false [.sl .ro .org a1])]
def xCl (r : Bool) : CallO := ⟨.v false [.bool r], [], []⟩
def xDT (N : Nat) : Nat → (List Org) → (List Org) → Int → Option (Bool)
  | 0, _, _, _ => none
  | n + 1, x0, x1, x5 =>
    bif (decide ((x5 : Int) < (List.length x0 : Int))) then (
      if (0 : Int) ≤ x5 ∧ x5 < (List.length x0) then
      if (0 : Int) ≤ x5 ∧ x5 < (List.length x1) then
      bif (!((((Org.cell (List.getD x0 (Int.toNat x5) Ty.org.dflt)) : Int) == (Org.cell (List.getD x1 (Int.toNat x5) Ty.org.dflt))) && (((Org.row (List.getD x0 (Int.toNat x5) Ty.org.dflt)) : Int) == (Org.row (List.getD x1 (Int.toNat x5) Ty.org.dflt))))) then (
        some false
      ) else (
        (xDT N n x0 x1 (IntKind.i64.wrap (x5 + 1)))
      )
      else none
      else none
    ) else (
      some true
    )
def xFp (N : Nat) (a0 : List Org) (a1 : List Org) : Option (Bool) :=
  bif (((List.length a0 : Int) : Int) != (List.length a1 : Int)) then (
    some false
  ) else (
    (xDT N N a0 a1 0)
  )
def xBT (a0 : Val) (a1 : Val) (a2 : Bool) : List Arg := [.val (.v true [.int .i64 (Val.kind a0), .int .i64 (Val.n a0), .int .i64 (Val.step a0), .str (Val.text a0), .sl .ro .val (Val.list a0), .sl .ro .str (Val.columns a0), .sl .ro .row (Val.rows a0)]), .val (.v true [.int .i64 (Val.kind a1), .int .i64 (Val.n a1), .int .i64 (Val.step a1), .str (Val.text a1), .sl .ro .val (Val.list a1), .sl .ro .str (Val.columns a1), .sl .ro .row (Val.rows a1)]), .val (.v false [.bool a2])]
def xBo (r : Bool) : CallO := ⟨.v false [.bool r], [], []⟩
def xDM (N : Nat) (q0 : Val → Val → Bool → Option (Bool)) : Nat → Bool → Int → Val → Val → Option (Bool)
  | 0, _, _, _, _ => none
  | n + 1, x2, x8, b3, b4 =>
    bif (decide ((x8 : Int) < (List.length (Val.rows b3) : Int))) then (
      if (0 : Int) ≤ x8 ∧ x8 < (List.length (Val.rows b3)) then
      if (0 : Int) ≤ x8 ∧ x8 < (List.length (Val.rows b4)) then
      Option.bind (xGC N (Rowd.cells (List.getD (Val.rows b3) (Int.toNat x8) Ty.row.dflt)) (Rowd.cells (List.getD (Val.rows b4) (Int.toNat x8) Ty.row.dflt))) fun r1 =>
      bif (!r1) then (
        some false
      ) else (
        bif x2 then (
          Option.bind (xFp N (Rowd.frm (List.getD (Val.rows b3) (Int.toNat x8) Ty.row.dflt)) (Rowd.frm (List.getD (Val.rows b4) (Int.toNat x8) Ty.row.dflt))) fun r2 =>
          bif (!r2) then (
            some false
          ) else (
            (xDM N q0 n x2 (IntKind.i64.wrap (x8 + 1)) b3 b4)
          )
        ) else (
          (xDM N q0 n x2 (IntKind.i64.wrap (x8 + 1)) b3 b4)
        )
      )
      else none
      else none
    ) else (
      some true
    )
def xER (N : Nat) (q0 : Val → Val → Bool → Option (Bool)) : Nat → Bool → Int → Val → Val → Option (Bool)
  | 0, _, _, _, _ => none
  | n + 1, x2, x7, b3, b4 =>
    bif (decide ((x7 : Int) < (List.length (Val.list b3) : Int))) then (
      if (0 : Int) ≤ x7 ∧ x7 < (List.length (Val.list b3)) then
      if (0 : Int) ≤ x7 ∧ x7 < (List.length (Val.list b4)) then
      Option.bind (q0 (List.getD (Val.list b3) (Int.toNat x7) Ty.val.dflt) (List.getD (Val.list b4) (Int.toNat x7) Ty.val.dflt) x2) fun r1 =>
      bif (!r1) then (
        some false
      ) else (
        (xER N q0 n x2 (IntKind.i64.wrap (x7 + 1)) b3 b4)
      )
      else none
      else none
    ) else (
      (xDM N q0 N x2 0 b3 b4)
    )
def xEJ (N : Nat) (q0 : Val → Val → Bool → Option (Bool)) (a0 : Val) (a1 : Val) (a2 : Bool) : Option (Bool) :=
  bif (((Val.kind a0) : Int) != (Val.kind a1)) then (
    some false
  ) else (
    bif (((Val.n a0) : Int) != (Val.n a1)) then (
      some false
    ) else (
      bif (((Val.step a0) : Int) != (Val.step a1)) then (
        some false
      ) else (
        bif (!(((Val.text a0) : Str) == (Val.text a1))) then (
          some false
        ) else (
          bif (((List.length (Val.list a0) : Int) : Int) != (List.length (Val.list a1) : Int)) then (
            some false
          ) else (
            Option.bind (xGi N (Val.columns a0) (Val.columns a1)) fun r1 =>
            bif (!r1) then (
              some false
            ) else (
              bif (((List.length (Val.rows a0) : Int) : Int) != (List.length (Val.rows a1) : Int)) then (
                some false
              ) else (
                (xER N q0 N a2 0 a0 a1)
              )
            )
          )
        )
      )
    )
  )
def xCN (N : Nat) : Nat → Val → Val → Bool → Option (Bool)
  | 0, _, _, _ => none
  | d + 1, a0, a1, a2 => xEJ N (xCN N d) a0 a1 a2
def xHX (N : Nat) (a0 : Val) (a1 : Val) (a2 : Bool) : Option (Bool) := xCN N N a0 a1 a2
def xAb (a0 : Val) (a1 : Val) : List Arg := [.val (.v true [.int .i64 (Val.kind a0), .int .i64 (Val.n a0), .int .i64 (Val.step a0), .str (Val.text a0), .sl .ro .val (Val.list a0), .sl .ro .str (Val.columns a0), .sl .ro .row (Val.rows a0)]), .val (.v true [.int .i64 (Val.kind a1), .int .i64 (Val.n a1), .int .i64 (Val.step a1), .str (Val.text a1), .sl .ro .val (Val.list a1), .sl .ro .str (Val.columns a1), .sl .ro .row (Val.rows a1)])]
def xAa (r : Bool) : CallO := ⟨.v false [.bool r], [], []⟩
def xAN (N : Nat) (a0 : Val) (a1 : Val) : Option (Bool) :=
  Option.bind (xHX N a0 a1 true) fun r1 =>
  some r1
def xA9 (a0 : List Str) (a1 : Str) : List Arg := [.val (.v false [.sl .ro .str a0]), .val (.v false [.str a1])]
def xAI (r : Str) : CallO := ⟨.v false [.str r], [], []⟩
def xDJ (N : Nat) : Nat → (List Str) → Str → (List Int) → Int → Option (Str)
  | 0, _, _, _, _ => none
  | n + 1, x0, x1, x5, x6 =>
    bif (decide ((x6 : Int) < (List.length x0 : Int))) then (
      bif (decide ((x6 : Int) > 0)) then (
        if List.length x5 + List.length x1 ≤ Lim then
        if (0 : Int) ≤ x6 ∧ x6 < (List.length x0) then
        if List.length (x5 ++ List.map (fun c => (c.toNat : Int)) x1) + List.length (List.getD x0 (Int.toNat x6) Ty.str.dflt) ≤ Lim then
        (xDJ N n x0 x1 ((x5 ++ List.map (fun c => (c.toNat : Int)) x1) ++ List.map (fun c => (c.toNat : Int)) (List.getD x0 (Int.toNat x6) Ty.str.dflt)) (IntKind.i64.wrap (x6 + 1)))
        else none
        else none
        else none
      ) else (
        if (0 : Int) ≤ x6 ∧ x6 < (List.length x0) then
        if List.length x5 + List.length (List.getD x0 (Int.toNat x6) Ty.str.dflt) ≤ Lim then
        (xDJ N n x0 x1 (x5 ++ List.map (fun c => (c.toNat : Int)) (List.getD x0 (Int.toNat x6) Ty.str.dflt)) (IntKind.i64.wrap (x6 + 1)))
        else none
        else none
      )
    ) else (
      some (List.map (fun n => UInt8.ofNat (Int.toNat n)) x5)
    )
def xFN (N : Nat) (a0 : List Str) (a1 : Str) : Option (Str) :=
  (xDJ N N a0 a1 [] 0)
def xHl (a0 : Str) (a1 : Str) : List Arg := [.val (.v false [.str a0]), .val (.v false [.str a1])]
def xGn (r : (List Str)) : CallO := ⟨.v false [.sl .own .str r], [], []⟩
def xGr (N : Nat) (a0 : Str) (a1 : Str) : Option (List Str) := splitP a0 a1
def xEs (a0 : Str) (a1 : Int) : List Arg := [.val (.v false [.str a0]), .val (.v false [.int .u8 a1])]
def xDd (r : (List Str)) : CallO := ⟨.v false [.sl .own .str r], [], []⟩
def xEK (N : Nat) (a0 : Str) (a1 : Int) : Option ((List Str)) :=
  Option.bind (xGr N a0 (List.map (fun n => UInt8.ofNat (Int.toNat n)) [a1])) fun r1 =>
  some r1
def xAj (a0 : Val) (a1 : Val) : List Arg := [.val (.v true [.int .i64 (Val.kind a0), .int .i64 (Val.n a0), .int .i64 (Val.step a0), .str (Val.text a0), .sl .ro .val (Val.list a0), .sl .ro .str (Val.columns a0), .sl .ro .row (Val.rows a0)]), .val (.v true [.int .i64 (Val.kind a1), .int .i64 (Val.n a1), .int .i64 (Val.step a1), .str (Val.text a1), .sl .ro .val (Val.list a1), .sl .ro .str (Val.columns a1), .sl .ro .row (Val.rows a1)])]
def xFe (r : Val × Bool) : CallO := ⟨.v true [.int .i64 (Val.kind r.1), .int .i64 (Val.n r.1), .int .i64 (Val.step r.1), .str (Val.text r.1), .sl .ro .val (Val.list r.1), .sl .ro .str (Val.columns r.1), .sl .ro .row (Val.rows r.1)], [], []⟩
def xAh (r : Val × Bool) : CallO := ⟨.v true [.int .i64 (Val.kind r.1), .int .i64 (Val.n r.1), .int .i64 (Val.step r.1), .str (Val.text r.1), .sl .own .val (Val.list r.1), .sl .own .str (Val.columns r.1), .sl .own .row (Val.rows r.1)], [], []⟩
def xAi (r : Val × Bool) : CallO := ⟨.v true [.int .i64 (Val.kind r.1), .int .i64 (Val.n r.1), .int .i64 (Val.step r.1), .str (Val.text r.1), .sl .ro .val [], .sl .ro .str [], .sl .ro .row []], [], []⟩
def xBm (r : Val × Bool) : CallO := bif r.2 then xFe r else xAh r
def xCD (N : Nat) (k17 : (List Int) → (List Rowd) → Int → Int → Val → Val → Option (Val × Bool)) : Nat → (List Int) → (List Rowd) → Int → Int → (List Int) → Int → Int → Val → Val → Rowd → Rowd → Option (Val × Bool)
  | 0, _, _, _, _, _, _, _, _, _, _, _ => none
  | n + 1, x8, x56, x57, x58, x67, x68, x69, b4, b7, b13, b14 =>
    bif (decide ((x69 : Int) < x68)) then (
      if (0 : Int) ≤ x69 ∧ x69 < (List.length x67) then
      if (0 : Int) ≤ (List.getD x67 (Int.toNat x69) Ty.int.dflt) ∧ (List.getD x67 (Int.toNat x69) Ty.int.dflt) < (List.length (Rowd.cells b13)) then
      if List.length (Rowd.cells b14) + List.length [(List.getD (Rowd.cells b13) (Int.toNat (List.getD x67 (Int.toNat x69) Ty.int.dflt)) Ty.int.dflt)] ≤ Lim then
      (xCD N k17 n x8 x56 x57 x58 x67 x68 (IntKind.i64.wrap (x69 + 1)) b4 b7 b13 (Rowd.mk ((Rowd.cells b14) ++ [(List.getD (Rowd.cells b13) (Int.toNat (List.getD x67 (Int.toNat x69) Ty.int.dflt)) Ty.int.dflt)]) (Rowd.frm b14)))
      else none
      else none
      else none
    ) else (
      if List.length (Val.rows b7) + List.length [b14] ≤ Lim then
      (k17 x8 x56 x57 (IntKind.i64.wrap (x58 + 1)) b4 (Val.mk (Val.kind b7) (Val.n b7) (Val.step b7) (Val.text b7) (Val.list b7) (Val.columns b7) ((Val.rows b7) ++ [b14])))
      else none
    )
def xBU (N : Nat) : Nat → (List Int) → (List Rowd) → Int → Int → Val → Val → Option (Val × Bool)
  | 0, _, _, _, _, _, _ => none
  | n + 1, x8, x56, x57, x58, b4, b7 =>
    bif (decide ((x58 : Int) < x57)) then (
      if (0 : Int) ≤ x58 ∧ x58 < (List.length x56) then
      if 0 + List.length (Rowd.frm (List.getD x56 (Int.toNat x58) Ty.row.dflt)) ≤ Lim then
      (xCD N (fun z0 z1 z2 z3 z4 z5 => (xBU N n z0 z1 z2 z3 z4 z5)) N x8 x56 x57 x58 x8 (List.length x8 : Int) 0 b4 b7 (List.getD x56 (Int.toNat x58) Ty.row.dflt) (Rowd.mk [] ([] ++ (Rowd.frm (List.getD x56 (Int.toNat x58) Ty.row.dflt)))))
      else none
      else none
    ) else (
      some (b7, false)
    )
def xCb (N : Nat) : Nat → (List Int) → (List Str) → Int → Int → Val → Val → Val → Option (Val × Bool)
  | 0, _, _, _, _, _, _, _ => none
  | n + 1, x8, x33, x34, x35, b3, b4, b7 =>
    bif (decide ((x35 : Int) < x34)) then (
      if (0 : Int) ≤ x35 ∧ x35 < (List.length x33) then
      Option.bind (xCf N b3 (List.getD x33 (Int.toNat x35) Ty.str.dflt)) fun r1 =>
      bif (decide ((r1 : Int) < 0)) then (
        Option.bind (xA5 N 7) fun r2 =>
        some (r2, false)
      ) else (
        if List.length x8 + List.length [r1] ≤ Lim then
        (xCb N n (x8 ++ [r1]) x33 x34 (IntKind.i64.wrap (x35 + 1)) b3 b4 b7)
        else none
      )
      else none
    ) else (
      Option.bind (xEF N (Val.columns b7)) fun r1 =>
      bif (!r1) then (
        Option.bind (xA5 N 7) fun r2 =>
        some (r2, false)
      ) else (
        (xBU N N x8 (Val.rows b3) (List.length (Val.rows b3) : Int) 0 b4 b7)
      )
    )
def xA3 (N : Nat) (a0 : Val) (a1 : Val) : Option (Val × Bool) :=
  Option.bind (xEL N [2, 5] [(Val.re a0), (Val.re a1)]) fun r1 =>
  bif r1.2.2 then (
    if List.isEmpty (Val.list r1.1) = true then
    if List.isEmpty (Val.columns r1.1) = true then
    if List.isEmpty (Val.rows r1.1) = true then
    bif r1.2.1 then (
      some ((Val.mk (Val.kind r1.1) (Val.n r1.1) (Val.step r1.1) (Val.text r1.1) [] [] []), true)
    ) else (
      Option.bind (xEK N (Val.text a0) 32) fun r2 =>
      (xCb N N [] r2 (List.length r2 : Int) 0 a1 (Val.mk 0 0 0 [] [] [] []) (Val.mk 5 0 0 [] [] r2 []))
    )
    else none
    else none
    else none
  ) else (
    bif r1.2.1 then (
      some (r1.1, false)
    ) else (
      Option.bind (xEK N (Val.text a0) 32) fun r2 =>
      (xCb N N [] r2 (List.length r2 : Int) 0 a1 (Val.mk 0 0 0 [] [] [] []) (Val.mk 5 0 0 [] [] r2 []))
    )
  )
def xAn (a0 : List Int) : List Arg := [.val (.v false [.sl .ro .byte a0])]
def xAd (r : Val × Val) : CallO := ⟨.tup [(true, [.int .i64 (Val.kind r.1), .int .i64 (Val.n r.1), .int .i64 (Val.step r.1), .str (Val.text r.1), .sl .own .val (Val.list r.1), .sl .own .str (Val.columns r.1), .sl .own .row (Val.rows r.1)]), (true, [.int .i64 (Val.kind r.2), .int .i64 (Val.n r.2), .int .i64 (Val.step r.2), .str (Val.text r.2), .sl .own .val (Val.list r.2), .sl .own .str (Val.columns r.2), .sl .own .row (Val.rows r.2)])], [], []⟩
def xBW (N : Nat) (a0 : List Int) : Option (Val × Val) :=
  Option.bind (xF0 N a0) fun r1 =>
  Option.bind (xCT N r1 3) fun r2 =>
  bif r2.1 then (
    Option.bind (xFC N r2.2) fun r3 =>
    Option.bind (xE2 N r3.2) fun r4 =>
    some (r3.1, r4.1)
  ) else (
    Option.bind (xD6 N r2.2 [[97, 32, 98], [98, 32, 97], [97], [97, 32, 98, 32, 99], [99, 32, 97], [97, 32, 97], [97, 32, 122], [97, 32, 98, 32]]) fun r3 =>
    Option.bind (xCj N r3.1) fun r4 =>
    Option.bind (xE2 N r3.2) fun r5 =>
    some (r4, r5.1)
  )
def xE6 (a0 : Str) (a1 : Int) : List Arg := [.val (.v false [.str a0]), .val (.v false [.int .u8 a1])]
def xDN (r : (List Str)) : CallO := ⟨.v false [.sl .own .str r], [], []⟩
def xCB (N : Nat) : Nat → Str → Int → (List Str) → Int → Int → Option ((List Str))
  | 0, _, _, _, _, _ => none
  | n + 1, x0, x1, x5, x6, x7 =>
    bif (decide ((x7 : Int) ≤ (List.length x0 : Int))) then (
      bif ((x7 : Int) == (List.length x0 : Int)) then (
        if (0 : Int) ≤ x6 ∧ x6 ≤ x7 ∧ x7 ≤ (List.length x0) then
        if List.length x5 + List.length [(List.drop (Int.toNat x6) (List.take (Int.toNat x7) x0))] ≤ Lim then
        (xCB N n x0 x1 (x5 ++ [(List.drop (Int.toNat x6) (List.take (Int.toNat x7) x0))]) (IntKind.i64.wrap (x7 + 1)) (IntKind.i64.wrap (x7 + 1)))
        else none
        else none
      ) else (
        if (0 : Int) ≤ x7 ∧ x7 < (List.length x0) then
        bif ((((List.getD x0 (Int.toNat x7) 0).toNat : Int) : Int) == x1) then (
          if (0 : Int) ≤ x6 ∧ x6 ≤ x7 ∧ x7 ≤ (List.length x0) then
          if List.length x5 + List.length [(List.drop (Int.toNat x6) (List.take (Int.toNat x7) x0))] ≤ Lim then
          (xCB N n x0 x1 (x5 ++ [(List.drop (Int.toNat x6) (List.take (Int.toNat x7) x0))]) (IntKind.i64.wrap (x7 + 1)) (IntKind.i64.wrap (x7 + 1)))
          else none
          else none
        ) else (
          (xCB N n x0 x1 x5 x6 (IntKind.i64.wrap (x7 + 1)))
        )
        else none
      )
    ) else (
      some x5
    )
def xFl (N : Nat) (a0 : Str) (a1 : Int) : Option ((List Str)) :=
  (xCB N N a0 a1 [] 0 0)
def xAw (a0 : Val) (a1 : Val) : List Arg := [.val (.v true [.int .i64 (Val.kind a0), .int .i64 (Val.n a0), .int .i64 (Val.step a0), .str (Val.text a0), .sl .ro .val (Val.list a0), .sl .ro .str (Val.columns a0), .sl .ro .row (Val.rows a0)]), .val (.v true [.int .i64 (Val.kind a1), .int .i64 (Val.n a1), .int .i64 (Val.step a1), .str (Val.text a1), .sl .ro .val (Val.list a1), .sl .ro .str (Val.columns a1), .sl .ro .row (Val.rows a1)])]
def xAf (r : Val) : CallO := ⟨.v true [.int .i64 (Val.kind r), .int .i64 (Val.n r), .int .i64 (Val.step r), .str (Val.text r), .sl .ro .val (Val.list r), .sl .ro .str (Val.columns r), .sl .ro .row (Val.rows r)], [], []⟩
def xCG (N : Nat) (k12 : (List Str) → Int → Val → Val → Val → Option (Val)) : Nat → (List Str) → Int → Int → Val → Val → Val → Rowd → Option (Val)
  | 0, _, _, _, _, _, _, _ => none
  | n + 1, x7, x10, x12, b3, b4, b8, b11 =>
    bif (decide ((x12 : Int) < (List.length x7 : Int))) then (
      if (0 : Int) ≤ x10 ∧ x10 < (List.length (Val.rows b3)) then
      if (0 : Int) ≤ x12 ∧ x12 < (List.length x7) then
      Option.bind (xCP N b3 (List.getD x7 (Int.toNat x12) Ty.str.dflt)) fun r1 =>
      if (0 : Int) ≤ r1 ∧ r1 < (List.length (Rowd.cells (List.getD (Val.rows b3) (Int.toNat x10) Ty.row.dflt))) then
      if List.length (Rowd.cells b11) + List.length [(List.getD (Rowd.cells (List.getD (Val.rows b3) (Int.toNat x10) Ty.row.dflt)) (Int.toNat r1) Ty.int.dflt)] ≤ Lim then
      (xCG N k12 n x7 x10 (IntKind.i64.wrap (x12 + 1)) b3 b4 b8 (Rowd.mk ((Rowd.cells b11) ++ [(List.getD (Rowd.cells (List.getD (Val.rows b3) (Int.toNat x10) Ty.row.dflt)) (Int.toNat r1) Ty.int.dflt)]) (Rowd.frm b11)))
      else none
      else none
      else none
      else none
    ) else (
      if List.length (Val.rows b8) + List.length [b11] ≤ Lim then
      (k12 x7 (IntKind.i64.wrap (x10 + 1)) b3 b4 (Val.mk (Val.kind b8) (Val.n b8) (Val.step b8) (Val.text b8) (Val.list b8) (Val.columns b8) ((Val.rows b8) ++ [b11])))
      else none
    )
def xBX (N : Nat) : Nat → (List Str) → Int → Val → Val → Val → Option (Val)
  | 0, _, _, _, _, _ => none
  | n + 1, x7, x10, b3, b4, b8 =>
    bif (decide ((x10 : Int) < (List.length (Val.rows b3) : Int))) then (
      if (0 : Int) ≤ x10 ∧ x10 < (List.length (Val.rows b3)) then
      if 0 + List.length (Rowd.frm (List.getD (Val.rows b3) (Int.toNat x10) Ty.row.dflt)) ≤ Lim then
      (xCG N (fun z0 z1 z2 z3 z4 => (xBX N n z0 z1 z2 z3 z4)) N x7 x10 0 b3 b4 b8 (Rowd.mk [] ([] ++ (Rowd.frm (List.getD (Val.rows b3) (Int.toNat x10) Ty.row.dflt)))))
      else none
      else none
    ) else (
      some b8
    )
def xCd (N : Nat) : Nat → (List Str) → Int → Val → Val → Val → Option (Val)
  | 0, _, _, _, _, _ => none
  | n + 1, x7, x9, b3, b4, b8 =>
    bif (decide ((x9 : Int) < (List.length x7 : Int))) then (
      if (0 : Int) ≤ x9 ∧ x9 < (List.length x7) then
      Option.bind (xCP N b3 (List.getD x7 (Int.toNat x9) Ty.str.dflt)) fun r1 =>
      bif (decide ((r1 : Int) < 0)) then (
        Option.bind (xBd N 7) fun r2 =>
        some r2
      ) else (
        Option.bind (xEH N x7) fun r2 =>
        bif (!r2) then (
          Option.bind (xBd N 7) fun r3 =>
          some r3
        ) else (
          (xCd N n x7 (IntKind.i64.wrap (x9 + 1)) b3 b4 b8)
        )
      )
      else none
    ) else (
      (xBX N N x7 0 b3 b4 b8)
    )
def xBD (N : Nat) (a0 : Val) (a1 : Val) : Option (Val) :=
  Option.bind (xFG N [(Val.re a0), (Val.re a1)] [2, 5]) fun r1 =>
  bif r1.2 then (
    some r1.1
  ) else (
    Option.bind (xFl N (Val.text a0) 32) fun r2 =>
    (xCd N N r2 0 a1 (Val.mk 0 0 0 [] [] [] []) (Val.mk 5 0 0 [] [] r2 []))
  )
def xAz (a0 : List Int) : List Arg := [.val (.v false [.sl .ro .byte a0])]
def xAA (r : Bool) : CallO := ⟨.v false [.bool r], [], []⟩
def xFk (N : Nat) (a0 : List Int) : Option (Bool) :=
  Option.bind (xHB N a0) fun r1 =>
  bif r1 then (
    some true
  ) else (
    Option.bind (xEg N a0) fun r2 =>
    Option.bind (xCI N r2.1 r2.2.1 r2.2.2.1 r2.2.2.2) fun r3 =>
    bif r3.2 then (
      if List.isEmpty (Val.list r3.1) = true then
      if List.isEmpty (Val.columns r3.1) = true then
      if List.isEmpty (Val.rows r3.1) = true then
      Option.bind (xCx N r2.1 r2.2.1 r2.2.2.1 r2.2.2.2) fun r4 =>
      Option.bind (xAN N (Val.mk (Val.kind r3.1) (Val.n r3.1) (Val.step r3.1) (Val.text r3.1) [] [] []) r4) fun r5 =>
      bif (!r5) then (
        some false
      ) else (
        bif (((Val.kind r3.1) : Int) == 5) then (
          Option.bind (xFN N (Val.columns r2.2.2.2) [32]) fun r6 =>
          bif (decide (((List.length r6 : Int) : Int) ≤ 20)) then (
            Option.bind (xFN N (Val.columns r2.2.2.2) [32]) fun r7 =>
            Option.bind (xCj N r7) fun r8 =>
            Option.bind (xA3 N r8 (Val.mk (Val.kind r3.1) (Val.n r3.1) (Val.step r3.1) (Val.text r3.1) [] [] [])) fun r9 =>
            bif r9.2 then (
              if List.isEmpty (Val.list r9.1) = true then
              if List.isEmpty (Val.columns r9.1) = true then
              if List.isEmpty (Val.rows r9.1) = true then
              Option.bind (xAN N (Val.mk (Val.kind r9.1) (Val.n r9.1) (Val.step r9.1) (Val.text r9.1) [] [] []) r2.2.2.2) fun r10 =>
              some r10
              else none
              else none
              else none
            ) else (
              Option.bind (xAN N r9.1 r2.2.2.2) fun r10 =>
              some r10
            )
          ) else (
            Option.bind (xBW N a0) fun r7 =>
            Option.bind (xA3 N r7.1 r7.2) fun r8 =>
            bif r8.2 then (
              if List.isEmpty (Val.list r8.1) = true then
              if List.isEmpty (Val.columns r8.1) = true then
              if List.isEmpty (Val.rows r8.1) = true then
              Option.bind (xBD N r7.1 r7.2) fun r9 =>
              Option.bind (xAN N (Val.mk (Val.kind r8.1) (Val.n r8.1) (Val.step r8.1) (Val.text r8.1) [] [] []) r9) fun r10 =>
              bif r10 then (
                bif (((Val.kind r8.1) : Int) != 5) then (
                  some true
                ) else (
                  Option.bind (xA3 N r7.1 (Val.mk (Val.kind r8.1) (Val.n r8.1) (Val.step r8.1) (Val.text r8.1) [] [] [])) fun r11 =>
                  bif r11.2 then (
                    if List.isEmpty (Val.list r11.1) = true then
                    if List.isEmpty (Val.columns r11.1) = true then
                    if List.isEmpty (Val.rows r11.1) = true then
                    Option.bind (xAN N (Val.mk (Val.kind r11.1) (Val.n r11.1) (Val.step r11.1) (Val.text r11.1) [] [] []) (Val.mk (Val.kind r8.1) (Val.n r8.1) (Val.step r8.1) (Val.text r8.1) [] [] [])) fun r12 =>
                    bif r12 then (
                      some (((0 : Int) : Int) == (List.length (Val.rows r7.2) : Int))
                    ) else (
                      some false
                    )
                    else none
                    else none
                    else none
                  ) else (
                    Option.bind (xAN N r11.1 (Val.mk (Val.kind r8.1) (Val.n r8.1) (Val.step r8.1) (Val.text r8.1) [] [] [])) fun r12 =>
                    bif r12 then (
                      some (((0 : Int) : Int) == (List.length (Val.rows r7.2) : Int))
                    ) else (
                      some false
                    )
                  )
                )
              ) else (
                some false
              )
              else none
              else none
              else none
            ) else (
              Option.bind (xBD N r7.1 r7.2) fun r9 =>
              Option.bind (xAN N r8.1 r9) fun r10 =>
              bif r10 then (
                bif (((Val.kind r8.1) : Int) != 5) then (
                  some true
                ) else (
                  Option.bind (xA3 N r7.1 r8.1) fun r11 =>
                  bif r11.2 then (
                    if List.isEmpty (Val.list r11.1) = true then
                    if List.isEmpty (Val.columns r11.1) = true then
                    if List.isEmpty (Val.rows r11.1) = true then
                    Option.bind (xAN N (Val.mk (Val.kind r11.1) (Val.n r11.1) (Val.step r11.1) (Val.text r11.1) [] [] []) r8.1) fun r12 =>
                    bif r12 then (
                      some (((List.length (Val.rows r8.1) : Int) : Int) == (List.length (Val.rows r7.2) : Int))
                    ) else (
                      some false
                    )
                    else none
                    else none
                    else none
                  ) else (
                    Option.bind (xAN N r11.1 r8.1) fun r12 =>
                    bif r12 then (
                      some (((List.length (Val.rows r8.1) : Int) : Int) == (List.length (Val.rows r7.2) : Int))
                    ) else (
                      some false
                    )
                  )
                )
              ) else (
                some false
              )
            )
          )
        ) else (
          Option.bind (xBW N a0) fun r6 =>
          Option.bind (xA3 N r6.1 r6.2) fun r7 =>
          bif r7.2 then (
            if List.isEmpty (Val.list r7.1) = true then
            if List.isEmpty (Val.columns r7.1) = true then
            if List.isEmpty (Val.rows r7.1) = true then
            Option.bind (xBD N r6.1 r6.2) fun r8 =>
            Option.bind (xAN N (Val.mk (Val.kind r7.1) (Val.n r7.1) (Val.step r7.1) (Val.text r7.1) [] [] []) r8) fun r9 =>
            bif r9 then (
              bif (((Val.kind r7.1) : Int) != 5) then (
                some true
              ) else (
                Option.bind (xA3 N r6.1 (Val.mk (Val.kind r7.1) (Val.n r7.1) (Val.step r7.1) (Val.text r7.1) [] [] [])) fun r10 =>
                bif r10.2 then (
                  if List.isEmpty (Val.list r10.1) = true then
                  if List.isEmpty (Val.columns r10.1) = true then
                  if List.isEmpty (Val.rows r10.1) = true then
                  Option.bind (xAN N (Val.mk (Val.kind r10.1) (Val.n r10.1) (Val.step r10.1) (Val.text r10.1) [] [] []) (Val.mk (Val.kind r7.1) (Val.n r7.1) (Val.step r7.1) (Val.text r7.1) [] [] [])) fun r11 =>
                  bif r11 then (
                    some (((0 : Int) : Int) == (List.length (Val.rows r6.2) : Int))
                  ) else (
                    some false
                  )
                  else none
                  else none
                  else none
                ) else (
                  Option.bind (xAN N r10.1 (Val.mk (Val.kind r7.1) (Val.n r7.1) (Val.step r7.1) (Val.text r7.1) [] [] [])) fun r11 =>
                  bif r11 then (
                    some (((0 : Int) : Int) == (List.length (Val.rows r6.2) : Int))
                  ) else (
                    some false
                  )
                )
              )
            ) else (
              some false
            )
            else none
            else none
            else none
          ) else (
            Option.bind (xBD N r6.1 r6.2) fun r8 =>
            Option.bind (xAN N r7.1 r8) fun r9 =>
            bif r9 then (
              bif (((Val.kind r7.1) : Int) != 5) then (
                some true
              ) else (
                Option.bind (xA3 N r6.1 r7.1) fun r10 =>
                bif r10.2 then (
                  if List.isEmpty (Val.list r10.1) = true then
                  if List.isEmpty (Val.columns r10.1) = true then
                  if List.isEmpty (Val.rows r10.1) = true then
                  Option.bind (xAN N (Val.mk (Val.kind r10.1) (Val.n r10.1) (Val.step r10.1) (Val.text r10.1) [] [] []) r7.1) fun r11 =>
                  bif r11 then (
                    some (((List.length (Val.rows r7.1) : Int) : Int) == (List.length (Val.rows r6.2) : Int))
                  ) else (
                    some false
                  )
                  else none
                  else none
                  else none
                ) else (
                  Option.bind (xAN N r10.1 r7.1) fun r11 =>
                  bif r11 then (
                    some (((List.length (Val.rows r7.1) : Int) : Int) == (List.length (Val.rows r6.2) : Int))
                  ) else (
                    some false
                  )
                )
              )
            ) else (
              some false
            )
          )
        )
      )
      else none
      else none
      else none
    ) else (
      Option.bind (xCx N r2.1 r2.2.1 r2.2.2.1 r2.2.2.2) fun r4 =>
      Option.bind (xAN N r3.1 r4) fun r5 =>
      bif (!r5) then (
        some false
      ) else (
        bif (((Val.kind r3.1) : Int) == 5) then (
          Option.bind (xFN N (Val.columns r2.2.2.2) [32]) fun r6 =>
          bif (decide (((List.length r6 : Int) : Int) ≤ 20)) then (
            Option.bind (xFN N (Val.columns r2.2.2.2) [32]) fun r7 =>
            Option.bind (xCj N r7) fun r8 =>
            Option.bind (xA3 N r8 r3.1) fun r9 =>
            bif r9.2 then (
              if List.isEmpty (Val.list r9.1) = true then
              if List.isEmpty (Val.columns r9.1) = true then
              if List.isEmpty (Val.rows r9.1) = true then
              Option.bind (xAN N (Val.mk (Val.kind r9.1) (Val.n r9.1) (Val.step r9.1) (Val.text r9.1) [] [] []) r2.2.2.2) fun r10 =>
              some r10
              else none
              else none
              else none
            ) else (
              Option.bind (xAN N r9.1 r2.2.2.2) fun r10 =>
              some r10
            )
          ) else (
            Option.bind (xBW N a0) fun r7 =>
            Option.bind (xA3 N r7.1 r7.2) fun r8 =>
            bif r8.2 then (
              if List.isEmpty (Val.list r8.1) = true then
              if List.isEmpty (Val.columns r8.1) = true then
              if List.isEmpty (Val.rows r8.1) = true then
              Option.bind (xBD N r7.1 r7.2) fun r9 =>
              Option.bind (xAN N (Val.mk (Val.kind r8.1) (Val.n r8.1) (Val.step r8.1) (Val.text r8.1) [] [] []) r9) fun r10 =>
              bif r10 then (
                bif (((Val.kind r8.1) : Int) != 5) then (
                  some true
                ) else (
                  Option.bind (xA3 N r7.1 (Val.mk (Val.kind r8.1) (Val.n r8.1) (Val.step r8.1) (Val.text r8.1) [] [] [])) fun r11 =>
                  bif r11.2 then (
                    if List.isEmpty (Val.list r11.1) = true then
                    if List.isEmpty (Val.columns r11.1) = true then
                    if List.isEmpty (Val.rows r11.1) = true then
                    Option.bind (xAN N (Val.mk (Val.kind r11.1) (Val.n r11.1) (Val.step r11.1) (Val.text r11.1) [] [] []) (Val.mk (Val.kind r8.1) (Val.n r8.1) (Val.step r8.1) (Val.text r8.1) [] [] [])) fun r12 =>
                    bif r12 then (
                      some (((0 : Int) : Int) == (List.length (Val.rows r7.2) : Int))
                    ) else (
                      some false
                    )
                    else none
                    else none
                    else none
                  ) else (
                    Option.bind (xAN N r11.1 (Val.mk (Val.kind r8.1) (Val.n r8.1) (Val.step r8.1) (Val.text r8.1) [] [] [])) fun r12 =>
                    bif r12 then (
                      some (((0 : Int) : Int) == (List.length (Val.rows r7.2) : Int))
                    ) else (
                      some false
                    )
                  )
                )
              ) else (
                some false
              )
              else none
              else none
              else none
            ) else (
              Option.bind (xBD N r7.1 r7.2) fun r9 =>
              Option.bind (xAN N r8.1 r9) fun r10 =>
              bif r10 then (
                bif (((Val.kind r8.1) : Int) != 5) then (
                  some true
                ) else (
                  Option.bind (xA3 N r7.1 r8.1) fun r11 =>
                  bif r11.2 then (
                    if List.isEmpty (Val.list r11.1) = true then
                    if List.isEmpty (Val.columns r11.1) = true then
                    if List.isEmpty (Val.rows r11.1) = true then
                    Option.bind (xAN N (Val.mk (Val.kind r11.1) (Val.n r11.1) (Val.step r11.1) (Val.text r11.1) [] [] []) r8.1) fun r12 =>
                    bif r12 then (
                      some (((List.length (Val.rows r8.1) : Int) : Int) == (List.length (Val.rows r7.2) : Int))
                    ) else (
                      some false
                    )
                    else none
                    else none
                    else none
                  ) else (
                    Option.bind (xAN N r11.1 r8.1) fun r12 =>
                    bif r12 then (
                      some (((List.length (Val.rows r8.1) : Int) : Int) == (List.length (Val.rows r7.2) : Int))
                    ) else (
                      some false
                    )
                  )
                )
              ) else (
                some false
              )
            )
          )
        ) else (
          Option.bind (xBW N a0) fun r6 =>
          Option.bind (xA3 N r6.1 r6.2) fun r7 =>
          bif r7.2 then (
            if List.isEmpty (Val.list r7.1) = true then
            if List.isEmpty (Val.columns r7.1) = true then
            if List.isEmpty (Val.rows r7.1) = true then
            Option.bind (xBD N r6.1 r6.2) fun r8 =>
            Option.bind (xAN N (Val.mk (Val.kind r7.1) (Val.n r7.1) (Val.step r7.1) (Val.text r7.1) [] [] []) r8) fun r9 =>
            bif r9 then (
              bif (((Val.kind r7.1) : Int) != 5) then (
                some true
              ) else (
                Option.bind (xA3 N r6.1 (Val.mk (Val.kind r7.1) (Val.n r7.1) (Val.step r7.1) (Val.text r7.1) [] [] [])) fun r10 =>
                bif r10.2 then (
                  if List.isEmpty (Val.list r10.1) = true then
                  if List.isEmpty (Val.columns r10.1) = true then
                  if List.isEmpty (Val.rows r10.1) = true then
                  Option.bind (xAN N (Val.mk (Val.kind r10.1) (Val.n r10.1) (Val.step r10.1) (Val.text r10.1) [] [] []) (Val.mk (Val.kind r7.1) (Val.n r7.1) (Val.step r7.1) (Val.text r7.1) [] [] [])) fun r11 =>
                  bif r11 then (
                    some (((0 : Int) : Int) == (List.length (Val.rows r6.2) : Int))
                  ) else (
                    some false
                  )
                  else none
                  else none
                  else none
                ) else (
                  Option.bind (xAN N r10.1 (Val.mk (Val.kind r7.1) (Val.n r7.1) (Val.step r7.1) (Val.text r7.1) [] [] [])) fun r11 =>
                  bif r11 then (
                    some (((0 : Int) : Int) == (List.length (Val.rows r6.2) : Int))
                  ) else (
                    some false
                  )
                )
              )
            ) else (
              some false
            )
            else none
            else none
            else none
          ) else (
            Option.bind (xBD N r6.1 r6.2) fun r8 =>
            Option.bind (xAN N r7.1 r8) fun r9 =>
            bif r9 then (
              bif (((Val.kind r7.1) : Int) != 5) then (
                some true
              ) else (
                Option.bind (xA3 N r6.1 r7.1) fun r10 =>
                bif r10.2 then (
                  if List.isEmpty (Val.list r10.1) = true then
                  if List.isEmpty (Val.columns r10.1) = true then
                  if List.isEmpty (Val.rows r10.1) = true then
                  Option.bind (xAN N (Val.mk (Val.kind r10.1) (Val.n r10.1) (Val.step r10.1) (Val.text r10.1) [] [] []) r7.1) fun r11 =>
                  bif r11 then (
                    some (((List.length (Val.rows r7.1) : Int) : Int) == (List.length (Val.rows r6.2) : Int))
                  ) else (
                    some false
                  )
                  else none
                  else none
                  else none
                ) else (
                  Option.bind (xAN N r10.1 r7.1) fun r11 =>
                  bif r11 then (
                    some (((List.length (Val.rows r7.1) : Int) : Int) == (List.length (Val.rows r6.2) : Int))
                  ) else (
                    some false
                  )
                )
              )
            ) else (
              some false
            )
          )
        )
      )
    )
  )
end Go.Ab
end
section
namespace Go.Ab
end Go.Ab
namespace Go.Ab
variable [Inhabited Lb]
open Go.Proofs Go.Shelf Go.RowKit Go.Lib
variable {P : Program} {ρ : Ren}
theorem index_one (s : List UInt8) (c : UInt8) : Lib.index s [c] = Lib.indexByte s c := by
  induction s with
  | nil => rfl
  | cons b l ih =>
    unfold Lib.index Lib.indexByte
    rw [ih]
    by_cases h : b = c
    · subst h; simp [List.isPrefixOf]
    · have h2 : ¬ c = b := fun e => h e.symm
      simp [List.isPrefixOf, h, h2]
set_option maxHeartbeats 1000000 in
theorem split_one (L : Lays.n146 P ρ) (hi9 : (P.info? (ρ.t 9)).map (fun i => (i.zero, i.size, i.bytes)) = some (some (.string ByteArray.empty), 1, 16)) (s : ByteArray) (c : UInt8) (w : World) (hs : s.size < 4294967281) :
    Calls P (ρ.f 146) #[.string s, .string ⟨#[c]⟩] w fun e w' =>
      e = .returned (.slice (some ⟨w.heap.size, 0, none⟩) (Lib.countB s ⟨#[c]⟩ + 1) (Lib.countB s ⟨#[c]⟩ + 1)) ∧ w' = w.alloc (.cells ((Lib.splitB ⟨#[c]⟩ 0 (Lib.countB s ⟨#[c]⟩) s).map Value.string).toArray (ρ.t 9)) := by
  have h1 : 1 ≤ (⟨#[c]⟩ : ByteArray).size := Nat.le_refl 1
  have hle := Lib.countB_le ⟨#[c]⟩ h1 s.size s (Nat.le_refl _)
  have hlen := Lib.splitB_all ⟨#[c]⟩ h1 0 _ s rfl
  have hI : ∀ (x : ByteArray) (cc : Array Value), x.size ≤ s.size → Calls P (ρ.f 143) #[.string x, .string ⟨#[c]⟩] (w.alloc (.cells cc (ρ.t 9))) fun e w' => e = .returned (.int .i64 (Lib.indexB x ⟨#[c]⟩)) ∧ w' = w.alloc (.cells cc (ρ.t 9)) := by
    intro x cc _
    refine (Any.strings_Index_one { L with } x c _).mono fun e w' ⟨he, hw⟩ => ⟨?_, hw⟩
    rw [he]
    show _ = Ending.returned (Value.int .i64 (Lib.index x.data.toList [c]))
    rw [index_one]
  have hC : Calls P (ρ.f 138) #[.string s, .string ⟨#[c]⟩] w fun e w' => e = .returned (.int .i64 (Lib.countB s ⟨#[c]⟩)) ∧ w' = w := by
    refine (Any.strings_Count_one { L with } s c w).mono fun e w' ⟨he, hw⟩ => ⟨?_, hw⟩
    rw [he]
    show _ = Ending.returned (Value.int .i64 ((Lib.count s.data.toList [c] : Nat) : Int))
    rw [Lib.count_one]
    rfl
  have cc := Any.strings_genSplit_core { L with } hi9 s ⟨#[c]⟩ 0 (-1) (Lib.countB s ⟨#[c]⟩ + 1) w hs h1 (Nat.zero_le _) hI hC (by decide) (by decide) (by rw [if_pos (by decide)]; omega)
  rw [Nat.add_sub_cancel, hlen] at cc
  have e2 : Lib.cellsOf (Lib.splitB ⟨#[c]⟩ 0 (Lib.countB s ⟨#[c]⟩) s) (Lib.countB s ⟨#[c]⟩ + 1) = ((Lib.splitB ⟨#[c]⟩ 0 (Lib.countB s ⟨#[c]⟩) s).map Value.string).toArray := by rw [← hlen]; exact Lib.cellsOf_full _
  rw [e2] at cc
  have t3 := L.t3; have t9 := L.t9; have t31 := L.t31
  have a3 := L.a3; have a9 := L.a9; have a31 := L.a31
  have z3 := L.z3; have v3 := L.v3; have z9 := L.z9; have v9 := L.v9; have z31 := L.z31; have v31 := L.v31
  have e221 : ∀ args w, (callFunc (ρ.f 221) args).run P w = .ok (.enter (ρ.f 221) args) w := enters_of L.f221 (by kernel_rfl) rfl
  go_enter L.f146, Body.n146_ntmps ρ
  go_wp2_with (go_at_fn (ρ.f 221); refine cc.mono ?_; rintro e w' ⟨rfl, hw⟩; rw [hw])
  go_ret
  exact ⟨rfl, rfl⟩
theorem enter_Split (L : Lays.n146 P ρ) : ∀ args w, (callFunc (ρ.f 146) args).run P w = .ok (.enter (ρ.f 146) args) w := enters_of L.f146 (by kernel_rfl) rfl
end Go.Ab
end
section
namespace Go.Proofs
open Go.Shelf
def Tryd.lays146_ren : Go.Shelf.Ren := ⟨fun | 146 => 55 | 221 => 66 | 268 => 80 | 138 => 81 | 143 => 82 | 195 => 90 | 197 => 91 | 218 => 92 | 219 => 93 | 260 => 96 | 217 => 97 | 225 => 98 | 224 => 99 | 267 => 100 | 266 => 101 | 314 => 102 | n => n, fun | 9 => 9 | 31 => 25 | 3 => 3 | 4 => 4 | 0 => 0 | 105 => 90 | 21 => 21 | 5 => 5 | 46 => 81 | 119 => 95 | 139 => 98 | 138 => 97 | 146 => 100 | 51 => 99 | n => n, fun | 1 => 0 | 3 => 1 | 4 => 2 | n => n⟩
theorem Tryd.lays146 : Go.Proofs.Lays.n146 Tryd.prog Tryd.lays146_ren := {
  mixed := by kernel_rfl
  f138 := Tryd.func81.trans (congrArg some (by kernel_rfl))
  f143 := Tryd.func82.trans (congrArg some (by kernel_rfl))
  f146 := Tryd.func55.trans (congrArg some (by kernel_rfl))
  f195 := Tryd.func90.trans (congrArg some (by kernel_rfl))
  f197 := Tryd.func91.trans (congrArg some (by kernel_rfl))
  f217 := Tryd.func97.trans (congrArg some (by kernel_rfl))
  f218 := Tryd.func92.trans (congrArg some (by kernel_rfl))
  f219 := Tryd.func93.trans (congrArg some (by kernel_rfl))
  f221 := Tryd.func66.trans (congrArg some (by kernel_rfl))
  f224 := Tryd.func99.trans (congrArg some (by kernel_rfl))
  f225 := Tryd.func98.trans (congrArg some (by kernel_rfl))
  f260 := Tryd.func96.trans (congrArg some (by kernel_rfl))
  f266 := Tryd.func101.trans (congrArg some (by kernel_rfl))
  f267 := Tryd.func100.trans (congrArg some (by kernel_rfl))
  f268 := Tryd.func80.trans (congrArg some (by kernel_rfl))
  f314 := Tryd.func102.trans (congrArg some (by kernel_rfl))
  t0 := Tryd.underlying0
  a0 := Tryd.isAgg0
  z0 := Tryd.sizeOf0
  v0 := Tryd.zeroValue0
  t3 := Tryd.underlying3
  a3 := Tryd.isAgg3
  z3 := Tryd.sizeOf3
  v3 := Tryd.zeroValue3
  t4 := Tryd.underlying4
  a4 := Tryd.isAgg4
  z4 := Tryd.sizeOf4
  v4 := Tryd.zeroValue4
  t5 := Tryd.underlying5
  a5 := Tryd.isAgg5
  z5 := Tryd.sizeOf5
  v5 := Tryd.zeroValue5
  t9 := Tryd.underlying9
  a9 := Tryd.isAgg9
  z9 := Tryd.sizeOf9
  v9 := Tryd.zeroValue9
  t21 := Tryd.underlying21
  a21 := Tryd.isAgg21
  z21 := Tryd.sizeOf21
  v21 := Tryd.zeroValue21
  t31 := Tryd.underlying25
  a31 := Tryd.isAgg25
  z31 := Tryd.sizeOf25
  v31 := Tryd.zeroValue25
  t46 := Tryd.underlying81
  a46 := Tryd.isAgg81
  z46 := Tryd.sizeOf81
  v46 := Tryd.zeroValue81
  t51 := Tryd.underlying99
  a51 := Tryd.isAgg99
  z51 := Tryd.sizeOf99
  v51 := Tryd.zeroValue99
  t105 := Tryd.underlying90
  a105 := Tryd.isAgg90
  z105 := Tryd.sizeOf90
  v105 := Tryd.zeroValue90
  t119 := Tryd.underlying95
  a119 := Tryd.isAgg95
  z119 := Tryd.sizeOf95
  t138 := Tryd.underlying97
  a138 := Tryd.isAgg97
  z138 := Tryd.sizeOf97
  v138 := Tryd.zeroValue97
  t139 := Tryd.underlying98
  a139 := Tryd.isAgg98
  z139 := Tryd.sizeOf98
  v139 := Tryd.zeroValue98
  t146 := Tryd.underlying100
  a146 := Tryd.isAgg100
  z146 := Tryd.sizeOf100
  v146 := Tryd.zeroValue100
  g1 := by kernel_rfl
  g3 := by kernel_rfl
  g4 := by kernel_rfl }
end Go.Proofs
end
section
open Go.Proofs
namespace Go.Ab.T
variable [Inhabited Lb]
abbrev AbC (f : FuncId) (a : List Arg) (r : CallO) : Prop := AbsCalls Tryd.prog f a r
abbrev W (x : Int) : Int := IntKind.i64.wrap x
abbrev Ln {α : Type} (l : List α) : Nat := List.length l
abbrev tN (x : Int) : Nat := Int.toNat x
abbrev gD {α : Type} (l : List α) (i : Nat) (d : α) : α := List.getD l i d
abbrev vd : Val := Ty.val.dflt
abbrev rd : Rowd := Ty.row.dflt
end Go.Ab.T
end
section
open Go.Proofs
namespace Go.Ab.T
set_option linter.unusedVariables false
set_option maxRecDepth 100000
variable [Inhabited Lb]
def tt : TT := [(3, { zero := some [.int .i64 0], ik := some .i64 }),
 (4, { zero := some [.bool false], isBool := true }),
 (5, { zero := some [.int .u8 0], ik := some .u8 }),
 (9, { zero := some [.str []], isStr := true }),
 (22, { zero := some [.sl .own .byte []], elem := some (5, .byte) }),
 (24, { zero := some [.sl .own .val []], elem := some (28, .val) }),
 (25, { zero := some [.sl .own .str []], elem := some (9, .str) }),
 (26, { zero := some [.sl .own .row []], elem := some (51, .row) }),
 (28, { sz := 7, agg := true, zero := some [.int .i64 0, .int .i64 0, .int .i64 0, .str [], .sl .own .val [], .sl .own .str [], .sl .own .row []], offs := [0, 1, 2, 3, 4, 5, 6], fsz := [1, 1, 1, 1, 1, 1, 1] }),
 (44, { zero := some [.sl .own .int []], elem := some (3, .int) }),
 (49, { zero := some [.sl .own .org []], elem := some (74, .org) }),
 (51, { sz := 2, agg := true, zero := some [.sl .own .int [], .sl .own .org []], offs := [0, 1], fsz := [1, 1] }),
 (59, { sz := 3, agg := true, zero := some [.sl .own .byte [], .int .i64 0, .int .i64 0], offs := [0, 1, 2], fsz := [1, 1, 1] }),
 (74, { sz := 2, agg := true, zero := some [.int .i64 0, .int .i64 0], offs := [0, 1], fsz := [1, 1], same := true })]
theorem ttok : TTok Tryd.prog tt := ttChk_ok (by kernel_rfl)
theorem mix : Tryd.prog.follows .mixedOrders = true := by kernel_rfl
def F : Bool := false
def Y : Bool := true
noncomputable def rE (I : Info) (ag : List Arg) (bs : List Bool) (cs : List CallO) : Option Res := run tt (AbsCalls Tryd.prog) I 3000 false [.code I.body] ⟨zBr 0 ag, bs, cs, []⟩
noncomputable def rS (k : Nat) (I : Info) (σ : St) (bs : List Bool) (cs : List CallO) : Option Res := run tt (AbsCalls Tryd.prog) I 3000 true (stkAt k I.body) ⟨σ, bs, cs, []⟩
noncomputable def dn (r : CallO) (ob : List Prop) : Option Res := some (.done r ob)
noncomputable def st (k : Nat) (I : Info) (σ : St) (ob : List Prop) : Option Res := some (.stop (stkAt k I.body) σ ob)
def RE (fn : Func) (I : Info) (ag : List Arg) (r : CallO) : Prop := Reach Tryd.prog fn I [.code I.body] (zBr 0 ag) r
def RS (fn : Func) (I : Info) (k : Nat) (σ : St) (r : CallO) : Prop := Reach Tryd.prog fn I (stkAt k I.body) σ r
section
variable {ρ : Type} {f : FuncId} {fn : Func} {I : Info} {ag : List Arg} {bs : List Bool} {cs : List CallO} {k j : Nat} {σ σ' : St} {ob : List Prop} {ro : ρ → CallO} {x r : ρ} {q : CallO}
theorem dE (e : some x = some r) (hf : FnOk Tryd.prog f fn I) (h : rE I ag bs cs = dn (ro x) ob) (o : ∀ p ∈ ob, p) : RE fn I ag (ro r) := by
 cases e; exact Reach.done ttok mix hf h o
theorem dS (e : some x = some r) (hf : FnOk Tryd.prog f fn I) (h : rS k I σ bs cs = dn (ro x) ob) (o : ∀ p ∈ ob, p) : RS fn I k σ (ro r) := by
 cases e; exact Reach.done ttok mix hf h o
theorem tE (hf : FnOk Tryd.prog f fn I) (h : rE I ag bs cs = st k I σ ob) (o : ∀ p ∈ ob, p) (t : RS fn I k σ q) : RE fn I ag q := Reach.stop ttok mix hf h o t
theorem tS (hf : FnOk Tryd.prog f fn I) (h : rS j I σ' bs cs = st k I σ ob) (o : ∀ p ∈ ob, p) (t : RS fn I k σ q) : RS fn I j σ' q := Reach.stop ttok mix hf h o t
end
theorem oc {p : Prop} {l : List Prop} (h : p) (t : ∀ q ∈ l, q) : ∀ q ∈ p :: l, q := obs_cons h t
theorem on : ∀ q ∈ ([] : List Prop), q := obs_nil
theorem cE {α : Type} {C : Prop} {b : Bool} {x y : Option α} {r : α} (h : cond b x y = some r) (f : b = true → x = some r → C) (g : b = false → y = some r → C) : C := (cond_inv h).elim (fun h => f h.1 h.2) fun h => g h.1 h.2
theorem bE {α β : Type} {C : Prop} {o : Option α} {f : α → Option β} {r : β} (h : Option.bind o f = some r) (g : ∀ a, o = some a → f a = some r → C) : C := (bind_inv h).elim fun a h => g a h.1 h.2
theorem iE {α : Type} {C p : Prop} [Decidable p] {x : Option α} {r : α} (h : (if p then x else none) = some r) (g : p → x = some r → C) : C := (ite_inv h).elim g
theorem nE {α : Type} {C : Prop} {r : α} (h : none = some r) : C := nomatch h
noncomputable def I4 : Info := { body := (Tryd.f4.body).getD .skip, nt := 6, results := [.tmp 2], keep := [0, 4], live := [], modes := [] }
theorem fk4 : FnOk Tryd.prog 4 Tryd.f4 I4 := ⟨Tryd.func4, by kernel_rfl, by kernel_rfl, by kernel_rfl, by kernel_rfl⟩
theorem p4_e_0 (a0 : List Int) : rE I4 (xAQ a0) [] [] = dn (xAt (decide (((Ln a0 : Int) : Int) > 1048576))) [] := by kernel_rfl
theorem c4_e {N : Nat} : ∀ a0 r, xHB N a0 = some r → RE Tryd.f4 I4 (xAQ a0) (xAt r) := fun a0 r h =>
 dE h fk4 (p4_e_0 a0) on
theorem xAS {N : Nat} {a0 : List Int} {r : Bool} (h : xHB N  a0 = some r) : AbC 4 (xAQ a0) (xAt r) :=
 AbsCalls.of_reach fk4 rfl rfl (Nat.le_of_ble_eq_true rfl) (c4_e a0 r h)
noncomputable def I14 : Info := { body := (Tryd.f14.body).getD .skip, nt := 32, results := [.tmp 2], keep := [0, 4, 6, 8, 30, 63], live := [(3, [0, 6, 8])], modes := [(3, [(4, .take, false)])] }
theorem fk14 : FnOk Tryd.prog 14 Tryd.f14 I14 := ⟨Tryd.func14, by kernel_rfl, by kernel_rfl, by kernel_rfl, by kernel_rfl⟩
def S14_3 (x0 : List Int) (x3 x4 : Int) : St := [(0, .v false [.sl .ro .byte x0]), (6, .v false [.int .i64 x3]), (8, .v false [.int .i64 x4])]
theorem p14_3_0 (x0 : List Int) (x3 x4 : Int) : rS 3 I14 (S14_3 x0 x3 x4) [Y, Y] [] = st 3 I14 (S14_3 x0 (andI .i64 (W ((W ((W (x3 * 131)) + (W ((gD x0 (tN x4) Ty.byte.dflt))))) + 7)) 1073741823) (W (x4 + 1))) [(decide ((x4 : Int) < (Ln x0 : Int))) = true, (decide ((x4 : Int) < 4000)) = true, (0 : Int) ≤ x4 ∧ x4 < (Ln x0)] := by kernel_rfl
theorem p14_3_1 (x0 : List Int) (x3 x4 : Int) : rS 3 I14 (S14_3 x0 x3 x4) [Y, F] [] = dn (xC2 (Cur.mk x0 0 x3)) [(decide ((x4 : Int) < (Ln x0 : Int))) = true, (decide ((x4 : Int) < 4000)) = false] := by kernel_rfl
theorem p14_3_2 (x0 : List Int) (x3 x4 : Int) : rS 3 I14 (S14_3 x0 x3 x4) [F, F] [] = dn (xC2 (Cur.mk x0 0 x3)) [(decide ((x4 : Int) < (Ln x0 : Int))) = false, false = false] := by kernel_rfl
theorem p14_e_3 (a0 : List Int) : rE I14 (xE9 a0) [] [] = st 3 I14 (S14_3 a0 (W (26583 + (Ln a0 : Int))) 0) [] := by kernel_rfl
theorem c14_3 {N : Nat} : ∀ n x0 x3 x4 r, xFa N n x0 x3 x4 = some r → RS Tryd.f14 I14 3 (S14_3 x0 x3 x4) (xC2 r) := by
 intro n
 induction n with
 | zero => exact fun _ _ _ _ h => nE h
 | succ n ih =>
  exact fun x0 x3 x4 r h =>
   cE h (fun h0 h => cE h (fun h1 h => iE h fun h2 h => tS fk14 (p14_3_0 x0 x3 x4) (oc h0 (oc h1 (oc h2 on))) (ih _ _ _ _ h)) fun h1 h =>
   dS h fk14 (p14_3_1 x0 x3 x4) (oc h0 (oc h1 on))) fun h0 h =>
   dS h fk14 (p14_3_2 x0 x3 x4) (oc h0 (oc rfl on))
theorem c14_e {N : Nat} : ∀ a0 r, xF0 N a0 = some r → RE Tryd.f14 I14 (xE9 a0) (xC2 r) := fun a0 r h =>
 tE fk14 (p14_e_3 a0) on (c14_3 _ _ _ _ _ h)
theorem xHd {N : Nat} {a0 : List Int} {r : Cur} (h : xF0 N  a0 = some r) : AbC 14 (xE9 a0) (xC2 r) :=
 AbsCalls.of_reach fk14 rfl rfl (Nat.le_of_ble_eq_true rfl) (c14_e a0 r h)
noncomputable def I57 : Info := { body := (Tryd.f57.body).getD .skip, nt := 58, results := [.tmp 2], keep := [0, 4, 6, 68, 1], live := [], modes := [], ext := [0] }
theorem fk57 : FnOk Tryd.prog 57 Tryd.f57 I57 := ⟨Tryd.func57, by kernel_rfl, by kernel_rfl, by kernel_rfl, by kernel_rfl⟩
theorem p57_e_0 (a0 : Cur) : rE I57 (xDm a0) [Y] [] = dn (xB5 ((andI .i64 (W ((andI .i64 (xorI .i64 (Int.fdiv (W ((W ((Cur.h a0) * 6364136223846793005)) + 1442695040888963407)) ((2 : Int) ^ (tN 33))) (Int.fdiv (W ((W ((Cur.h a0) * 6364136223846793005)) + 1442695040888963407)) ((2 : Int) ^ (tN 45)))) 255) + (W ((gD (Cur.b a0) (tN (Cur.i a0)) Ty.byte.dflt))))) 255), (Cur.mk (Cur.b a0) (W ((Cur.i a0) + 1)) (W ((W ((Cur.h a0) * 6364136223846793005)) + 1442695040888963407))))) [(0 : Int) ≤ 33 ∧ (33 : Int) < 64, (0 : Int) ≤ 45 ∧ (45 : Int) < 64, (decide (((Cur.i a0) : Int) < (Ln (Cur.b a0) : Int))) = true, (0 : Int) ≤ (Cur.i a0) ∧ (Cur.i a0) < (Ln (Cur.b a0))] := by kernel_rfl
theorem p57_e_1 (a0 : Cur) : rE I57 (xDm a0) [F] [] = dn (xB5 ((andI .i64 (xorI .i64 (Int.fdiv (W ((W ((Cur.h a0) * 6364136223846793005)) + 1442695040888963407)) ((2 : Int) ^ (tN 33))) (Int.fdiv (W ((W ((Cur.h a0) * 6364136223846793005)) + 1442695040888963407)) ((2 : Int) ^ (tN 45)))) 255), (Cur.mk (Cur.b a0) (Cur.i a0) (W ((W ((Cur.h a0) * 6364136223846793005)) + 1442695040888963407))))) [(0 : Int) ≤ 33 ∧ (33 : Int) < 64, (0 : Int) ≤ 45 ∧ (45 : Int) < 64, (decide (((Cur.i a0) : Int) < (Ln (Cur.b a0) : Int))) = false] := by kernel_rfl
theorem c57_e {N : Nat} : ∀ a0 r, xED N a0 = some r → RE Tryd.f57 I57 (xDm a0) (xB5 r) := fun a0 r h =>
 cE h (fun h2 h => iE h fun h3 h => dE h fk57 (p57_e_0 a0) (oc (by decide) (oc (by decide) (oc h2 (oc h3 on))))) fun h2 h =>
 dE h fk57 (p57_e_1 a0) (oc (by decide) (oc (by decide) (oc h2 on)))
theorem xFm {N : Nat} {a0 : Cur} {r : Int × Cur} (h : xED N  a0 = some r) : AbC 57 (xDm a0) (xB5 r) :=
 AbsCalls.of_reach fk57 rfl rfl (Nat.le_of_ble_eq_true rfl) (c57_e a0 r h)
noncomputable def I36 : Info := { body := (Tryd.f36.body).getD .skip, nt := 37, results := [.tmp 4], keep := [0, 2, 8, 10, 12, 14, 16, 20, 24, 1], live := [], modes := [(9, [(0, .take, false), (2, .take, false), (5, .take, false), (8, .take, false)])], ext := [0] }
theorem fk36 : FnOk Tryd.prog 36 Tryd.f36 I36 := ⟨Tryd.func36, by kernel_rfl, by kernel_rfl, by kernel_rfl, by kernel_rfl⟩
theorem p36_e_0 (a0 : Cur) (a1 : Int) : rE I36 (xAR a0 a1) [Y] [] = dn (xAy (0, a0)) [(decide ((a1 : Int) ≤ 0)) = true] := by kernel_rfl
theorem p36_e_1 (a0 : Cur) (a1 : Int) (r1 : Int × Cur) : rE I36 (xAR a0 a1) [F, Y] [xB5 r1] = dn (xAy ((Int.tmod r1.1 a1), r1.2)) [(decide ((a1 : Int) ≤ 0)) = false, (decide ((a1 : Int) ≤ 256)) = true, AbC 57 (xDm a0) (xB5 r1), a1 ≠ (0 : Int)] := by kernel_rfl
theorem p36_e_2 (a0 : Cur) (a1 : Int) (r1 : Int × Cur) (r2 : Int × Cur) (r3 : Int × Cur) (r4 : Int × Cur) : rE I36 (xAR a0 a1) [F, F] [xB5 r1, xB5 r2, xB5 r3, xB5 r4] = dn (xAy ((Int.tmod (W ((W ((W ((W (r1.1 * 16777216)) + (W (r2.1 * 65536)))) + (W (r3.1 * 256)))) + r4.1)) a1), r4.2)) [(decide ((a1 : Int) ≤ 0)) = false, (decide ((a1 : Int) ≤ 256)) = false, AbC 57 (xDm a0) (xB5 r1), AbC 57 (xDm r1.2) (xB5 r2), AbC 57 (xDm r2.2) (xB5 r3), AbC 57 (xDm r3.2) (xB5 r4), a1 ≠ (0 : Int)] := by kernel_rfl
theorem c36_e {N : Nat} : ∀ a0 a1 r, xBE N a0 a1 = some r → RE Tryd.f36 I36 (xAR a0 a1) (xAy r) := fun a0 a1 r h =>
 cE h (fun h0 h => dE h fk36 (p36_e_0 a0 a1) (oc h0 on)) fun h0 h =>
 cE h (fun h1 h => bE h fun r1 h2 h => iE h fun h3 h => dE h fk36 (p36_e_1 a0 a1 r1) (oc h0 (oc h1 (oc (xFm h2) (oc h3 on))))) fun h1 h =>
 bE h fun r1 h2 h => bE h fun r2 h3 h => bE h fun r3 h4 h => bE h fun r4 h5 h => iE h fun h6 h => dE h fk36 (p36_e_2 a0 a1 r1 r2 r3 r4) (oc h0 (oc h1 (oc (xFm h2) (oc (xFm h3) (oc (xFm h4) (oc (xFm h5) (oc h6 on)))))))
theorem xA0 {N : Nat} {a0 : Cur} {a1 : Int} {r : Int × Cur} (h : xBE N  a0 a1 = some r) : AbC 36 (xAR a0 a1) (xAy r) :=
 AbsCalls.of_reach fk36 rfl rfl (Nat.le_of_ble_eq_true rfl) (c36_e a0 a1 r h)
noncomputable def I15 : Info := { body := (Tryd.f15.body).getD .skip, nt := 12, results := [.tmp 4], keep := [0, 2, 8, 1], live := [], modes := [], ext := [0] }
theorem fk15 : FnOk Tryd.prog 15 Tryd.f15 I15 := ⟨Tryd.func15, by kernel_rfl, by kernel_rfl, by kernel_rfl, by kernel_rfl⟩
theorem p15_e_0 (a0 : Cur) (a1 : List Str) (r1 : Int × Cur) : rE I15 (xDn a0 a1) [] [xAy r1] = dn (xBR ((gD a1 (tN r1.1) Ty.str.dflt), r1.2)) [AbC 36 (xAR a0 (Ln a1 : Int)) (xAy r1), (0 : Int) ≤ r1.1 ∧ r1.1 < (Ln a1)] := by kernel_rfl
theorem c15_e {N : Nat} : ∀ a0 a1 r, xD6 N a0 a1 = some r → RE Tryd.f15 I15 (xDn a0 a1) (xBR r) := fun a0 a1 r h =>
 bE h fun r1 h0 h => iE h fun h1 h => dE h fk15 (p15_e_0 a0 a1 r1) (oc (xA0 h0) (oc h1 on))
theorem xEN {N : Nat} {a0 : Cur} {a1 : List Str} {r : Str × Cur} (h : xD6 N  a0 a1 = some r) : AbC 15 (xDn a0 a1) (xBR r) :=
 AbsCalls.of_reach fk15 rfl rfl (Nat.le_of_ble_eq_true rfl) (c15_e a0 a1 r h)
noncomputable def I11 : Info := { body := (Tryd.f11.body).getD .skip, nt := 5, results := [.cell 2 28], keep := [0, 4, 5], live := [], modes := [] }
theorem fk11 : FnOk Tryd.prog 11 Tryd.f11 I11 := ⟨Tryd.func11, by kernel_rfl, by kernel_rfl, by kernel_rfl, by kernel_rfl⟩
theorem p11_e_0 (a0 : Str) : rE I11 (xBF a0) [] [] = dn (xA6 (Val.mk 2 0 0 a0 [] [] [])) [] := by kernel_rfl
theorem c11_e {N : Nat} : ∀ a0 r, xCj N a0 = some r → RE Tryd.f11 I11 (xBF a0) (xA6 r) := fun a0 r h =>
 dE h fk11 (p11_e_0 a0) on
theorem xCk {N : Nat} {a0 : Str} {r : Val} (h : xCj N  a0 = some r) : AbC 11 (xBF a0) (xA6 r) :=
 AbsCalls.of_reach fk11 rfl rfl (Nat.le_of_ble_eq_true rfl) (c11_e a0 r h)
noncomputable def I33 : Info := { body := (Tryd.f33.body).getD .skip, nt := 9, results := [.tmp 4], keep := [0, 2, 8, 1], live := [], modes := [], ext := [0] }
theorem fk33 : FnOk Tryd.prog 33 Tryd.f33 I33 := ⟨Tryd.func33, by kernel_rfl, by kernel_rfl, by kernel_rfl, by kernel_rfl⟩
theorem p33_e_0 (a0 : Cur) (a1 : Int) (r1 : Int × Cur) : rE I33 (xBl a0 a1) [] [xAy r1] = dn (xAP (((r1.1 : Int) == 0), r1.2)) [AbC 36 (xAR a0 a1) (xAy r1)] := by kernel_rfl
theorem c33_e {N : Nat} : ∀ a0 a1 r, xCT N a0 a1 = some r → RE Tryd.f33 I33 (xBl a0 a1) (xAP r) := fun a0 a1 r h =>
 bE h fun r1 h0 h => dE h fk33 (p33_e_0 a0 a1 r1) (oc (xA0 h0) on)
theorem xBs {N : Nat} {a0 : Cur} {a1 : Int} {r : Bool × Cur} (h : xCT N  a0 a1 = some r) : AbC 33 (xBl a0 a1) (xAP r) :=
 AbsCalls.of_reach fk33 rfl rfl (Nat.le_of_ble_eq_true rfl) (c33_e a0 a1 r h)
noncomputable def I73 : Info := { body := (Tryd.f73.body).getD .skip, nt := 12, results := [.tmp 4], keep := [0, 2, 8, 1], live := [], modes := [], ext := [0] }
theorem fk73 : FnOk Tryd.prog 73 Tryd.f73 I73 := ⟨Tryd.func73, by kernel_rfl, by kernel_rfl, by kernel_rfl, by kernel_rfl⟩
theorem p73_e_0 (a0 : Cur) (a1 : List Int) (r1 : Int × Cur) : rE I73 (xEu a0 a1) [] [xAy r1] = dn (xDh ((gD a1 (tN r1.1) Ty.int.dflt), r1.2)) [AbC 36 (xAR a0 (Ln a1 : Int)) (xAy r1), (0 : Int) ≤ r1.1 ∧ r1.1 < (Ln a1)] := by kernel_rfl
theorem c73_e {N : Nat} : ∀ a0 a1 r, xEk N a0 a1 = some r → RE Tryd.f73 I73 (xEu a0 a1) (xDh r) := fun a0 a1 r h =>
 bE h fun r1 h0 h => iE h fun h1 h => dE h fk73 (p73_e_0 a0 a1 r1) (oc (xA0 h0) (oc h1 on))
theorem xG5 {N : Nat} {a0 : Cur} {a1 : List Int} {r : Int × Cur} (h : xEk N  a0 a1 = some r) : AbC 73 (xEu a0 a1) (xDh r) :=
 AbsCalls.of_reach fk73 rfl rfl (Nat.le_of_ble_eq_true rfl) (c73_e a0 a1 r h)
noncomputable def I61 : Info := { body := (Tryd.f61.body).getD .skip, nt := 11, results := [.tmp 2], keep := [0, 4, 8, 1], live := [], modes := [(2, [(1, .cp, true)])], ext := [0] }
theorem fk61 : FnOk Tryd.prog 61 Tryd.f61 I61 := ⟨Tryd.func61, by kernel_rfl, by kernel_rfl, by kernel_rfl, by kernel_rfl⟩
theorem p61_e_0 (a0 : Cur) (r1 : Bool × Cur) (r2 : Int × Cur) : rE I61 (xCC a0) [Y] [xAP r1, xDh r2] = dn (xBA (r2.1, r2.2)) [AbC 33 (xBl a0 12) (xAP r1), r1.1 = true, AbC 73 (xEu r1.2 [1000000000, (-1000000000), 999999999, 500000000, 40000]) (xDh r2)] := by kernel_rfl
theorem p61_e_1 (a0 : Cur) (r1 : Bool × Cur) (r2 : Int × Cur) : rE I61 (xCC a0) [F] [xAP r1, xAy r2] = dn (xBA ((W (r2.1 - 3)), r2.2)) [AbC 33 (xBl a0 12) (xAP r1), r1.1 = false, AbC 36 (xAR r1.2 12) (xAy r2)] := by kernel_rfl
theorem c61_e {N : Nat} : ∀ a0 r, xDj N a0 = some r → RE Tryd.f61 I61 (xCC a0) (xBA r) := fun a0 r h =>
 bE h fun r1 h0 h => cE h (fun h1 h => bE h fun r2 h2 h => dE h fk61 (p61_e_0 a0 r1 r2) (oc (xBs h0) (oc h1 (oc (xG5 h2) on)))) fun h1 h =>
 bE h fun r2 h2 h => dE h fk61 (p61_e_1 a0 r1 r2) (oc (xBs h0) (oc h1 (oc (xA0 h2) on)))
theorem xDH {N : Nat} {a0 : Cur} {r : Int × Cur} (h : xDj N  a0 = some r) : AbC 61 (xCC a0) (xBA r) :=
 AbsCalls.of_reach fk61 rfl rfl (Nat.le_of_ble_eq_true rfl) (c61_e a0 r h)
noncomputable def I67 : Info := { body := (Tryd.f67.body).getD .skip, nt := 5, results := [.cell 2 28], keep := [0, 4, 5], live := [], modes := [] }
theorem fk67 : FnOk Tryd.prog 67 Tryd.f67 I67 := ⟨Tryd.func67, by kernel_rfl, by kernel_rfl, by kernel_rfl, by kernel_rfl⟩
theorem p67_e_0 (a0 : Int) : rE I67 (xCe a0) [] [] = dn (xBr (Val.mk 1 a0 0 [] [] [] [])) [] := by kernel_rfl
theorem c67_e {N : Nat} : ∀ a0 r, xCy N a0 = some r → RE Tryd.f67 I67 (xCe a0) (xBr r) := fun a0 r h =>
 dE h fk67 (p67_e_0 a0) on
theorem xDg {N : Nat} {a0 : Int} {r : Val} (h : xCy N  a0 = some r) : AbC 67 (xCe a0) (xBr r) :=
 AbsCalls.of_reach fk67 rfl rfl (Nat.le_of_ble_eq_true rfl) (c67_e a0 r h)
noncomputable def I68 : Info := { body := (Tryd.f68.body).getD .skip, nt := 6, results := [.tmp 2], keep := [0, 4, 1], live := [], modes := [(1, [(1, .cp, true)])], ext := [0] }
theorem fk68 : FnOk Tryd.prog 68 Tryd.f68 I68 := ⟨Tryd.func68, by kernel_rfl, by kernel_rfl, by kernel_rfl, by kernel_rfl⟩
theorem p68_e_0 (a0 : Cur) (r1 : Str × Cur) : rE I68 (xES a0) [] [xBR r1] = dn (xDp (r1.1, r1.2)) [AbC 15 (xDn a0 [[], [97], [98], [97, 98], [104, 101, 108, 108, 111], [116, 119, 101, 110, 116, 121, 32, 99, 104, 97, 114, 97, 99, 116, 101, 114, 115, 32, 111, 107], [110, 105, 110, 101, 116, 101, 101, 110, 32, 99, 104, 97, 114, 97, 99, 116, 101, 114, 46]]) (xBR r1)] := by kernel_rfl
theorem c68_e {N : Nat} : ∀ a0 r, xFB N a0 = some r → RE Tryd.f68 I68 (xES a0) (xDp r) := fun a0 r h =>
 bE h fun r1 h0 h => dE h fk68 (p68_e_0 a0 r1) (oc (xEN h0) on)
theorem xGW {N : Nat} {a0 : Cur} {r : Str × Cur} (h : xFB N  a0 = some r) : AbC 68 (xES a0) (xDp r) :=
 AbsCalls.of_reach fk68 rfl rfl (Nat.le_of_ble_eq_true rfl) (c68_e a0 r h)
def G69 (q : Cur → Int → Option (Val × Cur)) : Prop := ∀ a0 a1 r, q a0 a1 = some r → AbC 69 (xC3 a0 a1) (xB8 r)
def G83 (q : Cur → Int → Option (Val × Cur)) : Prop := ∀ a0 a1 r, q a0 a1 = some r → AbC 83 (xCs a0 a1) (xB9 r)
noncomputable def I69 : Info := { body := (Tryd.f69.body).getD .skip, nt := 26, results := [.cell 4 28], keep := [0, 2, 8, 10, 12, 14, 28, 1, 9, 11], live := [(4, [0, 2, 8, 10, 12, 14, 1, 9, 11])], modes := [(2, [(1, .cp, true)]), (4, [(1, .take, false)]), (6, [(1, .take, false), (6, .take, false)]), (7, [(0, .take, false)])], ext := [0] }
theorem fk69 : FnOk Tryd.prog 69 Tryd.f69 I69 := ⟨Tryd.func69, by kernel_rfl, by kernel_rfl, by kernel_rfl, by kernel_rfl⟩
def S69_4 (x1 x6 x7 : Int) (b0 : Cur) (b4 b5 : Val) : St := [(0, .v false [.ptr 0 0]), (2, .v false [.int .i64 x1]), (8, .v false [.ptr 4 0]), (10, .v false [.ptr 5 0]), (12, .v false [.int .i64 x6]), (14, .v false [.int .i64 x7]), (1, .v true [.sl .ro .byte (Cur.b b0), .int .i64 (Cur.i b0), .int .i64 (Cur.h b0)]), (9, .v true [.int .i64 (Val.kind b4), .int .i64 (Val.n b4), .int .i64 (Val.step b4), .str (Val.text b4), .sl .own .val (Val.list b4), .sl .own .str (Val.columns b4), .sl .own .row (Val.rows b4)]), (11, .v true [.int .i64 (Val.kind b5), .int .i64 (Val.n b5), .int .i64 (Val.step b5), .str (Val.text b5), .sl .own .val (Val.list b5), .sl .own .str (Val.columns b5), .sl .own .row (Val.rows b5)])]
theorem p69_4_0 (x1 x6 x7 : Int) (b0 : Cur) (b4 b5 : Val) (r1 : Val × Cur) : rS 4 I69 (S69_4 x1 x6 x7 b0 b4 b5) [Y] [xB9 r1] = st 4 I69 (S69_4 x1 x6 (W (x7 + 1)) r1.2 b4 (Val.mk (Val.kind b5) (Val.n b5) (Val.step b5) (Val.text b5) ((Val.list b5) ++ [(Val.re r1.1)]) (Val.columns b5) (Val.rows b5))) [(decide ((x7 : Int) < x6)) = true, AbC 83 (xCs b0 x1) (xB9 r1), Ln (Val.list b5) + Ln [(Val.re r1.1)] ≤ Lim] := by kernel_rfl
theorem p69_4_1 (x1 x6 x7 : Int) (b0 : Cur) (b4 b5 : Val) : rS 4 I69 (S69_4 x1 x6 x7 b0 b4 b5) [F] [] = dn (xB8 (b5, b0)) [(decide ((x7 : Int) < x6)) = false] := by kernel_rfl
theorem p69_e_2 (a0 : Cur) (a1 : Int) (r1 : Int × Cur) : rE I69 (xC3 a0 a1) [] [xDh r1] = st 4 I69 (S69_4 a1 r1.1 0 r1.2 (Val.mk 0 0 0 [] [] [] []) (Val.mk 3 0 0 [] [] [] [])) [AbC 73 (xEu a0 [0, 1, 2, 3, 3, 4, 5, 8]) (xDh r1)] := by kernel_rfl
theorem c69_4 {N : Nat} {q0 : Cur → Int → Option (Val × Cur)} (g0 : G69 q0) {q1 : Cur → Int → Option (Val × Cur)} (g1 : G83 q1) : ∀ n x1 x6 x7 b0 b4 b5 r, xDw N q0 q1 n x1 x6 x7 b0 b4 b5 = some r → RS Tryd.f69 I69 4 (S69_4 x1 x6 x7 b0 b4 b5) (xB8 r) := by
 intro n
 induction n with
 | zero => exact fun _ _ _ _ _ _ _ h => nE h
 | succ n ih =>
  exact fun x1 x6 x7 b0 b4 b5 r h =>
   cE h (fun h0 h => bE h fun r1 h1 h => iE h fun h2 h => tS fk69 (p69_4_0 x1 x6 x7 b0 b4 b5 r1) (oc h0 (oc (g1 _ _ _ h1) (oc h2 on))) (ih _ _ _ _ _ _ _ h)) fun h0 h =>
   dS h fk69 (p69_4_1 x1 x6 x7 b0 b4 b5) (oc h0 on)
theorem c69_e {N : Nat} {q0 : Cur → Int → Option (Val × Cur)} (g0 : G69 q0) {q1 : Cur → Int → Option (Val × Cur)} (g1 : G83 q1) : ∀ a0 a1 r, xDD N q0 q1 a0 a1 = some r → RE Tryd.f69 I69 (xC3 a0 a1) (xB8 r) := fun a0 a1 r h =>
 bE h fun r1 h0 h => tE fk69 (p69_e_2 a0 a1 r1) (oc (xG5 h0) on) (c69_4 g0 g1 _ _ _ _ _ _ _ _ h)
theorem xHe {N : Nat} {q0 : Cur → Int → Option (Val × Cur)} (g0 : G69 q0) {q1 : Cur → Int → Option (Val × Cur)} (g1 : G83 q1) {a0 : Cur} {a1 : Int} {r : Val × Cur} (h : xDD N q0 q1 a0 a1 = some r) : AbC 69 (xC3 a0 a1) (xB8 r) :=
 AbsCalls.of_reach fk69 rfl rfl (Nat.le_of_ble_eq_true rfl) (c69_e g0 g1 a0 a1 r h)
noncomputable def I83 : Info := { body := (Tryd.f83.body).getD .skip, nt := 23, results := [.cell 4 28], keep := [0, 2, 8, 20, 32, 1, 9], live := [], modes := [(1, [(2, .take, false)])], ext := [0] }
theorem fk83 : FnOk Tryd.prog 83 Tryd.f83 I83 := ⟨Tryd.func83, by kernel_rfl, by kernel_rfl, by kernel_rfl, by kernel_rfl⟩
theorem p83_e_0 (a0 : Cur) (a1 : Int) (r1 : Bool × Cur) (r2 : Val × Cur) : rE I83 (xCs a0 a1) [Y, Y] [xAP r1, xB8 r2] = dn (xB9 (r2.1, r2.2)) [(decide ((a1 : Int) > 1)) = true, AbC 33 (xBl a0 4) (xAP r1), r1.1 = true, AbC 69 (xC3 r1.2 (W (a1 - 1))) (xB8 r2)] := by kernel_rfl
theorem p83_e_1 (a0 : Cur) (a1 : Int) (r1 : Bool × Cur) (r2 : Bool × Cur) (r3 : Str × Cur) (r4 : Val) : rE I83 (xCs a0 a1) [Y, F, Y] [xAP r1, xAP r2, xDp r3, xA6 r4] = dn (xB9 (r4, r3.2)) [(decide ((a1 : Int) > 1)) = true, AbC 33 (xBl a0 4) (xAP r1), r1.1 = false, AbC 33 (xBl r1.2 4) (xAP r2), r2.1 = true, AbC 68 (xES r2.2) (xDp r3), AbC 11 (xBF r3.1) (xA6 r4)] := by kernel_rfl
theorem p83_e_2 (a0 : Cur) (a1 : Int) (r1 : Bool × Cur) (r2 : Bool × Cur) (r3 : Int × Cur) (r4 : Val) : rE I83 (xCs a0 a1) [Y, F, F] [xAP r1, xAP r2, xBA r3, xBr r4] = dn (xB9 (r4, r3.2)) [(decide ((a1 : Int) > 1)) = true, AbC 33 (xBl a0 4) (xAP r1), r1.1 = false, AbC 33 (xBl r1.2 4) (xAP r2), r2.1 = false, AbC 61 (xCC r2.2) (xBA r3), AbC 67 (xCe r3.1) (xBr r4)] := by kernel_rfl
theorem p83_e_3 (a0 : Cur) (a1 : Int) (r1 : Bool × Cur) (r2 : Str × Cur) (r3 : Val) : rE I83 (xCs a0 a1) [F, F, Y] [xAP r1, xDp r2, xA6 r3] = dn (xB9 (r3, r2.2)) [(decide ((a1 : Int) > 1)) = false, false = false, AbC 33 (xBl a0 4) (xAP r1), r1.1 = true, AbC 68 (xES r1.2) (xDp r2), AbC 11 (xBF r2.1) (xA6 r3)] := by kernel_rfl
theorem p83_e_4 (a0 : Cur) (a1 : Int) (r1 : Bool × Cur) (r2 : Int × Cur) (r3 : Val) : rE I83 (xCs a0 a1) [F, F, F] [xAP r1, xBA r2, xBr r3] = dn (xB9 (r3, r2.2)) [(decide ((a1 : Int) > 1)) = false, false = false, AbC 33 (xBl a0 4) (xAP r1), r1.1 = false, AbC 61 (xCC r1.2) (xBA r2), AbC 67 (xCe r2.1) (xBr r3)] := by kernel_rfl
theorem c83_e {N : Nat} {q0 : Cur → Int → Option (Val × Cur)} (g0 : G69 q0) {q1 : Cur → Int → Option (Val × Cur)} (g1 : G83 q1) : ∀ a0 a1 r, xDE N q0 q1 a0 a1 = some r → RE Tryd.f83 I83 (xCs a0 a1) (xB9 r) := fun a0 a1 r h =>
 cE h (fun h0 h => bE h fun r1 h1 h => cE h (fun h2 h => bE h fun r2 h3 h => dE h fk83 (p83_e_0 a0 a1 r1 r2) (oc h0 (oc (xBs h1) (oc h2 (oc (g0 _ _ _ h3) on))))) fun h2 h =>
 bE h fun r2 h3 h => cE h (fun h4 h => bE h fun r3 h5 h => bE h fun r4 h6 h => dE h fk83 (p83_e_1 a0 a1 r1 r2 r3 r4) (oc h0 (oc (xBs h1) (oc h2 (oc (xBs h3) (oc h4 (oc (xGW h5) (oc (xCk h6) on)))))))) fun h4 h =>
 bE h fun r3 h5 h => bE h fun r4 h6 h => dE h fk83 (p83_e_2 a0 a1 r1 r2 r3 r4) (oc h0 (oc (xBs h1) (oc h2 (oc (xBs h3) (oc h4 (oc (xDH h5) (oc (xDg h6) on)))))))) fun h0 h =>
 bE h fun r1 h2 h => cE h (fun h3 h => bE h fun r2 h4 h => bE h fun r3 h5 h => dE h fk83 (p83_e_3 a0 a1 r1 r2 r3) (oc h0 (oc rfl (oc (xBs h2) (oc h3 (oc (xGW h4) (oc (xCk h5) on))))))) fun h3 h =>
 bE h fun r2 h4 h => bE h fun r3 h5 h => dE h fk83 (p83_e_4 a0 a1 r1 r2 r3) (oc h0 (oc rfl (oc (xBs h2) (oc h3 (oc (xDH h4) (oc (xDg h5) on))))))
theorem xHf {N : Nat} {q0 : Cur → Int → Option (Val × Cur)} (g0 : G69 q0) {q1 : Cur → Int → Option (Val × Cur)} (g1 : G83 q1) {a0 : Cur} {a1 : Int} {r : Val × Cur} (h : xDE N q0 q1 a0 a1 = some r) : AbC 83 (xCs a0 a1) (xB9 r) :=
 AbsCalls.of_reach fk83 rfl rfl (Nat.le_of_ble_eq_true rfl) (c83_e g0 g1 a0 a1 r h)
theorem xHo {N : Nat} : ∀ d, G69 (xBb N d).c_spec_l3DrawList ∧ G83 (xBb N d).c_spec_l3Element2 := by
 intro d
 induction d with
 | zero => exact ⟨fun _ _ _ h => nE h, fun _ _ _ h => nE h⟩
 | succ d ih =>
  obtain ⟨ih0, ih1⟩ := ih
  exact ⟨fun _ _ _ h => xHe (N := N) ih0 ih1 h, fun _ _ _ h => xHf (N := N) ih0 ih1 h⟩
theorem spec_l3DrawList_ok {N : Nat} {a0 : Cur} {a1 : Int} {r : Val × Cur} (h : xGF N a0 a1 = some r) : AbC 69 (xC3 a0 a1) (xB8 r) := (xHo N).1 _ _ r h
noncomputable def I70 : Info := { body := (Tryd.f70.body).getD .skip, nt := 23, results := [.cell 2 28], keep := [0, 4, 6, 8, 10, 22, 1, 5, 7], live := [(4, [0, 4, 6, 8, 10, 1, 5, 7])], modes := [(4, [(1, .take, false)]), (6, [(1, .take, false), (6, .take, false)]), (7, [(0, .take, false)])], ext := [0] }
theorem fk70 : FnOk Tryd.prog 70 Tryd.f70 I70 := ⟨Tryd.func70, by kernel_rfl, by kernel_rfl, by kernel_rfl, by kernel_rfl⟩
def S70_4 (x4 x5 : Int) (b0 : Cur) (b2 b3 : Val) : St := [(0, .v false [.ptr 0 0]), (4, .v false [.ptr 2 0]), (6, .v false [.ptr 3 0]), (8, .v false [.int .i64 x4]), (10, .v false [.int .i64 x5]), (1, .v true [.sl .ro .byte (Cur.b b0), .int .i64 (Cur.i b0), .int .i64 (Cur.h b0)]), (5, .v true [.int .i64 (Val.kind b2), .int .i64 (Val.n b2), .int .i64 (Val.step b2), .str (Val.text b2), .sl .own .val (Val.list b2), .sl .own .str (Val.columns b2), .sl .own .row (Val.rows b2)]), (7, .v true [.int .i64 (Val.kind b3), .int .i64 (Val.n b3), .int .i64 (Val.step b3), .str (Val.text b3), .sl .own .val (Val.list b3), .sl .own .str (Val.columns b3), .sl .own .row (Val.rows b3)])]
theorem p70_4_0 (x4 x5 : Int) (b0 : Cur) (b2 b3 : Val) (r1 : Int × Cur) (r2 : Val) : rS 4 I70 (S70_4 x4 x5 b0 b2 b3) [Y] [xBA r1, xBr r2] = st 4 I70 (S70_4 x4 (W (x5 + 1)) r1.2 b2 (Val.mk (Val.kind b3) (Val.n b3) (Val.step b3) (Val.text b3) ((Val.list b3) ++ [(Val.re r2)]) (Val.columns b3) (Val.rows b3))) [(decide ((x5 : Int) < x4)) = true, AbC 61 (xCC b0) (xBA r1), AbC 67 (xCe r1.1) (xBr r2), Ln (Val.list b3) + Ln [(Val.re r2)] ≤ Lim] := by kernel_rfl
theorem p70_4_1 (x4 x5 : Int) (b0 : Cur) (b2 b3 : Val) : rS 4 I70 (S70_4 x4 x5 b0 b2 b3) [F] [] = dn (xDR (b3, b0)) [(decide ((x5 : Int) < x4)) = false] := by kernel_rfl
theorem p70_e_2 (a0 : Cur) (r1 : Int × Cur) : rE I70 (xFc a0) [] [xAy r1] = st 4 I70 (S70_4 r1.1 0 r1.2 (Val.mk 0 0 0 [] [] [] []) (Val.mk 3 0 0 [] [] [] [])) [AbC 36 (xAR a0 9) (xAy r1)] := by kernel_rfl
theorem c70_4 {N : Nat} : ∀ n x4 x5 b0 b2 b3 r, xDQ N n x4 x5 b0 b2 b3 = some r → RS Tryd.f70 I70 4 (S70_4 x4 x5 b0 b2 b3) (xDR r) := by
 intro n
 induction n with
 | zero => exact fun _ _ _ _ _ _ h => nE h
 | succ n ih =>
  exact fun x4 x5 b0 b2 b3 r h =>
   cE h (fun h0 h => bE h fun r1 h1 h => bE h fun r2 h2 h => iE h fun h3 h => tS fk70 (p70_4_0 x4 x5 b0 b2 b3 r1 r2) (oc h0 (oc (xDH h1) (oc (xDg h2) (oc h3 on)))) (ih _ _ _ _ _ _ h)) fun h0 h =>
   dS h fk70 (p70_4_1 x4 x5 b0 b2 b3) (oc h0 on)
theorem c70_e {N : Nat} : ∀ a0 r, xGc N a0 = some r → RE Tryd.f70 I70 (xFc a0) (xDR r) := fun a0 r h =>
 bE h fun r1 h0 h => tE fk70 (p70_e_2 a0 r1) (oc (xA0 h0) on) (c70_4 _ _ _ _ _ _ _ h)
theorem spec_l3Numbers_ok {N : Nat} {a0 : Cur} {r : Val × Cur} (h : xGc N  a0 = some r) : AbC 70 (xFc a0) (xDR r) :=
 AbsCalls.of_reach fk70 rfl rfl (Nat.le_of_ble_eq_true rfl) (c70_e a0 r h)
noncomputable def I71 : Info := { body := (Tryd.f71.body).getD .skip, nt := 8, results := [.cell 4 28], keep := [0, 2, 8, 9], live := [], modes := [] }
theorem fk71 : FnOk Tryd.prog 71 Tryd.f71 I71 := ⟨Tryd.func71, by kernel_rfl, by kernel_rfl, by kernel_rfl, by kernel_rfl⟩
theorem p71_e_0 (a0 a1 : Int) : rE I71 (xEC a0 a1) [] [] = dn (xD5 (Val.mk 4 a0 a1 [] [] [] [])) [] := by kernel_rfl
theorem c71_e {N : Nat} : ∀ a0 a1 r, xGl N a0 a1 = some r → RE Tryd.f71 I71 (xEC a0 a1) (xD5 r) := fun a0 a1 r h =>
 dE h fk71 (p71_e_0 a0 a1) on
theorem xHR {N : Nat} {a0 : Int} {a1 : Int} {r : Val} (h : xGl N  a0 a1 = some r) : AbC 71 (xEC a0 a1) (xD5 r) :=
 AbsCalls.of_reach fk71 rfl rfl (Nat.le_of_ble_eq_true rfl) (c71_e a0 a1 r h)
noncomputable def I28 : Info := { body := (Tryd.f28.body).getD .skip, nt := 5, results := [.cell 2 28], keep := [0, 4, 5], live := [], modes := [] }
theorem fk28 : FnOk Tryd.prog 28 Tryd.f28 I28 := ⟨Tryd.func28, by kernel_rfl, by kernel_rfl, by kernel_rfl, by kernel_rfl⟩
theorem p28_e_0 (a0 : Int) : rE I28 (xBw a0) [] [] = dn (xAV (Val.mk 6 a0 0 [] [] [] [])) [] := by kernel_rfl
theorem c28_e {N : Nat} : ∀ a0 r, xBd N a0 = some r → RE Tryd.f28 I28 (xBw a0) (xAV r) := fun a0 r h =>
 dE h fk28 (p28_e_0 a0) on
theorem xBI {N : Nat} {a0 : Int} {r : Val} (h : xBd N  a0 = some r) : AbC 28 (xBw a0) (xAV r) :=
 AbsCalls.of_reach fk28 rfl rfl (Nat.le_of_ble_eq_true rfl) (c28_e a0 r h)
noncomputable def I60 : Info := { body := (Tryd.f60.body).getD .skip, nt := 31, results := [.tmp 2], keep := [0, 4, 6, 8, 10, 12, 24, 1], live := [(5, [0, 6, 8, 10, 12, 1])], modes := [(5, [(1, .take, false)]), (7, [(0, .take, false)]), (9, [(0, .take, false)])], ext := [0] }
theorem fk60 : FnOk Tryd.prog 60 Tryd.f60 I60 := ⟨Tryd.func60, by kernel_rfl, by kernel_rfl, by kernel_rfl, by kernel_rfl⟩
def S60_5 (x3 : List Org) (x4 x5 x6 : Int) (b0 : Cur) : St := [(0, .v false [.ptr 0 0]), (6, .v false [.sl .own .org x3]), (8, .v false [.int .i64 x4]), (10, .v false [.int .i64 x5]), (12, .v false [.int .i64 x6]), (1, .v true [.sl .ro .byte (Cur.b b0), .int .i64 (Cur.i b0), .int .i64 (Cur.h b0)])]
theorem p60_5_0 (x3 : List Org) (x4 x5 x6 : Int) (b0 : Cur) (r1 : Int × Cur) (r2 : Int × Cur) : rS 5 I60 (S60_5 x3 x4 x5 x6 b0) [Y] [xAy r1, xAy r2] = st 5 I60 (S60_5 (x3 ++ [(Org.mk x4 (W (x6 + (W (r1.1 * 2)))))]) (W ((W (x4 + 1)) + r2.1)) x5 (W (x6 + 1)) r2.2) [(decide ((x6 : Int) < x5)) = true, AbC 36 (xAR b0 2) (xAy r1), Ln x3 + Ln [(Org.mk x4 (W (x6 + (W (r1.1 * 2)))))] ≤ Lim, AbC 36 (xAR r1.2 2) (xAy r2)] := by kernel_rfl
theorem p60_5_1 (x3 : List Org) (x4 x5 x6 : Int) (b0 : Cur) : rS 5 I60 (S60_5 x3 x4 x5 x6 b0) [F] [] = dn (xEQ (x3, b0)) [(decide ((x6 : Int) < x5)) = false] := by kernel_rfl
theorem p60_e_2 (a0 : Cur) (r1 : Int × Cur) : rE I60 (xGb a0) [] [xAy r1] = st 5 I60 (S60_5 [] 1 r1.1 0 r1.2) [AbC 36 (xAR a0 3) (xAy r1)] := by kernel_rfl
theorem c60_5 {N : Nat} : ∀ n x3 x4 x5 x6 b0 r, xEP N n x3 x4 x5 x6 b0 = some r → RS Tryd.f60 I60 5 (S60_5 x3 x4 x5 x6 b0) (xEQ r) := by
 intro n
 induction n with
 | zero => exact fun _ _ _ _ _ _ h => nE h
 | succ n ih =>
  exact fun x3 x4 x5 x6 b0 r h =>
   cE h (fun h0 h => bE h fun r1 h1 h => iE h fun h2 h => bE h fun r2 h3 h => tS fk60 (p60_5_0 x3 x4 x5 x6 b0 r1 r2) (oc h0 (oc (xA0 h1) (oc h2 (oc (xA0 h3) on)))) (ih _ _ _ _ _ _ h)) fun h0 h =>
   dS h fk60 (p60_5_1 x3 x4 x5 x6 b0) (oc h0 on)
theorem c60_e {N : Nat} : ∀ a0 r, xHg N a0 = some r → RE Tryd.f60 I60 (xGb a0) (xEQ r) := fun a0 r h =>
 bE h fun r1 h0 h => tE fk60 (p60_e_2 a0 r1) (oc (xA0 h0) on) (c60_5 _ _ _ _ _ _ _ h)
theorem spec_l3From_ok {N : Nat} {a0 : Cur} {r : (List Org) × Cur} (h : xHg N  a0 = some r) : AbC 60 (xGb a0) (xEQ r) :=
 AbsCalls.of_reach fk60 rfl rfl (Nat.le_of_ble_eq_true rfl) (c60_e a0 r h)
noncomputable def I38 : Info := { body := (Tryd.f38.body).getD .skip, nt := 58, results := [.cell 2 28], keep := [0, 4, 6, 8, 10, 12, 14, 16, 18, 42, 66, 82, 1, 5, 11, 17], live := [(10, [0, 4, 8, 10, 12, 14, 1, 5, 11]), (14, [0, 4, 8, 10, 12, 14, 16, 18, 1, 5, 11, 17])], modes := [(3, [(1, .take, false)]), (5, [(1, .ref, false)]), (6, [(1, .take, false), (2, .take, false)]), (10, [(1, .take, false)]), (16, [(1, .take, false)]), (17, [(1, .take, false), (2, .take, false), (4, .take, false)]), (18, [(0, .take, false)])], ext := [0] }
theorem fk38 : FnOk Tryd.prog 38 Tryd.f38 I38 := ⟨Tryd.func38, by kernel_rfl, by kernel_rfl, by kernel_rfl, by kernel_rfl⟩
def S38_10 (x4 x6 x7 : Int) (b0 : Cur) (b2 b5 : Val) : St := [(0, .v false [.ptr 0 0]), (4, .v false [.ptr 2 0]), (8, .v false [.int .i64 x4]), (10, .v false [.ptr 5 0]), (12, .v false [.int .i64 x6]), (14, .v false [.int .i64 x7]), (1, .v true [.sl .ro .byte (Cur.b b0), .int .i64 (Cur.i b0), .int .i64 (Cur.h b0)]), (5, .v true [.int .i64 (Val.kind b2), .int .i64 (Val.n b2), .int .i64 (Val.step b2), .str (Val.text b2), .sl .own .val (Val.list b2), .sl .own .str (Val.columns b2), .sl .own .row (Val.rows b2)]), (11, .v true [.int .i64 (Val.kind b5), .int .i64 (Val.n b5), .int .i64 (Val.step b5), .str (Val.text b5), .sl .own .val (Val.list b5), .sl .own .str (Val.columns b5), .sl .own .row (Val.rows b5)])]
def S38_14 (x4 x6 x7 x9 : Int) (b0 : Cur) (b2 b5 : Val) (b8 : Rowd) : St := [(0, .v false [.ptr 0 0]), (4, .v false [.ptr 2 0]), (8, .v false [.int .i64 x4]), (10, .v false [.ptr 5 0]), (12, .v false [.int .i64 x6]), (14, .v false [.int .i64 x7]), (16, .v false [.ptr 8 0]), (18, .v false [.int .i64 x9]), (1, .v true [.sl .ro .byte (Cur.b b0), .int .i64 (Cur.i b0), .int .i64 (Cur.h b0)]), (5, .v true [.int .i64 (Val.kind b2), .int .i64 (Val.n b2), .int .i64 (Val.step b2), .str (Val.text b2), .sl .own .val (Val.list b2), .sl .own .str (Val.columns b2), .sl .own .row (Val.rows b2)]), (11, .v true [.int .i64 (Val.kind b5), .int .i64 (Val.n b5), .int .i64 (Val.step b5), .str (Val.text b5), .sl .own .val (Val.list b5), .sl .own .str (Val.columns b5), .sl .own .row (Val.rows b5)]), (17, .v true [.sl .own .int (Rowd.cells b8), .sl .own .org (Rowd.frm b8)])]
theorem p38_14_0 (x4 x6 x7 x9 : Int) (b0 : Cur) (b2 b5 : Val) (b8 : Rowd) (r1 : Int × Cur) : rS 14 I38 (S38_14 x4 x6 x7 x9 b0 b2 b5 b8) [Y] [xBA r1] = st 14 I38 (S38_14 x4 x6 x7 (W (x9 + 1)) r1.2 b2 b5 (Rowd.mk ((Rowd.cells b8) ++ [r1.1]) (Rowd.frm b8))) [(decide ((x9 : Int) < x4)) = true, AbC 61 (xCC b0) (xBA r1), Ln (Rowd.cells b8) + Ln [r1.1] ≤ Lim] := by kernel_rfl
theorem p38_14_1 (x4 x6 x7 x9 : Int) (b0 : Cur) (b2 b5 : Val) (b8 : Rowd) : rS 14 I38 (S38_14 x4 x6 x7 x9 b0 b2 b5 b8) [F] [] = st 10 I38 (S38_10 x4 x6 (W (x7 + 1)) b0 b2 (Val.mk (Val.kind b5) (Val.n b5) (Val.step b5) (Val.text b5) (Val.list b5) (Val.columns b5) ((Val.rows b5) ++ [b8]))) [(decide ((x9 : Int) < x4)) = false, Ln (Val.rows b5) + Ln [b8] ≤ Lim] := by kernel_rfl
theorem p38_10_2 (x4 x6 x7 : Int) (b0 : Cur) (b2 b5 : Val) (r1 : (List Org) × Cur) : rS 10 I38 (S38_10 x4 x6 x7 b0 b2 b5) [Y] [xEQ r1] = st 14 I38 (S38_14 x4 x6 x7 0 r1.2 b2 b5 (Rowd.mk [] r1.1)) [(decide ((x7 : Int) < x6)) = true, AbC 60 (xGb b0) (xEQ r1)] := by kernel_rfl
theorem p38_10_3 (x4 x6 x7 : Int) (b0 : Cur) (b2 b5 : Val) : rS 10 I38 (S38_10 x4 x6 x7 b0 b2 b5) [F] [] = dn (xBS (b5, b0)) [(decide ((x7 : Int) < x6)) = false] := by kernel_rfl
theorem p38_e_4 (a0 : Cur) (r1 : Int × Cur) (r2 : Bool × Cur) (r3 : Int × Cur) : rE I38 (xDi a0) [Y] [xAy r1, xAP r2, xAy r3] = st 10 I38 (S38_10 1 r3.1 0 r3.2 (Val.mk 0 0 0 [] [] [] []) (Val.mk 5 0 0 [] [] (List.take (tN 1) ((fun (z8 : List Str) => List.set z8 (tN 0) [120]) ([] ++ (List.take (tN (W (1 + r1.1))) ([[97], [98], [99], [120]] : List Str))))) [])) [AbC 36 (xAR a0 3) (xAy r1), (0 : Int) ≤ (W (1 + r1.1)) ∧ (W (1 + r1.1)) ≤ (Ln ([[97], [98], [99], [120]] : List Str)), 0 + Ln (List.take (tN (W (1 + r1.1))) ([[97], [98], [99], [120]] : List Str)) ≤ Lim, AbC 33 (xBl r1.2 5) (xAP r2), r2.1 = true, (0 : Int) ≤ 0 ∧ (0 : Int) < (Ln ([] ++ (List.take (tN (W (1 + r1.1))) ([[97], [98], [99], [120]] : List Str)))), (0 : Int) ≤ 1 ∧ (1 : Int) ≤ (Ln ((fun (z8 : List Str) => List.set z8 (tN 0) [120]) ([] ++ (List.take (tN (W (1 + r1.1))) ([[97], [98], [99], [120]] : List Str))))), AbC 36 (xAR r2.2 6) (xAy r3)] := by kernel_rfl
theorem p38_e_5 (a0 : Cur) (r1 : Int × Cur) (r2 : Bool × Cur) (r3 : Int × Cur) : rE I38 (xDi a0) [F] [xAy r1, xAP r2, xAy r3] = st 10 I38 (S38_10 (W (1 + r1.1)) r3.1 0 r3.2 (Val.mk 0 0 0 [] [] [] []) (Val.mk 5 0 0 [] [] ([] ++ (List.take (tN (W (1 + r1.1))) ([[97], [98], [99], [120]] : List Str))) [])) [AbC 36 (xAR a0 3) (xAy r1), (0 : Int) ≤ (W (1 + r1.1)) ∧ (W (1 + r1.1)) ≤ (Ln ([[97], [98], [99], [120]] : List Str)), 0 + Ln (List.take (tN (W (1 + r1.1))) ([[97], [98], [99], [120]] : List Str)) ≤ Lim, AbC 33 (xBl r1.2 5) (xAP r2), r2.1 = false, AbC 36 (xAR r2.2 6) (xAy r3)] := by kernel_rfl
theorem c38_14 {N : Nat} {k10 : Int → Int → Int → Cur → Val → Val → Option (Val × Cur)} (hk10 : ∀ z0 z1 z2 z3 z4 z5 r, k10 z0 z1 z2 z3 z4 z5 = some r → RS Tryd.f38 I38 10 (S38_10 z0 z1 z2 z3 z4 z5) (xBS r)) : ∀ n x4 x6 x7 x9 b0 b2 b5 b8 r, xC5 N k10 n x4 x6 x7 x9 b0 b2 b5 b8 = some r → RS Tryd.f38 I38 14 (S38_14 x4 x6 x7 x9 b0 b2 b5 b8) (xBS r) := by
 intro n
 induction n with
 | zero => exact fun _ _ _ _ _ _ _ _ _ h => nE h
 | succ n ih =>
  exact fun x4 x6 x7 x9 b0 b2 b5 b8 r h =>
   cE h (fun h0 h => bE h fun r1 h1 h => iE h fun h2 h => tS fk38 (p38_14_0 x4 x6 x7 x9 b0 b2 b5 b8 r1) (oc h0 (oc (xDH h1) (oc h2 on))) (ih _ _ _ _ _ _ _ _ _ h)) fun h0 h =>
   iE h fun h1 h => tS fk38 (p38_14_1 x4 x6 x7 x9 b0 b2 b5 b8) (oc h0 (oc h1 on)) (hk10 _ _ _ _ _ _ _ h)
theorem c38_10 {N : Nat} : ∀ n x4 x6 x7 b0 b2 b5 r, xBY N n x4 x6 x7 b0 b2 b5 = some r → RS Tryd.f38 I38 10 (S38_10 x4 x6 x7 b0 b2 b5) (xBS r) := by
 intro n
 induction n with
 | zero => exact fun _ _ _ _ _ _ _ h => nE h
 | succ n ih =>
  exact fun x4 x6 x7 b0 b2 b5 r h =>
   cE h (fun h0 h => bE h fun r1 h1 h => tS fk38 (p38_10_2 x4 x6 x7 b0 b2 b5 r1) (oc h0 (oc (spec_l3From_ok h1) on)) (c38_14 ih _ _ _ _ _ _ _ _ _ _ h)) fun h0 h =>
   dS h fk38 (p38_10_3 x4 x6 x7 b0 b2 b5) (oc h0 on)
theorem c38_e {N : Nat} : ∀ a0 r, xEe N a0 = some r → RE Tryd.f38 I38 (xDi a0) (xBS r) := fun a0 r h =>
 bE h fun r1 h0 h => iE h fun h1 h => iE h fun h2 h => bE h fun r2 h3 h => cE h (fun h4 h => iE h fun h5 h => iE h fun h6 h => bE h fun r3 h7 h => tE fk38 (p38_e_4 a0 r1 r2 r3) (oc (xA0 h0) (oc h1 (oc h2 (oc (xBs h3) (oc h4 (oc h5 (oc h6 (oc (xA0 h7) on)))))))) (c38_10 _ _ _ _ _ _ _ _ h)) fun h4 h =>
 bE h fun r3 h5 h => tE fk38 (p38_e_5 a0 r1 r2 r3) (oc (xA0 h0) (oc h1 (oc h2 (oc (xBs h3) (oc h4 (oc (xA0 h5) on)))))) (c38_10 _ _ _ _ _ _ _ _ h)
theorem xGG {N : Nat} {a0 : Cur} {r : Val × Cur} (h : xEe N  a0 = some r) : AbC 38 (xDi a0) (xBS r) :=
 AbsCalls.of_reach fk38 rfl rfl (Nat.le_of_ble_eq_true rfl) (c38_e a0 r h)
noncomputable def I58 : Info := { body := (Tryd.f58.body).getD .skip, nt := 40, results := [.cell 2 28], keep := [0, 4, 8, 10, 24, 34, 42, 50, 64, 1, 5], live := [], modes := [], ext := [0] }
theorem fk58 : FnOk Tryd.prog 58 Tryd.f58 I58 := ⟨Tryd.func58, by kernel_rfl, by kernel_rfl, by kernel_rfl, by kernel_rfl⟩
theorem p58_e_0 (a0 : Cur) (r1 : Int × Cur) (r2 : Int × Cur) (r3 : Val) : rE I58 (xBz a0) [Y, Y] [xAy r1, xBA r2, xBr r3] = dn (xA7 (r3, r2.2)) [AbC 36 (xAR a0 10) (xAy r1), ((r1.1 : Int) == 0) = true, ((r1.1 : Int) == 0) = true, AbC 61 (xCC r1.2) (xBA r2), AbC 67 (xCe r2.1) (xBr r3)] := by kernel_rfl
theorem p58_e_1 (a0 : Cur) (r1 : Int × Cur) (r2 : Int × Cur) (r3 : Val) : rE I58 (xBz a0) [F, Y, Y] [xAy r1, xBA r2, xBr r3] = dn (xA7 (r3, r2.2)) [AbC 36 (xAR a0 10) (xAy r1), ((r1.1 : Int) == 0) = false, ((r1.1 : Int) == 1) = true, ((r1.1 : Int) == 1) = true, AbC 61 (xCC r1.2) (xBA r2), AbC 67 (xCe r2.1) (xBr r3)] := by kernel_rfl
theorem p58_e_2 (a0 : Cur) (r1 : Int × Cur) (r2 : Int × Cur) (r3 : Val) : rE I58 (xBz a0) [F, F, Y] [xAy r1, xBA r2, xBr r3] = dn (xA7 (r3, r2.2)) [AbC 36 (xAR a0 10) (xAy r1), ((r1.1 : Int) == 0) = false, ((r1.1 : Int) == 1) = false, ((r1.1 : Int) == 2) = true, AbC 61 (xCC r1.2) (xBA r2), AbC 67 (xCe r2.1) (xBr r3)] := by kernel_rfl
theorem p58_e_3 (a0 : Cur) (r1 : Int × Cur) (r2 : Str × Cur) (r3 : Val) : rE I58 (xBz a0) [F, F, F, Y] [xAy r1, xDp r2, xA6 r3] = dn (xA7 (r3, r2.2)) [AbC 36 (xAR a0 10) (xAy r1), ((r1.1 : Int) == 0) = false, ((r1.1 : Int) == 1) = false, ((r1.1 : Int) == 2) = false, ((r1.1 : Int) == 3) = true, AbC 68 (xES r1.2) (xDp r2), AbC 11 (xBF r2.1) (xA6 r3)] := by kernel_rfl
theorem p58_e_4 (a0 : Cur) (r1 : Int × Cur) (r2 : Val × Cur) : rE I58 (xBz a0) [F, F, F, F, Y] [xAy r1, xB8 r2] = dn (xA7 (r2.1, r2.2)) [AbC 36 (xAR a0 10) (xAy r1), ((r1.1 : Int) == 0) = false, ((r1.1 : Int) == 1) = false, ((r1.1 : Int) == 2) = false, ((r1.1 : Int) == 3) = false, ((r1.1 : Int) == 4) = true, AbC 69 (xC3 r1.2 3) (xB8 r2)] := by kernel_rfl
theorem p58_e_5 (a0 : Cur) (r1 : Int × Cur) (r2 : Val × Cur) : rE I58 (xBz a0) [F, F, F, F, F, Y] [xAy r1, xDR r2] = dn (xA7 (r2.1, r2.2)) [AbC 36 (xAR a0 10) (xAy r1), ((r1.1 : Int) == 0) = false, ((r1.1 : Int) == 1) = false, ((r1.1 : Int) == 2) = false, ((r1.1 : Int) == 3) = false, ((r1.1 : Int) == 4) = false, ((r1.1 : Int) == 5) = true, AbC 70 (xFc r1.2) (xDR r2)] := by kernel_rfl
theorem p58_e_6 (a0 : Cur) (r1 : Int × Cur) (r2 : Int × Cur) (r3 : Int × Cur) (r4 : Val) : rE I58 (xBz a0) [F, F, F, F, F, F, Y] [xAy r1, xBA r2, xBA r3, xD5 r4] = dn (xA7 (r4, r3.2)) [AbC 36 (xAR a0 10) (xAy r1), ((r1.1 : Int) == 0) = false, ((r1.1 : Int) == 1) = false, ((r1.1 : Int) == 2) = false, ((r1.1 : Int) == 3) = false, ((r1.1 : Int) == 4) = false, ((r1.1 : Int) == 5) = false, ((r1.1 : Int) == 6) = true, AbC 61 (xCC r1.2) (xBA r2), AbC 61 (xCC r2.2) (xBA r3), AbC 71 (xEC r2.1 r3.1) (xD5 r4)] := by kernel_rfl
theorem p58_e_7 (a0 : Cur) (r1 : Int × Cur) (r2 : Int × Cur) (r3 : Val) : rE I58 (xBz a0) [F, F, F, F, F, F, F, Y] [xAy r1, xAy r2, xAV r3] = dn (xA7 (r3, r2.2)) [AbC 36 (xAR a0 10) (xAy r1), ((r1.1 : Int) == 0) = false, ((r1.1 : Int) == 1) = false, ((r1.1 : Int) == 2) = false, ((r1.1 : Int) == 3) = false, ((r1.1 : Int) == 4) = false, ((r1.1 : Int) == 5) = false, ((r1.1 : Int) == 6) = false, ((r1.1 : Int) == 7) = true, AbC 36 (xAR r1.2 8) (xAy r2), AbC 28 (xBw (W (1 + r2.1))) (xAV r3)] := by kernel_rfl
theorem p58_e_8 (a0 : Cur) (r1 : Int × Cur) (r2 : Val × Cur) : rE I58 (xBz a0) [F, F, F, F, F, F, F, F] [xAy r1, xBS r2] = dn (xA7 (r2.1, r2.2)) [AbC 36 (xAR a0 10) (xAy r1), ((r1.1 : Int) == 0) = false, ((r1.1 : Int) == 1) = false, ((r1.1 : Int) == 2) = false, ((r1.1 : Int) == 3) = false, ((r1.1 : Int) == 4) = false, ((r1.1 : Int) == 5) = false, ((r1.1 : Int) == 6) = false, ((r1.1 : Int) == 7) = false, AbC 38 (xDi r1.2) (xBS r2)] := by kernel_rfl
theorem c58_e {N : Nat} : ∀ a0 r, xF3 N a0 = some r → RE Tryd.f58 I58 (xBz a0) (xA7 r) := fun a0 r h =>
 bE h fun r1 h0 h => cE h (fun h1 h => bE h fun r2 h3 h => bE h fun r3 h4 h => dE h fk58 (p58_e_0 a0 r1 r2 r3) (oc (xA0 h0) (oc h1 (oc h1 (oc (xDH h3) (oc (xDg h4) on)))))) fun h1 h =>
 cE h (fun h2 h => bE h fun r2 h4 h => bE h fun r3 h5 h => dE h fk58 (p58_e_1 a0 r1 r2 r3) (oc (xA0 h0) (oc h1 (oc h2 (oc h2 (oc (xDH h4) (oc (xDg h5) on))))))) fun h2 h =>
 cE h (fun h3 h => bE h fun r2 h4 h => bE h fun r3 h5 h => dE h fk58 (p58_e_2 a0 r1 r2 r3) (oc (xA0 h0) (oc h1 (oc h2 (oc h3 (oc (xDH h4) (oc (xDg h5) on))))))) fun h3 h =>
 cE h (fun h4 h => bE h fun r2 h5 h => bE h fun r3 h6 h => dE h fk58 (p58_e_3 a0 r1 r2 r3) (oc (xA0 h0) (oc h1 (oc h2 (oc h3 (oc h4 (oc (xGW h5) (oc (xCk h6) on)))))))) fun h4 h =>
 cE h (fun h5 h => bE h fun r2 h6 h => dE h fk58 (p58_e_4 a0 r1 r2) (oc (xA0 h0) (oc h1 (oc h2 (oc h3 (oc h4 (oc h5 (oc (spec_l3DrawList_ok h6) on)))))))) fun h5 h =>
 cE h (fun h6 h => bE h fun r2 h7 h => dE h fk58 (p58_e_5 a0 r1 r2) (oc (xA0 h0) (oc h1 (oc h2 (oc h3 (oc h4 (oc h5 (oc h6 (oc (spec_l3Numbers_ok h7) on))))))))) fun h6 h =>
 cE h (fun h7 h => bE h fun r2 h8 h => bE h fun r3 h9 h => bE h fun r4 h10 h => dE h fk58 (p58_e_6 a0 r1 r2 r3 r4) (oc (xA0 h0) (oc h1 (oc h2 (oc h3 (oc h4 (oc h5 (oc h6 (oc h7 (oc (xDH h8) (oc (xDH h9) (oc (xHR h10) on)))))))))))) fun h7 h =>
 cE h (fun h8 h => bE h fun r2 h9 h => bE h fun r3 h10 h => dE h fk58 (p58_e_7 a0 r1 r2 r3) (oc (xA0 h0) (oc h1 (oc h2 (oc h3 (oc h4 (oc h5 (oc h6 (oc h7 (oc h8 (oc (xA0 h9) (oc (xBI h10) on)))))))))))) fun h8 h =>
 bE h fun r2 h9 h => dE h fk58 (p58_e_8 a0 r1 r2) (oc (xA0 h0) (oc h1 (oc h2 (oc h3 (oc h4 (oc h5 (oc h6 (oc h7 (oc h8 (oc (xGG h9) on))))))))))
theorem xDo {N : Nat} {a0 : Cur} {r : Val × Cur} (h : xF3 N  a0 = some r) : AbC 58 (xBz a0) (xA7 r) :=
 AbsCalls.of_reach fk58 rfl rfl (Nat.le_of_ble_eq_true rfl) (c58_e a0 r h)
noncomputable def I72 : Info := { body := (Tryd.f72.body).getD .skip, nt := 6, results := [.tmp 2], keep := [0, 4, 1], live := [], modes := [(1, [(1, .cp, true)])], ext := [0] }
theorem fk72 : FnOk Tryd.prog 72 Tryd.f72 I72 := ⟨Tryd.func72, by kernel_rfl, by kernel_rfl, by kernel_rfl, by kernel_rfl⟩
theorem p72_e_0 (a0 : Cur) (r1 : Str × Cur) : rE I72 (xF8 a0) [] [xBR r1] = dn (xFn (r1.1, r1.2)) [AbC 15 (xDn a0 [[97], [98], [99], [100], [120], [121], [116], [117]]) (xBR r1)] := by kernel_rfl
theorem c72_e {N : Nat} : ∀ a0 r, xHS N a0 = some r → RE Tryd.f72 I72 (xF8 a0) (xFn r) := fun a0 r h =>
 bE h fun r1 h0 h => dE h fk72 (p72_e_0 a0 r1) (oc (xEN h0) on)
theorem spec_l2Name_ok {N : Nat} {a0 : Cur} {r : Str × Cur} (h : xHS N  a0 = some r) : AbC 72 (xF8 a0) (xFn r) :=
 AbsCalls.of_reach fk72 rfl rfl (Nat.le_of_ble_eq_true rfl) (c72_e a0 r h)
noncomputable def I59 : Info := { body := (Tryd.f59.body).getD .skip, nt := 10, results := [.tmp 2], keep := [0, 4, 8, 1], live := [], modes := [(3, [(1, .cp, true)])], ext := [0] }
theorem fk59 : FnOk Tryd.prog 59 Tryd.f59 I59 := ⟨Tryd.func59, by kernel_rfl, by kernel_rfl, by kernel_rfl, by kernel_rfl⟩
theorem p59_e_0 (a0 : Cur) (r1 : Bool × Cur) (r2 : Str × Cur) : rE I59 (xFP a0) [Y] [xAP r1, xFn r2] = dn (xFb (r2.1, r2.2)) [AbC 33 (xBl a0 2) (xAP r1), r1.1 = true, AbC 72 (xF8 r1.2) (xFn r2)] := by kernel_rfl
theorem p59_e_1 (a0 : Cur) (r1 : Bool × Cur) (r2 : Str × Cur) : rE I59 (xFP a0) [F] [xAP r1, xBR r2] = dn (xFb (r2.1, r2.2)) [AbC 33 (xBl a0 2) (xAP r1), r1.1 = false, AbC 15 (xDn r1.2 [[], [49, 97], [97, 49], [97, 98, 99, 100, 101, 102, 103, 104], [97, 98, 99, 100, 101, 102, 103, 104, 105], [108, 101, 116], [116, 97, 98, 108, 101], [115, 117, 109], [115, 117, 109, 115], [65], [97, 95, 98], [108, 101, 110]]) (xBR r2)] := by kernel_rfl
theorem c59_e {N : Nat} : ∀ a0 r, xHD N a0 = some r → RE Tryd.f59 I59 (xFP a0) (xFb r) := fun a0 r h =>
 bE h fun r1 h0 h => cE h (fun h1 h => bE h fun r2 h2 h => dE h fk59 (p59_e_0 a0 r1 r2) (oc (xBs h0) (oc h1 (oc (spec_l2Name_ok h2) on)))) fun h1 h =>
 bE h fun r2 h2 h => dE h fk59 (p59_e_1 a0 r1 r2) (oc (xBs h0) (oc h1 (oc (xEN h2) on)))
theorem spec_l2Any_ok {N : Nat} {a0 : Cur} {r : Str × Cur} (h : xHD N  a0 = some r) : AbC 59 (xFP a0) (xFb r) :=
 AbsCalls.of_reach fk59 rfl rfl (Nat.le_of_ble_eq_true rfl) (c59_e a0 r h)
noncomputable def I37 : Info := { body := (Tryd.f37.body).getD .skip, nt := 59, results := [.cell 2 28], keep := [0, 4, 6, 14, 16, 28, 40, 50, 68, 92, 110, 1, 5, 7], live := [], modes := [(10, [(1, .take, false), (5, .take, false)]), (12, [(1, .take, false), (8, .take, false)]), (14, [(1, .take, false)]), (17, [(0, .take, false)])], ext := [0] }
theorem fk37 : FnOk Tryd.prog 37 Tryd.f37 I37 := ⟨Tryd.func37, by kernel_rfl, by kernel_rfl, by kernel_rfl, by kernel_rfl⟩
theorem p37_e_0 (a0 : Cur) (r1 : Val × Cur) (r2 : Int × Cur) : rE I37 (xCz a0) [Y] [xA7 r1, xAy r2] = dn (xB7 ((Val.mk (Val.kind r1.1) (W ((Val.n r1.1) + 1000000000)) (Val.step r1.1) (Val.text r1.1) (Val.list r1.1) (Val.columns r1.1) (Val.rows r1.1)), r2.2)) [AbC 58 (xBz a0) (xA7 r1), AbC 36 (xAR r1.2 16) (xAy r2), ((r2.1 : Int) == 0) = true] := by kernel_rfl
theorem p37_e_1 (a0 : Cur) (r1 : Val × Cur) (r2 : Int × Cur) : rE I37 (xCz a0) [F, Y] [xA7 r1, xAy r2] = dn (xB7 ((Val.mk (Val.kind r1.1) (Val.n r1.1) (Val.step r1.1) ((Val.text r1.1) ++ [120, 34, 121]) (Val.list r1.1) (Val.columns r1.1) (Val.rows r1.1)), r2.2)) [AbC 58 (xBz a0) (xA7 r1), AbC 36 (xAR r1.2 16) (xAy r2), ((r2.1 : Int) == 0) = false, ((r2.1 : Int) == 1) = true, Ln (Val.text r1.1) + Ln [120, 34, 121] ≤ Lim] := by kernel_rfl
theorem p37_e_2 (a0 : Cur) (r1 : Val × Cur) (r2 : Int × Cur) (r3 : Int × Cur) : rE I37 (xCz a0) [F, F, Y] [xA7 r1, xAy r2, xAy r3] = dn (xB7 ((Val.mk r3.1 (Val.n r1.1) (Val.step r1.1) (Val.text r1.1) (Val.list r1.1) (Val.columns r1.1) (Val.rows r1.1)), r3.2)) [AbC 58 (xBz a0) (xA7 r1), AbC 36 (xAR r1.2 16) (xAy r2), ((r2.1 : Int) == 0) = false, ((r2.1 : Int) == 1) = false, ((r2.1 : Int) == 2) = true, AbC 36 (xAR r2.2 8) (xAy r3)] := by kernel_rfl
theorem p37_e_3 (a0 : Cur) (r1 : Val × Cur) (r2 : Int × Cur) (r3 : Val × Cur) : rE I37 (xCz a0) [F, F, F, Y] [xA7 r1, xAy r2, xA7 r3] = dn (xB7 ((Val.mk (Val.kind r1.1) (Val.n r1.1) (Val.step r1.1) (Val.text r1.1) ((Val.list r1.1) ++ [(Val.re r3.1)]) (Val.columns r1.1) (Val.rows r1.1)), r3.2)) [AbC 58 (xBz a0) (xA7 r1), AbC 36 (xAR r1.2 16) (xAy r2), ((r2.1 : Int) == 0) = false, ((r2.1 : Int) == 1) = false, ((r2.1 : Int) == 2) = false, ((r2.1 : Int) == 3) = true, AbC 58 (xBz r2.2) (xA7 r3), Ln (Val.list r1.1) + Ln [(Val.re r3.1)] ≤ Lim] := by kernel_rfl
theorem p37_e_4 (a0 : Cur) (r1 : Val × Cur) (r2 : Int × Cur) : rE I37 (xCz a0) [F, F, F, F, Y] [xA7 r1, xAy r2] = dn (xB7 ((Val.mk (Val.kind r1.1) (Val.n r1.1) (Val.step r1.1) (Val.text r1.1) (Val.list r1.1) (Val.columns r1.1) ((Val.rows r1.1) ++ [(Rowd.mk [1] [(Org.mk 2 1), (Org.mk 1 1)])])), r2.2)) [AbC 58 (xBz a0) (xA7 r1), AbC 36 (xAR r1.2 16) (xAy r2), ((r2.1 : Int) == 0) = false, ((r2.1 : Int) == 1) = false, ((r2.1 : Int) == 2) = false, ((r2.1 : Int) == 3) = false, ((r2.1 : Int) == 4) = true, Ln (Val.rows r1.1) + Ln [(Rowd.mk [1] [(Org.mk 2 1), (Org.mk 1 1)])] ≤ Lim] := by kernel_rfl
theorem p37_e_5 (a0 : Cur) (r1 : Val × Cur) (r2 : Int × Cur) (r3 : Str × Cur) : rE I37 (xCz a0) [F, F, F, F, F, Y] [xA7 r1, xAy r2, xFb r3] = dn (xB7 ((Val.mk (Val.kind r1.1) (Val.n r1.1) (Val.step r1.1) (Val.text r1.1) (Val.list r1.1) ((Val.columns r1.1) ++ [r3.1]) (Val.rows r1.1)), r3.2)) [AbC 58 (xBz a0) (xA7 r1), AbC 36 (xAR r1.2 16) (xAy r2), ((r2.1 : Int) == 0) = false, ((r2.1 : Int) == 1) = false, ((r2.1 : Int) == 2) = false, ((r2.1 : Int) == 3) = false, ((r2.1 : Int) == 4) = false, ((r2.1 : Int) == 5) = true, AbC 59 (xFP r2.2) (xFb r3), Ln (Val.columns r1.1) + Ln [r3.1] ≤ Lim] := by kernel_rfl
theorem p37_e_6 (a0 : Cur) (r1 : Val × Cur) (r2 : Int × Cur) : rE I37 (xCz a0) [F, F, F, F, F, F, Y] [xA7 r1, xAy r2] = dn (xB7 ((Val.mk (Val.kind r1.1) (Val.n r1.1) 7 (Val.text r1.1) (Val.list r1.1) (Val.columns r1.1) (Val.rows r1.1)), r2.2)) [AbC 58 (xBz a0) (xA7 r1), AbC 36 (xAR r1.2 16) (xAy r2), ((r2.1 : Int) == 0) = false, ((r2.1 : Int) == 1) = false, ((r2.1 : Int) == 2) = false, ((r2.1 : Int) == 3) = false, ((r2.1 : Int) == 4) = false, ((r2.1 : Int) == 5) = false, ((r2.1 : Int) == 6) = true] := by kernel_rfl
theorem p37_e_7 (a0 : Cur) (r1 : Val × Cur) (r2 : Int × Cur) : rE I37 (xCz a0) [F, F, F, F, F, F, F] [xA7 r1, xAy r2] = dn (xB7 (r1.1, r2.2)) [AbC 58 (xBz a0) (xA7 r1), AbC 36 (xAR r1.2 16) (xAy r2), ((r2.1 : Int) == 0) = false, ((r2.1 : Int) == 1) = false, ((r2.1 : Int) == 2) = false, ((r2.1 : Int) == 3) = false, ((r2.1 : Int) == 4) = false, ((r2.1 : Int) == 5) = false, ((r2.1 : Int) == 6) = false] := by kernel_rfl
theorem c37_e {N : Nat} : ∀ a0 r, xF1 N a0 = some r → RE Tryd.f37 I37 (xCz a0) (xB7 r) := fun a0 r h =>
 bE h fun r1 h0 h => bE h fun r2 h1 h => cE h (fun h2 h => dE h fk37 (p37_e_0 a0 r1 r2) (oc (xDo h0) (oc (xA0 h1) (oc h2 on)))) fun h2 h =>
 cE h (fun h3 h => iE h fun h4 h => dE h fk37 (p37_e_1 a0 r1 r2) (oc (xDo h0) (oc (xA0 h1) (oc h2 (oc h3 (oc h4 on)))))) fun h3 h =>
 cE h (fun h4 h => bE h fun r3 h5 h => dE h fk37 (p37_e_2 a0 r1 r2 r3) (oc (xDo h0) (oc (xA0 h1) (oc h2 (oc h3 (oc h4 (oc (xA0 h5) on))))))) fun h4 h =>
 cE h (fun h5 h => bE h fun r3 h6 h => iE h fun h7 h => dE h fk37 (p37_e_3 a0 r1 r2 r3) (oc (xDo h0) (oc (xA0 h1) (oc h2 (oc h3 (oc h4 (oc h5 (oc (xDo h6) (oc h7 on))))))))) fun h5 h =>
 cE h (fun h6 h => iE h fun h7 h => dE h fk37 (p37_e_4 a0 r1 r2) (oc (xDo h0) (oc (xA0 h1) (oc h2 (oc h3 (oc h4 (oc h5 (oc h6 (oc h7 on))))))))) fun h6 h =>
 cE h (fun h7 h => bE h fun r3 h8 h => iE h fun h9 h => dE h fk37 (p37_e_5 a0 r1 r2 r3) (oc (xDo h0) (oc (xA0 h1) (oc h2 (oc h3 (oc h4 (oc h5 (oc h6 (oc h7 (oc (spec_l2Any_ok h8) (oc h9 on))))))))))) fun h7 h =>
 cE h (fun h8 h => dE h fk37 (p37_e_6 a0 r1 r2) (oc (xDo h0) (oc (xA0 h1) (oc h2 (oc h3 (oc h4 (oc h5 (oc h6 (oc h7 (oc h8 on)))))))))) fun h8 h =>
 dE h fk37 (p37_e_7 a0 r1 r2) (oc (xDo h0) (oc (xA0 h1) (oc h2 (oc h3 (oc h4 (oc h5 (oc h6 (oc h7 (oc h8 on)))))))))
theorem xHK {N : Nat} {a0 : Cur} {r : Val × Cur} (h : xF1 N  a0 = some r) : AbC 37 (xCz a0) (xB7 r) :=
 AbsCalls.of_reach fk37 rfl rfl (Nat.le_of_ble_eq_true rfl) (c37_e a0 r h)
noncomputable def I16 : Info := { body := (Tryd.f16.body).getD .skip, nt := 11, results := [.cell 2 28], keep := [0, 4, 8, 1, 5], live := [], modes := [(3, [(1, .cp, true)])], ext := [0] }
theorem fk16 : FnOk Tryd.prog 16 Tryd.f16 I16 := ⟨Tryd.func16, by kernel_rfl, by kernel_rfl, by kernel_rfl, by kernel_rfl⟩
theorem p16_e_0 (a0 : Cur) (r1 : Bool × Cur) (r2 : Val × Cur) : rE I16 (xEn a0) [Y] [xAP r1, xB7 r2] = dn (xCZ (r2.1, r2.2)) [AbC 33 (xBl a0 16) (xAP r1), r1.1 = true, AbC 37 (xCz r1.2) (xB7 r2)] := by kernel_rfl
theorem p16_e_1 (a0 : Cur) (r1 : Bool × Cur) (r2 : Str × Cur) (r3 : Val) : rE I16 (xEn a0) [F] [xAP r1, xBR r2, xA6 r3] = dn (xCZ (r3, r2.2)) [AbC 33 (xBl a0 16) (xAP r1), r1.1 = false, AbC 15 (xDn r1.2 [[97], [97], [97], [98], [98], [99], [120], [122], []]) (xBR r2), AbC 11 (xBF r2.1) (xA6 r3)] := by kernel_rfl
theorem c16_e {N : Nat} : ∀ a0 r, xFC N a0 = some r → RE Tryd.f16 I16 (xEn a0) (xCZ r) := fun a0 r h =>
 bE h fun r1 h0 h => cE h (fun h1 h => bE h fun r2 h2 h => dE h fk16 (p16_e_0 a0 r1 r2) (oc (xBs h0) (oc h1 (oc (xHK h2) on)))) fun h1 h =>
 bE h fun r2 h2 h => bE h fun r3 h3 h => dE h fk16 (p16_e_1 a0 r1 r2 r3) (oc (xBs h0) (oc h1 (oc (xEN h2) (oc (xCk h3) on))))
theorem xGX {N : Nat} {a0 : Cur} {r : Val × Cur} (h : xFC N  a0 = some r) : AbC 16 (xEn a0) (xCZ r) :=
 AbsCalls.of_reach fk16 rfl rfl (Nat.le_of_ble_eq_true rfl) (c16_e a0 r h)
noncomputable def I17 : Info := { body := (Tryd.f17.body).getD .skip, nt := 44, results := [.cell 2 28], keep := [0, 4, 6, 8, 10, 24, 46, 56, 80, 1, 5, 7], live := [(3, [0, 4, 6, 8, 1, 5, 7]), (6, [0, 4, 6, 8, 10, 1, 5, 7])], modes := [(9, [(1, .ref, false), (5, .ref, false)]), (12, [(0, .take, false)])], ext := [0] }
theorem fk17 : FnOk Tryd.prog 17 Tryd.f17 I17 := ⟨Tryd.func17, by kernel_rfl, by kernel_rfl, by kernel_rfl, by kernel_rfl⟩
def S17_3 (x4 : Int) (b0 : Cur) (b2 b3 : Val) : St := [(0, .v false [.ptr 0 0]), (4, .v false [.ptr 2 0]), (6, .v false [.ptr 3 0]), (8, .v false [.int .i64 x4]), (1, .v true [.sl .ro .byte (Cur.b b0), .int .i64 (Cur.i b0), .int .i64 (Cur.h b0)]), (5, .v true [.int .i64 (Val.kind b2), .int .i64 (Val.n b2), .int .i64 (Val.step b2), .str (Val.text b2), .sl .own .val (Val.list b2), .sl .own .str (Val.columns b2), .sl .own .row (Val.rows b2)]), (7, .v true [.int .i64 (Val.kind b3), .int .i64 (Val.n b3), .int .i64 (Val.step b3), .str (Val.text b3), .sl .own .val (Val.list b3), .sl .own .str (Val.columns b3), .sl .own .row (Val.rows b3)])]
def S17_6 (x4 x5 : Int) (b0 : Cur) (b2 b3 : Val) : St := [(0, .v false [.ptr 0 0]), (4, .v false [.ptr 2 0]), (6, .v false [.ptr 3 0]), (8, .v false [.int .i64 x4]), (10, .v false [.int .i64 x5]), (1, .v true [.sl .ro .byte (Cur.b b0), .int .i64 (Cur.i b0), .int .i64 (Cur.h b0)]), (5, .v true [.int .i64 (Val.kind b2), .int .i64 (Val.n b2), .int .i64 (Val.step b2), .str (Val.text b2), .sl .own .val (Val.list b2), .sl .own .str (Val.columns b2), .sl .own .row (Val.rows b2)]), (7, .v true [.int .i64 (Val.kind b3), .int .i64 (Val.n b3), .int .i64 (Val.step b3), .str (Val.text b3), .sl .own .val (Val.list b3), .sl .own .str (Val.columns b3), .sl .own .row (Val.rows b3)])]
theorem p17_6_0 (x4 x5 : Int) (b0 : Cur) (b2 b3 : Val) (r1 : Bool × Cur) (r2 : Int × Cur) : rS 6 I17 (S17_6 x4 x5 b0 b2 b3) [Y, Y] [xAP r1, xAy r2] = st 6 I17 (S17_6 x4 (W (x5 + 1)) r2.2 b2 (Val.mk (Val.kind b3) (Val.n b3) (Val.step b3) (Val.text b3) (Val.list b3) (Val.columns b3) (List.set (Val.rows b3) (tN x4) (Rowd.mk ((fun (z1 : List Int) => List.set z1 (tN x5) r2.1) (Rowd.cells (gD (Val.rows b3) (tN x4) rd))) (Rowd.frm (gD (Val.rows b3) (tN x4) rd)))))) [(0 : Int) ≤ x4 ∧ x4 < (Ln (Val.rows b3)), (decide ((x5 : Int) < (Ln (Rowd.cells (gD (Val.rows b3) (tN x4) rd)) : Int))) = true, AbC 33 (xBl b0 8) (xAP r1), (!r1.1) = true, (0 : Int) ≤ x4 ∧ x4 < (Ln (Val.rows b3)), AbC 36 (xAR r1.2 4) (xAy r2), (0 : Int) ≤ x5 ∧ x5 < (Ln (Rowd.cells (gD (Val.rows b3) (tN x4) rd)))] := by kernel_rfl
theorem p17_6_1 (x4 x5 : Int) (b0 : Cur) (b2 b3 : Val) (r1 : Bool × Cur) : rS 6 I17 (S17_6 x4 x5 b0 b2 b3) [Y, F] [xAP r1] = st 6 I17 (S17_6 x4 (W (x5 + 1)) r1.2 b2 b3) [(0 : Int) ≤ x4 ∧ x4 < (Ln (Val.rows b3)), (decide ((x5 : Int) < (Ln (Rowd.cells (gD (Val.rows b3) (tN x4) rd)) : Int))) = true, AbC 33 (xBl b0 8) (xAP r1), (!r1.1) = false] := by kernel_rfl
theorem p17_6_2 (x4 x5 : Int) (b0 : Cur) (b2 b3 : Val) : rS 6 I17 (S17_6 x4 x5 b0 b2 b3) [F] [] = st 3 I17 (S17_3 (W (x4 + 1)) b0 b2 b3) [(0 : Int) ≤ x4 ∧ x4 < (Ln (Val.rows b3)), (decide ((x5 : Int) < (Ln (Rowd.cells (gD (Val.rows b3) (tN x4) rd)) : Int))) = false] := by kernel_rfl
theorem p17_3_3 (x4 : Int) (b0 : Cur) (b2 b3 : Val) : rS 3 I17 (S17_3 x4 b0 b2 b3) [Y] [] = st 6 I17 (S17_6 x4 0 b0 b2 b3) [(decide ((x4 : Int) < (Ln (Val.rows b3) : Int))) = true] := by kernel_rfl
theorem p17_3_4 (x4 : Int) (b0 : Cur) (b2 b3 : Val) (r1 : Bool × Cur) (r2 : Val × Cur) : rS 3 I17 (S17_3 x4 b0 b2 b3) [F, Y] [xAP r1, xB7 r2] = dn (xB2 (r2.1, r2.2)) [(decide ((x4 : Int) < (Ln (Val.rows b3) : Int))) = false, AbC 33 (xBl b0 12) (xAP r1), r1.1 = true, AbC 37 (xCz r1.2) (xB7 r2)] := by kernel_rfl
theorem p17_3_5 (x4 : Int) (b0 : Cur) (b2 b3 : Val) (r1 : Bool × Cur) : rS 3 I17 (S17_3 x4 b0 b2 b3) [F, F] [xAP r1] = dn (xB2 (b3, r1.2)) [(decide ((x4 : Int) < (Ln (Val.rows b3) : Int))) = false, AbC 33 (xBl b0 12) (xAP r1), r1.1 = false] := by kernel_rfl
theorem p17_e_6 (a0 : Cur) (r1 : Val × Cur) : rE I17 (xEy a0) [] [xBS r1] = st 3 I17 (S17_3 0 r1.2 (Val.mk 0 0 0 [] [] [] []) r1.1) [AbC 38 (xDi a0) (xBS r1)] := by kernel_rfl
theorem c17_6 {N : Nat} {k3 : Int → Cur → Val → Val → Option (Val × Cur)} (hk3 : ∀ z0 z1 z2 z3 r, k3 z0 z1 z2 z3 = some r → RS Tryd.f17 I17 3 (S17_3 z0 z1 z2 z3) (xB2 r)) : ∀ n x4 x5 b0 b2 b3 r, xEc N k3 n x4 x5 b0 b2 b3 = some r → RS Tryd.f17 I17 6 (S17_6 x4 x5 b0 b2 b3) (xB2 r) := by
 intro n
 induction n with
 | zero => exact fun _ _ _ _ _ _ h => nE h
 | succ n ih =>
  exact fun x4 x5 b0 b2 b3 r h =>
   iE h fun h0 h => cE h (fun h1 h => bE h fun r1 h2 h => cE h (fun h3 h => bE h fun r2 h5 h => iE h fun h6 h => tS fk17 (p17_6_0 x4 x5 b0 b2 b3 r1 r2) (oc h0 (oc h1 (oc (xBs h2) (oc h3 (oc h0 (oc (xA0 h5) (oc h6 on))))))) (ih _ _ _ _ _ _ h)) fun h3 h =>
   tS fk17 (p17_6_1 x4 x5 b0 b2 b3 r1) (oc h0 (oc h1 (oc (xBs h2) (oc h3 on)))) (ih _ _ _ _ _ _ h)) fun h1 h =>
   tS fk17 (p17_6_2 x4 x5 b0 b2 b3) (oc h0 (oc h1 on)) (hk3 _ _ _ _ _ h)
theorem c17_3 {N : Nat} : ∀ n x4 b0 b2 b3 r, xEb N n x4 b0 b2 b3 = some r → RS Tryd.f17 I17 3 (S17_3 x4 b0 b2 b3) (xB2 r) := by
 intro n
 induction n with
 | zero => exact fun _ _ _ _ _ h => nE h
 | succ n ih =>
  exact fun x4 b0 b2 b3 r h =>
   cE h (fun h0 h => tS fk17 (p17_3_3 x4 b0 b2 b3) (oc h0 on) (c17_6 ih _ _ _ _ _ _ _ h)) fun h0 h =>
   bE h fun r1 h1 h => cE h (fun h2 h => bE h fun r2 h3 h => dS h fk17 (p17_3_4 x4 b0 b2 b3 r1 r2) (oc h0 (oc (xBs h1) (oc h2 (oc (xHK h3) on))))) fun h2 h =>
   dS h fk17 (p17_3_5 x4 b0 b2 b3 r1) (oc h0 (oc (xBs h1) (oc h2 on)))
theorem c17_e {N : Nat} : ∀ a0 r, xE2 N a0 = some r → RE Tryd.f17 I17 (xEy a0) (xB2 r) := fun a0 r h =>
 bE h fun r1 h0 h => tE fk17 (p17_e_6 a0 r1) (oc (xGG h0) on) (c17_3 _ _ _ _ _ _ h)
theorem xGI {N : Nat} {a0 : Cur} {r : Val × Cur} (h : xE2 N  a0 = some r) : AbC 17 (xEy a0) (xB2 r) :=
 AbsCalls.of_reach fk17 rfl rfl (Nat.le_of_ble_eq_true rfl) (c17_e a0 r h)
noncomputable def I5 : Info := { body := (Tryd.f5.body).getD .skip, nt := 19, results := [.cell 2 28, .cell 3 28, .cell 4 28, .cell 5 28], keep := [0, 4, 6, 8, 10, 12, 5, 7, 9, 11, 17], live := [], modes := [] }
theorem fk5 : FnOk Tryd.prog 5 Tryd.f5 I5 := ⟨Tryd.func5, by kernel_rfl, by kernel_rfl, by kernel_rfl, by kernel_rfl⟩
theorem p5_e_0 (a0 : List Int) (r1 : Cur) (r2 : Str × Cur) (r3 : Val) (r4 : Val × Cur) (r5 : Val × Cur) (r6 : Val × Cur) : rE I5 (xAo a0) [] [xC2 r1, xBR r2, xA6 r3, xCZ r4, xCZ r5, xB2 r6] = dn (xAe (r3, r4.1, r5.1, r6.1)) [AbC 14 (xE9 a0) (xC2 r1), AbC 15 (xDn r1 [[115], [115], [116, 111, 116, 97, 108], [97], [108, 101, 110], []]) (xBR r2), AbC 11 (xBF r2.1) (xA6 r3), AbC 16 (xEn r2.2) (xCZ r4), AbC 16 (xEn r4.2) (xCZ r5), AbC 17 (xEy r5.2) (xB2 r6)] := by kernel_rfl
theorem c5_e {N : Nat} : ∀ a0 r, xEg N a0 = some r → RE Tryd.f5 I5 (xAo a0) (xAe r) := fun a0 r h =>
 bE h fun r1 h0 h => bE h fun r2 h1 h => bE h fun r3 h2 h => bE h fun r4 h3 h => bE h fun r5 h4 h => bE h fun r6 h5 h => dE h fk5 (p5_e_0 a0 r1 r2 r3 r4 r5 r6) (oc (xHd h0) (oc (xEN h1) (oc (xCk h2) (oc (xGX h3) (oc (xGX h4) (oc (xGI h5) on))))))
theorem xAq {N : Nat} {a0 : List Int} {r : Val × Val × Val × Val} (h : xEg N  a0 = some r) : AbC 5 (xAo a0) (xAe r) :=
 AbsCalls.of_reach fk5 rfl rfl (Nat.le_of_ble_eq_true rfl) (c5_e a0 r h)
noncomputable def I45 : Info := { body := (Tryd.f45.body).getD .skip, nt := 15, results := [.tmp 6], keep := [0, 2, 4, 12], live := [], modes := [(1, [(3, .take, false)])] }
theorem fk45 : FnOk Tryd.prog 45 Tryd.f45 I45 := ⟨Tryd.func45, by kernel_rfl, by kernel_rfl, by kernel_rfl, by kernel_rfl⟩
theorem p45_e_0 (a0 a1 a2 : Int) : rE I45 (xDl a0 a1 a2) [Y] [] = dn (xB4 (decide ((a0 : Int) ≤ a2))) [(decide ((a1 : Int) ≤ a0)) = true] := by kernel_rfl
theorem p45_e_1 (a0 a1 a2 : Int) : rE I45 (xDl a0 a1 a2) [F] [] = dn (xB4 false) [(decide ((a1 : Int) ≤ a0)) = false] := by kernel_rfl
theorem c45_e {N : Nat} : ∀ a0 a1 a2 r, xEZ N a0 a1 a2 = some r → RE Tryd.f45 I45 (xDl a0 a1 a2) (xB4 r) := fun a0 a1 a2 r h =>
 cE h (fun h0 h => dE h fk45 (p45_e_0 a0 a1 a2) (oc h0 on)) fun h0 h =>
 dE h fk45 (p45_e_1 a0 a1 a2) (oc h0 on)
theorem xFj {N : Nat} {a0 : Int} {a1 : Int} {a2 : Int} {r : Bool} (h : xEZ N  a0 a1 a2 = some r) : AbC 45 (xDl a0 a1 a2) (xB4 r) :=
 AbsCalls.of_reach fk45 rfl rfl (Nat.le_of_ble_eq_true rfl) (c45_e a0 a1 a2 r h)
noncomputable def I23 : Info := { body := (Tryd.f23.body).getD .skip, nt := 5, results := [.tmp 2], keep := [0, 4], live := [], modes := [] }
theorem fk23 : FnOk Tryd.prog 23 Tryd.f23 I23 := ⟨Tryd.func23, by kernel_rfl, by kernel_rfl, by kernel_rfl, by kernel_rfl⟩
theorem p23_e_0 (a0 : Int) (r1 : Bool) : rE I23 (xCg a0) [] [xB4 r1] = dn (xBp r1) [AbC 45 (xDl a0 (-1000000000) 1000000000) (xB4 r1)] := by kernel_rfl
theorem c23_e {N : Nat} : ∀ a0 r, xDG N a0 = some r → RE Tryd.f23 I23 (xCg a0) (xBp r) := fun a0 r h =>
 bE h fun r1 h0 h => dE h fk23 (p23_e_0 a0 r1) (oc (xFj h0) on)
theorem xC6 {N : Nat} {a0 : Int} {r : Bool} (h : xDG N  a0 = some r) : AbC 23 (xCg a0) (xBp r) :=
 AbsCalls.of_reach fk23 rfl rfl (Nat.le_of_ble_eq_true rfl) (c23_e a0 r h)
noncomputable def I74 : Info := { body := (Tryd.f74.body).getD .skip, nt := 29, results := [.tmp 2], keep := [0, 4, 6, 14, 50], live := [(2, [0, 6])], modes := [(4, [(4, .take, false), (10, .take, false)])] }
theorem fk74 : FnOk Tryd.prog 74 Tryd.f74 I74 := ⟨Tryd.func74, by kernel_rfl, by kernel_rfl, by kernel_rfl, by kernel_rfl⟩
def S74_2 (x0 : Str) (x3 : Int) : St := [(0, .v false [.str x0]), (6, .v false [.int .i64 x3])]
theorem p74_2_0 (x0 : Str) (x3 : Int) : rS 2 I74 (S74_2 x0 x3) [Y, Y, Y, Y] [] = dn (xCa false) [(decide ((x3 : Int) < (Ln x0 : Int))) = true, (0 : Int) ≤ x3 ∧ x3 < (Ln x0), (decide ((((gD x0 (tN x3) 0).toNat : Int) : Int) < 32)) = true, true = true, true = true] := by kernel_rfl
theorem p74_2_1 (x0 : Str) (x3 : Int) : rS 2 I74 (S74_2 x0 x3) [Y, F, Y, Y] [] = dn (xCa false) [(decide ((x3 : Int) < (Ln x0 : Int))) = true, (0 : Int) ≤ x3 ∧ x3 < (Ln x0), (decide ((((gD x0 (tN x3) 0).toNat : Int) : Int) < 32)) = false, (0 : Int) ≤ x3 ∧ x3 < (Ln x0), (decide ((((gD x0 (tN x3) 0).toNat : Int) : Int) > 126)) = true, true = true] := by kernel_rfl
theorem p74_2_2 (x0 : Str) (x3 : Int) : rS 2 I74 (S74_2 x0 x3) [Y, F, F, Y] [] = dn (xCa false) [(decide ((x3 : Int) < (Ln x0 : Int))) = true, (0 : Int) ≤ x3 ∧ x3 < (Ln x0), (decide ((((gD x0 (tN x3) 0).toNat : Int) : Int) < 32)) = false, (0 : Int) ≤ x3 ∧ x3 < (Ln x0), (decide ((((gD x0 (tN x3) 0).toNat : Int) : Int) > 126)) = false, (0 : Int) ≤ x3 ∧ x3 < (Ln x0), ((((gD x0 (tN x3) 0).toNat : Int) : Int) == 34) = true] := by kernel_rfl
theorem p74_2_3 (x0 : Str) (x3 : Int) : rS 2 I74 (S74_2 x0 x3) [Y, F, F, F] [] = st 2 I74 (S74_2 x0 (W (x3 + 1))) [(decide ((x3 : Int) < (Ln x0 : Int))) = true, (0 : Int) ≤ x3 ∧ x3 < (Ln x0), (decide ((((gD x0 (tN x3) 0).toNat : Int) : Int) < 32)) = false, (0 : Int) ≤ x3 ∧ x3 < (Ln x0), (decide ((((gD x0 (tN x3) 0).toNat : Int) : Int) > 126)) = false, (0 : Int) ≤ x3 ∧ x3 < (Ln x0), ((((gD x0 (tN x3) 0).toNat : Int) : Int) == 34) = false] := by kernel_rfl
theorem p74_2_4 (x0 : Str) (x3 : Int) : rS 2 I74 (S74_2 x0 x3) [F] [] = dn (xCa (decide (((Ln x0 : Int) : Int) ≤ 20))) [(decide ((x3 : Int) < (Ln x0 : Int))) = false] := by kernel_rfl
theorem p74_e_5 (a0 : Str) : rE I74 (xEA a0) [] [] = st 2 I74 (S74_2 a0 0) [] := by kernel_rfl
theorem c74_2 {N : Nat} : ∀ n x0 x3 r, xDW N n x0 x3 = some r → RS Tryd.f74 I74 2 (S74_2 x0 x3) (xCa r) := by
 intro n
 induction n with
 | zero => exact fun _ _ _ h => nE h
 | succ n ih =>
  exact fun x0 x3 r h =>
   cE h (fun h0 h => iE h fun h1 h => cE h (fun h2 h => dS h fk74 (p74_2_0 x0 x3) (oc h0 (oc h1 (oc h2 (oc rfl (oc rfl on)))))) fun h2 h =>
   cE h (fun h4 h => dS h fk74 (p74_2_1 x0 x3) (oc h0 (oc h1 (oc h2 (oc h1 (oc h4 (oc rfl on))))))) fun h4 h =>
   cE h (fun h6 h => dS h fk74 (p74_2_2 x0 x3) (oc h0 (oc h1 (oc h2 (oc h1 (oc h4 (oc h1 (oc h6 on)))))))) fun h6 h =>
   tS fk74 (p74_2_3 x0 x3) (oc h0 (oc h1 (oc h2 (oc h1 (oc h4 (oc h1 (oc h6 on))))))) (ih _ _ _ h)) fun h0 h =>
   dS h fk74 (p74_2_4 x0 x3) (oc h0 on)
theorem c74_e {N : Nat} : ∀ a0 r, xFr N a0 = some r → RE Tryd.f74 I74 (xEA a0) (xCa r) := fun a0 r h =>
 tE fk74 (p74_e_5 a0) on (c74_2 _ _ _ _ h)
theorem xHN {N : Nat} {a0 : Str} {r : Bool} (h : xFr N  a0 = some r) : AbC 74 (xEA a0) (xCa r) :=
 AbsCalls.of_reach fk74 rfl rfl (Nat.le_of_ble_eq_true rfl) (c74_e a0 r h)
noncomputable def I41 : Info := { body := (Tryd.f41.body).getD .skip, nt := 42, results := [.tmp 2], keep := [0, 4, 6, 8, 16, 76], live := [(2, [0, 6])], modes := [(4, [(4, .take, false)]), (5, [(0, .take, false), (2, .take, false), (5, .take, false), (11, .take, false)])] }
theorem fk41 : FnOk Tryd.prog 41 Tryd.f41 I41 := ⟨Tryd.func41, by kernel_rfl, by kernel_rfl, by kernel_rfl, by kernel_rfl⟩
def xHL (x0 : Str) (x3 : Int) : St := [(0, .v false [.str x0]), (6, .v false [.int .i64 x3])]
theorem p41_2_0 (x0 : Str) (x3 : Int) : rS 2 I41 (xHL x0 x3) [Y, Y, Y, Y, Y, Y] [] = dn (xB3 false) [(decide ((x3 : Int) < (Ln x0 : Int))) = true, (0 : Int) ≤ x3 ∧ x3 < (Ln x0), (decide ((((gD x0 (tN x3) 0).toNat : Int) : Int) ≥ 97)) = true, (0 : Int) ≤ x3 ∧ x3 < (Ln x0), (!(decide ((((gD x0 (tN x3) 0).toNat : Int) : Int) ≤ 122))) = true, ((x3 : Int) == 0) = true, true = true, true = true] := by kernel_rfl
theorem p41_2_1 (x0 : Str) (x3 : Int) : rS 2 I41 (xHL x0 x3) [Y, Y, Y, F, Y, Y] [] = dn (xB3 false) [(decide ((x3 : Int) < (Ln x0 : Int))) = true, (0 : Int) ≤ x3 ∧ x3 < (Ln x0), (decide ((((gD x0 (tN x3) 0).toNat : Int) : Int) ≥ 97)) = true, (0 : Int) ≤ x3 ∧ x3 < (Ln x0), (!(decide ((((gD x0 (tN x3) 0).toNat : Int) : Int) ≤ 122))) = true, ((x3 : Int) == 0) = false, (0 : Int) ≤ x3 ∧ x3 < (Ln x0), (decide ((((gD x0 (tN x3) 0).toNat : Int) : Int) < 48)) = true, true = true] := by kernel_rfl
theorem p41_2_2 (x0 : Str) (x3 : Int) : rS 2 I41 (xHL x0 x3) [Y, Y, Y, F, F, Y] [] = dn (xB3 false) [(decide ((x3 : Int) < (Ln x0 : Int))) = true, (0 : Int) ≤ x3 ∧ x3 < (Ln x0), (decide ((((gD x0 (tN x3) 0).toNat : Int) : Int) ≥ 97)) = true, (0 : Int) ≤ x3 ∧ x3 < (Ln x0), (!(decide ((((gD x0 (tN x3) 0).toNat : Int) : Int) ≤ 122))) = true, ((x3 : Int) == 0) = false, (0 : Int) ≤ x3 ∧ x3 < (Ln x0), (decide ((((gD x0 (tN x3) 0).toNat : Int) : Int) < 48)) = false, (0 : Int) ≤ x3 ∧ x3 < (Ln x0), (decide ((((gD x0 (tN x3) 0).toNat : Int) : Int) > 57)) = true] := by kernel_rfl
theorem p41_2_3 (x0 : Str) (x3 : Int) : rS 2 I41 (xHL x0 x3) [Y, Y, Y, F, F, F] [] = st 2 I41 (xHL x0 (W (x3 + 1))) [(decide ((x3 : Int) < (Ln x0 : Int))) = true, (0 : Int) ≤ x3 ∧ x3 < (Ln x0), (decide ((((gD x0 (tN x3) 0).toNat : Int) : Int) ≥ 97)) = true, (0 : Int) ≤ x3 ∧ x3 < (Ln x0), (!(decide ((((gD x0 (tN x3) 0).toNat : Int) : Int) ≤ 122))) = true, ((x3 : Int) == 0) = false, (0 : Int) ≤ x3 ∧ x3 < (Ln x0), (decide ((((gD x0 (tN x3) 0).toNat : Int) : Int) < 48)) = false, (0 : Int) ≤ x3 ∧ x3 < (Ln x0), (decide ((((gD x0 (tN x3) 0).toNat : Int) : Int) > 57)) = false] := by kernel_rfl
theorem p41_2_4 (x0 : Str) (x3 : Int) : rS 2 I41 (xHL x0 x3) [Y, Y, F, F] [] = st 2 I41 (xHL x0 (W (x3 + 1))) [(decide ((x3 : Int) < (Ln x0 : Int))) = true, (0 : Int) ≤ x3 ∧ x3 < (Ln x0), (decide ((((gD x0 (tN x3) 0).toNat : Int) : Int) ≥ 97)) = true, (0 : Int) ≤ x3 ∧ x3 < (Ln x0), (!(decide ((((gD x0 (tN x3) 0).toNat : Int) : Int) ≤ 122))) = false, false = false] := by kernel_rfl
theorem p41_2_5 (x0 : Str) (x3 : Int) : rS 2 I41 (xHL x0 x3) [Y, F, Y, Y, Y, Y] [] = dn (xB3 false) [(decide ((x3 : Int) < (Ln x0 : Int))) = true, (0 : Int) ≤ x3 ∧ x3 < (Ln x0), (decide ((((gD x0 (tN x3) 0).toNat : Int) : Int) ≥ 97)) = false, (!false) = true, ((x3 : Int) == 0) = true, true = true, true = true] := by kernel_rfl
theorem p41_2_6 (x0 : Str) (x3 : Int) : rS 2 I41 (xHL x0 x3) [Y, F, Y, F, Y, Y] [] = dn (xB3 false) [(decide ((x3 : Int) < (Ln x0 : Int))) = true, (0 : Int) ≤ x3 ∧ x3 < (Ln x0), (decide ((((gD x0 (tN x3) 0).toNat : Int) : Int) ≥ 97)) = false, (!false) = true, ((x3 : Int) == 0) = false, (0 : Int) ≤ x3 ∧ x3 < (Ln x0), (decide ((((gD x0 (tN x3) 0).toNat : Int) : Int) < 48)) = true, true = true] := by kernel_rfl
theorem p41_2_7 (x0 : Str) (x3 : Int) : rS 2 I41 (xHL x0 x3) [Y, F, Y, F, F, Y] [] = dn (xB3 false) [(decide ((x3 : Int) < (Ln x0 : Int))) = true, (0 : Int) ≤ x3 ∧ x3 < (Ln x0), (decide ((((gD x0 (tN x3) 0).toNat : Int) : Int) ≥ 97)) = false, (!false) = true, ((x3 : Int) == 0) = false, (0 : Int) ≤ x3 ∧ x3 < (Ln x0), (decide ((((gD x0 (tN x3) 0).toNat : Int) : Int) < 48)) = false, (0 : Int) ≤ x3 ∧ x3 < (Ln x0), (decide ((((gD x0 (tN x3) 0).toNat : Int) : Int) > 57)) = true] := by kernel_rfl
theorem p41_2_8 (x0 : Str) (x3 : Int) : rS 2 I41 (xHL x0 x3) [Y, F, Y, F, F, F] [] = st 2 I41 (xHL x0 (W (x3 + 1))) [(decide ((x3 : Int) < (Ln x0 : Int))) = true, (0 : Int) ≤ x3 ∧ x3 < (Ln x0), (decide ((((gD x0 (tN x3) 0).toNat : Int) : Int) ≥ 97)) = false, (!false) = true, ((x3 : Int) == 0) = false, (0 : Int) ≤ x3 ∧ x3 < (Ln x0), (decide ((((gD x0 (tN x3) 0).toNat : Int) : Int) < 48)) = false, (0 : Int) ≤ x3 ∧ x3 < (Ln x0), (decide ((((gD x0 (tN x3) 0).toNat : Int) : Int) > 57)) = false] := by kernel_rfl
theorem p41_2_9 (x0 : Str) (x3 : Int) (r1 : Bool) : rS 2 I41 (xHL x0 x3) [F] [xB4 r1] = dn (xB3 r1) [(decide ((x3 : Int) < (Ln x0 : Int))) = false, AbC 45 (xDl (Ln x0 : Int) 1 8) (xB4 r1)] := by kernel_rfl
theorem p41_e_10 (a0 : Str) : rE I41 (xFi a0) [] [] = st 2 I41 (xHL a0 0) [] := by kernel_rfl
theorem c41_2 {N : Nat} : ∀ n x0 x3 r, xDk N n x0 x3 = some r → RS Tryd.f41 I41 2 (xHL x0 x3) (xB3 r) := by
 intro n
 induction n with
 | zero => exact fun _ _ _ h => nE h
 | succ n ih =>
  exact fun x0 x3 r h =>
   cE h (fun h0 h => iE h fun h1 h => cE h (fun h2 h => cE h (fun h4 h => cE h (fun h5 h => dS h fk41 (p41_2_0 x0 x3) (oc h0 (oc h1 (oc h2 (oc h1 (oc h4 (oc h5 (oc rfl (oc rfl on))))))))) fun h5 h =>
   cE h (fun h7 h => dS h fk41 (p41_2_1 x0 x3) (oc h0 (oc h1 (oc h2 (oc h1 (oc h4 (oc h5 (oc h1 (oc h7 (oc rfl on)))))))))) fun h7 h =>
   cE h (fun h9 h => dS h fk41 (p41_2_2 x0 x3) (oc h0 (oc h1 (oc h2 (oc h1 (oc h4 (oc h5 (oc h1 (oc h7 (oc h1 (oc h9 on))))))))))) fun h9 h =>
   tS fk41 (p41_2_3 x0 x3) (oc h0 (oc h1 (oc h2 (oc h1 (oc h4 (oc h5 (oc h1 (oc h7 (oc h1 (oc h9 on)))))))))) (ih _ _ _ h)) fun h4 h =>
   tS fk41 (p41_2_4 x0 x3) (oc h0 (oc h1 (oc h2 (oc h1 (oc h4 (oc rfl on)))))) (ih _ _ _ h)) fun h2 h =>
   cE h (fun h4 h => dS h fk41 (p41_2_5 x0 x3) (oc h0 (oc h1 (oc h2 (oc rfl (oc h4 (oc rfl (oc rfl on)))))))) fun h4 h =>
   cE h (fun h6 h => dS h fk41 (p41_2_6 x0 x3) (oc h0 (oc h1 (oc h2 (oc rfl (oc h4 (oc h1 (oc h6 (oc rfl on))))))))) fun h6 h =>
   cE h (fun h8 h => dS h fk41 (p41_2_7 x0 x3) (oc h0 (oc h1 (oc h2 (oc rfl (oc h4 (oc h1 (oc h6 (oc h1 (oc h8 on)))))))))) fun h8 h =>
   tS fk41 (p41_2_8 x0 x3) (oc h0 (oc h1 (oc h2 (oc rfl (oc h4 (oc h1 (oc h6 (oc h1 (oc h8 on))))))))) (ih _ _ _ h)) fun h0 h =>
   bE h fun r1 h1 h => dS h fk41 (p41_2_9 x0 x3 r1) (oc h0 (oc (xFj h1) on))
theorem c41_e {N : Nat} : ∀ a0 r, xHa N a0 = some r → RE Tryd.f41 I41 (xFi a0) (xB3 r) := fun a0 r h =>
 tE fk41 (p41_e_10 a0) on (c41_2 _ _ _ _ h)
theorem xHJ {N : Nat} {a0 : Str} {r : Bool} (h : xHa N  a0 = some r) : AbC 41 (xFi a0) (xB3 r) :=
 AbsCalls.of_reach fk41 rfl rfl (Nat.le_of_ble_eq_true rfl) (c41_e a0 r h)
noncomputable def I63 : Info := { body := (Tryd.f63.body).getD .skip, nt := 26, results := [.tmp 2], keep := [0, 4, 6, 8, 12, 24, 40, 48], live := [], modes := [] }
theorem fk63 : FnOk Tryd.prog 63 Tryd.f63 I63 := ⟨Tryd.func63, by kernel_rfl, by kernel_rfl, by kernel_rfl, by kernel_rfl⟩
theorem p63_e_0 (a0 : Str) : rE I63 (xAY a0) [Y] [] = dn (xAW 0) [((a0 : Str) == [99, 108, 111, 99, 107]) = true] := by kernel_rfl
theorem p63_e_1 (a0 : Str) : rE I63 (xAY a0) [F, Y, Y] [] = dn (xAW 1) [((a0 : Str) == [99, 108, 111, 99, 107]) = false, ((a0 : Str) == [108, 101, 110]) = true, ((a0 : Str) == [108, 101, 110]) = true] := by kernel_rfl
theorem p63_e_2 (a0 : Str) : rE I63 (xAY a0) [F, F, Y, Y] [] = dn (xAW 1) [((a0 : Str) == [99, 108, 111, 99, 107]) = false, ((a0 : Str) == [108, 101, 110]) = false, ((a0 : Str) == [115, 117, 109]) = true, ((a0 : Str) == [115, 117, 109]) = true] := by kernel_rfl
theorem p63_e_3 (a0 : Str) : rE I63 (xAY a0) [F, F, F, Y, Y] [] = dn (xAW 1) [((a0 : Str) == [99, 108, 111, 99, 107]) = false, ((a0 : Str) == [108, 101, 110]) = false, ((a0 : Str) == [115, 117, 109]) = false, ((a0 : Str) == [114, 111, 119, 115]) = true, ((a0 : Str) == [114, 111, 119, 115]) = true] := by kernel_rfl
theorem p63_e_4 (a0 : Str) : rE I63 (xAY a0) [F, F, F, F, Y, Y] [] = dn (xAW 1) [((a0 : Str) == [99, 108, 111, 99, 107]) = false, ((a0 : Str) == [108, 101, 110]) = false, ((a0 : Str) == [115, 117, 109]) = false, ((a0 : Str) == [114, 111, 119, 115]) = false, ((a0 : Str) == [99, 104, 97, 110, 99, 101]) = true, ((a0 : Str) == [99, 104, 97, 110, 99, 101]) = true] := by kernel_rfl
theorem p63_e_5 (a0 : Str) : rE I63 (xAY a0) [F, F, F, F, F, Y] [] = dn (xAW 1) [((a0 : Str) == [99, 108, 111, 99, 107]) = false, ((a0 : Str) == [108, 101, 110]) = false, ((a0 : Str) == [115, 117, 109]) = false, ((a0 : Str) == [114, 111, 119, 115]) = false, ((a0 : Str) == [99, 104, 97, 110, 99, 101]) = false, ((a0 : Str) == [102, 105, 108, 101]) = true] := by kernel_rfl
theorem p63_e_6 (a0 : Str) : rE I63 (xAY a0) [F, F, F, F, F, F, Y, Y] [] = dn (xAW 2) [((a0 : Str) == [99, 108, 111, 99, 107]) = false, ((a0 : Str) == [108, 101, 110]) = false, ((a0 : Str) == [115, 117, 109]) = false, ((a0 : Str) == [114, 111, 119, 115]) = false, ((a0 : Str) == [99, 104, 97, 110, 99, 101]) = false, ((a0 : Str) == [102, 105, 108, 101]) = false, ((a0 : Str) == [116, 97, 107, 101]) = true, ((a0 : Str) == [116, 97, 107, 101]) = true] := by kernel_rfl
theorem p63_e_7 (a0 : Str) : rE I63 (xAY a0) [F, F, F, F, F, F, F, Y, Y] [] = dn (xAW 2) [((a0 : Str) == [99, 108, 111, 99, 107]) = false, ((a0 : Str) == [108, 101, 110]) = false, ((a0 : Str) == [115, 117, 109]) = false, ((a0 : Str) == [114, 111, 119, 115]) = false, ((a0 : Str) == [99, 104, 97, 110, 99, 101]) = false, ((a0 : Str) == [102, 105, 108, 101]) = false, ((a0 : Str) == [116, 97, 107, 101]) = false, ((a0 : Str) == [115, 107, 105, 112]) = true, ((a0 : Str) == [115, 107, 105, 112]) = true] := by kernel_rfl
theorem p63_e_8 (a0 : Str) : rE I63 (xAY a0) [F, F, F, F, F, F, F, F, Y, Y] [] = dn (xAW 2) [((a0 : Str) == [99, 108, 111, 99, 107]) = false, ((a0 : Str) == [108, 101, 110]) = false, ((a0 : Str) == [115, 117, 109]) = false, ((a0 : Str) == [114, 111, 119, 115]) = false, ((a0 : Str) == [99, 104, 97, 110, 99, 101]) = false, ((a0 : Str) == [102, 105, 108, 101]) = false, ((a0 : Str) == [116, 97, 107, 101]) = false, ((a0 : Str) == [115, 107, 105, 112]) = false, ((a0 : Str) == [114, 97, 110, 103, 101]) = true, ((a0 : Str) == [114, 97, 110, 103, 101]) = true] := by kernel_rfl
theorem p63_e_9 (a0 : Str) : rE I63 (xAY a0) [F, F, F, F, F, F, F, F, F, Y, Y] [] = dn (xAW 2) [((a0 : Str) == [99, 108, 111, 99, 107]) = false, ((a0 : Str) == [108, 101, 110]) = false, ((a0 : Str) == [115, 117, 109]) = false, ((a0 : Str) == [114, 111, 119, 115]) = false, ((a0 : Str) == [99, 104, 97, 110, 99, 101]) = false, ((a0 : Str) == [102, 105, 108, 101]) = false, ((a0 : Str) == [116, 97, 107, 101]) = false, ((a0 : Str) == [115, 107, 105, 112]) = false, ((a0 : Str) == [114, 97, 110, 103, 101]) = false, ((a0 : Str) == [110, 116, 104]) = true, ((a0 : Str) == [110, 116, 104]) = true] := by kernel_rfl
theorem p63_e_10 (a0 : Str) : rE I63 (xAY a0) [F, F, F, F, F, F, F, F, F, F, Y, Y] [] = dn (xAW 2) [((a0 : Str) == [99, 108, 111, 99, 107]) = false, ((a0 : Str) == [108, 101, 110]) = false, ((a0 : Str) == [115, 117, 109]) = false, ((a0 : Str) == [114, 111, 119, 115]) = false, ((a0 : Str) == [99, 104, 97, 110, 99, 101]) = false, ((a0 : Str) == [102, 105, 108, 101]) = false, ((a0 : Str) == [116, 97, 107, 101]) = false, ((a0 : Str) == [115, 107, 105, 112]) = false, ((a0 : Str) == [114, 97, 110, 103, 101]) = false, ((a0 : Str) == [110, 116, 104]) = false, ((a0 : Str) == [107, 101, 101, 112]) = true, ((a0 : Str) == [107, 101, 101, 112]) = true] := by kernel_rfl
theorem p63_e_11 (a0 : Str) : rE I63 (xAY a0) [F, F, F, F, F, F, F, F, F, F, F, Y, Y] [] = dn (xAW 2) [((a0 : Str) == [99, 108, 111, 99, 107]) = false, ((a0 : Str) == [108, 101, 110]) = false, ((a0 : Str) == [115, 117, 109]) = false, ((a0 : Str) == [114, 111, 119, 115]) = false, ((a0 : Str) == [99, 104, 97, 110, 99, 101]) = false, ((a0 : Str) == [102, 105, 108, 101]) = false, ((a0 : Str) == [116, 97, 107, 101]) = false, ((a0 : Str) == [115, 107, 105, 112]) = false, ((a0 : Str) == [114, 97, 110, 103, 101]) = false, ((a0 : Str) == [110, 116, 104]) = false, ((a0 : Str) == [107, 101, 101, 112]) = false, ((a0 : Str) == [99, 111, 108, 117, 109, 110]) = true, ((a0 : Str) == [99, 111, 108, 117, 109, 110]) = true] := by kernel_rfl
theorem p63_e_12 (a0 : Str) : rE I63 (xAY a0) [F, F, F, F, F, F, F, F, F, F, F, F, Y] [] = dn (xAW 2) [((a0 : Str) == [99, 108, 111, 99, 107]) = false, ((a0 : Str) == [108, 101, 110]) = false, ((a0 : Str) == [115, 117, 109]) = false, ((a0 : Str) == [114, 111, 119, 115]) = false, ((a0 : Str) == [99, 104, 97, 110, 99, 101]) = false, ((a0 : Str) == [102, 105, 108, 101]) = false, ((a0 : Str) == [116, 97, 107, 101]) = false, ((a0 : Str) == [115, 107, 105, 112]) = false, ((a0 : Str) == [114, 97, 110, 103, 101]) = false, ((a0 : Str) == [110, 116, 104]) = false, ((a0 : Str) == [107, 101, 101, 112]) = false, ((a0 : Str) == [99, 111, 108, 117, 109, 110]) = false, ((a0 : Str) == [116, 97, 98, 108, 101]) = true] := by kernel_rfl
theorem p63_e_13 (a0 : Str) : rE I63 (xAY a0) [F, F, F, F, F, F, F, F, F, F, F, F, F, Y, Y] [] = dn (xAW 3) [((a0 : Str) == [99, 108, 111, 99, 107]) = false, ((a0 : Str) == [108, 101, 110]) = false, ((a0 : Str) == [115, 117, 109]) = false, ((a0 : Str) == [114, 111, 119, 115]) = false, ((a0 : Str) == [99, 104, 97, 110, 99, 101]) = false, ((a0 : Str) == [102, 105, 108, 101]) = false, ((a0 : Str) == [116, 97, 107, 101]) = false, ((a0 : Str) == [115, 107, 105, 112]) = false, ((a0 : Str) == [114, 97, 110, 103, 101]) = false, ((a0 : Str) == [110, 116, 104]) = false, ((a0 : Str) == [107, 101, 101, 112]) = false, ((a0 : Str) == [99, 111, 108, 117, 109, 110]) = false, ((a0 : Str) == [116, 97, 98, 108, 101]) = false, ((a0 : Str) == [119, 104, 101, 114, 101]) = true, ((a0 : Str) == [119, 104, 101, 114, 101]) = true] := by kernel_rfl
theorem p63_e_14 (a0 : Str) : rE I63 (xAY a0) [F, F, F, F, F, F, F, F, F, F, F, F, F, F, Y, Y] [] = dn (xAW 3) [((a0 : Str) == [99, 108, 111, 99, 107]) = false, ((a0 : Str) == [108, 101, 110]) = false, ((a0 : Str) == [115, 117, 109]) = false, ((a0 : Str) == [114, 111, 119, 115]) = false, ((a0 : Str) == [99, 104, 97, 110, 99, 101]) = false, ((a0 : Str) == [102, 105, 108, 101]) = false, ((a0 : Str) == [116, 97, 107, 101]) = false, ((a0 : Str) == [115, 107, 105, 112]) = false, ((a0 : Str) == [114, 97, 110, 103, 101]) = false, ((a0 : Str) == [110, 116, 104]) = false, ((a0 : Str) == [107, 101, 101, 112]) = false, ((a0 : Str) == [99, 111, 108, 117, 109, 110]) = false, ((a0 : Str) == [116, 97, 98, 108, 101]) = false, ((a0 : Str) == [119, 104, 101, 114, 101]) = false, ((a0 : Str) == [103, 114, 111, 117, 112]) = true, ((a0 : Str) == [103, 114, 111, 117, 112]) = true] := by kernel_rfl
theorem p63_e_15 (a0 : Str) : rE I63 (xAY a0) [F, F, F, F, F, F, F, F, F, F, F, F, F, F, F, Y] [] = dn (xAW 3) [((a0 : Str) == [99, 108, 111, 99, 107]) = false, ((a0 : Str) == [108, 101, 110]) = false, ((a0 : Str) == [115, 117, 109]) = false, ((a0 : Str) == [114, 111, 119, 115]) = false, ((a0 : Str) == [99, 104, 97, 110, 99, 101]) = false, ((a0 : Str) == [102, 105, 108, 101]) = false, ((a0 : Str) == [116, 97, 107, 101]) = false, ((a0 : Str) == [115, 107, 105, 112]) = false, ((a0 : Str) == [114, 97, 110, 103, 101]) = false, ((a0 : Str) == [110, 116, 104]) = false, ((a0 : Str) == [107, 101, 101, 112]) = false, ((a0 : Str) == [99, 111, 108, 117, 109, 110]) = false, ((a0 : Str) == [116, 97, 98, 108, 101]) = false, ((a0 : Str) == [119, 104, 101, 114, 101]) = false, ((a0 : Str) == [103, 114, 111, 117, 112]) = false, ((a0 : Str) == [106, 111, 105, 110]) = true] := by kernel_rfl
theorem p63_e_16 (a0 : Str) : rE I63 (xAY a0) [F, F, F, F, F, F, F, F, F, F, F, F, F, F, F, F, Y] [] = dn (xAW 4) [((a0 : Str) == [99, 108, 111, 99, 107]) = false, ((a0 : Str) == [108, 101, 110]) = false, ((a0 : Str) == [115, 117, 109]) = false, ((a0 : Str) == [114, 111, 119, 115]) = false, ((a0 : Str) == [99, 104, 97, 110, 99, 101]) = false, ((a0 : Str) == [102, 105, 108, 101]) = false, ((a0 : Str) == [116, 97, 107, 101]) = false, ((a0 : Str) == [115, 107, 105, 112]) = false, ((a0 : Str) == [114, 97, 110, 103, 101]) = false, ((a0 : Str) == [110, 116, 104]) = false, ((a0 : Str) == [107, 101, 101, 112]) = false, ((a0 : Str) == [99, 111, 108, 117, 109, 110]) = false, ((a0 : Str) == [116, 97, 98, 108, 101]) = false, ((a0 : Str) == [119, 104, 101, 114, 101]) = false, ((a0 : Str) == [103, 114, 111, 117, 112]) = false, ((a0 : Str) == [106, 111, 105, 110]) = false, ((a0 : Str) == [97, 100, 100]) = true] := by kernel_rfl
theorem p63_e_17 (a0 : Str) : rE I63 (xAY a0) [F, F, F, F, F, F, F, F, F, F, F, F, F, F, F, F, F] [] = dn (xAW (-1)) [((a0 : Str) == [99, 108, 111, 99, 107]) = false, ((a0 : Str) == [108, 101, 110]) = false, ((a0 : Str) == [115, 117, 109]) = false, ((a0 : Str) == [114, 111, 119, 115]) = false, ((a0 : Str) == [99, 104, 97, 110, 99, 101]) = false, ((a0 : Str) == [102, 105, 108, 101]) = false, ((a0 : Str) == [116, 97, 107, 101]) = false, ((a0 : Str) == [115, 107, 105, 112]) = false, ((a0 : Str) == [114, 97, 110, 103, 101]) = false, ((a0 : Str) == [110, 116, 104]) = false, ((a0 : Str) == [107, 101, 101, 112]) = false, ((a0 : Str) == [99, 111, 108, 117, 109, 110]) = false, ((a0 : Str) == [116, 97, 98, 108, 101]) = false, ((a0 : Str) == [119, 104, 101, 114, 101]) = false, ((a0 : Str) == [103, 114, 111, 117, 112]) = false, ((a0 : Str) == [106, 111, 105, 110]) = false, ((a0 : Str) == [97, 100, 100]) = false] := by kernel_rfl
theorem c63_e {N : Nat} : ∀ a0 r, xET N a0 = some r → RE Tryd.f63 I63 (xAY a0) (xAW r) := fun a0 r h =>
 cE h (fun h0 h => dE h fk63 (p63_e_0 a0) (oc h0 on)) fun h0 h =>
 cE h (fun h1 h => dE h fk63 (p63_e_1 a0) (oc h0 (oc h1 (oc h1 on)))) fun h1 h =>
 cE h (fun h2 h => dE h fk63 (p63_e_2 a0) (oc h0 (oc h1 (oc h2 (oc h2 on))))) fun h2 h =>
 cE h (fun h3 h => dE h fk63 (p63_e_3 a0) (oc h0 (oc h1 (oc h2 (oc h3 (oc h3 on)))))) fun h3 h =>
 cE h (fun h4 h => dE h fk63 (p63_e_4 a0) (oc h0 (oc h1 (oc h2 (oc h3 (oc h4 (oc h4 on))))))) fun h4 h =>
 cE h (fun h5 h => dE h fk63 (p63_e_5 a0) (oc h0 (oc h1 (oc h2 (oc h3 (oc h4 (oc h5 on))))))) fun h5 h =>
 cE h (fun h6 h => dE h fk63 (p63_e_6 a0) (oc h0 (oc h1 (oc h2 (oc h3 (oc h4 (oc h5 (oc h6 (oc h6 on))))))))) fun h6 h =>
 cE h (fun h7 h => dE h fk63 (p63_e_7 a0) (oc h0 (oc h1 (oc h2 (oc h3 (oc h4 (oc h5 (oc h6 (oc h7 (oc h7 on)))))))))) fun h7 h =>
 cE h (fun h8 h => dE h fk63 (p63_e_8 a0) (oc h0 (oc h1 (oc h2 (oc h3 (oc h4 (oc h5 (oc h6 (oc h7 (oc h8 (oc h8 on))))))))))) fun h8 h =>
 cE h (fun h9 h => dE h fk63 (p63_e_9 a0) (oc h0 (oc h1 (oc h2 (oc h3 (oc h4 (oc h5 (oc h6 (oc h7 (oc h8 (oc h9 (oc h9 on)))))))))))) fun h9 h =>
 cE h (fun h10 h => dE h fk63 (p63_e_10 a0) (oc h0 (oc h1 (oc h2 (oc h3 (oc h4 (oc h5 (oc h6 (oc h7 (oc h8 (oc h9 (oc h10 (oc h10 on))))))))))))) fun h10 h =>
 cE h (fun h11 h => dE h fk63 (p63_e_11 a0) (oc h0 (oc h1 (oc h2 (oc h3 (oc h4 (oc h5 (oc h6 (oc h7 (oc h8 (oc h9 (oc h10 (oc h11 (oc h11 on)))))))))))))) fun h11 h =>
 cE h (fun h12 h => dE h fk63 (p63_e_12 a0) (oc h0 (oc h1 (oc h2 (oc h3 (oc h4 (oc h5 (oc h6 (oc h7 (oc h8 (oc h9 (oc h10 (oc h11 (oc h12 on)))))))))))))) fun h12 h =>
 cE h (fun h13 h => dE h fk63 (p63_e_13 a0) (oc h0 (oc h1 (oc h2 (oc h3 (oc h4 (oc h5 (oc h6 (oc h7 (oc h8 (oc h9 (oc h10 (oc h11 (oc h12 (oc h13 (oc h13 on)))))))))))))))) fun h13 h =>
 cE h (fun h14 h => dE h fk63 (p63_e_14 a0) (oc h0 (oc h1 (oc h2 (oc h3 (oc h4 (oc h5 (oc h6 (oc h7 (oc h8 (oc h9 (oc h10 (oc h11 (oc h12 (oc h13 (oc h14 (oc h14 on))))))))))))))))) fun h14 h =>
 cE h (fun h15 h => dE h fk63 (p63_e_15 a0) (oc h0 (oc h1 (oc h2 (oc h3 (oc h4 (oc h5 (oc h6 (oc h7 (oc h8 (oc h9 (oc h10 (oc h11 (oc h12 (oc h13 (oc h14 (oc h15 on))))))))))))))))) fun h15 h =>
 cE h (fun h16 h => dE h fk63 (p63_e_16 a0) (oc h0 (oc h1 (oc h2 (oc h3 (oc h4 (oc h5 (oc h6 (oc h7 (oc h8 (oc h9 (oc h10 (oc h11 (oc h12 (oc h13 (oc h14 (oc h15 (oc h16 on)))))))))))))))))) fun h16 h =>
 dE h fk63 (p63_e_17 a0) (oc h0 (oc h1 (oc h2 (oc h3 (oc h4 (oc h5 (oc h6 (oc h7 (oc h8 (oc h9 (oc h10 (oc h11 (oc h12 (oc h13 (oc h14 (oc h15 (oc h16 on)))))))))))))))))
theorem xHr {N : Nat} {a0 : Str} {r : Int} (h : xET N  a0 = some r) : AbC 63 (xAY a0) (xAW r) :=
 AbsCalls.of_reach fk63 rfl rfl (Nat.le_of_ble_eq_true rfl) (c63_e a0 r h)
noncomputable def I42 : Info := { body := (Tryd.f42.body).getD .skip, nt := 15, results := [.tmp 2], keep := [0, 4, 6, 8], live := [], modes := [] }
theorem fk42 : FnOk Tryd.prog 42 Tryd.f42 I42 := ⟨Tryd.func42, by kernel_rfl, by kernel_rfl, by kernel_rfl, by kernel_rfl⟩
theorem p42_e_0 (a0 : Str) : rE I42 (xBQ a0) [Y, Y] [] = dn (xBG true) [((a0 : Str) == [108, 101, 116]) = true, ((a0 : Str) == [108, 101, 116]) = true] := by kernel_rfl
theorem p42_e_1 (a0 : Str) : rE I42 (xBQ a0) [F, Y, Y] [] = dn (xBG true) [((a0 : Str) == [108, 101, 116]) = false, ((a0 : Str) == [105, 110]) = true, ((a0 : Str) == [105, 110]) = true] := by kernel_rfl
theorem p42_e_2 (a0 : Str) : rE I42 (xBQ a0) [F, F, Y, Y] [] = dn (xBG true) [((a0 : Str) == [108, 101, 116]) = false, ((a0 : Str) == [105, 110]) = false, ((a0 : Str) == [105, 102]) = true, ((a0 : Str) == [105, 102]) = true] := by kernel_rfl
theorem p42_e_3 (a0 : Str) : rE I42 (xBQ a0) [F, F, F, Y, Y] [] = dn (xBG true) [((a0 : Str) == [108, 101, 116]) = false, ((a0 : Str) == [105, 110]) = false, ((a0 : Str) == [105, 102]) = false, ((a0 : Str) == [116, 104, 101, 110]) = true, ((a0 : Str) == [116, 104, 101, 110]) = true] := by kernel_rfl
theorem p42_e_4 (a0 : Str) : rE I42 (xBQ a0) [F, F, F, F, Y, Y] [] = dn (xBG true) [((a0 : Str) == [108, 101, 116]) = false, ((a0 : Str) == [105, 110]) = false, ((a0 : Str) == [105, 102]) = false, ((a0 : Str) == [116, 104, 101, 110]) = false, ((a0 : Str) == [101, 108, 115, 101]) = true, ((a0 : Str) == [101, 108, 115, 101]) = true] := by kernel_rfl
theorem p42_e_5 (a0 : Str) : rE I42 (xBQ a0) [F, F, F, F, F, Y, Y] [] = dn (xBG true) [((a0 : Str) == [108, 101, 116]) = false, ((a0 : Str) == [105, 110]) = false, ((a0 : Str) == [105, 102]) = false, ((a0 : Str) == [116, 104, 101, 110]) = false, ((a0 : Str) == [101, 108, 115, 101]) = false, ((a0 : Str) == [102, 111, 114]) = true, ((a0 : Str) == [102, 111, 114]) = true] := by kernel_rfl
theorem p42_e_6 (a0 : Str) : rE I42 (xBQ a0) [F, F, F, F, F, F, Y] [] = dn (xBG true) [((a0 : Str) == [108, 101, 116]) = false, ((a0 : Str) == [105, 110]) = false, ((a0 : Str) == [105, 102]) = false, ((a0 : Str) == [116, 104, 101, 110]) = false, ((a0 : Str) == [101, 108, 115, 101]) = false, ((a0 : Str) == [102, 111, 114]) = false, ((a0 : Str) == [100, 111]) = true] := by kernel_rfl
theorem p42_e_7 (a0 : Str) (r1 : Int) : rE I42 (xBQ a0) [F, F, F, F, F, F, F] [xAW r1] = dn (xBG (decide ((r1 : Int) ≥ 0))) [((a0 : Str) == [108, 101, 116]) = false, ((a0 : Str) == [105, 110]) = false, ((a0 : Str) == [105, 102]) = false, ((a0 : Str) == [116, 104, 101, 110]) = false, ((a0 : Str) == [101, 108, 115, 101]) = false, ((a0 : Str) == [102, 111, 114]) = false, ((a0 : Str) == [100, 111]) = false, AbC 63 (xAY a0) (xAW r1)] := by kernel_rfl
theorem c42_e {N : Nat} : ∀ a0 r, xEX N a0 = some r → RE Tryd.f42 I42 (xBQ a0) (xBG r) := fun a0 r h =>
 cE h (fun h0 h => dE h fk42 (p42_e_0 a0) (oc h0 (oc h0 on))) fun h0 h =>
 cE h (fun h1 h => dE h fk42 (p42_e_1 a0) (oc h0 (oc h1 (oc h1 on)))) fun h1 h =>
 cE h (fun h2 h => dE h fk42 (p42_e_2 a0) (oc h0 (oc h1 (oc h2 (oc h2 on))))) fun h2 h =>
 cE h (fun h3 h => dE h fk42 (p42_e_3 a0) (oc h0 (oc h1 (oc h2 (oc h3 (oc h3 on)))))) fun h3 h =>
 cE h (fun h4 h => dE h fk42 (p42_e_4 a0) (oc h0 (oc h1 (oc h2 (oc h3 (oc h4 (oc h4 on))))))) fun h4 h =>
 cE h (fun h5 h => dE h fk42 (p42_e_5 a0) (oc h0 (oc h1 (oc h2 (oc h3 (oc h4 (oc h5 (oc h5 on)))))))) fun h5 h =>
 cE h (fun h6 h => dE h fk42 (p42_e_6 a0) (oc h0 (oc h1 (oc h2 (oc h3 (oc h4 (oc h5 (oc h6 on)))))))) fun h6 h =>
 bE h fun r1 h7 h => dE h fk42 (p42_e_7 a0 r1) (oc h0 (oc h1 (oc h2 (oc h3 (oc h4 (oc h5 (oc h6 (oc (xHr h7) on))))))))
theorem impl_IsReserved_ok {N : Nat} {a0 : Str} {r : Bool} (h : xEX N  a0 = some r) : AbC 42 (xBQ a0) (xBG r) :=
 AbsCalls.of_reach fk42 rfl rfl (Nat.le_of_ble_eq_true rfl) (c42_e a0 r h)
noncomputable def I20 : Info := { body := (Tryd.f20.body).getD .skip, nt := 10, results := [.tmp 2], keep := [0, 4], live := [], modes := [(1, [(2, .take, false)])] }
theorem fk20 : FnOk Tryd.prog 20 Tryd.f20 I20 := ⟨Tryd.func20, by kernel_rfl, by kernel_rfl, by kernel_rfl, by kernel_rfl⟩
theorem p20_e_0 (a0 : Str) (r1 r2 : Bool) : rE I20 (xBe a0) [Y] [xB3 r1, xBG r2] = dn (xAL (!r2)) [AbC 41 (xFi a0) (xB3 r1), r1 = true, AbC 42 (xBQ a0) (xBG r2)] := by kernel_rfl
theorem p20_e_1 (a0 : Str) (r1 : Bool) : rE I20 (xBe a0) [F] [xB3 r1] = dn (xAL false) [AbC 41 (xFi a0) (xB3 r1), r1 = false] := by kernel_rfl
theorem c20_e {N : Nat} : ∀ a0 r, xDy N a0 = some r → RE Tryd.f20 I20 (xBe a0) (xAL r) := fun a0 r h =>
 bE h fun r1 h0 h => cE h (fun h1 h => bE h fun r2 h2 h => dE h fk20 (p20_e_0 a0 r1 r2) (oc (xHJ h0) (oc h1 (oc (impl_IsReserved_ok h2) on)))) fun h1 h =>
 dE h fk20 (p20_e_1 a0 r1) (oc (xHJ h0) (oc h1 on))
theorem xBu {N : Nat} {a0 : Str} {r : Bool} (h : xDy N  a0 = some r) : AbC 20 (xBe a0) (xAL r) :=
 AbsCalls.of_reach fk20 rfl rfl (Nat.le_of_ble_eq_true rfl) (c20_e a0 r h)
noncomputable def I40 : Info := { body := (Tryd.f40.body).getD .skip, nt := 19, results := [.tmp 4], keep := [0, 2, 8, 10, 12, 14, 16, 18, 20, 32], live := [(2, [2, 14, 16, 18])], modes := [(4, [(0, .take, false)]), (5, [(0, .take, false)]), (6, [(1, .take, false)])] }
theorem fk40 : FnOk Tryd.prog 40 Tryd.f40 I40 := ⟨Tryd.func40, by kernel_rfl, by kernel_rfl, by kernel_rfl, by kernel_rfl⟩
def S40_2 (x1 : Str) (x7 : List Str) (x8 x9 : Int) : St := [(2, .v false [.str x1]), (14, .v false [.sl .ro .str x7]), (16, .v false [.int .i64 x8]), (18, .v false [.int .i64 x9])]
theorem p40_2_0 (x1 : Str) (x7 : List Str) (x8 x9 : Int) : rS 2 I40 (S40_2 x1 x7 x8 x9) [Y, Y] [] = dn (xCt x9) [(decide ((x9 : Int) < x8)) = true, (0 : Int) ≤ x9 ∧ x9 < (Ln x7), (((gD x7 (tN x9) Ty.str.dflt) : Str) == x1) = true] := by kernel_rfl
theorem p40_2_1 (x1 : Str) (x7 : List Str) (x8 x9 : Int) : rS 2 I40 (S40_2 x1 x7 x8 x9) [Y, F] [] = st 2 I40 (S40_2 x1 x7 x8 (W (x9 + 1))) [(decide ((x9 : Int) < x8)) = true, (0 : Int) ≤ x9 ∧ x9 < (Ln x7), (((gD x7 (tN x9) Ty.str.dflt) : Str) == x1) = false] := by kernel_rfl
theorem p40_2_2 (x1 : Str) (x7 : List Str) (x8 x9 : Int) : rS 2 I40 (S40_2 x1 x7 x8 x9) [F] [] = dn (xCt (-1)) [(decide ((x9 : Int) < x8)) = false] := by kernel_rfl
theorem p40_e_3 (a0 : List Str) (a1 : Str) : rE I40 (xEr a0 a1) [] [] = st 2 I40 (S40_2 a1 a0 (Ln a0 : Int) 0) [] := by kernel_rfl
theorem c40_2 {N : Nat} : ∀ n x1 x7 x8 x9 r, xDV N n x1 x7 x8 x9 = some r → RS Tryd.f40 I40 2 (S40_2 x1 x7 x8 x9) (xCt r) := by
 intro n
 induction n with
 | zero => exact fun _ _ _ _ _ h => nE h
 | succ n ih =>
  exact fun x1 x7 x8 x9 r h =>
   cE h (fun h0 h => iE h fun h1 h => cE h (fun h2 h => dS h fk40 (p40_2_0 x1 x7 x8 x9) (oc h0 (oc h1 (oc h2 on)))) fun h2 h =>
   tS fk40 (p40_2_1 x1 x7 x8 x9) (oc h0 (oc h1 (oc h2 on))) (ih _ _ _ _ _ h)) fun h0 h =>
   dS h fk40 (p40_2_2 x1 x7 x8 x9) (oc h0 on)
theorem c40_e {N : Nat} : ∀ a0 a1 r, xGe N a0 a1 = some r → RE Tryd.f40 I40 (xEr a0 a1) (xCt r) := fun a0 a1 r h =>
 tE fk40 (p40_e_3 a0 a1) on (c40_2 _ _ _ _ _ _ h)
theorem xGw {N : Nat} {a0 : List Str} {a1 : Str} {r : Int} (h : xGe N  a0 a1 = some r) : AbC 40 (xEr a0 a1) (xCt r) :=
 AbsCalls.of_reach fk40 rfl rfl (Nat.le_of_ble_eq_true rfl) (c40_e a0 a1 r h)
noncomputable def I32 : Info := { body := (Tryd.f32.body).getD .skip, nt := 18, results := [.tmp 2], keep := [0, 4, 6, 8, 10, 12, 14, 16, 32], live := [(2, [0, 10, 12, 14])], modes := [(4, [(1, .take, false), (3, .take, false)]), (6, [(1, .take, false)])] }
theorem fk32 : FnOk Tryd.prog 32 Tryd.f32 I32 := ⟨Tryd.func32, by kernel_rfl, by kernel_rfl, by kernel_rfl, by kernel_rfl⟩
def S32_2 (x0 x5 : List Str) (x6 x7 : Int) : St := [(0, .v false [.sl .ro .str x0]), (10, .v false [.sl .ro .str x5]), (12, .v false [.int .i64 x6]), (14, .v false [.int .i64 x7])]
theorem p32_2_0 (x0 x5 : List Str) (x6 x7 r1 : Int) : rS 2 I32 (S32_2 x0 x5 x6 x7) [Y, Y] [xCt r1] = dn (xBJ false) [(decide ((x7 : Int) < x6)) = true, (0 : Int) ≤ x7 ∧ x7 < (Ln x5), AbC 40 (xEr x0 (gD x5 (tN x7) Ty.str.dflt)) (xCt r1), ((r1 : Int) != x7) = true] := by kernel_rfl
theorem p32_2_1 (x0 x5 : List Str) (x6 x7 r1 : Int) : rS 2 I32 (S32_2 x0 x5 x6 x7) [Y, F] [xCt r1] = st 2 I32 (S32_2 x0 x5 x6 (W (x7 + 1))) [(decide ((x7 : Int) < x6)) = true, (0 : Int) ≤ x7 ∧ x7 < (Ln x5), AbC 40 (xEr x0 (gD x5 (tN x7) Ty.str.dflt)) (xCt r1), ((r1 : Int) != x7) = false] := by kernel_rfl
theorem p32_2_2 (x0 x5 : List Str) (x6 x7 : Int) : rS 2 I32 (S32_2 x0 x5 x6 x7) [F] [] = dn (xBJ true) [(decide ((x7 : Int) < x6)) = false] := by kernel_rfl
theorem p32_e_3 (a0 : List Str) : rE I32 (xDc a0) [] [] = st 2 I32 (S32_2 a0 a0 (Ln a0 : Int) 0) [] := by kernel_rfl
theorem c32_2 {N : Nat} : ∀ n x0 x5 x6 x7 r, xCR N n x0 x5 x6 x7 = some r → RS Tryd.f32 I32 2 (S32_2 x0 x5 x6 x7) (xBJ r) := by
 intro n
 induction n with
 | zero => exact fun _ _ _ _ _ h => nE h
 | succ n ih =>
  exact fun x0 x5 x6 x7 r h =>
   cE h (fun h0 h => iE h fun h1 h => bE h fun r1 h2 h => cE h (fun h3 h => dS h fk32 (p32_2_0 x0 x5 x6 x7 r1) (oc h0 (oc h1 (oc (xGw h2) (oc h3 on))))) fun h3 h =>
   tS fk32 (p32_2_1 x0 x5 x6 x7 r1) (oc h0 (oc h1 (oc (xGw h2) (oc h3 on)))) (ih _ _ _ _ _ h)) fun h0 h =>
   dS h fk32 (p32_2_2 x0 x5 x6 x7) (oc h0 on)
theorem c32_e {N : Nat} : ∀ a0 r, xEF N a0 = some r → RE Tryd.f32 I32 (xDc a0) (xBJ r) := fun a0 r h =>
 tE fk32 (p32_e_3 a0) on (c32_2 _ _ _ _ _ _ h)
theorem xFx {N : Nat} {a0 : List Str} {r : Bool} (h : xEF N  a0 = some r) : AbC 32 (xDc a0) (xBJ r) :=
 AbsCalls.of_reach fk32 rfl rfl (Nat.le_of_ble_eq_true rfl) (c32_e a0 r h)
noncomputable def I84 : Info := { body := (Tryd.f84.body).getD .skip, nt := 22, results := [.tmp 2], keep := [0, 4, 8, 10, 12, 14, 16, 26], live := [(2, [0, 10, 12, 14])], modes := [(4, [(0, .take, false)]), (6, [(1, .take, false)]), (7, [(3, .take, false)])] }
theorem fk84 : FnOk Tryd.prog 84 Tryd.f84 I84 := ⟨Tryd.func84, by kernel_rfl, by kernel_rfl, by kernel_rfl, by kernel_rfl⟩
def S84_2 (x0 x5 : List Str) (x6 x7 : Int) : St := [(0, .v false [.sl .ro .str x0]), (10, .v false [.sl .ro .str x5]), (12, .v false [.int .i64 x6]), (14, .v false [.int .i64 x7])]
theorem p84_2_0 (x0 x5 : List Str) (x6 x7 : Int) (r1 : Bool) : rS 2 I84 (S84_2 x0 x5 x6 x7) [Y, Y] [xAL r1] = dn (xBH false) [(decide ((x7 : Int) < x6)) = true, (0 : Int) ≤ x7 ∧ x7 < (Ln x5), AbC 20 (xBe (gD x5 (tN x7) Ty.str.dflt)) (xAL r1), (!r1) = true] := by kernel_rfl
theorem p84_2_1 (x0 x5 : List Str) (x6 x7 : Int) (r1 : Bool) : rS 2 I84 (S84_2 x0 x5 x6 x7) [Y, F] [xAL r1] = st 2 I84 (S84_2 x0 x5 x6 (W (x7 + 1))) [(decide ((x7 : Int) < x6)) = true, (0 : Int) ≤ x7 ∧ x7 < (Ln x5), AbC 20 (xBe (gD x5 (tN x7) Ty.str.dflt)) (xAL r1), (!r1) = false] := by kernel_rfl
theorem p84_2_2 (x0 x5 : List Str) (x6 x7 : Int) (r1 r2 : Bool) : rS 2 I84 (S84_2 x0 x5 x6 x7) [F, Y] [xB4 r1, xBJ r2] = dn (xBH r2) [(decide ((x7 : Int) < x6)) = false, AbC 45 (xDl (Ln x0 : Int) 1 4) (xB4 r1), r1 = true, AbC 32 (xDc x0) (xBJ r2)] := by kernel_rfl
theorem p84_2_3 (x0 x5 : List Str) (x6 x7 : Int) (r1 : Bool) : rS 2 I84 (S84_2 x0 x5 x6 x7) [F, F] [xB4 r1] = dn (xBH false) [(decide ((x7 : Int) < x6)) = false, AbC 45 (xDl (Ln x0 : Int) 1 4) (xB4 r1), r1 = false] := by kernel_rfl
theorem p84_e_4 (a0 : List Str) : rE I84 (xDt a0) [] [] = st 2 I84 (S84_2 a0 a0 (Ln a0 : Int) 0) [] := by kernel_rfl
theorem c84_2 {N : Nat} : ∀ n x0 x5 x6 x7 r, xDu N n x0 x5 x6 x7 = some r → RS Tryd.f84 I84 2 (S84_2 x0 x5 x6 x7) (xBH r) := by
 intro n
 induction n with
 | zero => exact fun _ _ _ _ _ h => nE h
 | succ n ih =>
  exact fun x0 x5 x6 x7 r h =>
   cE h (fun h0 h => iE h fun h1 h => bE h fun r1 h2 h => cE h (fun h3 h => dS h fk84 (p84_2_0 x0 x5 x6 x7 r1) (oc h0 (oc h1 (oc (xBu h2) (oc h3 on))))) fun h3 h =>
   tS fk84 (p84_2_1 x0 x5 x6 x7 r1) (oc h0 (oc h1 (oc (xBu h2) (oc h3 on)))) (ih _ _ _ _ _ h)) fun h0 h =>
   bE h fun r1 h1 h => cE h (fun h2 h => bE h fun r2 h3 h => dS h fk84 (p84_2_2 x0 x5 x6 x7 r1 r2) (oc h0 (oc (xFj h1) (oc h2 (oc (xFx h3) on))))) fun h2 h =>
   dS h fk84 (p84_2_3 x0 x5 x6 x7 r1) (oc h0 (oc (xFj h1) (oc h2 on)))
theorem c84_e {N : Nat} : ∀ a0 r, xFI N a0 = some r → RE Tryd.f84 I84 (xDt a0) (xBH r) := fun a0 r h =>
 tE fk84 (p84_e_4 a0) on (c84_2 _ _ _ _ _ _ h)
theorem xFJ {N : Nat} {a0 : List Str} {r : Bool} (h : xFI N  a0 = some r) : AbC 84 (xDt a0) (xBH r) :=
 AbsCalls.of_reach fk84 rfl rfl (Nat.le_of_ble_eq_true rfl) (c84_e a0 r h)
noncomputable def I85 : Info := { body := (Tryd.f85.body).getD .skip, nt := 24, results := [.tmp 4], keep := [0, 2, 4, 6, 8, 5, 7], live := [], modes := [(1, [(5, .take, false), (11, .take, false)])] }
theorem fk85 : FnOk Tryd.prog 85 Tryd.f85 I85 := ⟨Tryd.func85, by kernel_rfl, by kernel_rfl, by kernel_rfl, by kernel_rfl⟩
theorem p85_e_0 (a0 a1 : Org) : rE I85 (xCF a0 a1) [Y] [] = dn (xBV true) [(decide (((Org.cell a0) : Int) < (Org.cell a1))) = true] := by kernel_rfl
theorem p85_e_1 (a0 a1 : Org) : rE I85 (xCF a0 a1) [F, Y] [] = dn (xBV (decide (((Org.row a0) : Int) < (Org.row a1)))) [(decide (((Org.cell a0) : Int) < (Org.cell a1))) = false, (((Org.cell a0) : Int) == (Org.cell a1)) = true] := by kernel_rfl
theorem p85_e_2 (a0 a1 : Org) : rE I85 (xCF a0 a1) [F, F] [] = dn (xBV false) [(decide (((Org.cell a0) : Int) < (Org.cell a1))) = false, (((Org.cell a0) : Int) == (Org.cell a1)) = false] := by kernel_rfl
theorem c85_e {N : Nat} : ∀ a0 a1 r, xE5 N a0 a1 = some r → RE Tryd.f85 I85 (xCF a0 a1) (xBV r) := fun a0 a1 r h =>
 cE h (fun h0 h => dE h fk85 (p85_e_0 a0 a1) (oc h0 on)) fun h0 h =>
 cE h (fun h1 h => dE h fk85 (p85_e_1 a0 a1) (oc h0 (oc h1 on))) fun h1 h =>
 dE h fk85 (p85_e_2 a0 a1) (oc h0 (oc h1 on))
theorem xGo {N : Nat} {a0 : Org} {a1 : Org} {r : Bool} (h : xE5 N  a0 a1 = some r) : AbC 85 (xCF a0 a1) (xBV r) :=
 AbsCalls.of_reach fk85 rfl rfl (Nat.le_of_ble_eq_true rfl) (c85_e a0 a1 r h)
noncomputable def I75 : Info := { body := (Tryd.f75.body).getD .skip, nt := 77, results := [.tmp 2], keep := [0, 2, 4, 8, 12, 14, 16, 36, 40, 42, 44, 46, 64, 68, 70, 72, 74, 84, 90, 92, 94, 96, 148, 3, 9, 17], live := [(4, [2, 40, 42, 44, 3]), (9, [2, 8, 40, 42, 44, 68, 70, 72, 3, 9]), (15, [2, 8, 40, 42, 44, 90, 92, 94, 3, 9])], modes := [(1, [(4, .take, false)]), (11, [(0, .take, false)]), (13, [(1, .take, false)]), (17, [(3, .take, false), (8, .take, false), (11, .take, false)]), (19, [(1, .take, false)]), (20, [(1, .take, false)])] }
theorem fk75 : FnOk Tryd.prog 75 Tryd.f75 I75 := ⟨Tryd.func75, by kernel_rfl, by kernel_rfl, by kernel_rfl, by kernel_rfl⟩
def S75_4 (x20 : List Rowd) (x21 x22 : Int) (b1 : Val) : St := [(2, .v false [.ptr 1 0]), (40, .v false [.sl .ro .row x20]), (42, .v false [.int .i64 x21]), (44, .v false [.int .i64 x22]), (3, .v true [.int .i64 (Val.kind b1), .int .i64 (Val.n b1), .int .i64 (Val.step b1), .str (Val.text b1), .sl .ro .val (Val.list b1), .sl .ro .str (Val.columns b1), .sl .ro .row (Val.rows b1)])]
def S75_9 (x20 : List Rowd) (x21 x22 : Int) (x34 : List Int) (x35 x36 : Int) (b1 : Val) (b4 : Rowd) : St := [(2, .v false [.ptr 1 0]), (8, .v false [.ptr 4 0]), (40, .v false [.sl .ro .row x20]), (42, .v false [.int .i64 x21]), (44, .v false [.int .i64 x22]), (68, .v false [.sl .ro .int x34]), (70, .v false [.int .i64 x35]), (72, .v false [.int .i64 x36]), (3, .v true [.int .i64 (Val.kind b1), .int .i64 (Val.n b1), .int .i64 (Val.step b1), .str (Val.text b1), .sl .ro .val (Val.list b1), .sl .ro .str (Val.columns b1), .sl .ro .row (Val.rows b1)]), (9, .v true [.sl .ro .int (Rowd.cells b4), .sl .ro .org (Rowd.frm b4)])]
def xHI (x20 : List Rowd) (x21 x22 : Int) (x45 : List Org) (x46 x47 : Int) (b1 : Val) (b4 : Rowd) : St := [(2, .v false [.ptr 1 0]), (8, .v false [.ptr 4 0]), (40, .v false [.sl .ro .row x20]), (42, .v false [.int .i64 x21]), (44, .v false [.int .i64 x22]), (90, .v false [.sl .ro .org x45]), (92, .v false [.int .i64 x46]), (94, .v false [.int .i64 x47]), (3, .v true [.int .i64 (Val.kind b1), .int .i64 (Val.n b1), .int .i64 (Val.step b1), .str (Val.text b1), .sl .ro .val (Val.list b1), .sl .ro .str (Val.columns b1), .sl .ro .row (Val.rows b1)]), (9, .v true [.sl .ro .int (Rowd.cells b4), .sl .ro .org (Rowd.frm b4)])]
theorem p75_15_0 (x20 : List Rowd) (x21 x22 : Int) (x45 : List Org) (x46 x47 : Int) (b1 : Val) (b4 : Rowd) : rS 15 I75 (xHI x20 x21 x22 x45 x46 x47 b1 b4) [Y, Y, Y, Y] [] = dn (xBv false) [(decide ((x47 : Int) < x46)) = true, (0 : Int) ≤ x47 ∧ x47 < (Ln x45), (decide (((Org.cell (gD x45 (tN x47) Ty.org.dflt)) : Int) < 0)) = true, true = true, true = true] := by kernel_rfl
theorem p75_15_1 (x20 : List Rowd) (x21 x22 : Int) (x45 : List Org) (x46 x47 : Int) (b1 : Val) (b4 : Rowd) : rS 15 I75 (xHI x20 x21 x22 x45 x46 x47 b1 b4) [Y, F, Y, Y] [] = dn (xBv false) [(decide ((x47 : Int) < x46)) = true, (0 : Int) ≤ x47 ∧ x47 < (Ln x45), (decide (((Org.cell (gD x45 (tN x47) Ty.org.dflt)) : Int) < 0)) = false, (decide (((Org.row (gD x45 (tN x47) Ty.org.dflt)) : Int) < 0)) = true, true = true] := by kernel_rfl
theorem p75_15_2 (x20 : List Rowd) (x21 x22 : Int) (x45 : List Org) (x46 x47 : Int) (b1 : Val) (b4 : Rowd) (r1 : Bool) : rS 15 I75 (xHI x20 x21 x22 x45 x46 x47 b1 b4) [Y, F, F, Y, Y] [xBV r1] = dn (xBv false) [(decide ((x47 : Int) < x46)) = true, (0 : Int) ≤ x47 ∧ x47 < (Ln x45), (decide (((Org.cell (gD x45 (tN x47) Ty.org.dflt)) : Int) < 0)) = false, (decide (((Org.row (gD x45 (tN x47) Ty.org.dflt)) : Int) < 0)) = false, (decide ((x47 : Int) > 0)) = true, (0 : Int) ≤ (W (x47 - 1)) ∧ (W (x47 - 1)) < (Ln (Rowd.frm b4)), AbC 85 (xCF (gD (Rowd.frm b4) (tN (W (x47 - 1))) Ty.org.dflt) (gD x45 (tN x47) Ty.org.dflt)) (xBV r1), (!r1) = true] := by kernel_rfl
theorem p75_15_3 (x20 : List Rowd) (x21 x22 : Int) (x45 : List Org) (x46 x47 : Int) (b1 : Val) (b4 : Rowd) (r1 : Bool) : rS 15 I75 (xHI x20 x21 x22 x45 x46 x47 b1 b4) [Y, F, F, Y, F] [xBV r1] = st 15 I75 (xHI x20 x21 x22 x45 x46 (W (x47 + 1)) b1 b4) [(decide ((x47 : Int) < x46)) = true, (0 : Int) ≤ x47 ∧ x47 < (Ln x45), (decide (((Org.cell (gD x45 (tN x47) Ty.org.dflt)) : Int) < 0)) = false, (decide (((Org.row (gD x45 (tN x47) Ty.org.dflt)) : Int) < 0)) = false, (decide ((x47 : Int) > 0)) = true, (0 : Int) ≤ (W (x47 - 1)) ∧ (W (x47 - 1)) < (Ln (Rowd.frm b4)), AbC 85 (xCF (gD (Rowd.frm b4) (tN (W (x47 - 1))) Ty.org.dflt) (gD x45 (tN x47) Ty.org.dflt)) (xBV r1), (!r1) = false] := by kernel_rfl
theorem p75_15_4 (x20 : List Rowd) (x21 x22 : Int) (x45 : List Org) (x46 x47 : Int) (b1 : Val) (b4 : Rowd) : rS 15 I75 (xHI x20 x21 x22 x45 x46 x47 b1 b4) [Y, F, F, F, F] [] = st 15 I75 (xHI x20 x21 x22 x45 x46 (W (x47 + 1)) b1 b4) [(decide ((x47 : Int) < x46)) = true, (0 : Int) ≤ x47 ∧ x47 < (Ln x45), (decide (((Org.cell (gD x45 (tN x47) Ty.org.dflt)) : Int) < 0)) = false, (decide (((Org.row (gD x45 (tN x47) Ty.org.dflt)) : Int) < 0)) = false, (decide ((x47 : Int) > 0)) = false, false = false] := by kernel_rfl
theorem p75_15_5 (x20 : List Rowd) (x21 x22 : Int) (x45 : List Org) (x46 x47 : Int) (b1 : Val) (b4 : Rowd) : rS 15 I75 (xHI x20 x21 x22 x45 x46 x47 b1 b4) [F] [] = st 4 I75 (S75_4 x20 x21 (W (x22 + 1)) b1) [(decide ((x47 : Int) < x46)) = false] := by kernel_rfl
theorem p75_9_6 (x20 : List Rowd) (x21 x22 : Int) (x34 : List Int) (x35 x36 : Int) (b1 : Val) (b4 : Rowd) (r1 : Bool) : rS 9 I75 (S75_9 x20 x21 x22 x34 x35 x36 b1 b4) [Y, Y] [xBp r1] = dn (xBv false) [(decide ((x36 : Int) < x35)) = true, (0 : Int) ≤ x36 ∧ x36 < (Ln x34), AbC 23 (xCg (gD x34 (tN x36) Ty.int.dflt)) (xBp r1), (!r1) = true] := by kernel_rfl
theorem p75_9_7 (x20 : List Rowd) (x21 x22 : Int) (x34 : List Int) (x35 x36 : Int) (b1 : Val) (b4 : Rowd) (r1 : Bool) : rS 9 I75 (S75_9 x20 x21 x22 x34 x35 x36 b1 b4) [Y, F] [xBp r1] = st 9 I75 (S75_9 x20 x21 x22 x34 x35 (W (x36 + 1)) b1 b4) [(decide ((x36 : Int) < x35)) = true, (0 : Int) ≤ x36 ∧ x36 < (Ln x34), AbC 23 (xCg (gD x34 (tN x36) Ty.int.dflt)) (xBp r1), (!r1) = false] := by kernel_rfl
theorem p75_9_8 (x20 : List Rowd) (x21 x22 : Int) (x34 : List Int) (x35 x36 : Int) (b1 : Val) (b4 : Rowd) : rS 9 I75 (S75_9 x20 x21 x22 x34 x35 x36 b1 b4) [F] [] = st 15 I75 (xHI x20 x21 x22 (Rowd.frm b4) (Ln (Rowd.frm b4) : Int) 0 b1 b4) [(decide ((x36 : Int) < x35)) = false] := by kernel_rfl
theorem p75_4_9 (x20 : List Rowd) (x21 x22 : Int) (b1 : Val) : rS 4 I75 (S75_4 x20 x21 x22 b1) [Y, Y] [] = dn (xBv false) [(decide ((x22 : Int) < x21)) = true, (0 : Int) ≤ x22 ∧ x22 < (Ln x20), (((Ln (Rowd.cells (gD x20 (tN x22) rd)) : Int) : Int) != (Ln (Val.columns b1) : Int)) = true] := by kernel_rfl
theorem p75_4_10 (x20 : List Rowd) (x21 x22 : Int) (b1 : Val) : rS 4 I75 (S75_4 x20 x21 x22 b1) [Y, F] [] = st 9 I75 (S75_9 x20 x21 x22 (Rowd.cells (gD x20 (tN x22) rd)) (Ln (Rowd.cells (gD x20 (tN x22) rd)) : Int) 0 b1 (gD x20 (tN x22) rd)) [(decide ((x22 : Int) < x21)) = true, (0 : Int) ≤ x22 ∧ x22 < (Ln x20), (((Ln (Rowd.cells (gD x20 (tN x22) rd)) : Int) : Int) != (Ln (Val.columns b1) : Int)) = false] := by kernel_rfl
theorem p75_4_11 (x20 : List Rowd) (x21 x22 : Int) (b1 : Val) : rS 4 I75 (S75_4 x20 x21 x22 b1) [F] [] = dn (xBv true) [(decide ((x22 : Int) < x21)) = false] := by kernel_rfl
theorem p75_e_12 (a0 : Val) (r1 : Bool) : rE I75 (xDY a0) [Y, Y] [xBH r1] = dn (xBv false) [AbC 84 (xDt (Val.columns a0)) (xBH r1), (!r1) = true, true = true] := by kernel_rfl
theorem p75_e_13 (a0 : Val) (r1 : Bool) : rE I75 (xDY a0) [F, Y] [xBH r1] = dn (xBv false) [AbC 84 (xDt (Val.columns a0)) (xBH r1), (!r1) = false, (decide (((Ln (Val.rows a0) : Int) : Int) > 12)) = true] := by kernel_rfl
theorem p75_e_14 (a0 : Val) (r1 : Bool) : rE I75 (xDY a0) [F, F] [xBH r1] = st 4 I75 (S75_4 (Val.rows a0) (Ln (Val.rows a0) : Int) 0 a0) [AbC 84 (xDt (Val.columns a0)) (xBH r1), (!r1) = false, (decide (((Ln (Val.rows a0) : Int) : Int) > 12)) = false] := by kernel_rfl
theorem c75_15 {N : Nat} {k4 : (List Rowd) → Int → Int → Val → Option (Bool)} (hk4 : ∀ z0 z1 z2 z3 r, k4 z0 z1 z2 z3 = some r → RS Tryd.f75 I75 4 (S75_4 z0 z1 z2 z3) (xBv r)) : ∀ n x20 x21 x22 x45 x46 x47 b1 b4 r, xC7 N k4 n x20 x21 x22 x45 x46 x47 b1 b4 = some r → RS Tryd.f75 I75 15 (xHI x20 x21 x22 x45 x46 x47 b1 b4) (xBv r) := by
 intro n
 induction n with
 | zero => exact fun _ _ _ _ _ _ _ _ _ h => nE h
 | succ n ih =>
  exact fun x20 x21 x22 x45 x46 x47 b1 b4 r h =>
   cE h (fun h0 h => iE h fun h1 h => cE h (fun h2 h => dS h fk75 (p75_15_0 x20 x21 x22 x45 x46 x47 b1 b4) (oc h0 (oc h1 (oc h2 (oc rfl (oc rfl on)))))) fun h2 h =>
   cE h (fun h3 h => dS h fk75 (p75_15_1 x20 x21 x22 x45 x46 x47 b1 b4) (oc h0 (oc h1 (oc h2 (oc h3 (oc rfl on)))))) fun h3 h =>
   cE h (fun h4 h => iE h fun h5 h => bE h fun r1 h6 h => cE h (fun h7 h => dS h fk75 (p75_15_2 x20 x21 x22 x45 x46 x47 b1 b4 r1) (oc h0 (oc h1 (oc h2 (oc h3 (oc h4 (oc h5 (oc (xGo h6) (oc h7 on))))))))) fun h7 h =>
   tS fk75 (p75_15_3 x20 x21 x22 x45 x46 x47 b1 b4 r1) (oc h0 (oc h1 (oc h2 (oc h3 (oc h4 (oc h5 (oc (xGo h6) (oc h7 on)))))))) (ih _ _ _ _ _ _ _ _ _ h)) fun h4 h =>
   tS fk75 (p75_15_4 x20 x21 x22 x45 x46 x47 b1 b4) (oc h0 (oc h1 (oc h2 (oc h3 (oc h4 (oc rfl on)))))) (ih _ _ _ _ _ _ _ _ _ h)) fun h0 h =>
   tS fk75 (p75_15_5 x20 x21 x22 x45 x46 x47 b1 b4) (oc h0 on) (hk4 _ _ _ _ _ h)
theorem c75_9 {N : Nat} {k4 : (List Rowd) → Int → Int → Val → Option (Bool)} (hk4 : ∀ z0 z1 z2 z3 r, k4 z0 z1 z2 z3 = some r → RS Tryd.f75 I75 4 (S75_4 z0 z1 z2 z3) (xBv r)) : ∀ n x20 x21 x22 x34 x35 x36 b1 b4 r, xD0 N k4 n x20 x21 x22 x34 x35 x36 b1 b4 = some r → RS Tryd.f75 I75 9 (S75_9 x20 x21 x22 x34 x35 x36 b1 b4) (xBv r) := by
 intro n
 induction n with
 | zero => exact fun _ _ _ _ _ _ _ _ _ h => nE h
 | succ n ih =>
  exact fun x20 x21 x22 x34 x35 x36 b1 b4 r h =>
   cE h (fun h0 h => iE h fun h1 h => bE h fun r1 h2 h => cE h (fun h3 h => dS h fk75 (p75_9_6 x20 x21 x22 x34 x35 x36 b1 b4 r1) (oc h0 (oc h1 (oc (xC6 h2) (oc h3 on))))) fun h3 h =>
   tS fk75 (p75_9_7 x20 x21 x22 x34 x35 x36 b1 b4 r1) (oc h0 (oc h1 (oc (xC6 h2) (oc h3 on)))) (ih _ _ _ _ _ _ _ _ _ h)) fun h0 h =>
   tS fk75 (p75_9_8 x20 x21 x22 x34 x35 x36 b1 b4) (oc h0 on) (c75_15 hk4 _ _ _ _ _ _ _ _ _ _ h)
theorem c75_4 {N : Nat} : ∀ n x20 x21 x22 b1 r, xDZ N n x20 x21 x22 b1 = some r → RS Tryd.f75 I75 4 (S75_4 x20 x21 x22 b1) (xBv r) := by
 intro n
 induction n with
 | zero => exact fun _ _ _ _ _ h => nE h
 | succ n ih =>
  exact fun x20 x21 x22 b1 r h =>
   cE h (fun h0 h => iE h fun h1 h => cE h (fun h2 h => dS h fk75 (p75_4_9 x20 x21 x22 b1) (oc h0 (oc h1 (oc h2 on)))) fun h2 h =>
   tS fk75 (p75_4_10 x20 x21 x22 b1) (oc h0 (oc h1 (oc h2 on))) (c75_9 ih _ _ _ _ _ _ _ _ _ _ h)) fun h0 h =>
   dS h fk75 (p75_4_11 x20 x21 x22 b1) (oc h0 on)
theorem c75_e {N : Nat} : ∀ a0 r, xFF N a0 = some r → RE Tryd.f75 I75 (xDY a0) (xBv r) := fun a0 r h =>
 bE h fun r1 h0 h => cE h (fun h1 h => dE h fk75 (p75_e_12 a0 r1) (oc (xFJ h0) (oc h1 (oc rfl on)))) fun h1 h =>
 cE h (fun h2 h => dE h fk75 (p75_e_13 a0 r1) (oc (xFJ h0) (oc h1 (oc h2 on)))) fun h2 h =>
 tE fk75 (p75_e_14 a0 r1) (oc (xFJ h0) (oc h1 (oc h2 on))) (c75_4 _ _ _ _ _ _ h)
theorem xHu {N : Nat} {a0 : Val} {r : Bool} (h : xFF N  a0 = some r) : AbC 75 (xDY a0) (xBv r) :=
 AbsCalls.of_reach fk75 rfl rfl (Nat.le_of_ble_eq_true rfl) (c75_e a0 r h)
def G76 (q : Val → Option (Int)) : Prop := ∀ a0 r, q a0 = some r → AbC 76 (xDU a0) (xCJ r)
noncomputable def I76 : Info := { body := (Tryd.f76.body).getD .skip, nt := 20, results := [.tmp 2], keep := [0, 2, 4, 6, 10, 14, 16, 18, 20, 3, 11], live := [(3, [6, 14, 16, 18])], modes := [(6, [(1, .take, false)])] }
theorem fk76 : FnOk Tryd.prog 76 Tryd.f76 I76 := ⟨Tryd.func76, by kernel_rfl, by kernel_rfl, by kernel_rfl, by kernel_rfl⟩
def S76_3 (x3 : Int) (x7 : List Val) (x8 x9 : Int) : St := [(6, .v false [.int .i64 x3]), (14, .v false [.sl .ro .val x7]), (16, .v false [.int .i64 x8]), (18, .v false [.int .i64 x9])]
theorem p76_3_0 (x3 : Int) (x7 : List Val) (x8 x9 r1 : Int) : rS 3 I76 (S76_3 x3 x7 x8 x9) [Y] [xCJ r1] = st 3 I76 (S76_3 (if (r1 : Int) > x3 then r1 else x3) x7 x8 (W (x9 + 1))) [(decide ((x9 : Int) < x8)) = true, (0 : Int) ≤ x9 ∧ x9 < (Ln x7), AbC 76 (xDU (gD x7 (tN x9) vd)) (xCJ r1)] := by kernel_rfl
theorem p76_3_1 (x3 : Int) (x7 : List Val) (x8 x9 : Int) : rS 3 I76 (S76_3 x3 x7 x8 x9) [F] [] = dn (xCJ (W (x3 + 1))) [(decide ((x9 : Int) < x8)) = false] := by kernel_rfl
theorem p76_e_2 (a0 : Val) : rE I76 (xDU a0) [] [] = st 3 I76 (S76_3 0 (Val.list a0) (Ln (Val.list a0) : Int) 0) [] := by kernel_rfl
theorem c76_3 {N : Nat} {q0 : Val → Option (Int)} (g0 : G76 q0) : ∀ n x3 x7 x8 x9 r, xEq N q0 n x3 x7 x8 x9 = some r → RS Tryd.f76 I76 3 (S76_3 x3 x7 x8 x9) (xCJ r) := by
 intro n
 induction n with
 | zero => exact fun _ _ _ _ _ h => nE h
 | succ n ih =>
  exact fun x3 x7 x8 x9 r h =>
   cE h (fun h0 h => iE h fun h1 h => bE h fun r1 h2 h => tS fk76 (p76_3_0 x3 x7 x8 x9 r1) (oc h0 (oc h1 (oc (g0 _ _ h2) on))) (ih _ _ _ _ _ h)) fun h0 h =>
   dS h fk76 (p76_3_1 x3 x7 x8 x9) (oc h0 on)
theorem c76_e {N : Nat} {q0 : Val → Option (Int)} (g0 : G76 q0) : ∀ a0 r, xFU N q0 a0 = some r → RE Tryd.f76 I76 (xDU a0) (xCJ r) := fun a0 r h =>
 tE fk76 (p76_e_2 a0) on (c76_3 g0 _ _ _ _ _ _ h)
theorem xHE {N : Nat} {q0 : Val → Option (Int)} (g0 : G76 q0) {a0 : Val} {r : Int} (h : xFU N q0 a0 = some r) : AbC 76 (xDU a0) (xCJ r) :=
 AbsCalls.of_reach fk76 rfl rfl (Nat.le_of_ble_eq_true rfl) (c76_e g0 a0 r h)
theorem xGv {N : Nat} : ∀ d, G76 (xDx N d)
 | 0 => fun _ _ h => nE h
 | d + 1 => fun _ _ h => xHE (N := N) (xGv d) h
theorem impl_DepthOf_ok {N : Nat} {a0 : Val} {r : Int} (h : xGd N a0 = some r) : AbC 76 (xDU a0) (xCJ r) := xGv N _ r h
end Go.Ab.T
end
