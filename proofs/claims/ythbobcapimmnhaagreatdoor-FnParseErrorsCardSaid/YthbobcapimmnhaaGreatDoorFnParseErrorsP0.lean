/- The statement FnParseErrors holds: plain functions, certificates, laws. Conditions: none. -/
import Derived.LaidMore
import Derived.Lay
import Derived.Lib.AtoiErrMem
import Derived.Lib.LaidTab
import Derived.OpenVars
import Derived.SevenTiedAt
import Derived.Shelf.Abstract
import Derived.Shelf.Small.Strs
import Derived.Shelf.Strconv.ErrVarAll
import Derived.Shelf.Strconv.Itoa3
import Derived.Shelf.Strings.OnBuilder
import Derived.Shelf.Strings.Prefix
import Derived.Shelf.Strings.Search1
import Derived.Shelf.Strings.Split
import Derived.Stop.Joined
import Derived.Stop.LaidErr
import Derived.Test.YthbobcapimmnhaaGreatDoorCards
import Derived.Test.YthbobcapimmnhaaGreatDoorChecked
import Derived.Test.YthbobcapimmnhaaGreatDoorProg
import Derived.Test.YthbobcapimmnhaaGreatDoorRows
import Derived.Test.YthbobcapimmnhaaGreatDoorTie
import Derived.WalkKit
import Derived.Test.YthbobcapimmnhaaGreatDoorL2
set_option linter.all false
section
namespace Go.Ab
abbrev Ex (f : Fl) (e : Exp) : List CV := [.int .i64 (Exp.kind e), .int .i64 (Exp.n e), .str (Exp.text e), .sl f .exp (Exp.args e)]
abbrev Rr (f : Fl) (e : Rdr) : List CV := [.sl f .tok (Rdr.toks e), .int .i64 (Rdr.i e), .int .i64 (Rdr.fin e), .int .i64 (Rdr.bad e)]
abbrev Ps (f : Fl) (e : Psr) : List CV := [.sl f .tok (Psr.list e), .int .i64 (Psr.pos e), .int .i64 (Psr.bad e)]
abbrev Cu (f : Fl) (e : Cur) : List CV := [.sl f .byte (Cur.b e), .int .i64 (Cur.i e), .int .i64 (Cur.h e)]
end Go.Ab
end
section
namespace Go.Ab
def xFz (a0 : Int) : List Arg := [.val (.v false [.int .u8 a0])]
def xBS (r : Bool) : CallO := ⟨.v false [.bool r], [], []⟩
def xF5 (N : Nat) (a0 : Int) : Option (Bool) := bif (decide (a0 ≥ 97)) then (some (decide (a0 ≤ 122))) else (some false)
def xFY (a0 : Int) : List Arg := [.val (.v false [.int .u8 a0])]
def xBJ (r : Bool) : CallO := ⟨.v false [.bool r], [], []⟩
def xFX (N : Nat) (a0 : Int) : Option (Bool) := bif (decide (a0 ≥ 48)) then (some (decide (a0 ≤ 57))) else (some false)
def xCS (a0 : Int) : List Arg := [.val (.v false [.int .i64 a0])]
def xBb (r : Str) : CallO := ⟨.v false [.str r], [], []⟩
def xCq (N : Nat) : Nat → Int → Bool → Str → Option (Str)
 | 0, _, _, _ => none
 | n + 1, x0, x3, x4 => bif (x0 != 0) then (bif (decide ((Int.tmod x0 10) < 0)) then (if List.length (List.map (fun n => UInt8.ofNat (Int.toNat n)) [(IntKind.u8.wrap ((IntKind.i64.wrap (48 + (IntKind.i64.wrap (0 - (Int.tmod x0 10)))))))]) + List.length x4 ≤ Lim then (xCq N n (IntKind.i64.wrap (Int.tdiv x0 10)) x3 ((List.map (fun n => UInt8.ofNat (Int.toNat n)) [(IntKind.u8.wrap ((IntKind.i64.wrap (48 + (IntKind.i64.wrap (0 - (Int.tmod x0 10)))))))]) ++ x4)) else none) else (if List.length (List.map (fun n => UInt8.ofNat (Int.toNat n)) [(IntKind.u8.wrap ((IntKind.i64.wrap (48 + (Int.tmod x0 10)))))]) + List.length x4 ≤ Lim then (xCq N n (IntKind.i64.wrap (Int.tdiv x0 10)) x3 ((List.map (fun n => UInt8.ofNat (Int.toNat n)) [(IntKind.u8.wrap ((IntKind.i64.wrap (48 + (Int.tmod x0 10)))))]) ++ x4)) else none)) else (bif x3 then (if List.length [45] + List.length x4 ≤ Lim then some ([45] ++ x4) else none) else (some x4))
def xE8 (N : Nat) (a0 : Int) : Option (Str) := bif (a0 == 0) then (some [48]) else ((xCq N N a0 (decide (a0 < 0)) []))
def xCQ (a0 : Str) (a1 : Int) : List Arg := [.val (.v false [.str a0]), .val (.v false [.int .i64 a1])]
def xBA (r : Int × Bool) : CallO := ⟨.tup [(false, [.int .i64 r.1]), (false, [.bool r.2])], [], []⟩
def xDs (N : Nat) : Nat → Str → Bool → Str → Int → Int → Option (Int × Bool)
 | 0, _, _, _, _, _ => none
 | n + 1, x0, x6, x7, x8, x9 => bif (decide (x9 < (List.length x7 : Int))) then (if (0 : Int) ≤ x9 ∧ x9 < (List.length x7) then bif (decide ((((List.getD x7 (Int.toNat x9) 0).toNat : Int) : Int) < 48)) then (some (0, false)) else (bif (decide ((((List.getD x7 (Int.toNat x9) 0).toNat : Int) : Int) > 57)) then (some (0, false)) else ((xDs N n x0 x6 x7 (IntKind.i64.wrap ((IntKind.i64.wrap (10 * x8)) + (IntKind.i64.wrap ((IntKind.u8.wrap (((List.getD x7 (Int.toNat x9) 0).toNat : Int) - 48)))))) (IntKind.i64.wrap (x9 + 1))))) else none) else (bif x6 then ((xE8 N (IntKind.i64.wrap (0 - x8))).bind fun r1 => bif (!((r1 : Str) == x0)) then (some (0, false)) else (some ((IntKind.i64.wrap (0 - x8)), true))) else ((xE8 N x8).bind fun r1 => bif (!((r1 : Str) == x0)) then (some (0, false)) else (some (x8, true))))
def xHN (N : Nat) (a0 : Str) (a1 : Int) : Option (Int × Bool) := bif (decide ((List.length a0 : Int) > 0)) then (if (0 : Int) ≤ 0 ∧ (0 : Int) < (List.length a0) then bif ((((List.getD a0 (Int.toNat 0) 0).toNat : Int) : Int) == 45) then (if (0 : Int) ≤ (1 : Int) ∧ (1 : Int) ≤ (List.length a0) then bif (decide (((List.length (List.drop (Int.toNat (1 : Int)) a0) : Int) : Int) < 1)) then (some (0, false)) else (bif (decide (((List.length (List.drop (Int.toNat (1 : Int)) a0) : Int) : Int) > a1)) then (some (0, false)) else ((xDs N N a0 ((((List.getD a0 (Int.toNat 0) 0).toNat : Int) : Int) == 45) (List.drop (Int.toNat (1 : Int)) a0) 0 0))) else none) else (bif (decide ((List.length a0 : Int) < 1)) then (some (0, false)) else (bif (decide ((List.length a0 : Int) > a1)) then (some (0, false)) else ((xDs N N a0 ((((List.getD a0 (Int.toNat 0) 0).toNat : Int) : Int) == 45) a0 0 0)))) else none) else (bif (decide ((List.length a0 : Int) < 1)) then (some (0, false)) else (bif (decide ((List.length a0 : Int) > a1)) then (some (0, false)) else ((xDs N N a0 false a0 0 0))))
def xGl (a0 : Str) : List Arg := [.val (.v false [.str a0])]
def xCL (r : Int × Bool) : CallO := ⟨.tup [(false, [.int .i64 r.1]), (false, [.bool r.2])], [], []⟩
def xFs (N : Nat) (a0 : Str) : Option (Int × Bool) := (xHN N a0 12).bind fun r1 => some (r1.1, r1.2)
def xEE (a0 : Str) : List Arg := [.val (.v false [.str a0])]
def xA9 (r : Bool) : CallO := ⟨.v false [.bool r], [], []⟩
def xCG (N : Nat) : Nat → Str → Int → Option (Bool)
 | 0, _, _ => none
 | n + 1, x0, x3 => bif (decide (x3 < (List.length x0 : Int))) then (if (0 : Int) ≤ x3 ∧ x3 < (List.length x0) then bif (decide ((((List.getD x0 (Int.toNat x3) 0).toNat : Int) : Int) < 32)) then (some false) else (bif (decide ((((List.getD x0 (Int.toNat x3) 0).toNat : Int) : Int) > 126)) then (some false) else (bif ((((List.getD x0 (Int.toNat x3) 0).toNat : Int) : Int) == 34) then (some false) else ((xCG N n x0 (IntKind.i64.wrap (x3 + 1)))))) else none) else (some (decide ((List.length x0 : Int) ≤ 20)))
def xEQ (N : Nat) (a0 : Str) : Option (Bool) := (xCG N N a0 0)
def xBn (a0 : Str) (a1 : Int) : List Arg := [.val (.v false [.str a0]), .val (.v false [.int .i64 a1])]
def xBe (r : Int) : CallO := ⟨.v false [.int .i64 r], [], []⟩
def xGM (N : Nat) (a0 : Str) (a1 : Int) : Option (Int) := if (0 : Int) ≤ a1 ∧ a1 < (List.length a0) then bif ((((List.getD a0 (Int.toNat a1) 0).toNat : Int) : Int) == 40) then (some 1) else (bif ((((List.getD a0 (Int.toNat a1) 0).toNat : Int) : Int) == 41) then (some 1) else (bif ((((List.getD a0 (Int.toNat a1) 0).toNat : Int) : Int) == 91) then (some 1) else (bif ((((List.getD a0 (Int.toNat a1) 0).toNat : Int) : Int) == 93) then (some 1) else (bif ((((List.getD a0 (Int.toNat a1) 0).toNat : Int) : Int) == 44) then (some 1) else (bif ((((List.getD a0 (Int.toNat a1) 0).toNat : Int) : Int) == 43) then (some 1) else (bif ((((List.getD a0 (Int.toNat a1) 0).toNat : Int) : Int) == 45) then (some 1) else (bif ((((List.getD a0 (Int.toNat a1) 0).toNat : Int) : Int) == 42) then (some 1) else (bif ((((List.getD a0 (Int.toNat a1) 0).toNat : Int) : Int) == 60) then (some 1) else (bif ((((List.getD a0 (Int.toNat a1) 0).toNat : Int) : Int) == 61) then (bif (decide ((IntKind.i64.wrap (a1 + 1)) < (List.length a0 : Int))) then (if (0 : Int) ≤ (IntKind.i64.wrap (a1 + 1)) ∧ (IntKind.i64.wrap (a1 + 1)) < (List.length a0) then bif ((((List.getD a0 (Int.toNat (IntKind.i64.wrap (a1 + 1))) 0).toNat : Int) : Int) == 61) then (some 2) else (some 1) else none) else (some 1)) else (some 0)))))))))) else none
def xD5 (a0 : Str) (a1 : Int) : List Arg := [.val (.v false [.str a0]), .val (.v false [.int .i64 a1])]
def xA7 (r : Tok × Int) : CallO := ⟨.tup [(true, [.int .i64 (Tok.kind r.1), .int .i64 (Tok.n r.1), .int .i64 (Tok.pos r.1), .str (Tok.text r.1)]), (false, [.int .i64 r.2])], [], []⟩
def xD6 (N : Nat) : Nat → Str → Int → Int → Tok → Tok → Option (Tok × Int)
 | 0, _, _, _, _, _ => none
 | n + 1, x0, x1, x7, b4, b6 => bif (decide (x7 < (List.length x0 : Int))) then (if (0 : Int) ≤ x7 ∧ x7 < (List.length x0) then (xF5 N ((List.getD x0 (Int.toNat x7) 0).toNat : Int)).bind fun r1 => bif r1 then ((xD6 N n x0 x1 (IntKind.i64.wrap (x7 + 1)) b4 b6)) else ((xFX N ((List.getD x0 (Int.toNat x7) 0).toNat : Int)).bind fun r2 => bif r2 then ((xD6 N n x0 x1 (IntKind.i64.wrap (x7 + 1)) b4 b6)) else (if (0 : Int) ≤ x1 ∧ x1 ≤ x7 ∧ x7 ≤ (List.length x0) then bif (decide ((IntKind.i64.wrap (x7 - x1)) > 8)) then (some ((Tok.mk 1 (Tok.n b6) (Tok.pos b6) (List.drop (Int.toNat x1) (List.take (Int.toNat x7) x0))), 0)) else (some ((Tok.mk 1 (Tok.n b6) (Tok.pos b6) (List.drop (Int.toNat x1) (List.take (Int.toNat x7) x0))), (IntKind.i64.wrap (x7 - x1)))) else none)) else none) else (if (0 : Int) ≤ x1 ∧ x1 ≤ x7 ∧ x7 ≤ (List.length x0) then bif (decide ((IntKind.i64.wrap (x7 - x1)) > 8)) then (some ((Tok.mk 1 (Tok.n b6) (Tok.pos b6) (List.drop (Int.toNat x1) (List.take (Int.toNat x7) x0))), 0)) else (some ((Tok.mk 1 (Tok.n b6) (Tok.pos b6) (List.drop (Int.toNat x1) (List.take (Int.toNat x7) x0))), (IntKind.i64.wrap (x7 - x1)))) else none)
def xDD (N : Nat) : Nat → Str → Int → Int → Tok → Tok → Option (Tok × Int)
 | 0, _, _, _, _, _ => none
 | n + 1, x0, x1, x7, b4, b6 => bif (decide (x7 < (List.length x0 : Int))) then (if (0 : Int) ≤ x7 ∧ x7 < (List.length x0) then (xFX N ((List.getD x0 (Int.toNat x7) 0).toNat : Int)).bind fun r1 => bif r1 then ((xDD N n x0 x1 (IntKind.i64.wrap (x7 + 1)) b4 b6)) else (if (0 : Int) ≤ x1 ∧ x1 ≤ x7 ∧ x7 ≤ (List.length x0) then (xFs N (List.drop (Int.toNat x1) (List.take (Int.toNat x7) x0))).bind fun r2 => bif (!r2.2) then (some ((Tok.mk 2 r2.1 (Tok.pos b6) (Tok.text b6)), 0)) else (bif (decide (r2.1 > 1000000000)) then (some ((Tok.mk 2 r2.1 (Tok.pos b6) (Tok.text b6)), 0)) else (some ((Tok.mk 2 r2.1 (Tok.pos b6) (Tok.text b6)), (IntKind.i64.wrap (x7 - x1))))) else none) else none) else (if (0 : Int) ≤ x1 ∧ x1 ≤ x7 ∧ x7 ≤ (List.length x0) then (xFs N (List.drop (Int.toNat x1) (List.take (Int.toNat x7) x0))).bind fun r1 => bif (!r1.2) then (some ((Tok.mk 2 r1.1 (Tok.pos b6) (Tok.text b6)), 0)) else (bif (decide (r1.1 > 1000000000)) then (some ((Tok.mk 2 r1.1 (Tok.pos b6) (Tok.text b6)), 0)) else (some ((Tok.mk 2 r1.1 (Tok.pos b6) (Tok.text b6)), (IntKind.i64.wrap (x7 - x1))))) else none)
def xFm (N : Nat) : Nat → Str → Int → Int → Tok → Tok → Option (Tok × Int)
 | 0, _, _, _, _, _ => none
 | n + 1, x0, x1, x7, b4, b6 => bif (decide (x7 < (List.length x0 : Int))) then (if (0 : Int) ≤ x7 ∧ x7 < (List.length x0) then bif ((((List.getD x0 (Int.toNat x7) 0).toNat : Int) : Int) != 34) then ((xFm N n x0 x1 (IntKind.i64.wrap (x7 + 1)) b4 b6)) else (if (0 : Int) ≤ (IntKind.i64.wrap (x1 + 1)) ∧ (IntKind.i64.wrap (x1 + 1)) ≤ x7 ∧ x7 ≤ (List.length x0) then bif (x7 == (List.length x0 : Int)) then (some ((Tok.mk 3 (Tok.n b6) (Tok.pos b6) (List.drop (Int.toNat (IntKind.i64.wrap (x1 + 1))) (List.take (Int.toNat x7) x0))), 0)) else ((xEQ N (List.drop (Int.toNat (IntKind.i64.wrap (x1 + 1))) (List.take (Int.toNat x7) x0))).bind fun r1 => bif (!r1) then (some ((Tok.mk 3 (Tok.n b6) (Tok.pos b6) (List.drop (Int.toNat (IntKind.i64.wrap (x1 + 1))) (List.take (Int.toNat x7) x0))), 0)) else (some ((Tok.mk 3 (Tok.n b6) (Tok.pos b6) (List.drop (Int.toNat (IntKind.i64.wrap (x1 + 1))) (List.take (Int.toNat x7) x0))), (IntKind.i64.wrap ((IntKind.i64.wrap (x7 + 1)) - x1))))) else none) else none) else (if (0 : Int) ≤ (IntKind.i64.wrap (x1 + 1)) ∧ (IntKind.i64.wrap (x1 + 1)) ≤ x7 ∧ x7 ≤ (List.length x0) then bif (x7 == (List.length x0 : Int)) then (some ((Tok.mk 3 (Tok.n b6) (Tok.pos b6) (List.drop (Int.toNat (IntKind.i64.wrap (x1 + 1))) (List.take (Int.toNat x7) x0))), 0)) else ((xEQ N (List.drop (Int.toNat (IntKind.i64.wrap (x1 + 1))) (List.take (Int.toNat x7) x0))).bind fun r1 => bif (!r1) then (some ((Tok.mk 3 (Tok.n b6) (Tok.pos b6) (List.drop (Int.toNat (IntKind.i64.wrap (x1 + 1))) (List.take (Int.toNat x7) x0))), 0)) else (some ((Tok.mk 3 (Tok.n b6) (Tok.pos b6) (List.drop (Int.toNat (IntKind.i64.wrap (x1 + 1))) (List.take (Int.toNat x7) x0))), (IntKind.i64.wrap ((IntKind.i64.wrap (x7 + 1)) - x1))))) else none)
def xHP (N : Nat) (a0 : Str) (a1 : Int) : Option (Tok × Int) := if (0 : Int) ≤ a1 ∧ a1 < (List.length a0) then (xF5 N ((List.getD a0 (Int.toNat a1) 0).toNat : Int)).bind fun r1 => bif r1 then ((xD6 N N a0 a1 a1 (Tok.mk 0 0 0 []) (Tok.mk 0 0 a1 []))) else ((xFX N ((List.getD a0 (Int.toNat a1) 0).toNat : Int)).bind fun r2 => bif r2 then ((xDD N N a0 a1 a1 (Tok.mk 0 0 0 []) (Tok.mk 0 0 a1 []))) else (bif ((((List.getD a0 (Int.toNat a1) 0).toNat : Int) : Int) == 34) then ((xFm N N a0 a1 (IntKind.i64.wrap (a1 + 1)) (Tok.mk 0 0 0 []) (Tok.mk 0 0 a1 []))) else ((xGM N a0 a1).bind fun r3 => if (0 : Int) ≤ a1 ∧ a1 ≤ (IntKind.i64.wrap (a1 + r3)) ∧ (IntKind.i64.wrap (a1 + r3)) ≤ (List.length a0) then some ((Tok.mk 4 0 a1 (List.drop (Int.toNat a1) (List.take (Int.toNat (IntKind.i64.wrap (a1 + r3))) a0))), (IntKind.i64.wrap ((IntKind.i64.wrap (a1 + r3)) - a1))) else none))) else none
def xFy (a0 : Str) : List Arg := [.val (.v false [.str a0])]
def xA6 (r : (List Tok) × Int) : CallO := ⟨.tup [(false, [.sl .own .tok r.1]), (false, [.int .i64 r.2])], [], []⟩
def xEj (N : Nat) : Nat → Str → (List Tok) → Int → Option ((List Tok) × Int)
 | 0, _, _, _ => none
 | n + 1, x0, x4, x5 => bif (decide (x5 < (List.length x0 : Int))) then (if (0 : Int) ≤ x5 ∧ x5 < (List.length x0) then bif ((((List.getD x0 (Int.toNat x5) 0).toNat : Int) : Int) == 32) then ((xEj N n x0 x4 (IntKind.i64.wrap (x5 + 1)))) else ((xHP N x0 x5).bind fun r1 => bif (r1.2 == 0) then (some ([], x5)) else (bif ((List.length x4 : Int) == 60) then (some ([], x5)) else (if List.length x4 + List.length [r1.1] ≤ Lim then (xEj N n x0 (x4 ++ [r1.1]) (IntKind.i64.wrap (x5 + r1.2))) else none))) else none) else (some (x4, (-1)))
def xF1 (N : Nat) (a0 : Str) : Option ((List Tok) × Int) := bif (decide ((List.length a0 : Int) > 120)) then (some ([], 120)) else ((xEj N N a0 [] 0))
def xDI (a0 : Tok) (a1 : Str) : List Arg := [.val (.v true [.int .i64 (Tok.kind a0), .int .i64 (Tok.n a0), .int .i64 (Tok.pos a0), .str (Tok.text a0)]), .val (.v false [.str a1])]
def xAV (r : Bool) : CallO := ⟨.v false [.bool r], [], []⟩
def xDw (N : Nat) (a0 : Tok) (a1 : Str) : Option (Bool) := bif ((Tok.kind a0) == 4) then (some (((Tok.text a0) : Str) == a1)) else (some false)
def xFh (a0 : Tok) (a1 : Str) : List Arg := [.val (.v true [.int .i64 (Tok.kind a0), .int .i64 (Tok.n a0), .int .i64 (Tok.pos a0), .str (Tok.text a0)]), .val (.v false [.str a1])]
def xEy (r : Bool) : CallO := ⟨.v false [.bool r], [], []⟩
def xGe (N : Nat) (a0 : Tok) (a1 : Str) : Option (Bool) := bif ((Tok.kind a0) == 1) then (some (((Tok.text a0) : Str) == a1)) else (some false)
def xAG (a0 : Rdr) (a1 : Str) : List Arg := [.box (Rr .ro a0), .val (.v false [.str a1])]
def xAe (r : Bool × Rdr) : CallO := ⟨.v false [.bool r.1], [(Rr .ro r.2)], []⟩
def xBz (N : Nat) (a0 : Rdr) (a1 : Str) : Option (Bool × Rdr) := bif (decide ((Rdr.bad a0) < 0)) then (bif (decide ((Rdr.i a0) < (List.length (Rdr.toks a0) : Int))) then (if (0 : Int) ≤ (Rdr.i a0) ∧ (Rdr.i a0) < (List.length (Rdr.toks a0)) then (xDw N (List.getD (Rdr.toks a0) (Int.toNat (Rdr.i a0)) Ty.tok.dflt) a1).bind fun r1 => bif r1 then (some (true, a0)) else ((xGe N (List.getD (Rdr.toks a0) (Int.toNat (Rdr.i a0)) Ty.tok.dflt) a1).bind fun r2 => some (r2, a0)) else none) else (some (false, a0))) else (some (false, a0))
def xFl (a0 : Str) : List Arg := [.val (.v false [.str a0])]
def xBk (r : Bool) : CallO := ⟨.v false [.bool r], [], []⟩
def xDc (N : Nat) : Nat → Str → Int → Option (Bool)
 | 0, _, _ => none
 | n + 1, x0, x3 => bif (decide (x3 < (List.length x0 : Int))) then (if (0 : Int) ≤ x3 ∧ x3 < (List.length x0) then bif (decide ((((List.getD x0 (Int.toNat x3) 0).toNat : Int) : Int) ≥ 97)) then (bif (decide ((((List.getD x0 (Int.toNat x3) 0).toNat : Int) : Int) ≥ 48)) then (bif (!(decide ((((List.getD x0 (Int.toNat x3) 0).toNat : Int) : Int) ≤ 122))) then (bif (x3 == 0) then (some false) else (bif (!(decide ((((List.getD x0 (Int.toNat x3) 0).toNat : Int) : Int) ≤ 57))) then (some false) else ((xDc N n x0 (IntKind.i64.wrap (x3 + 1)))))) else ((xDc N n x0 (IntKind.i64.wrap (x3 + 1))))) else (bif (!(decide ((((List.getD x0 (Int.toNat x3) 0).toNat : Int) : Int) ≤ 122))) then (bif (x3 == 0) then (some false) else (some false)) else ((xDc N n x0 (IntKind.i64.wrap (x3 + 1)))))) else (bif (decide ((((List.getD x0 (Int.toNat x3) 0).toNat : Int) : Int) ≥ 48)) then (bif (x3 == 0) then (some false) else (bif (!(decide ((((List.getD x0 (Int.toNat x3) 0).toNat : Int) : Int) ≤ 57))) then (some false) else ((xDc N n x0 (IntKind.i64.wrap (x3 + 1)))))) else (bif (x3 == 0) then (some false) else (some false))) else none) else (some (decide ((List.length x0 : Int) > 0)))
def xH3 (N : Nat) (a0 : Str) : Option (Bool) := (xDc N N a0 0)
def xFI : List Arg := []
def xE4 (r : (List Str)) : CallO := ⟨.v false [.sl .own .str r], [], []⟩
def xGL (N : Nat) : Option ((List Str)) := some [[108, 101, 116], [105, 110], [105, 102], [116, 104, 101, 110], [101, 108, 115, 101], [102, 111, 114], [100, 111], [108, 101, 110], [115, 117, 109], [116, 97, 107, 101], [115, 107, 105, 112], [114, 97, 110, 103, 101], [110, 116, 104], [119, 104, 101, 114, 101], [107, 101, 101, 112], [97, 100, 100], [103, 114, 111, 117, 112], [106, 111, 105, 110], [99, 111, 108, 117, 109, 110], [114, 111, 119, 115], [99, 108, 111, 99, 107], [99, 104, 97, 110, 99, 101], [102, 105, 108, 101], [116, 97, 98, 108, 101]]
def xHk (a0 : List Str) (a1 : Str) : List Arg := [.val (.v false [.sl .ro .str a0]), .val (.v false [.str a1])]
def xFv (r : Bool) : CallO := ⟨.v false [.bool r], [], []⟩
def xFu (N : Nat) : Nat → (List Str) → Str → Int → Option (Bool)
 | 0, _, _, _ => none
 | n + 1, x0, x1, x5 => bif (decide (x5 < (List.length x0 : Int))) then (if (0 : Int) ≤ x5 ∧ x5 < (List.length x0) then bif (((List.getD x0 (Int.toNat x5) Ty.str.dflt) : Str) == x1) then (some true) else ((xFu N n x0 x1 (IntKind.i64.wrap (x5 + 1)))) else none) else (some false)
def xJB (N : Nat) (a0 : List Str) (a1 : Str) : Option (Bool) := (xFu N N a0 a1 0)
def xFH (a0 : Str) : List Arg := [.val (.v false [.str a0])]
def xE2 (r : Bool) : CallO := ⟨.v false [.bool r], [], []⟩
def xFQ (N : Nat) (a0 : Str) : Option (Bool) := (xGL N).bind fun r1 => (xJB N r1 a0).bind fun r2 => some r2
def xCi (a0 : Str) : List Arg := [.val (.v false [.str a0])]
def xAK (r : Bool) : CallO := ⟨.v false [.bool r], [], []⟩
def xDg (N : Nat) (a0 : Str) : Option (Bool) := (xH3 N a0).bind fun r1 => bif r1 then (bif (decide ((List.length a0 : Int) ≤ 8)) then ((xFQ N a0).bind fun r2 => some (!r2)) else (some false)) else (some false)
def xC9 (a0 : Rdr) : List Arg := [.box (Rr .ro a0)]
def xAU (r : Exp × Rdr) : CallO := ⟨.v true (Ex .own r.1), [(Rr .ro r.2)], []⟩
def xBW (N : Nat) (a0 : Rdr) : Option (Exp × Rdr) := bif (decide ((Rdr.bad a0) < 0)) then (bif (decide ((Rdr.i a0) < (List.length (Rdr.toks a0) : Int))) then (if (0 : Int) ≤ (Rdr.i a0) ∧ (Rdr.i a0) < (List.length (Rdr.toks a0)) then some ((Exp.mk 0 0 [] []), (Rdr.mk (Rdr.toks a0) (Rdr.i a0) (Rdr.fin a0) (Tok.pos (List.getD (Rdr.toks a0) (Int.toNat (Rdr.i a0)) Ty.tok.dflt)))) else none) else (some ((Exp.mk 0 0 [] []), (Rdr.mk (Rdr.toks a0) (Rdr.i a0) (Rdr.fin a0) (Rdr.fin a0))))) else (some ((Exp.mk 0 0 [] []), a0))
def xEa (a0 : Rdr) : List Arg := [.box (Rr .ro a0)]
def xDa (r : Str × Rdr) : CallO := ⟨.v false [.str r.1], [(Rr .ro r.2)], []⟩
def xDK (N : Nat) (a0 : Rdr) : Option (Str × Rdr) := bif (decide ((Rdr.bad a0) ≥ 0)) then ((xBW N a0).bind fun r1 => some ([], r1.2)) else (bif (decide ((Rdr.i a0) ≥ (List.length (Rdr.toks a0) : Int))) then ((xBW N a0).bind fun r1 => some ([], r1.2)) else (if (0 : Int) ≤ (Rdr.i a0) ∧ (Rdr.i a0) < (List.length (Rdr.toks a0)) then bif (((Tok.kind (List.getD (Rdr.toks a0) (Int.toNat (Rdr.i a0)) Ty.tok.dflt)) : Int) != 1) then ((xBW N a0).bind fun r1 => some ([], r1.2)) else ((xDg N (Tok.text (List.getD (Rdr.toks a0) (Int.toNat (Rdr.i a0)) Ty.tok.dflt))).bind fun r1 => bif (!r1) then ((xBW N a0).bind fun r2 => some ([], r2.2)) else (if (0 : Int) ≤ (IntKind.i64.wrap ((IntKind.i64.wrap ((Rdr.i a0) + 1)) - 1)) ∧ (IntKind.i64.wrap ((IntKind.i64.wrap ((Rdr.i a0) + 1)) - 1)) < (List.length (Rdr.toks a0)) then some ((Tok.text (List.getD (Rdr.toks a0) (Int.toNat (IntKind.i64.wrap ((IntKind.i64.wrap ((Rdr.i a0) + 1)) - 1))) Ty.tok.dflt)), (Rdr.mk (Rdr.toks a0) (IntKind.i64.wrap ((Rdr.i a0) + 1)) (Rdr.fin a0) (Rdr.bad a0))) else none)) else none))
def xBI (a0 : Rdr) (a1 : Str) : List Arg := [.box (Rr .ro a0), .val (.v false [.str a1])]
def xAI (r : Rdr) : CallO := ⟨.tup [], [(Rr .ro r)], []⟩
def xBv (N : Nat) (a0 : Rdr) (a1 : Str) : Option (Rdr) := (xBz N a0 a1).bind fun r1 => bif (!r1.1) then ((xBW N r1.2).bind fun r2 => some r2.2) else (some (Rdr.mk (Rdr.toks r1.2) (IntKind.i64.wrap ((Rdr.i r1.2) + 1)) (Rdr.fin r1.2) (Rdr.bad r1.2)))
def xFB (a0 : Int) : List Arg := [.val (.v false [.int .i64 a0])]
def xBs (r : Exp) : CallO := ⟨.v true (Ex .own r), [], []⟩
def xCH (N : Nat) (a0 : Int) : Option (Exp) := some (Exp.mk 1 a0 [] [])
def xFU (a0 : Str) : List Arg := [.val (.v false [.str a0])]
def xEJ (r : Exp) : CallO := ⟨.v true (Ex .own r), [], []⟩
def xHZ (N : Nat) (a0 : Str) : Option (Exp) := some (Exp.mk 3 0 a0 [])
def xAs (a0 : Str) : List Arg := [.val (.v false [.str a0])]
def xAk (r : Int) : CallO := ⟨.v false [.int .i64 r], [], []⟩
def xCc (N : Nat) (a0 : Str) : Option (Int) := bif ((a0 : Str) == [99, 108, 111, 99, 107]) then (some 0) else (bif ((a0 : Str) == [108, 101, 110]) then (some 1) else (bif ((a0 : Str) == [115, 117, 109]) then (some 1) else (bif ((a0 : Str) == [114, 111, 119, 115]) then (some 1) else (bif ((a0 : Str) == [99, 104, 97, 110, 99, 101]) then (some 1) else (bif ((a0 : Str) == [102, 105, 108, 101]) then (some 1) else (bif ((a0 : Str) == [116, 97, 107, 101]) then (some 2) else (bif ((a0 : Str) == [115, 107, 105, 112]) then (some 2) else (bif ((a0 : Str) == [114, 97, 110, 103, 101]) then (some 2) else (bif ((a0 : Str) == [110, 116, 104]) then (some 2) else (bif ((a0 : Str) == [107, 101, 101, 112]) then (some 2) else (bif ((a0 : Str) == [99, 111, 108, 117, 109, 110]) then (some 2) else (bif ((a0 : Str) == [116, 97, 98, 108, 101]) then (some 2) else (bif ((a0 : Str) == [119, 104, 101, 114, 101]) then (some 3) else (bif ((a0 : Str) == [103, 114, 111, 117, 112]) then (some 3) else (bif ((a0 : Str) == [106, 111, 105, 110]) then (some 3) else (bif ((a0 : Str) == [97, 100, 100]) then (some 4) else (some (-1))))))))))))))))))
def xDi (a0 : Int) (a1 : Exp) (a2 : Exp) : List Arg := [.val (.v false [.int .i64 a0]), .val (.v true (Ex .ro a1)), .val (.v true (Ex .ro a2))]
def xBp (r : Exp) : CallO := ⟨.v true (Ex .tip r), [], []⟩
def xDY (N : Nat) (a0 : Int) (a1 : Exp) (a2 : Exp) : Option (Exp) := some (Exp.mk 6 a0 [] [(Exp.re a1), (Exp.re a2)])
def xEK (a0 : Rdr) (a1 : Str) : List Arg := [.box (Rr .ro a0), .val (.v false [.str a1])]
def xCm (r : (List Exp) × Rdr) : CallO := ⟨.v false [.sl .tip .exp r.1], [(Rr .ro r.2)], []⟩
def xFi (N : Nat) (q0 : Rdr → Str → Option ((List Exp) × Rdr)) (q1 : Rdr → Option (Exp × Rdr)) (q2 : Rdr → Option (Exp × Rdr)) (q3 : Rdr → Option (Exp × Rdr)) (q4 : Rdr → Option (Exp × Rdr)) (q5 : Rdr → Option (Exp × Rdr)) : Nat → Str → (List Exp) → Rdr → Option ((List Exp) × Rdr)
 | 0, _, _, _ => none
 | n + 1, x1, x5, b0 => bif (decide ((Rdr.bad b0) < 0)) then ((q3 b0).bind fun r1 => if List.length x5 + List.length [(Exp.re r1.1)] ≤ Lim then (xBz N r1.2 [44]).bind fun r2 => bif (!r2.1) then ((xBv N r2.2 x1).bind fun r3 => some ((x5 ++ [(Exp.re r1.1)]), r3)) else ((xFi N q0 q1 q2 q3 q4 q5 n x1 (x5 ++ [(Exp.re r1.1)]) (Rdr.mk (Rdr.toks r2.2) (IntKind.i64.wrap ((Rdr.i r2.2) + 1)) (Rdr.fin r2.2) (Rdr.bad r2.2)))) else none) else ((xBv N b0 x1).bind fun r1 => some (x5, r1))
def xDZ (N : Nat) (q0 : Rdr → Str → Option ((List Exp) × Rdr)) (q1 : Rdr → Option (Exp × Rdr)) (q2 : Rdr → Option (Exp × Rdr)) (q3 : Rdr → Option (Exp × Rdr)) (q4 : Rdr → Option (Exp × Rdr)) (q5 : Rdr → Option (Exp × Rdr)) (a0 : Rdr) (a1 : Str) : Option ((List Exp) × Rdr) := (xBz N a0 a1).bind fun r1 => bif r1.1 then (some ([], (Rdr.mk (Rdr.toks r1.2) (IntKind.i64.wrap ((Rdr.i r1.2) + 1)) (Rdr.fin r1.2) (Rdr.bad r1.2)))) else ((xFi N q0 q1 q2 q3 q4 q5 N a1 [] r1.2))
def xBq (a0 : Rdr) : List Arg := [.box (Rr .ro a0)]
def xBj (r : Exp × Rdr) : CallO := ⟨.v true (Ex .ro r.1), [(Rr .ro r.2)], []⟩
def xD0 (N : Nat) (q0 : Rdr → Str → Option ((List Exp) × Rdr)) (q1 : Rdr → Option (Exp × Rdr)) (q2 : Rdr → Option (Exp × Rdr)) (q3 : Rdr → Option (Exp × Rdr)) (q4 : Rdr → Option (Exp × Rdr)) (q5 : Rdr → Option (Exp × Rdr)) (a0 : Rdr) : Option (Exp × Rdr) := bif (decide ((Rdr.bad a0) ≥ 0)) then ((xBW N a0).bind fun r1 => some (r1.1, r1.2)) else (bif (decide ((Rdr.i a0) ≥ (List.length (Rdr.toks a0) : Int))) then ((xBW N a0).bind fun r1 => some (r1.1, r1.2)) else (if (0 : Int) ≤ (Rdr.i a0) ∧ (Rdr.i a0) < (List.length (Rdr.toks a0)) then bif (((Tok.kind (List.getD (Rdr.toks a0) (Int.toNat (Rdr.i a0)) Ty.tok.dflt)) : Int) == 2) then ((xCH N (Tok.n (List.getD (Rdr.toks a0) (Int.toNat (Rdr.i a0)) Ty.tok.dflt))).bind fun r1 => some (r1, (Rdr.mk (Rdr.toks a0) (IntKind.i64.wrap ((Rdr.i a0) + 1)) (Rdr.fin a0) (Rdr.bad a0)))) else (bif (((Tok.kind (List.getD (Rdr.toks a0) (Int.toNat (Rdr.i a0)) Ty.tok.dflt)) : Int) == 3) then (some ((Exp.mk 2 0 (Tok.text (List.getD (Rdr.toks a0) (Int.toNat (Rdr.i a0)) Ty.tok.dflt)) []), (Rdr.mk (Rdr.toks a0) (IntKind.i64.wrap ((Rdr.i a0) + 1)) (Rdr.fin a0) (Rdr.bad a0)))) else (bif (((Tok.kind (List.getD (Rdr.toks a0) (Int.toNat (Rdr.i a0)) Ty.tok.dflt)) : Int) == 1) then ((xDg N (Tok.text (List.getD (Rdr.toks a0) (Int.toNat (Rdr.i a0)) Ty.tok.dflt))).bind fun r1 => bif r1 then ((xHZ N (Tok.text (List.getD (Rdr.toks a0) (Int.toNat (Rdr.i a0)) Ty.tok.dflt))).bind fun r2 => some (r2, (Rdr.mk (Rdr.toks a0) (IntKind.i64.wrap ((Rdr.i a0) + 1)) (Rdr.fin a0) (Rdr.bad a0)))) else ((xCc N (Tok.text (List.getD (Rdr.toks a0) (Int.toNat (Rdr.i a0)) Ty.tok.dflt))).bind fun r2 => bif (decide (r2 ≥ 0)) then ((xBv N (Rdr.mk (Rdr.toks a0) (IntKind.i64.wrap ((Rdr.i a0) + 1)) (Rdr.fin a0) (Rdr.bad a0)) [40]).bind fun r3 => (q0 r3 [41]).bind fun r4 => some ((Exp.mk 5 0 (Tok.text (List.getD (Rdr.toks a0) (Int.toNat (Rdr.i a0)) Ty.tok.dflt)) r4.1), r4.2)
     ) else ((xDw N (List.getD (Rdr.toks a0) (Int.toNat (Rdr.i a0)) Ty.tok.dflt) [91]).bind fun r3 => bif r3 then ((q0 (Rdr.mk (Rdr.toks a0) (IntKind.i64.wrap ((Rdr.i a0) + 1)) (Rdr.fin a0) (Rdr.bad a0)) [93]).bind fun r4 => some ((Exp.mk 4 0 [] r4.1), r4.2)) else ((xDw N (List.getD (Rdr.toks a0) (Int.toNat (Rdr.i a0)) Ty.tok.dflt) [40]).bind fun r4 => bif r4 then ((q3 (Rdr.mk (Rdr.toks a0) (IntKind.i64.wrap ((Rdr.i a0) + 1)) (Rdr.fin a0) (Rdr.bad a0))).bind fun r5 => (xBv N r5.2 [41]).bind fun r6 => some (r5.1, r6)) else ((xBW N a0).bind fun r5 => some (r5.1, r5.2)))))) else ((xDw N (List.getD (Rdr.toks a0) (Int.toNat (Rdr.i a0)) Ty.tok.dflt) [91]).bind fun r1 => bif r1 then ((q0 (Rdr.mk (Rdr.toks a0) (IntKind.i64.wrap ((Rdr.i a0) + 1)) (Rdr.fin a0) (Rdr.bad a0)) [93]).bind fun r2 => some ((Exp.mk 4 0 [] r2.1), r2.2)) else ((xDw N (List.getD (Rdr.toks a0) (Int.toNat (Rdr.i a0)) Ty.tok.dflt) [40]).bind fun r2 => bif r2 then ((q3 (Rdr.mk (Rdr.toks a0) (IntKind.i64.wrap ((Rdr.i a0) + 1)) (Rdr.fin a0) (Rdr.bad a0))).bind fun r3 => (xBv N r3.2 [41]).bind fun r4 => some (r3.1, r4)) else ((xBW N a0).bind fun r3 => some (r3.1, r3.2)))))) else none))
def xDz (a0 : Rdr) : List Arg := [.box (Rr .ro a0)]
def xC3 (r : Exp × Rdr) : CallO := ⟨.v true (Ex .ro r.1), [(Rr .ro r.2)], []⟩
def xCY (N : Nat) (q0 : Rdr → Str → Option ((List Exp) × Rdr)) (q1 : Rdr → Option (Exp × Rdr)) (q2 : Rdr → Option (Exp × Rdr)) (q3 : Rdr → Option (Exp × Rdr)) (q4 : Rdr → Option (Exp × Rdr)) (q5 : Rdr → Option (Exp × Rdr)) (a0 : Rdr) : Option (Exp × Rdr) := (q5 a0).bind fun r1 => (xBz N r1.2 [60]).bind fun r2 => bif r2.1 then ((q5 (Rdr.mk (Rdr.toks r2.2) (IntKind.i64.wrap ((Rdr.i r2.2) + 1)) (Rdr.fin r2.2) (Rdr.bad r2.2))).bind fun r3 => (xDY N 4 r1.1 r3.1).bind fun r4 => some (r4, r3.2)) else ((xBz N r2.2 [61, 61]).bind fun r3 => bif r3.1 then ((q5 (Rdr.mk (Rdr.toks r3.2) (IntKind.i64.wrap ((Rdr.i r3.2) + 1)) (Rdr.fin r3.2) (Rdr.bad r3.2))).bind fun r4 => (xDY N 5 r1.1 r4.1).bind fun r5 => some (r5, r4.2)) else (some (r1.1, r3.2)))
def xCn (a0 : Rdr) : List Arg := [.box (Rr .ro a0)]
def xAu (r : Exp × Rdr) : CallO := ⟨.v true (Ex .ro r.1), [(Rr .ro r.2)], []⟩
def xD1 (N : Nat) (q0 : Rdr → Str → Option ((List Exp) × Rdr)) (q1 : Rdr → Option (Exp × Rdr)) (q2 : Rdr → Option (Exp × Rdr)) (q3 : Rdr → Option (Exp × Rdr)) (q4 : Rdr → Option (Exp × Rdr)) (q5 : Rdr → Option (Exp × Rdr)) (a0 : Rdr) : Option (Exp × Rdr) := (xBz N a0 [108, 101, 116]).bind fun r1 => bif r1.1 then ((xDK N (Rdr.mk (Rdr.toks r1.2) (IntKind.i64.wrap ((Rdr.i r1.2) + 1)) (Rdr.fin r1.2) (Rdr.bad r1.2))).bind fun r2 => (xBv N r2.2 [61]).bind fun r3 => (q3 r3).bind fun r4 => (xBv N r4.2 [105, 110]).bind fun r5 => (q3 r5).bind fun r6 => some ((Exp.mk 7 0 r2.1 [(Exp.re r4.1), (Exp.re r6.1)]), r6.2)) else ((xBz N r1.2 [105, 102]).bind fun r2 => bif r2.1 then ((q3 (Rdr.mk (Rdr.toks r2.2) (IntKind.i64.wrap ((Rdr.i r2.2) + 1)) (Rdr.fin r2.2) (Rdr.bad r2.2))).bind fun r3 => (xBv N r3.2 [116, 104, 101, 110]).bind fun r4 => (q3 r4).bind fun r5 => (xBv N r5.2 [101, 108, 115, 101]).bind fun r6 => (q3 r6).bind fun r7 => some ((Exp.mk 8 0 [] [(Exp.re r3.1), (Exp.re r5.1), (Exp.re r7.1)]), r7.2)) else ((xBz N r2.2 [102, 111, 114]).bind fun r3 => bif r3.1 then ((xDK N (Rdr.mk (Rdr.toks r3.2) (IntKind.i64.wrap ((Rdr.i r3.2) + 1)) (Rdr.fin r3.2) (Rdr.bad r3.2))).bind fun r4 => (xBv N r4.2 [105, 110]).bind fun r5 => (q3 r5).bind fun r6 => (xBv N r6.2 [100, 111]).bind fun r7 => (q3 r7).bind fun r8 => some ((Exp.mk 9 0 r4.1 [(Exp.re r6.1), (Exp.re r8.1)]), r8.2)) else ((q2 r3.2).bind fun r4 => some (r4.1, r4.2))))
def xEf (a0 : Rdr) : List Arg := [.box (Rr .ro a0)]
def xBG (r : Exp × Rdr) : CallO := ⟨.v true (Ex .ro r.1), [(Rr .ro r.2)], []⟩
def xC4 (N : Nat) (q0 : Rdr → Str → Option ((List Exp) × Rdr)) (q1 : Rdr → Option (Exp × Rdr)) (q2 : Rdr → Option (Exp × Rdr)) (q3 : Rdr → Option (Exp × Rdr)) (q4 : Rdr → Option (Exp × Rdr)) (q5 : Rdr → Option (Exp × Rdr)) : Nat → Rdr → Exp → Exp → Option (Exp × Rdr)
 | 0, _, _, _ => none
 | n + 1, b0, b2, b3 => (xBz N b0 [42]).bind fun r1 => bif r1.1 then ((q1 (Rdr.mk (Rdr.toks r1.2) (IntKind.i64.wrap ((Rdr.i r1.2) + 1)) (Rdr.fin r1.2) (Rdr.bad r1.2))).bind fun r2 => (xDY N 3 b3 r2.1).bind fun r3 => (xC4 N q0 q1 q2 q3 q4 q5 n r2.2 b2 r3)) else (some (b3, r1.2))
def xCZ (N : Nat) (q0 : Rdr → Str → Option ((List Exp) × Rdr)) (q1 : Rdr → Option (Exp × Rdr)) (q2 : Rdr → Option (Exp × Rdr)) (q3 : Rdr → Option (Exp × Rdr)) (q4 : Rdr → Option (Exp × Rdr)) (q5 : Rdr → Option (Exp × Rdr)) (a0 : Rdr) : Option (Exp × Rdr) := (q1 a0).bind fun r1 => (xC4 N q0 q1 q2 q3 q4 q5 N r1.2 (Exp.mk 0 0 [] []) r1.1)
def xEv (a0 : Rdr) : List Arg := [.box (Rr .ro a0)]
def xCe (r : Exp × Rdr) : CallO := ⟨.v true (Ex .ro r.1), [(Rr .ro r.2)], []⟩
def xCP (N : Nat) (q0 : Rdr → Str → Option ((List Exp) × Rdr)) (q1 : Rdr → Option (Exp × Rdr)) (q2 : Rdr → Option (Exp × Rdr)) (q3 : Rdr → Option (Exp × Rdr)) (q4 : Rdr → Option (Exp × Rdr)) (q5 : Rdr → Option (Exp × Rdr)) : Nat → Rdr → Exp → Exp → Option (Exp × Rdr)
 | 0, _, _, _ => none
 | n + 1, b0, b2, b3 => (xBz N b0 [43]).bind fun r1 => bif r1.1 then ((xBz N r1.2 [45]).bind fun r2 => bif r2.1 then ((q4 (Rdr.mk (Rdr.toks r2.2) (IntKind.i64.wrap ((Rdr.i r2.2) + 1)) (Rdr.fin r2.2) (Rdr.bad r2.2))).bind fun r3 => (xDY N 2 b3 r3.1).bind fun r4 => (xCP N q0 q1 q2 q3 q4 q5 n r3.2 b2 r4)) else ((q4 (Rdr.mk (Rdr.toks r2.2) (IntKind.i64.wrap ((Rdr.i r2.2) + 1)) (Rdr.fin r2.2) (Rdr.bad r2.2))).bind fun r3 => (xDY N 1 b3 r3.1).bind fun r4 => (xCP N q0 q1 q2 q3 q4 q5 n r3.2 b2 r4))) else ((xBz N r1.2 [45]).bind fun r2 => bif r2.1 then ((xBz N r2.2 [45]).bind fun r3 => bif r3.1 then ((q4 (Rdr.mk (Rdr.toks r3.2) (IntKind.i64.wrap ((Rdr.i r3.2) + 1)) (Rdr.fin r3.2) (Rdr.bad r3.2))).bind fun r4 => (xDY N 2 b3 r4.1).bind fun r5 => (xCP N q0 q1 q2 q3 q4 q5 n r4.2 b2 r5)) else ((q4 (Rdr.mk (Rdr.toks r3.2) (IntKind.i64.wrap ((Rdr.i r3.2) + 1)) (Rdr.fin r3.2) (Rdr.bad r3.2))).bind fun r4 => (xDY N 1 b3 r4.1).bind fun r5 => (xCP N q0 q1 q2 q3 q4 q5 n r4.2 b2 r5))) else (some (b3, r2.2)))
def xEk (N : Nat) (q0 : Rdr → Str → Option ((List Exp) × Rdr)) (q1 : Rdr → Option (Exp × Rdr)) (q2 : Rdr → Option (Exp × Rdr)) (q3 : Rdr → Option (Exp × Rdr)) (q4 : Rdr → Option (Exp × Rdr)) (q5 : Rdr → Option (Exp × Rdr)) (a0 : Rdr) : Option (Exp × Rdr) := (q4 a0).bind fun r1 => (xCP N q0 q1 q2 q3 q4 q5 N r1.2 (Exp.mk 0 0 [] []) r1.1)
structure spec_l11Args_rec where
 c_spec_l11Args : Rdr → Str → Option ((List Exp) × Rdr)
 c_spec_l11Atom : Rdr → Option (Exp × Rdr)
 c_spec_l11Compare : Rdr → Option (Exp × Rdr)
 c_spec_l11Expr : Rdr → Option (Exp × Rdr)
 c_spec_l11Product : Rdr → Option (Exp × Rdr)
 c_spec_l11Sum : Rdr → Option (Exp × Rdr)
def xAa (N : Nat) : Nat → spec_l11Args_rec
 | 0 => ⟨fun _ _ => none, fun _ => none, fun _ => none, fun _ => none, fun _ => none, fun _ => none⟩
 | d + 1 => ⟨xDZ N (xAa N d).c_spec_l11Args (xAa N d).c_spec_l11Atom (xAa N d).c_spec_l11Compare (xAa N d).c_spec_l11Expr (xAa N d).c_spec_l11Product (xAa N d).c_spec_l11Sum, xD0 N (xAa N d).c_spec_l11Args (xAa N d).c_spec_l11Atom (xAa N d).c_spec_l11Compare (xAa N d).c_spec_l11Expr (xAa N d).c_spec_l11Product (xAa N d).c_spec_l11Sum, xCY N (xAa N d).c_spec_l11Args (xAa N d).c_spec_l11Atom (xAa N d).c_spec_l11Compare (xAa N d).c_spec_l11Expr (xAa N d).c_spec_l11Product (xAa N d).c_spec_l11Sum, xD1 N (xAa N d).c_spec_l11Args (xAa N d).c_spec_l11Atom (xAa N d).c_spec_l11Compare (xAa N d).c_spec_l11Expr (xAa N d).c_spec_l11Product (xAa N d).c_spec_l11Sum, xCZ N (xAa N d).c_spec_l11Args (xAa N d).c_spec_l11Atom (xAa N d).c_spec_l11Compare (xAa N d).c_spec_l11Expr (xAa N d).c_spec_l11Product (xAa N d).c_spec_l11Sum, xEk N (xAa N d).c_spec_l11Args (xAa N d).c_spec_l11Atom (xAa N d).c_spec_l11Compare (xAa N d).c_spec_l11Expr (xAa N d).c_spec_l11Product (xAa N d).c_spec_l11Sum⟩
def xH1 (N : Nat) (a0 : Rdr) : Option (Exp × Rdr) := (xAa N N).c_spec_l11Expr a0
def xDy (a0 : Exp) (a1 : Int) : List Arg := [.val (.v true (Ex .ro a0)), .val (.v false [.int .i64 a1])]
def xBH (r : Int) : CallO := ⟨.v false [.int .i64 r], [], []⟩
def xD9 (N : Nat) (q0 : Exp → Int → Option (Int)) : Nat → Int → Int → Exp → Option (Int)
 | 0, _, _, _ => none
 | n + 1, x1, x5, b2 => bif (decide (x5 < (List.length (Exp.args b2) : Int))) then (bif (decide (x1 ≥ 0)) then (if (0 : Int) ≤ x5 ∧ x5 < (List.length (Exp.args b2)) then (q0 (List.getD (Exp.args b2) (Int.toNat x5) Ty.exp.dflt) x1).bind fun r1 => (xD9 N q0 n r1 (IntKind.i64.wrap (x5 + 1)) b2) else none) else (some x1)) else (some x1)
def xGW (N : Nat) (q0 : Exp → Int → Option (Int)) (a0 : Exp) (a1 : Int) : Option (Int) := (xD9 N q0 N (IntKind.i64.wrap (a1 - 1)) 0 a0)
def xET (N : Nat) : Nat → Exp → Int → Option (Int)
 | 0, _, _ => none
 | d + 1, a0, a1 => xGW N (xET N d) a0 a1
def xJq (N : Nat) (a0 : Exp) (a1 : Int) : Option (Int) := xET N N a0 a1
def xGJ (a0 : Int) (a1 : Int) : List Arg := [.val (.v false [.int .i64 a0]), .val (.v false [.int .i64 a1])]
def xF3 (r : Int) : CallO := ⟨.v false [.int .i64 r], [], []⟩
def xIq (N : Nat) (a0 : Int) (a1 : Int) : Option (Int) := bif (decide (a0 > a1)) then (some a0) else (some a1)
def xDp (a0 : Exp) : List Arg := [.val (.v true (Ex .ro a0))]
def xBQ (r : Int) : CallO := ⟨.v false [.int .i64 r], [], []⟩
def xEz (N : Nat) (q0 : Exp → Option (Int)) : Nat → Int → Int → Exp → Option (Int)
 | 0, _, _, _ => none
 | n + 1, x3, x4, b1 => bif (decide (x4 < (List.length (Exp.args b1) : Int))) then (if (0 : Int) ≤ x4 ∧ x4 < (List.length (Exp.args b1)) then (q0 (List.getD (Exp.args b1) (Int.toNat x4) Ty.exp.dflt)).bind fun r1 => (xIq N x3 r1).bind fun r2 => (xEz N q0 n r2 (IntKind.i64.wrap (x4 + 1)) b1) else none) else (some (IntKind.i64.wrap (x3 + 1)))
def xGv (N : Nat) (q0 : Exp → Option (Int)) (a0 : Exp) : Option (Int) := (xEz N q0 N 0 0 a0)
def xE3 (N : Nat) : Nat → Exp → Option (Int)
 | 0, _ => none
 | d + 1, a0 => xGv N (xE3 N d) a0
def xIe (N : Nat) (a0 : Exp) : Option (Int) := xE3 N N a0
def xFp (a0 : Int) (a1 : Int) (a2 : Int) : List Arg := [.val (.v false [.int .i64 a0]), .val (.v false [.int .i64 a1]), .val (.v false [.int .i64 a2])]
def xDL (r : Bool) : CallO := ⟨.v false [.bool r], [], []⟩
def xHM (N : Nat) (a0 : Int) (a1 : Int) (a2 : Int) : Option (Bool) := bif (decide (a0 ≥ a1)) then (some (decide (a0 ≤ a2))) else (some false)
def xAy (a0 : Exp) : List Arg := [.val (.v true (Ex .ro a0))]
def xAx (r : Bool) : CallO := ⟨.v false [.bool r], [], []⟩
def xG9 (N : Nat) (a0 : Exp) : Option (Bool) := bif ((Exp.kind a0) == 1) then (bif ((List.length (Exp.args a0) : Int) == 0) then (bif (((Exp.text a0) : Str) == []) then ((xHM N (Exp.n a0) 0 1000000000).bind fun r1 => some r1) else (some false)) else (some false)) else (bif ((Exp.kind a0) == 2) then (bif ((List.length (Exp.args a0) : Int) == 0) then (bif ((Exp.n a0) == 0) then ((xEQ N (Exp.text a0)).bind fun r1 => some r1) else (some false)) else (some false)) else (bif ((Exp.kind a0) == 3) then (bif ((List.length (Exp.args a0) : Int) == 0) then (bif ((Exp.n a0) == 0) then ((xDg N (Exp.text a0)).bind fun r1 => some r1) else (some false)) else (some false)) else (bif ((Exp.kind a0) == 4) then (bif ((Exp.n a0) == 0) then (bif (((Exp.text a0) : Str) == []) then (some (decide ((List.length (Exp.args a0) : Int) ≤ 8))) else (some false)) else (some false)) else (bif ((Exp.kind a0) == 5) then (bif ((Exp.n a0) == 0) then ((xCc N (Exp.text a0)).bind fun r1 => some ((List.length (Exp.args a0) : Int) == r1)) else (some false)) else (bif ((Exp.kind a0) == 6) then (bif (((Exp.text a0) : Str) == []) then (bif ((List.length (Exp.args a0) : Int) == 2) then ((xHM N (Exp.n a0) 1 5).bind fun r1 => some r1) else (some false)) else (some false)) else (bif ((Exp.kind a0) == 7) then (bif ((Exp.n a0) == 0) then (bif ((List.length (Exp.args a0) : Int) == 2) then ((xDg N (Exp.text a0)).bind fun r1 => some r1) else (some false)) else (some false)) else (bif ((Exp.kind a0) == 9) then (bif ((Exp.n a0) == 0) then (bif ((List.length (Exp.args a0) : Int) == 2) then ((xDg N (Exp.text a0)).bind fun r1 => some r1) else (some false)) else (some false)) else (bif ((Exp.kind a0) == 8) then (bif ((Exp.n a0) == 0) then (bif (((Exp.text a0) : Str) == []) then (some ((List.length (Exp.args a0) : Int) == 3)
            ) else (some false)) else (some false)) else (some false)))))))))
def xEu (a0 : Exp) : List Arg := [.val (.v true (Ex .ro a0))]
def xCr (r : Bool) : CallO := ⟨.v false [.bool r], [], []⟩
def xFa (N : Nat) (q0 : Exp → Option (Bool)) : Nat → Int → Exp → Option (Bool)
 | 0, _, _ => none
 | n + 1, x3, b1 => bif (decide (x3 < (List.length (Exp.args b1) : Int))) then (if (0 : Int) ≤ x3 ∧ x3 < (List.length (Exp.args b1)) then (q0 (List.getD (Exp.args b1) (Int.toNat x3) Ty.exp.dflt)).bind fun r1 => bif (!r1) then (some false) else ((xFa N q0 n (IntKind.i64.wrap (x3 + 1)) b1)) else none) else ((xG9 N b1).bind fun r1 => some r1)
def xHe (N : Nat) (q0 : Exp → Option (Bool)) (a0 : Exp) : Option (Bool) := (xFa N q0 N 0 a0)
def xFS (N : Nat) : Nat → Exp → Option (Bool)
 | 0, _ => none
 | d + 1, a0 => xHe N (xFS N d) a0
def xJ8 (N : Nat) (a0 : Exp) : Option (Bool) := xFS N N a0
def xBZ (a0 : Exp) : List Arg := [.val (.v true (Ex .ro a0))]
def xAE (r : Bool) : CallO := ⟨.v false [.bool r], [], []⟩
def xCj (N : Nat) (a0 : Exp) : Option (Bool) := (xJq N a0 40).bind fun r1 => bif (decide (r1 ≥ 0)) then ((xIe N a0).bind fun r2 => bif (decide (r2 ≤ 8)) then ((xJ8 N a0).bind fun r3 => some r3) else (some false)) else (some false)
def xBD (a0 : Str) : List Arg := [.val (.v false [.str a0])]
def xAO (r : Exp × Int) : CallO := ⟨.tup [(true, (Ex .ro r.1)), (false, [.int .i64 r.2])], [], []⟩
def xE9 (N : Nat) (a0 : Str) : Option (Exp × Int) := (xF1 N a0).bind fun r1 => bif (decide (r1.2 ≥ 0)) then (some ((Exp.mk 0 0 [] []), r1.2)) else ((xH1 N (Rdr.mk r1.1 0 (List.length a0 : Int) (-1))).bind fun r2 => bif (decide ((Rdr.bad r2.2) < 0)) then (bif (decide ((Rdr.i r2.2) < (List.length r1.1 : Int))) then ((xBW N r2.2).bind fun r3 => bif (decide ((Rdr.bad r3.2) ≥ 0)) then (some ((Exp.mk 0 0 [] []), (Rdr.bad r3.2))) else ((xCj N r2.1).bind fun r4 => bif (!r4) then (some ((Exp.mk 0 0 [] []), 0)) else (some (r2.1, (-1))))) else (bif (decide ((Rdr.bad r2.2) ≥ 0)) then (some ((Exp.mk 0 0 [] []), (Rdr.bad r2.2))) else ((xCj N r2.1).bind fun r3 => bif (!r3) then (some ((Exp.mk 0 0 [] []), 0)) else (some (r2.1, (-1)))))) else (bif (decide ((Rdr.bad r2.2) ≥ 0)) then (some ((Exp.mk 0 0 [] []), (Rdr.bad r2.2))) else ((xCj N r2.1).bind fun r3 => bif (!r3) then (some ((Exp.mk 0 0 [] []), 0)) else (some (r2.1, (-1))))))
def xKi (a0 : Str) (a1 : Int) (a2 : Int) : List Arg := [.val (.v false [.str a0]), .val (.v false [.int .i64 a1]), .val (.v false [.int .i64 a2])]
def xGC (r : Int × Bool) : CallO := ⟨.tup [(false, [.int .i64 r.1]), (false, [.bool r.2])], [], []⟩
def xHp (N : Nat) (a0 : Str) (a1 a2 : Int) : Option (Int × Bool) := zEo a0 a1 a2
def xGa (a0 : Str) (a1 : Int) : List Arg := [.val (.v false [.str a0]), .val (.v false [.int .u8 a1])]
def xAX (r : Int) : CallO := ⟨.v false [.int .i64 r], [], []⟩
def strings_IndexByte (N : Nat) (a0 : Str) (a1 : Int) : Option Int := zFH a0 a1
def xDR (a0 : Str) : List Arg := [.val (.v false [.str a0])]
def xAW (r : Bool) : CallO := ⟨.v false [.bool r], [], []⟩
def xEB (N : Nat) : Nat → Str → Int → Option (Bool)
 | 0, _, _ => none
 | n + 1, x0, x3 => bif (decide (x3 < (List.length x0 : Int))) then (if (0 : Int) ≤ x3 ∧ x3 < (List.length x0) then bif (decide ((((List.getD x0 (Int.toNat x3) 0).toNat : Int) : Int) < 32)) then (some false) else (bif (decide ((((List.getD x0 (Int.toNat x3) 0).toNat : Int) : Int) > 126)) then (some false) else (bif ((((List.getD x0 (Int.toNat x3) 0).toNat : Int) : Int) == 34) then (some false) else ((xEB N n x0 (IntKind.i64.wrap (x3 + 1)))))) else none) else (some (decide ((List.length x0 : Int) ≤ 20)))
def xDf (N : Nat) (a0 : Str) : Option (Bool) := (xEB N N a0 0)
def xHj (a0 : Str) (a1 : Str) : List Arg := [.val (.v false [.str a0]), .val (.v false [.str a1])]
def xBK (r : Bool) : CallO := ⟨.v false [.bool r], [], []⟩
def strings_HasPrefix (N : Nat) (a0 a1 : Str) : Option Bool := zFG a0 a1
def xAN (a0 : Str) (a1 : Int) : List Arg := [.val (.v false [.str a0]), .val (.v false [.int .i64 a1])]
def xAY (r : Tok × Int × Bool) : CallO := ⟨.tup [(true, [.int .i64 (Tok.kind r.1), .int .i64 (Tok.n r.1), .int .i64 (Tok.pos r.1), .str (Tok.text r.1)]), (false, [.int .i64 r.2.1]), (false, [.bool r.2.2])], [], []⟩
def xCF (N : Nat) : Nat → Str → Int → Int → Tok → Option (Tok × Int × Bool)
 | 0, _, _, _, _ => none
 | n + 1, x0, x1, x7, b4 => bif (decide (x7 < (List.length x0 : Int))) then (if (0 : Int) ≤ x7 ∧ x7 < (List.length x0) then bif (decide ((((List.getD x0 (Int.toNat x7) 0).toNat : Int) : Int) ≥ 97)) then (bif (decide ((((List.getD x0 (Int.toNat x7) 0).toNat : Int) : Int) ≤ 122)) then ((xCF N n x0 x1 (IntKind.i64.wrap (x7 + 1)) b4)) else (bif (decide ((((List.getD x0 (Int.toNat x7) 0).toNat : Int) : Int) ≥ 48)) then (bif (decide ((((List.getD x0 (Int.toNat x7) 0).toNat : Int) : Int) ≤ 57)) then ((xCF N n x0 x1 (IntKind.i64.wrap (x7 + 1)) b4)) else (if (0 : Int) ≤ x1 ∧ x1 ≤ x7 ∧ x7 ≤ (List.length x0) then some ((Tok.mk 1 0 x1 (List.drop (Int.toNat x1) (List.take (Int.toNat x7) x0))), x7, (decide ((IntKind.i64.wrap (x7 - x1)) ≤ 8))) else none)) else (if (0 : Int) ≤ x1 ∧ x1 ≤ x7 ∧ x7 ≤ (List.length x0) then some ((Tok.mk 1 0 x1 (List.drop (Int.toNat x1) (List.take (Int.toNat x7) x0))), x7, (decide ((IntKind.i64.wrap (x7 - x1)) ≤ 8))) else none))) else (bif (decide ((((List.getD x0 (Int.toNat x7) 0).toNat : Int) : Int) ≥ 48)) then (bif (decide ((((List.getD x0 (Int.toNat x7) 0).toNat : Int) : Int) ≤ 57)) then ((xCF N n x0 x1 (IntKind.i64.wrap (x7 + 1)) b4)) else (if (0 : Int) ≤ x1 ∧ x1 ≤ x7 ∧ x7 ≤ (List.length x0) then some ((Tok.mk 1 0 x1 (List.drop (Int.toNat x1) (List.take (Int.toNat x7) x0))), x7, (decide ((IntKind.i64.wrap (x7 - x1)) ≤ 8))) else none)) else (if (0 : Int) ≤ x1 ∧ x1 ≤ x7 ∧ x7 ≤ (List.length x0) then some ((Tok.mk 1 0 x1 (List.drop (Int.toNat x1) (List.take (Int.toNat x7) x0))), x7, (decide ((IntKind.i64.wrap (x7 - x1)) ≤ 8))) else none)) else none) else (if (0 : Int) ≤ x1 ∧ x1 ≤ x7 ∧ x7 ≤ (List.length x0) then some ((Tok.mk 1 0 x1 (List.drop (Int.toNat x1) (List.take (Int.toNat x7) x0))), x7, (decide ((IntKind.i64.wrap (x7 - x1)) ≤ 8))) else none)
def xC5 (N : Nat) : Nat → Str → Int → Int → Tok → Option (Tok × Int × Bool)
 | 0, _, _, _, _ => none
 | n + 1, x0, x1, x7, b4 => bif (decide (x7 < (List.length x0 : Int))) then (if (0 : Int) ≤ x7 ∧ x7 < (List.length x0) then bif (decide ((((List.getD x0 (Int.toNat x7) 0).toNat : Int) : Int) ≥ 48)) then (bif (decide ((((List.getD x0 (Int.toNat x7) 0).toNat : Int) : Int) ≤ 57)) then ((xC5 N n x0 x1 (IntKind.i64.wrap (x7 + 1)) b4)) else (if (0 : Int) ≤ x1 ∧ x1 ≤ x7 ∧ x7 ≤ (List.length x0) then (xHp N (List.drop (Int.toNat x1) (List.take (Int.toNat x7) x0)) 0 1000000000).bind fun r1 => some ((Tok.mk 2 r1.1 x1 []), x7, r1.2) else none)) else (if (0 : Int) ≤ x1 ∧ x1 ≤ x7 ∧ x7 ≤ (List.length x0) then (xHp N (List.drop (Int.toNat x1) (List.take (Int.toNat x7) x0)) 0 1000000000).bind fun r1 => some ((Tok.mk 2 r1.1 x1 []), x7, r1.2) else none) else none) else (if (0 : Int) ≤ x1 ∧ x1 ≤ x7 ∧ x7 ≤ (List.length x0) then (xHp N (List.drop (Int.toNat x1) (List.take (Int.toNat x7) x0)) 0 1000000000).bind fun r1 => some ((Tok.mk 2 r1.1 x1 []), x7, r1.2) else none)
def xG6 (N : Nat) (a0 : Str) (a1 : Int) : Option (Tok × Int × Bool) := if (0 : Int) ≤ a1 ∧ a1 < (List.length a0) then bif (decide ((((List.getD a0 (Int.toNat a1) 0).toNat : Int) : Int) ≥ 97)) then (bif (decide ((((List.getD a0 (Int.toNat a1) 0).toNat : Int) : Int) ≤ 122)) then ((xCF N N a0 a1 a1 (Tok.mk 0 0 0 []))) else (bif (decide ((((List.getD a0 (Int.toNat a1) 0).toNat : Int) : Int) ≥ 48)) then (bif (decide ((((List.getD a0 (Int.toNat a1) 0).toNat : Int) : Int) ≤ 57)) then ((xC5 N N a0 a1 a1 (Tok.mk 0 0 0 []))) else (bif ((((List.getD a0 (Int.toNat a1) 0).toNat : Int) : Int) == 34) then (if (0 : Int) ≤ (IntKind.i64.wrap (a1 + 1)) ∧ (IntKind.i64.wrap (a1 + 1)) ≤ (List.length a0) then (strings_IndexByte N (List.drop (Int.toNat (IntKind.i64.wrap (a1 + 1))) a0) 34).bind fun r1 => bif (decide (r1 < 0)) then (some ((Tok.mk 0 0 0 []), 0, false)) else (if (0 : Int) ≤ (IntKind.i64.wrap (a1 + 1)) ∧ (IntKind.i64.wrap (a1 + 1)) ≤ (IntKind.i64.wrap ((IntKind.i64.wrap (a1 + 1)) + r1)) ∧ (IntKind.i64.wrap ((IntKind.i64.wrap (a1 + 1)) + r1)) ≤ (List.length a0) then (xDf N (List.drop (Int.toNat (IntKind.i64.wrap (a1 + 1))) (List.take (Int.toNat (IntKind.i64.wrap ((IntKind.i64.wrap (a1 + 1)) + r1))) a0))).bind fun r2 => some ((Tok.mk 3 0 a1 (List.drop (Int.toNat (IntKind.i64.wrap (a1 + 1))) (List.take (Int.toNat (IntKind.i64.wrap ((IntKind.i64.wrap (a1 + 1)) + r1))) a0))), (IntKind.i64.wrap ((IntKind.i64.wrap (a1 + r1)) + 2)), r2) else none) else none) else (if (0 : Int) ≤ a1 ∧ a1 ≤ (List.length a0) then (strings_HasPrefix N (List.drop (Int.toNat a1) a0) [61, 61]).bind fun r1 => bif r1 then (some ((Tok.mk 4 0 a1 [61, 61]), (IntKind.i64.wrap (a1 + 2)), true)) else (if (0 : Int) ≤ a1 ∧ a1 ≤ (IntKind.i64.wrap (a1 + 1)) ∧ (IntKind.i64.wrap (a1 + 1)) ≤ (List.length a0) then (strings_IndexByte N [40, 41, 91, 93, 44, 43, 45, 42, 60, 61] ((List.getD a0 (Int.toNat a1) 0).toNat : Int)).bind fun r2 =>
     some ((Tok.mk 4 0 a1 (List.drop (Int.toNat a1) (List.take (Int.toNat (IntKind.i64.wrap (a1 + 1))) a0))), (IntKind.i64.wrap (a1 + 1)), (decide (r2 ≥ 0))) else none) else none))) else (bif ((((List.getD a0 (Int.toNat a1) 0).toNat : Int) : Int) == 34) then (if (0 : Int) ≤ (IntKind.i64.wrap (a1 + 1)) ∧ (IntKind.i64.wrap (a1 + 1)) ≤ (List.length a0) then (strings_IndexByte N (List.drop (Int.toNat (IntKind.i64.wrap (a1 + 1))) a0) 34).bind fun r1 => bif (decide (r1 < 0)) then (some ((Tok.mk 0 0 0 []), 0, false)) else (if (0 : Int) ≤ (IntKind.i64.wrap (a1 + 1)) ∧ (IntKind.i64.wrap (a1 + 1)) ≤ (IntKind.i64.wrap ((IntKind.i64.wrap (a1 + 1)) + r1)) ∧ (IntKind.i64.wrap ((IntKind.i64.wrap (a1 + 1)) + r1)) ≤ (List.length a0) then (xDf N (List.drop (Int.toNat (IntKind.i64.wrap (a1 + 1))) (List.take (Int.toNat (IntKind.i64.wrap ((IntKind.i64.wrap (a1 + 1)) + r1))) a0))).bind fun r2 => some ((Tok.mk 3 0 a1 (List.drop (Int.toNat (IntKind.i64.wrap (a1 + 1))) (List.take (Int.toNat (IntKind.i64.wrap ((IntKind.i64.wrap (a1 + 1)) + r1))) a0))), (IntKind.i64.wrap ((IntKind.i64.wrap (a1 + r1)) + 2)), r2) else none) else none) else (if (0 : Int) ≤ a1 ∧ a1 ≤ (List.length a0) then (strings_HasPrefix N (List.drop (Int.toNat a1) a0) [61, 61]).bind fun r1 => bif r1 then (some ((Tok.mk 4 0 a1 [61, 61]), (IntKind.i64.wrap (a1 + 2)), true)) else (if (0 : Int) ≤ a1 ∧ a1 ≤ (IntKind.i64.wrap (a1 + 1)) ∧ (IntKind.i64.wrap (a1 + 1)) ≤ (List.length a0) then (strings_IndexByte N [40, 41, 91, 93, 44, 43, 45, 42, 60, 61] ((List.getD a0 (Int.toNat a1) 0).toNat : Int)).bind fun r2 => some ((Tok.mk 4 0 a1 (List.drop (Int.toNat a1) (List.take (Int.toNat (IntKind.i64.wrap (a1 + 1))) a0))), (IntKind.i64.wrap (a1 + 1)), (decide (r2 ≥ 0))) else none) else none)))) else (bif (decide ((((List.getD a0 (Int.toNat a1) 0).toNat : Int) : Int) ≥ 48)) then (bif (decide ((((List.getD a0 (Int.toNat a1) 0).toNat : Int) : Int) ≤ 57)) then ((xC5 N N a0 a1 a1 (Tok.mk 0 0 0 []))
     ) else (bif ((((List.getD a0 (Int.toNat a1) 0).toNat : Int) : Int) == 34) then (if (0 : Int) ≤ (IntKind.i64.wrap (a1 + 1)) ∧ (IntKind.i64.wrap (a1 + 1)) ≤ (List.length a0) then (strings_IndexByte N (List.drop (Int.toNat (IntKind.i64.wrap (a1 + 1))) a0) 34).bind fun r1 => bif (decide (r1 < 0)) then (some ((Tok.mk 0 0 0 []), 0, false)) else (if (0 : Int) ≤ (IntKind.i64.wrap (a1 + 1)) ∧ (IntKind.i64.wrap (a1 + 1)) ≤ (IntKind.i64.wrap ((IntKind.i64.wrap (a1 + 1)) + r1)) ∧ (IntKind.i64.wrap ((IntKind.i64.wrap (a1 + 1)) + r1)) ≤ (List.length a0) then (xDf N (List.drop (Int.toNat (IntKind.i64.wrap (a1 + 1))) (List.take (Int.toNat (IntKind.i64.wrap ((IntKind.i64.wrap (a1 + 1)) + r1))) a0))).bind fun r2 => some ((Tok.mk 3 0 a1 (List.drop (Int.toNat (IntKind.i64.wrap (a1 + 1))) (List.take (Int.toNat (IntKind.i64.wrap ((IntKind.i64.wrap (a1 + 1)) + r1))) a0))), (IntKind.i64.wrap ((IntKind.i64.wrap (a1 + r1)) + 2)), r2) else none) else none) else (if (0 : Int) ≤ a1 ∧ a1 ≤ (List.length a0) then (strings_HasPrefix N (List.drop (Int.toNat a1) a0) [61, 61]).bind fun r1 => bif r1 then (some ((Tok.mk 4 0 a1 [61, 61]), (IntKind.i64.wrap (a1 + 2)), true)) else (if (0 : Int) ≤ a1 ∧ a1 ≤ (IntKind.i64.wrap (a1 + 1)) ∧ (IntKind.i64.wrap (a1 + 1)) ≤ (List.length a0) then (strings_IndexByte N [40, 41, 91, 93, 44, 43, 45, 42, 60, 61] ((List.getD a0 (Int.toNat a1) 0).toNat : Int)).bind fun r2 => some ((Tok.mk 4 0 a1 (List.drop (Int.toNat a1) (List.take (Int.toNat (IntKind.i64.wrap (a1 + 1))) a0))), (IntKind.i64.wrap (a1 + 1)), (decide (r2 ≥ 0))) else none) else none))) else (bif ((((List.getD a0 (Int.toNat a1) 0).toNat : Int) : Int) == 34) then (if (0 : Int) ≤ (IntKind.i64.wrap (a1 + 1)) ∧ (IntKind.i64.wrap (a1 + 1)) ≤ (List.length a0) then (strings_IndexByte N (List.drop (Int.toNat (IntKind.i64.wrap (a1 + 1))) a0) 34).bind fun r1 => bif (decide (r1 < 0)) then (some ((Tok.mk 0 0 0 []), 0, false)) else (if (0 : Int) ≤ (IntKind.i64.wrap (a1 + 1)) ∧ (IntKind.i64.wrap (a1 + 1)) ≤ (IntKind.i64.wrap ((IntKind.i64.wrap (a1 + 1)) + r1)) ∧ (IntKind.i64.wrap ((IntKind.i64.wrap (a1 + 1)) + r1)) ≤ (List.length a0) then
        (xDf N (List.drop (Int.toNat (IntKind.i64.wrap (a1 + 1))) (List.take (Int.toNat (IntKind.i64.wrap ((IntKind.i64.wrap (a1 + 1)) + r1))) a0))).bind fun r2 => some ((Tok.mk 3 0 a1 (List.drop (Int.toNat (IntKind.i64.wrap (a1 + 1))) (List.take (Int.toNat (IntKind.i64.wrap ((IntKind.i64.wrap (a1 + 1)) + r1))) a0))), (IntKind.i64.wrap ((IntKind.i64.wrap (a1 + r1)) + 2)), r2) else none) else none) else (if (0 : Int) ≤ a1 ∧ a1 ≤ (List.length a0) then (strings_HasPrefix N (List.drop (Int.toNat a1) a0) [61, 61]).bind fun r1 => bif r1 then (some ((Tok.mk 4 0 a1 [61, 61]), (IntKind.i64.wrap (a1 + 2)), true)) else (if (0 : Int) ≤ a1 ∧ a1 ≤ (IntKind.i64.wrap (a1 + 1)) ∧ (IntKind.i64.wrap (a1 + 1)) ≤ (List.length a0) then (strings_IndexByte N [40, 41, 91, 93, 44, 43, 45, 42, 60, 61] ((List.getD a0 (Int.toNat a1) 0).toNat : Int)).bind fun r2 => some ((Tok.mk 4 0 a1 (List.drop (Int.toNat a1) (List.take (Int.toNat (IntKind.i64.wrap (a1 + 1))) a0))), (IntKind.i64.wrap (a1 + 1)), (decide (r2 ≥ 0))) else none) else none))) else none
def xFx (a0 : Str) : List Arg := [.val (.v false [.str a0])]
def xAS (r : (List Tok) × Int) : CallO := ⟨.tup [(false, [.sl .own .tok r.1]), (false, [.int .i64 r.2])], [], []⟩
def xEh (N : Nat) : Nat → Str → (List Tok) → Int → Option ((List Tok) × Int)
 | 0, _, _, _ => none
 | n + 1, x0, x4, x5 => bif (decide (x5 < (List.length x0 : Int))) then (if (0 : Int) ≤ x5 ∧ x5 < (List.length x0) then bif ((((List.getD x0 (Int.toNat x5) 0).toNat : Int) : Int) == 32) then ((xEh N n x0 x4 (IntKind.i64.wrap (x5 + 1)))) else ((xG6 N x0 x5).bind fun r1 => bif (!r1.2.2) then (some ([], x5)) else (bif ((List.length x4 : Int) == 60) then (some ([], x5)) else (if List.length x4 + List.length [r1.1] ≤ Lim then (xEh N n x0 (x4 ++ [r1.1]) r1.2.1) else none))) else none) else (some (x4, (-1)))
def xF0 (N : Nat) (a0 : Str) : Option ((List Tok) × Int) := bif (decide ((List.length a0 : Int) > 120)) then (some ([], 120)) else ((xEh N N a0 [] 0))
def xDj (a0 : Psr) : List Arg := [.box (Ps .ro a0)]
def xAg (r : Tok × Psr) : CallO := ⟨.v true [.int .i64 (Tok.kind r.1), .int .i64 (Tok.n r.1), .int .i64 (Tok.pos r.1), .str (Tok.text r.1)], [(Ps .ro r.2)], []⟩
def xBF (N : Nat) (a0 : Psr) : Option (Tok × Psr) := bif (decide ((Psr.bad a0) < 0)) then (bif (decide ((Psr.pos a0) < (List.length (Psr.list a0) : Int))) then (if (0 : Int) ≤ (Psr.pos a0) ∧ (Psr.pos a0) < (List.length (Psr.list a0)) then some ((List.getD (Psr.list a0) (Int.toNat (Psr.pos a0)) Ty.tok.dflt), a0) else none) else (some ((Tok.mk 0 0 0 []), a0))) else (some ((Tok.mk 0 0 0 []), a0))
def xBB (a0 : Tok) (a1 : Str) : List Arg := [.val (.v true [.int .i64 (Tok.kind a0), .int .i64 (Tok.n a0), .int .i64 (Tok.pos a0), .str (Tok.text a0)]), .val (.v false [.str a1])]
def xAz (r : Bool) : CallO := ⟨.v false [.bool r], [], []⟩
def xEr (N : Nat) (a0 : Tok) (a1 : Str) : Option (Bool) := bif ((Tok.kind a0) == 1) then (some (((Tok.text a0) : Str) == a1)) else (some false)
def xC6 (a0 : Int) (a1 : Int) (a2 : Int) : List Arg := [.val (.v false [.int .i64 a0]), .val (.v false [.int .i64 a1]), .val (.v false [.int .i64 a2])]
def xBg (r : Bool) : CallO := ⟨.v false [.bool r], [], []⟩
def xFM (N : Nat) (a0 : Int) (a1 : Int) (a2 : Int) : Option (Bool) := bif (decide (a1 ≤ a0)) then (some (decide (a0 ≤ a2))) else (some false)
def xGb (a0 : Str) : List Arg := [.val (.v false [.str a0])]
def xB9 (r : Bool) : CallO := ⟨.v false [.bool r], [], []⟩
def xD2 (N : Nat) : Nat → Str → Int → Option (Bool)
 | 0, _, _ => none
 | n + 1, x0, x3 => bif (decide (x3 < (List.length x0 : Int))) then (if (0 : Int) ≤ x3 ∧ x3 < (List.length x0) then bif (decide ((((List.getD x0 (Int.toNat x3) 0).toNat : Int) : Int) ≥ 97)) then (bif (!(decide ((((List.getD x0 (Int.toNat x3) 0).toNat : Int) : Int) ≤ 122))) then (bif (x3 == 0) then (some false) else (bif (decide ((((List.getD x0 (Int.toNat x3) 0).toNat : Int) : Int) < 48)) then (some false) else (bif (decide ((((List.getD x0 (Int.toNat x3) 0).toNat : Int) : Int) > 57)) then (some false) else ((xD2 N n x0 (IntKind.i64.wrap (x3 + 1))))))) else ((xD2 N n x0 (IntKind.i64.wrap (x3 + 1))))) else (bif (x3 == 0) then (some false) else (bif (decide ((((List.getD x0 (Int.toNat x3) 0).toNat : Int) : Int) < 48)) then (some false) else (bif (decide ((((List.getD x0 (Int.toNat x3) 0).toNat : Int) : Int) > 57)) then (some false) else ((xD2 N n x0 (IntKind.i64.wrap (x3 + 1))))))) else none) else ((xFM N (List.length x0 : Int) 1 8).bind fun r1 => some r1)
def xIu (N : Nat) (a0 : Str) : Option (Bool) := (xD2 N N a0 0)
def xAo (a0 : Str) : List Arg := [.val (.v false [.str a0])]
def xAi (r : Int) : CallO := ⟨.v false [.int .i64 r], [], []⟩
def xC1 (N : Nat) (a0 : Str) : Option (Int) := bif ((a0 : Str) == [99, 108, 111, 99, 107]) then (some 0) else (bif ((a0 : Str) == [108, 101, 110]) then (some 1) else (bif ((a0 : Str) == [115, 117, 109]) then (some 1) else (bif ((a0 : Str) == [114, 111, 119, 115]) then (some 1) else (bif ((a0 : Str) == [99, 104, 97, 110, 99, 101]) then (some 1) else (bif ((a0 : Str) == [102, 105, 108, 101]) then (some 1) else (bif ((a0 : Str) == [116, 97, 107, 101]) then (some 2) else (bif ((a0 : Str) == [115, 107, 105, 112]) then (some 2) else (bif ((a0 : Str) == [114, 97, 110, 103, 101]) then (some 2) else (bif ((a0 : Str) == [110, 116, 104]) then (some 2) else (bif ((a0 : Str) == [107, 101, 101, 112]) then (some 2) else (bif ((a0 : Str) == [99, 111, 108, 117, 109, 110]) then (some 2) else (bif ((a0 : Str) == [116, 97, 98, 108, 101]) then (some 2) else (bif ((a0 : Str) == [119, 104, 101, 114, 101]) then (some 3) else (bif ((a0 : Str) == [103, 114, 111, 117, 112]) then (some 3) else (bif ((a0 : Str) == [106, 111, 105, 110]) then (some 3) else (bif ((a0 : Str) == [97, 100, 100]) then (some 4) else (some (-1))))))))))))))))))
def xBT (a0 : Str) : List Arg := [.val (.v false [.str a0])]
def xBE (r : Bool) : CallO := ⟨.v false [.bool r], [], []⟩
def xFK (N : Nat) (a0 : Str) : Option (Bool) := bif ((a0 : Str) == [108, 101, 116]) then (some true) else (bif ((a0 : Str) == [105, 110]) then (some true) else (bif ((a0 : Str) == [105, 102]) then (some true) else (bif ((a0 : Str) == [116, 104, 101, 110]) then (some true) else (bif ((a0 : Str) == [101, 108, 115, 101]) then (some true) else (bif ((a0 : Str) == [102, 111, 114]) then (some true) else (bif ((a0 : Str) == [100, 111]) then (some true) else ((xC1 N a0).bind fun r1 => some (decide (r1 ≥ 0)))))))))
def xDQ (a0 : Str) : List Arg := [.val (.v false [.str a0])]
def xAJ (r : Bool) : CallO := ⟨.v false [.bool r], [], []⟩
def xDe (N : Nat) (a0 : Str) : Option (Bool) := (xIu N a0).bind fun r1 => bif r1 then ((xFK N a0).bind fun r2 => some (!r2)) else (some false)
def xCh (a0 : Psr) : List Arg := [.box (Ps .ro a0)]
def xA8 (r : Exp × Psr) : CallO := ⟨.v true (Ex .own r.1), [(Ps .ro r.2)], []⟩
def xB4 (N : Nat) (a0 : Psr) : Option (Exp × Psr) := bif (decide ((Psr.bad a0) < 0)) then (some ((Exp.mk 0 0 [] []), (Psr.mk (Psr.list a0) (Psr.pos a0) (Psr.pos a0)))) else (some ((Exp.mk 0 0 [] []), a0))
def xDU (a0 : Psr) : List Arg := [.box (Ps .ro a0)]
def xCE (r : Str × Psr) : CallO := ⟨.v false [.str r.1], [(Ps .ro r.2)], []⟩
def xB5 (N : Nat) (a0 : Psr) : Option (Str × Psr) := (xBF N a0).bind fun r1 => bif ((Tok.kind r1.1) != 1) then ((xB4 N r1.2).bind fun r2 => some ([], r2.2)) else ((xDe N (Tok.text r1.1)).bind fun r2 => bif (!r2) then ((xB4 N r1.2).bind fun r3 => some ([], r3.2)) else (some ((Tok.text r1.1), (Psr.mk (Psr.list r1.2) (IntKind.i64.wrap ((Psr.pos r1.2) + 1)) (Psr.bad r1.2)))))
def xDF (a0 : Tok) (a1 : Str) : List Arg := [.val (.v true [.int .i64 (Tok.kind a0), .int .i64 (Tok.n a0), .int .i64 (Tok.pos a0), .str (Tok.text a0)]), .val (.v false [.str a1])]
def xB3 (r : Bool) : CallO := ⟨.v false [.bool r], [], []⟩
def xFZ (N : Nat) (a0 : Tok) (a1 : Str) : Option (Bool) := bif ((Tok.kind a0) == 4) then (some (((Tok.text a0) : Str) == a1)) else (some false)
def xA2 (a0 : Psr) (a1 : Str) : List Arg := [.box (Ps .ro a0), .val (.v false [.str a1])]
def xAt (r : Psr) : CallO := ⟨.tup [], [(Ps .ro r)], []⟩
def xAH (N : Nat) (a0 : Psr) (a1 : Str) : Option (Psr) := (xBF N a0).bind fun r1 => (xEr N r1.1 a1).bind fun r2 => bif r2 then (some (Psr.mk (Psr.list r1.2) (IntKind.i64.wrap ((Psr.pos r1.2) + 1)) (Psr.bad r1.2))) else ((xBF N r1.2).bind fun r3 => (xFZ N r3.1 a1).bind fun r4 => bif r4 then (some (Psr.mk (Psr.list r3.2) (IntKind.i64.wrap ((Psr.pos r3.2) + 1)) (Psr.bad r3.2))) else ((xB4 N r3.2).bind fun r5 => some r5.2))
def xAr (a0 : Psr) (a1 : Str) : List Arg := [.box (Ps .ro a0), .val (.v false [.str a1])]
def xAd (r : Bool × Psr) : CallO := ⟨.v false [.bool r.1], [(Ps .ro r.2)], []⟩
def xAL (N : Nat) (a0 : Psr) (a1 : Str) : Option (Bool × Psr) := (xBF N a0).bind fun r1 => (xFZ N r1.1 a1).bind fun r2 => bif r2 then (some (true, (Psr.mk (Psr.list r1.2) (IntKind.i64.wrap ((Psr.pos r1.2) + 1)) (Psr.bad r1.2)))) else (some (false, r1.2))
def xEP (a0 : Int) : List Arg := [.val (.v false [.int .i64 a0])]
def xDG (r : Str) : CallO := ⟨.v false [.str r], [], []⟩
def xEY (N : Nat) (a0 : Int) : Option (Str) := (xFM N a0 1 5).bind fun r1 => bif (!r1) then (some [63]) else (if (0 : Int) ≤ (IntKind.i64.wrap (a0 - 1)) ∧ (IntKind.i64.wrap (a0 - 1)) < (List.length [[43], [45], [42], [60], [61, 61]]) then some (List.getD [[43], [45], [42], [60], [61, 61]] (Int.toNat (IntKind.i64.wrap (a0 - 1))) Ty.str.dflt) else none)
def xA1 (a0 : Psr) : List Arg := [.box (Ps .ro a0)]
def xAP (r : Exp × Psr) : CallO := ⟨.v true (Ex .own r.1), [(Ps .ro r.2)], []⟩
def xCC (N : Nat) (q0 : Psr → Option (Exp × Psr)) (q1 : Psr → Option (Exp × Psr)) (q2 : Psr → Str → Option ((List Exp) × Psr)) (q3 : Psr → Option (Exp × Psr)) (q4 : Psr → Option (Exp × Psr)) (a0 : Psr) : Option (Exp × Psr) := (xBF N a0).bind fun r1 => bif ((Tok.kind r1.1) == 2) then (some ((Exp.mk 1 (Tok.n r1.1) [] []), (Psr.mk (Psr.list r1.2) (IntKind.i64.wrap ((Psr.pos r1.2) + 1)) (Psr.bad r1.2)))) else (bif ((Tok.kind r1.1) == 3) then (some ((Exp.mk 2 0 (Tok.text r1.1) []), (Psr.mk (Psr.list r1.2) (IntKind.i64.wrap ((Psr.pos r1.2) + 1)) (Psr.bad r1.2)))) else (bif ((Tok.kind r1.1) == 1) then ((xDe N (Tok.text r1.1)).bind fun r2 => bif r2 then (some ((Exp.mk 3 0 (Tok.text r1.1) []), (Psr.mk (Psr.list r1.2) (IntKind.i64.wrap ((Psr.pos r1.2) + 1)) (Psr.bad r1.2)))) else ((xC1 N (Tok.text r1.1)).bind fun r3 => bif (decide (r3 ≥ 0)) then ((xAH N (Psr.mk (Psr.list r1.2) (IntKind.i64.wrap ((Psr.pos r1.2) + 1)) (Psr.bad r1.2)) [40]).bind fun r4 => (q2 r4 [41]).bind fun r5 => some ((Exp.mk 5 0 (Tok.text r1.1) r5.1), r5.2)) else ((xAL N r1.2 [91]).bind fun r4 => bif r4.1 then ((q2 r4.2 [93]).bind fun r5 => some ((Exp.mk 4 0 [] r5.1), r5.2)) else ((xAL N r4.2 [40]).bind fun r5 => bif r5.1 then ((q1 r5.2).bind fun r6 => (xAH N r6.2 [41]).bind fun r7 => some (r6.1, r7)) else ((xB4 N r5.2).bind fun r6 => some (r6.1, r6.2)))))) else ((xAL N r1.2 [91]).bind fun r2 => bif r2.1 then ((q2 r2.2 [93]).bind fun r3 => some ((Exp.mk 4 0 [] r3.1), r3.2)) else ((xAL N r2.2 [40]).bind fun r3 => bif r3.1 then ((q1 r3.2).bind fun r4 => (xAH N r4.2 [41]).bind fun r5 => some (r4.1, r5)) else ((xB4 N r3.2).bind fun r4 => some (r4.1, r4.2))))))
def xBm (a0 : Psr) : List Arg := [.box (Ps .ro a0)]
def xAf (r : Exp × Psr) : CallO := ⟨.v true (Ex .own r.1), [(Ps .ro r.2)], []⟩
def xCW (N : Nat) (q0 : Psr → Option (Exp × Psr)) (q1 : Psr → Option (Exp × Psr)) (q2 : Psr → Str → Option ((List Exp) × Psr)) (q3 : Psr → Option (Exp × Psr)) (q4 : Psr → Option (Exp × Psr)) : Nat → (List Int) → Int → Int → Psr → Exp → Exp → Option (Exp × Psr)
 | 0, _, _, _, _, _, _ => none
 | n + 1, x115, x116, x117, b0, b2, b6 => bif (decide (x117 < x116)) then (if (0 : Int) ≤ x117 ∧ x117 < (List.length x115) then (xEY N (List.getD x115 (Int.toNat x117) Ty.int.dflt)).bind fun r1 => (xAL N b0 r1).bind fun r2 => bif r2.1 then ((q4 r2.2).bind fun r3 => some ((Exp.mk 6 (List.getD x115 (Int.toNat x117) Ty.int.dflt) [] [(Exp.re b6), (Exp.re r3.1)]), r3.2)) else ((xCW N q0 q1 q2 q3 q4 n x115 x116 (IntKind.i64.wrap (x117 + 1)) r2.2 b2 b6)) else none) else (some (b6, b0))
def xCD (N : Nat) (q0 : Psr → Option (Exp × Psr)) (q1 : Psr → Option (Exp × Psr)) (q2 : Psr → Str → Option ((List Exp) × Psr)) (q3 : Psr → Option (Exp × Psr)) (q4 : Psr → Option (Exp × Psr)) (a0 : Psr) : Option (Exp × Psr) := (xBF N a0).bind fun r1 => (xEr N r1.1 [108, 101, 116]).bind fun r2 => bif r2 then ((xB5 N (Psr.mk (Psr.list r1.2) (IntKind.i64.wrap ((Psr.pos r1.2) + 1)) (Psr.bad r1.2))).bind fun r3 => (xAH N r3.2 [61]).bind fun r4 => (q1 r4).bind fun r5 => if 0 + List.length [(Exp.re r5.1)] ≤ Lim then (xAH N r5.2 [105, 110]).bind fun r6 => (q1 r6).bind fun r7 => if List.length ([] ++ [(Exp.re r5.1)]) + List.length [(Exp.re r7.1)] ≤ Lim then some ((Exp.mk 7 0 r3.1 (([] ++ [(Exp.re r5.1)]) ++ [(Exp.re r7.1)])), r7.2) else none else none) else ((xBF N r1.2).bind fun r3 => (xEr N r3.1 [105, 102]).bind fun r4 => bif r4 then ((q1 (Psr.mk (Psr.list r3.2) (IntKind.i64.wrap ((Psr.pos r3.2) + 1)) (Psr.bad r3.2))).bind fun r5 => if 0 + List.length [(Exp.re r5.1)] ≤ Lim then (xAH N r5.2 [116, 104, 101, 110]).bind fun r6 => (q1 r6).bind fun r7 => if List.length ([] ++ [(Exp.re r5.1)]) + List.length [(Exp.re r7.1)] ≤ Lim then (xAH N r7.2 [101, 108, 115, 101]).bind fun r8 => (q1 r8).bind fun r9 => if List.length (([] ++ [(Exp.re r5.1)]) ++ [(Exp.re r7.1)]) + List.length [(Exp.re r9.1)] ≤ Lim then some ((Exp.mk 8 0 [] ((([] ++ [(Exp.re r5.1)]) ++ [(Exp.re r7.1)]) ++ [(Exp.re r9.1)])), r9.2) else none else none else none) else ((xBF N r3.2).bind fun r5 => (xEr N r5.1 [102, 111, 114]).bind fun r6 => bif r6 then ((xB5 N (Psr.mk (Psr.list r5.2) (IntKind.i64.wrap ((Psr.pos r5.2) + 1)) (Psr.bad r5.2))).bind fun r7 => (xAH N r7.2 [105, 110]).bind fun r8 => (q1 r8).bind fun r9 =>
     if 0 + List.length [(Exp.re r9.1)] ≤ Lim then (xAH N r9.2 [100, 111]).bind fun r10 => (q1 r10).bind fun r11 => if List.length ([] ++ [(Exp.re r9.1)]) + List.length [(Exp.re r11.1)] ≤ Lim then some ((Exp.mk 9 0 r7.1 (([] ++ [(Exp.re r9.1)]) ++ [(Exp.re r11.1)])), r11.2) else none else none) else ((q4 r5.2).bind fun r7 => (xCW N q0 q1 q2 q3 q4 N [4, 5] (List.length [4, 5] : Int) 0 r7.2 (Exp.mk 0 0 [] []) r7.1))))
def xCt (a0 : Psr) (a1 : Str) : List Arg := [.box (Ps .ro a0), .val (.v false [.str a1])]
def xBa (r : (List Exp) × Psr) : CallO := ⟨.v false [.sl .own .exp r.1], [(Ps .ro r.2)], []⟩
def xCu (N : Nat) (q0 : Psr → Option (Exp × Psr)) (q1 : Psr → Option (Exp × Psr)) (q2 : Psr → Str → Option ((List Exp) × Psr)) (q3 : Psr → Option (Exp × Psr)) (q4 : Psr → Option (Exp × Psr)) : Nat → Str → (List Exp) → Psr → Option ((List Exp) × Psr)
 | 0, _, _, _ => none
 | n + 1, x1, x5, b0 => bif (decide ((Psr.bad b0) < 0)) then ((q1 b0).bind fun r1 => if List.length x5 + List.length [(Exp.re r1.1)] ≤ Lim then (xAL N r1.2 x1).bind fun r2 => bif r2.1 then (some ((x5 ++ [(Exp.re r1.1)]), r2.2)) else ((xAH N r2.2 [44]).bind fun r3 => (xCu N q0 q1 q2 q3 q4 n x1 (x5 ++ [(Exp.re r1.1)]) r3)) else none) else (some (x5, b0))
def xCx (N : Nat) (q0 : Psr → Option (Exp × Psr)) (q1 : Psr → Option (Exp × Psr)) (q2 : Psr → Str → Option ((List Exp) × Psr)) (q3 : Psr → Option (Exp × Psr)) (q4 : Psr → Option (Exp × Psr)) (a0 : Psr) (a1 : Str) : Option ((List Exp) × Psr) := (xAL N a0 a1).bind fun r1 => bif r1.1 then (some ([], r1.2)) else ((xCu N q0 q1 q2 q3 q4 N a1 [] r1.2))
def xCy (a0 : Psr) : List Arg := [.box (Ps .ro a0)]
def xBi (r : Exp × Psr) : CallO := ⟨.v true (Ex .own r.1), [(Ps .ro r.2)], []⟩
def xB2 (N : Nat) (q0 : Psr → Option (Exp × Psr)) (q1 : Psr → Option (Exp × Psr)) (q2 : Psr → Str → Option ((List Exp) × Psr)) (q3 : Psr → Option (Exp × Psr)) (q4 : Psr → Option (Exp × Psr)) : Nat → Psr → Exp → Exp → Option (Exp × Psr)
 | 0, _, _, _ => none
 | n + 1, b0, b2, b3 => (xAL N b0 [42]).bind fun r1 => bif r1.1 then ((q0 r1.2).bind fun r2 => (xB2 N q0 q1 q2 q3 q4 n r2.2 b2 (Exp.mk 6 3 [] [(Exp.re b3), (Exp.re r2.1)]))) else (some (b3, r1.2))
def xB7 (N : Nat) (q0 : Psr → Option (Exp × Psr)) (q1 : Psr → Option (Exp × Psr)) (q2 : Psr → Str → Option ((List Exp) × Psr)) (q3 : Psr → Option (Exp × Psr)) (q4 : Psr → Option (Exp × Psr)) (a0 : Psr) : Option (Exp × Psr) := (q0 a0).bind fun r1 => (xB2 N q0 q1 q2 q3 q4 N r1.2 (Exp.mk 0 0 [] []) r1.1)
def xEc (a0 : Psr) : List Arg := [.box (Ps .ro a0)]
def xCb (r : Exp × Psr) : CallO := ⟨.v true (Ex .own r.1), [(Ps .ro r.2)], []⟩
def xCa (N : Nat) (q0 : Psr → Option (Exp × Psr)) (q1 : Psr → Option (Exp × Psr)) (q2 : Psr → Str → Option ((List Exp) × Psr)) (q3 : Psr → Option (Exp × Psr)) (q4 : Psr → Option (Exp × Psr)) : Nat → Psr → Exp → Exp → Option (Exp × Psr)
 | 0, _, _, _ => none
 | n + 1, b0, b2, b3 => bif (decide ((Psr.bad b0) < 0)) then ((xAL N b0 [43]).bind fun r1 => bif (!r1.1) then ((xAL N r1.2 [45]).bind fun r2 => bif (!r2.1) then (some (b3, r2.2)) else ((q3 r2.2).bind fun r3 => (xCa N q0 q1 q2 q3 q4 n r3.2 b2 (Exp.mk 6 2 [] [(Exp.re b3), (Exp.re r3.1)])))) else ((q3 r1.2).bind fun r2 => (xCa N q0 q1 q2 q3 q4 n r2.2 b2 (Exp.mk 6 1 [] [(Exp.re b3), (Exp.re r2.1)])))) else (some (b3, b0))
def xCX (N : Nat) (q0 : Psr → Option (Exp × Psr)) (q1 : Psr → Option (Exp × Psr)) (q2 : Psr → Str → Option ((List Exp) × Psr)) (q3 : Psr → Option (Exp × Psr)) (q4 : Psr → Option (Exp × Psr)) (a0 : Psr) : Option (Exp × Psr) := (q3 a0).bind fun r1 => (xCa N q0 q1 q2 q3 q4 N r1.2 (Exp.mk 0 0 [] []) r1.1)
structure impl_parser_atom_rec where
 c_impl_parser_atom : Psr → Option (Exp × Psr)
 c_impl_parser_expr : Psr → Option (Exp × Psr)
 c_impl_parser_list2 : Psr → Str → Option ((List Exp) × Psr)
 c_impl_parser_product : Psr → Option (Exp × Psr)
 c_impl_parser_sum : Psr → Option (Exp × Psr)
def xAb (N : Nat) : Nat → impl_parser_atom_rec
 | 0 => ⟨fun _ => none, fun _ => none, fun _ _ => none, fun _ => none, fun _ => none⟩
 | d + 1 => ⟨xCC N (xAb N d).c_impl_parser_atom (xAb N d).c_impl_parser_expr (xAb N d).c_impl_parser_list2 (xAb N d).c_impl_parser_product (xAb N d).c_impl_parser_sum, xCD N (xAb N d).c_impl_parser_atom (xAb N d).c_impl_parser_expr (xAb N d).c_impl_parser_list2 (xAb N d).c_impl_parser_product (xAb N d).c_impl_parser_sum, xCx N (xAb N d).c_impl_parser_atom (xAb N d).c_impl_parser_expr (xAb N d).c_impl_parser_list2 (xAb N d).c_impl_parser_product (xAb N d).c_impl_parser_sum, xB7 N (xAb N d).c_impl_parser_atom (xAb N d).c_impl_parser_expr (xAb N d).c_impl_parser_list2 (xAb N d).c_impl_parser_product (xAb N d).c_impl_parser_sum, xCX N (xAb N d).c_impl_parser_atom (xAb N d).c_impl_parser_expr (xAb N d).c_impl_parser_list2 (xAb N d).c_impl_parser_product (xAb N d).c_impl_parser_sum⟩
def xGh (N : Nat) (a0 : Psr) : Option (Exp × Psr) := (xAb N N).c_impl_parser_expr a0
def xCR (a0 : Exp) : List Arg := [.val (.v true (Ex .ro a0))]
def xBr (r : Int) : CallO := ⟨.v false [.int .i64 r], [], []⟩
def xDT (N : Nat) (q0 : Exp → Option (Int)) : Nat → Int → (List Exp) → Int → Int → Option (Int)
 | 0, _, _, _, _ => none
 | n + 1, x3, x7, x8, x9 => bif (decide (x9 < x8)) then (if (0 : Int) ≤ x9 ∧ x9 < (List.length x7) then (q0 (List.getD x7 (Int.toNat x9) Ty.exp.dflt)).bind fun r1 => (xDT N q0 n (IntKind.i64.wrap (x3 + r1)) x7 x8 (IntKind.i64.wrap (x9 + 1))) else none) else (some x3)
def xGp (N : Nat) (q0 : Exp → Option (Int)) (a0 : Exp) : Option (Int) := (xDT N q0 N 1 (Exp.args a0) (List.length (Exp.args a0) : Int) 0)
def xEb (N : Nat) : Nat → Exp → Option (Int)
 | 0, _ => none
 | d + 1, a0 => xGp N (xEb N d) a0
def xH6 (N : Nat) (a0 : Exp) : Option (Int) := xEb N N a0
def xDm (a0 : Exp) : List Arg := [.val (.v true (Ex .ro a0))]
def xBM (r : Int) : CallO := ⟨.v false [.int .i64 r], [], []⟩
def xEw (N : Nat) (q0 : Exp → Option (Int)) : Nat → Int → (List Exp) → Int → Int → Option (Int)
 | 0, _, _, _, _ => none
 | n + 1, x3, x7, x8, x9 => bif (decide (x9 < x8)) then (if (0 : Int) ≤ x9 ∧ x9 < (List.length x7) then (q0 (List.getD x7 (Int.toNat x9) Ty.exp.dflt)).bind fun r1 => (xEw N q0 n (if r1 > x3 then r1 else x3) x7 x8 (IntKind.i64.wrap (x9 + 1))) else none) else (some (IntKind.i64.wrap (x3 + 1)))
def xGo (N : Nat) (q0 : Exp → Option (Int)) (a0 : Exp) : Option (Int) := (xEw N q0 N 0 (Exp.args a0) (List.length (Exp.args a0) : Int) 0)
def xEX (N : Nat) : Nat → Exp → Option (Int)
 | 0, _ => none
 | d + 1, a0 => xGo N (xEX N d) a0
def xH5 (N : Nat) (a0 : Exp) : Option (Int) := xEX N N a0
def xAD (a0 : Exp) : List Arg := [.val (.v true (Ex .ro a0))]
def xAM (r : Bool) : CallO := ⟨.v false [.bool r], [], []⟩
def xHu (N : Nat) (a0 : Exp) : Option (Bool) := bif ((Exp.kind a0) == 1) then ((xFM N (Exp.n a0) 0 1000000000).bind fun r1 => bif r1 then (bif (((Exp.text a0) : Str) == []) then (some ((List.length (Exp.args a0) : Int) == 0)) else (some false)) else (some false)) else (bif ((Exp.kind a0) == 2) then (bif ((Exp.n a0) == 0) then ((xDf N (Exp.text a0)).bind fun r1 => bif r1 then (some ((List.length (Exp.args a0) : Int) == 0)) else (some false)) else (some false)) else (bif ((Exp.kind a0) == 3) then (bif ((Exp.n a0) == 0) then ((xDe N (Exp.text a0)).bind fun r1 => bif r1 then (some ((List.length (Exp.args a0) : Int) == 0)) else (some false)) else (some false)) else (bif ((Exp.kind a0) == 4) then (bif ((Exp.n a0) == 0) then (bif (((Exp.text a0) : Str) == []) then (some (decide ((List.length (Exp.args a0) : Int) ≤ 8))) else (some false)) else (some false)) else (bif ((Exp.kind a0) == 5) then (bif ((Exp.n a0) == 0) then ((xC1 N (Exp.text a0)).bind fun r1 => some ((List.length (Exp.args a0) : Int) == r1)) else (some false)) else (bif ((Exp.kind a0) == 6) then ((xFM N (Exp.n a0) 1 5).bind fun r1 => bif r1 then (bif (((Exp.text a0) : Str) == []) then (some ((List.length (Exp.args a0) : Int) == 2)) else (some false)) else (some false)) else (bif ((Exp.kind a0) == 7) then (bif ((Exp.n a0) == 0) then ((xDe N (Exp.text a0)).bind fun r1 => bif r1 then (some ((List.length (Exp.args a0) : Int) == 2)) else (some false)) else (some false)) else (bif ((Exp.kind a0) == 9) then (bif ((Exp.n a0) == 0) then ((xDe N (Exp.text a0)).bind fun r1 => bif r1 then (some ((List.length (Exp.args a0) : Int) == 2)) else (some false)) else (some false)) else (bif ((Exp.kind a0) == 8) then (bif ((Exp.n a0) == 0) then (bif (((Exp.text a0) : Str) == []) then (some ((List.length (Exp.args a0) : Int) == 3)
             ) else (some false)) else (some false)) else (some false)))))))))
def xDH (a0 : Exp) : List Arg := [.val (.v true (Ex .ro a0))]
def xBO (r : Bool) : CallO := ⟨.v false [.bool r], [], []⟩
def xEi (N : Nat) (q0 : Exp → Option (Bool)) : Nat → (List Exp) → Int → Int → Exp → Option (Bool)
 | 0, _, _, _, _ => none
 | n + 1, x6, x7, x8, b1 => bif (decide (x8 < x7)) then (if (0 : Int) ≤ x8 ∧ x8 < (List.length x6) then (q0 (List.getD x6 (Int.toNat x8) Ty.exp.dflt)).bind fun r1 => bif (!r1) then (some false) else ((xEi N q0 n x6 x7 (IntKind.i64.wrap (x8 + 1)) b1)) else none) else ((xHu N b1).bind fun r1 => some r1)
def xGA (N : Nat) (q0 : Exp → Option (Bool)) (a0 : Exp) : Option (Bool) := (xEi N q0 N (Exp.args a0) (List.length (Exp.args a0) : Int) 0 a0)
def xFd (N : Nat) : Nat → Exp → Option (Bool)
 | 0, _ => none
 | d + 1, a0 => xGA N (xFd N d) a0
def xIt (N : Nat) (a0 : Exp) : Option (Bool) := xFd N N a0
def xDO (a0 : Exp) : List Arg := [.val (.v true (Ex .ro a0))]
def xBt (r : Bool) : CallO := ⟨.v false [.bool r], [], []⟩
def xCJ (N : Nat) (a0 : Exp) : Option (Bool) := (xH6 N a0).bind fun r1 => bif (decide (r1 ≤ 40)) then ((xH5 N a0).bind fun r2 => bif (decide (r2 ≤ 8)) then ((xIt N a0).bind fun r3 => some r3) else (some false)) else (some false)
def xAT (a0 : Str) : List Arg := [.val (.v false [.str a0])]
def xAn (r : Exp × Int) : CallO := ⟨.tup [(true, (Ex .own r.1)), (false, [.int .i64 r.2])], [], []⟩
def xDq (N : Nat) (a0 : Str) : Option (Exp × Int) := (xF0 N a0).bind fun r1 => bif (decide (r1.2 ≥ 0)) then (some ((Exp.mk 0 0 [] []), r1.2)) else ((xGh N (Psr.mk r1.1 0 (-1))).bind fun r2 => bif (decide ((Psr.bad r2.2) < 0)) then (bif (decide ((Psr.pos r2.2) < (List.length r1.1 : Int))) then (bif (decide ((Psr.pos r2.2) ≥ (List.length r1.1 : Int))) then (some ((Exp.mk 0 0 [] []), (List.length a0 : Int))) else (bif (decide ((Psr.pos r2.2) ≥ 0)) then (if (0 : Int) ≤ (Psr.pos r2.2) ∧ (Psr.pos r2.2) < (List.length r1.1) then some ((Exp.mk 0 0 [] []), (Tok.pos (List.getD r1.1 (Int.toNat (Psr.pos r2.2)) Ty.tok.dflt))) else none) else ((xCJ N r2.1).bind fun r3 => bif (!r3) then (some ((Exp.mk 0 0 [] []), 0)) else (some (r2.1, (-1)))))) else (bif (decide ((Psr.bad r2.2) ≥ (List.length r1.1 : Int))) then (some ((Exp.mk 0 0 [] []), (List.length a0 : Int))) else (bif (decide ((Psr.bad r2.2) ≥ 0)) then (if (0 : Int) ≤ (Psr.bad r2.2) ∧ (Psr.bad r2.2) < (List.length r1.1) then some ((Exp.mk 0 0 [] []), (Tok.pos (List.getD r1.1 (Int.toNat (Psr.bad r2.2)) Ty.tok.dflt))) else none) else ((xCJ N r2.1).bind fun r3 => bif (!r3) then (some ((Exp.mk 0 0 [] []), 0)) else (some (r2.1, (-1))))))) else (bif (decide ((Psr.bad r2.2) ≥ (List.length r1.1 : Int))) then (some ((Exp.mk 0 0 [] []), (List.length a0 : Int))) else (bif (decide ((Psr.bad r2.2) ≥ 0)) then (if (0 : Int) ≤ (Psr.bad r2.2) ∧ (Psr.bad r2.2) < (List.length r1.1) then some ((Exp.mk 0 0 [] []), (Tok.pos (List.getD r1.1 (Int.toNat (Psr.bad r2.2)) Ty.tok.dflt))) else none) else ((xCJ N r2.1).bind fun r3 => bif (!r3) then (some ((Exp.mk 0 0 [] []), 0)) else (some (r2.1, (-1)))))))
def xFE (a0 : Str) : List Arg := [.val (.v false [.str a0])]
def xBU (r : Bool) : CallO := ⟨.v false [.bool r], [], []⟩
def xFL (N : Nat) (a0 : Str) : Option (Bool) := (xDq N a0).bind fun r1 => some (decide (r1.2 ≥ 0))
def xHW (a0 : List Str) (a1 : Str) : List Arg := [.val (.v false [.sl .ro .str a0]), .val (.v false [.str a1])]
def xGx (r : Str) : CallO := ⟨.v false [.str r], [], []⟩
def xEt (N : Nat) : Nat → (List Str) → Str → (List Int) → Int → Option (Str)
 | 0, _, _, _, _ => none
 | n + 1, x0, x1, x5, x6 => bif (decide (x6 < (List.length x0 : Int))) then (bif (decide (x6 > 0)) then (if List.length x5 + List.length x1 ≤ Lim then if (0 : Int) ≤ x6 ∧ x6 < (List.length x0) then if List.length (x5 ++ List.map (fun c => (c.toNat : Int)) x1) + List.length (List.getD x0 (Int.toNat x6) Ty.str.dflt) ≤ Lim then (xEt N n x0 x1 ((x5 ++ List.map (fun c => (c.toNat : Int)) x1) ++ List.map (fun c => (c.toNat : Int)) (List.getD x0 (Int.toNat x6) Ty.str.dflt)) (IntKind.i64.wrap (x6 + 1))) else none else none else none) else (if (0 : Int) ≤ x6 ∧ x6 < (List.length x0) then if List.length x5 + List.length (List.getD x0 (Int.toNat x6) Ty.str.dflt) ≤ Lim then (xEt N n x0 x1 (x5 ++ List.map (fun c => (c.toNat : Int)) (List.getD x0 (Int.toNat x6) Ty.str.dflt)) (IntKind.i64.wrap (x6 + 1))) else none else none)) else (some (List.map (fun n => UInt8.ofNat (Int.toNat n)) x5))
def xJp (N : Nat) (a0 : List Str) (a1 : Str) : Option (Str) := (xEt N N a0 a1 [] 0)
def xBx (a0 : Exp) : List Arg := [.val (.v true (Ex .ro a0))]
def xA5 (r : Int) : CallO := ⟨.v false [.int .i64 r], [], []⟩
def xFR (N : Nat) (a0 : Exp) : Option (Int) := bif ((Exp.kind a0) == 7) then (some 0) else (bif ((Exp.kind a0) == 8) then (some 0) else (bif ((Exp.kind a0) == 9) then (some 0) else (bif ((Exp.kind a0) == 6) then (bif ((Exp.n a0) == 4) then (some 1) else (bif ((Exp.n a0) == 5) then (some 1) else (bif ((Exp.n a0) == 1) then (some 2) else (bif ((Exp.n a0) == 2) then (some 2) else (bif ((Exp.n a0) == 3) then (some 3) else (some 4)))))) else (some 4))))
def xER (a0 : Int) : List Arg := [.val (.v false [.int .i64 a0])]
def xDJ (r : Str) : CallO := ⟨.v false [.str r], [], []⟩
def xGH (N : Nat) (a0 : Int) : Option (Str) := (xHM N a0 1 5).bind fun r1 => bif (!r1) then (some [63]) else (if (0 : Int) ≤ a0 ∧ a0 < (List.length [[], [43], [45], [42], [60], [61, 61]]) then some (List.getD [[], [43], [45], [42], [60], [61, 61]] (Int.toNat a0) Ty.str.dflt) else none)
def xEq (a0 : Exp) (a1 : Int) : List Arg := [.val (.v true (Ex .ro a0)), .val (.v false [.int .i64 a1])]
def xCV (r : Str) : CallO := ⟨.v false [.str r], [], []⟩
def xFV (N : Nat) (q0 : Exp → Int → Option (Str)) (q1 : (List Exp) → Option (Str)) (q2 : Exp → Option (Str)) (a0 : Exp) (a1 : Int) : Option (Str) := (q2 a0).bind fun r1 => (xFR N a0).bind fun r2 => bif (decide (r2 < a1)) then (if List.length [40] + List.length r1 ≤ Lim then if List.length ([40] ++ r1) + List.length [41] ≤ Lim then some (([40] ++ r1) ++ [41]) else none else none) else (some r1)
def xFk (a0 : List Exp) : List Arg := [.val (.v false [.sl .ro .exp a0])]
def xDB (r : Str) : CallO := ⟨.v false [.str r], [], []⟩
def xEM (N : Nat) (q0 : Exp → Int → Option (Str)) (q1 : (List Exp) → Option (Str)) (q2 : Exp → Option (Str)) : Nat → (List Exp) → (List Str) → Int → Option (Str)
 | 0, _, _, _ => none
 | n + 1, x0, x3, x4 => bif (decide (x4 < (List.length x0 : Int))) then (if (0 : Int) ≤ x4 ∧ x4 < (List.length x0) then (q2 (List.getD x0 (Int.toNat x4) Ty.exp.dflt)).bind fun r1 => if List.length x3 + List.length [r1] ≤ Lim then (xEM N q0 q1 q2 n x0 (x3 ++ [r1]) (IntKind.i64.wrap (x4 + 1))) else none else none) else ((xJp N x3 [44, 32]).bind fun r1 => some r1)
def xGX (N : Nat) (q0 : Exp → Int → Option (Str)) (q1 : (List Exp) → Option (Str)) (q2 : Exp → Option (Str)) (a0 : List Exp) : Option (Str) := (xEM N q0 q1 q2 N a0 [] 0)
def xAZ (a0 : Exp) : List Arg := [.val (.v true (Ex .ro a0))]
def xAw (r : Str) : CallO := ⟨.v false [.str r], [], []⟩
def xBR (N : Nat) (q0 : Exp → Int → Option (Str)) (q1 : (List Exp) → Option (Str)) (q2 : Exp → Option (Str)) (a0 : Exp) : Option (Str) := bif ((Exp.kind a0) == 1) then ((xE8 N (Exp.n a0)).bind fun r1 => some r1) else (bif ((Exp.kind a0) == 2) then (if List.length [34] + List.length (Exp.text a0) ≤ Lim then if List.length ([34] ++ (Exp.text a0)) + List.length [34] ≤ Lim then some (([34] ++ (Exp.text a0)) ++ [34]) else none else none) else (bif ((Exp.kind a0) == 3) then (some (Exp.text a0)) else (bif ((Exp.kind a0) == 4) then ((q1 (Exp.args a0)).bind fun r1 => if List.length [91] + List.length r1 ≤ Lim then if List.length ([91] ++ r1) + List.length [93] ≤ Lim then some (([91] ++ r1) ++ [93]) else none else none) else (bif ((Exp.kind a0) == 5) then (if List.length (Exp.text a0) + List.length [40] ≤ Lim then (q1 (Exp.args a0)).bind fun r1 => if List.length ((Exp.text a0) ++ [40]) + List.length r1 ≤ Lim then if List.length (((Exp.text a0) ++ [40]) ++ r1) + List.length [41] ≤ Lim then some ((((Exp.text a0) ++ [40]) ++ r1) ++ [41]) else none else none else none) else (bif ((Exp.kind a0) == 7) then (if List.length [108, 101, 116, 32] + List.length (Exp.text a0) ≤ Lim then if List.length ([108, 101, 116, 32] ++ (Exp.text a0)) + List.length [32, 61, 32] ≤ Lim then if (0 : Int) ≤ 0 ∧ (0 : Int) < (List.length (Exp.args a0)) then (q2 (List.getD (Exp.args a0) (Int.toNat 0) Ty.exp.dflt)).bind fun r1 => if List.length (([108, 101, 116, 32] ++ (Exp.text a0)) ++ [32, 61, 32]) + List.length r1 ≤ Lim then if List.length ((([108, 101, 116, 32] ++ (Exp.text a0)) ++ [32, 61, 32]) ++ r1) + List.length [32, 105, 110, 32] ≤ Lim then if (0 : Int) ≤ 1 ∧ (1 : Int) < (List.length (Exp.args a0)) then (q2 (List.getD (Exp.args a0) (Int.toNat 1) Ty.exp.dflt)).bind fun r2 => if List.length (((([108, 101, 116, 32] ++ (Exp.text a0)) ++ [32, 61, 32]) ++ r1) ++ [32, 105, 110, 32]) + List.length r2 ≤ Lim then some ((((([108, 101, 116, 32] ++ (Exp.text a0)) ++ [32, 61, 32]) ++ r1) ++ [32, 105, 110, 32]) ++ r2)
     else none else none else none else none else none else none else none) else (bif ((Exp.kind a0) == 9) then (if List.length [102, 111, 114, 32] + List.length (Exp.text a0) ≤ Lim then if List.length ([102, 111, 114, 32] ++ (Exp.text a0)) + List.length [32, 105, 110, 32] ≤ Lim then if (0 : Int) ≤ 0 ∧ (0 : Int) < (List.length (Exp.args a0)) then (q2 (List.getD (Exp.args a0) (Int.toNat 0) Ty.exp.dflt)).bind fun r1 => if List.length (([102, 111, 114, 32] ++ (Exp.text a0)) ++ [32, 105, 110, 32]) + List.length r1 ≤ Lim then if List.length ((([102, 111, 114, 32] ++ (Exp.text a0)) ++ [32, 105, 110, 32]) ++ r1) + List.length [32, 100, 111, 32] ≤ Lim then if (0 : Int) ≤ 1 ∧ (1 : Int) < (List.length (Exp.args a0)) then (q2 (List.getD (Exp.args a0) (Int.toNat 1) Ty.exp.dflt)).bind fun r2 => if List.length (((([102, 111, 114, 32] ++ (Exp.text a0)) ++ [32, 105, 110, 32]) ++ r1) ++ [32, 100, 111, 32]) + List.length r2 ≤ Lim then some ((((([102, 111, 114, 32] ++ (Exp.text a0)) ++ [32, 105, 110, 32]) ++ r1) ++ [32, 100, 111, 32]) ++ r2) else none else none else none else none else none else none else none) else (bif ((Exp.kind a0) == 8) then (if (0 : Int) ≤ 0 ∧ (0 : Int) < (List.length (Exp.args a0)) then (q2 (List.getD (Exp.args a0) (Int.toNat 0) Ty.exp.dflt)).bind fun r1 => if List.length [105, 102, 32] + List.length r1 ≤ Lim then if List.length ([105, 102, 32] ++ r1) + List.length [32, 116, 104, 101, 110, 32] ≤ Lim then if (0 : Int) ≤ 1 ∧ (1 : Int) < (List.length (Exp.args a0)) then (q2 (List.getD (Exp.args a0) (Int.toNat 1) Ty.exp.dflt)).bind fun r2 => if List.length (([105, 102, 32] ++ r1) ++ [32, 116, 104, 101, 110, 32]) + List.length r2 ≤ Lim then if List.length ((([105, 102, 32] ++ r1) ++ [32, 116, 104, 101, 110, 32]) ++ r2) + List.length [32, 101, 108, 115, 101, 32] ≤ Lim then if (0 : Int) ≤ 2 ∧ (2 : Int) < (List.length (Exp.args a0)) then (q2 (List.getD (Exp.args a0) (Int.toNat 2) Ty.exp.dflt)).bind fun r3 => if List.length (((([105, 102, 32] ++ r1) ++ [32, 116, 104, 101, 110, 32]) ++ r2) ++ [32, 101, 108, 115, 101, 32]) + List.length r3 ≤ Lim then
      some ((((([105, 102, 32] ++ r1) ++ [32, 116, 104, 101, 110, 32]) ++ r2) ++ [32, 101, 108, 115, 101, 32]) ++ r3) else none else none else none else none else none else none else none else none) else ((xFR N a0).bind fun r1 => bif (r1 == 1) then (if (0 : Int) ≤ 0 ∧ (0 : Int) < (List.length (Exp.args a0)) then (q0 (List.getD (Exp.args a0) (Int.toNat 0) Ty.exp.dflt) 2).bind fun r2 => if List.length r2 + List.length [32] ≤ Lim then (xGH N (Exp.n a0)).bind fun r3 => if List.length (r2 ++ [32]) + List.length r3 ≤ Lim then if List.length ((r2 ++ [32]) ++ r3) + List.length [32] ≤ Lim then if (0 : Int) ≤ 1 ∧ (1 : Int) < (List.length (Exp.args a0)) then (q0 (List.getD (Exp.args a0) (Int.toNat 1) Ty.exp.dflt) (IntKind.i64.wrap (r1 + 1))).bind fun r4 => if List.length (((r2 ++ [32]) ++ r3) ++ [32]) + List.length r4 ≤ Lim then some ((((r2 ++ [32]) ++ r3) ++ [32]) ++ r4) else none else none else none else none else none else none) else (if (0 : Int) ≤ 0 ∧ (0 : Int) < (List.length (Exp.args a0)) then (q0 (List.getD (Exp.args a0) (Int.toNat 0) Ty.exp.dflt) r1).bind fun r2 => if List.length r2 + List.length [32] ≤ Lim then (xGH N (Exp.n a0)).bind fun r3 => if List.length (r2 ++ [32]) + List.length r3 ≤ Lim then if List.length ((r2 ++ [32]) ++ r3) + List.length [32] ≤ Lim then if (0 : Int) ≤ 1 ∧ (1 : Int) < (List.length (Exp.args a0)) then (q0 (List.getD (Exp.args a0) (Int.toNat 1) Ty.exp.dflt) (IntKind.i64.wrap (r1 + 1))).bind fun r4 => if List.length (((r2 ++ [32]) ++ r3) ++ [32]) + List.length r4 ≤ Lim then some ((((r2 ++ [32]) ++ r3) ++ [32]) ++ r4) else none else none else none else none else none else none)))))))))
structure spec_l12At_rec where
 c_spec_l12At : Exp → Int → Option (Str)
 c_spec_l12List : (List Exp) → Option (Str)
 c_spec_l12Text : Exp → Option (Str)
def xAv (N : Nat) : Nat → spec_l12At_rec
 | 0 => ⟨fun _ _ => none, fun _ => none, fun _ => none⟩
 | d + 1 => ⟨xFV N (xAv N d).c_spec_l12At (xAv N d).c_spec_l12List (xAv N d).c_spec_l12Text, xGX N (xAv N d).c_spec_l12At (xAv N d).c_spec_l12List (xAv N d).c_spec_l12Text, xBR N (xAv N d).c_spec_l12At (xAv N d).c_spec_l12List (xAv N d).c_spec_l12Text⟩
def xJv (N : Nat) (a0 : Exp) : Option (Str) := (xAv N N).c_spec_l12Text a0
def xDv (a0 : Exp) : List Arg := [.val (.v true (Ex .ro a0))]
def xCd (r : Str) : CallO := ⟨.v false [.str r], [], []⟩
def xFf (N : Nat) (a0 : Exp) : Option (Str) := (xCj N a0).bind fun r1 => bif (!r1) then (some []) else ((xJv N a0).bind fun r2 => some r2)
def strconv_Itoa (N : Nat) (a0 : Int) : Option Str := itoaP a0
def xH4 (N : Nat) (a0 : Int) : Option (Str) := (strconv_Itoa N a0).bind fun r1 => some r1
def xLa (N : Nat) (a0 : List Str) (a1 : Str) : Option Str := joinP a0 a1
def xLw (N : Nat) (a0 : List Str) (a1 : Str) : Option (Str) := (xLa N a0 a1).bind fun r1 => some r1
def xHS (N : Nat) (a0 : Exp) : Option (Int) := bif ((Exp.kind a0) == 7) then (some 0) else (bif ((Exp.kind a0) == 8) then (some 0) else (bif ((Exp.kind a0) == 9) then (some 0) else (bif ((Exp.kind a0) == 6) then (bif ((Exp.n a0) == 4) then (some 1) else (bif ((Exp.n a0) == 5) then (some 1) else (bif ((Exp.n a0) == 1) then (some 2) else (bif ((Exp.n a0) == 2) then (some 2) else (bif ((Exp.n a0) == 3) then (some 3) else (some 4)))))) else (some 4))))
def xGB (N : Nat) (q0 : Exp → Int → Option (Str)) (q1 : Exp → Option (Str)) (q2 : (List Exp) → Option (Str)) (a0 : Exp) (a1 : Int) : Option (Str) := (q1 a0).bind fun r1 => (xHS N a0).bind fun r2 => bif (decide (r2 < a1)) then (if List.length [40] + List.length r1 ≤ Lim then if List.length ([40] ++ r1) + List.length [41] ≤ Lim then some (([40] ++ r1) ++ [41]) else none else none) else (some r1)
def xCK (N : Nat) (q0 : Exp → Int → Option (Str)) (q1 : Exp → Option (Str)) (q2 : (List Exp) → Option (Str)) (a0 : Exp) : Option (Str) := bif ((Exp.kind a0) == 1) then ((xH4 N (Exp.n a0)).bind fun r1 => some r1) else (bif ((Exp.kind a0) == 2) then (if List.length [34] + List.length (Exp.text a0) ≤ Lim then if List.length ([34] ++ (Exp.text a0)) + List.length [34] ≤ Lim then some (([34] ++ (Exp.text a0)) ++ [34]) else none else none) else (bif ((Exp.kind a0) == 3) then (some (Exp.text a0)) else (bif ((Exp.kind a0) == 4) then ((q2 (Exp.args a0)).bind fun r1 => if List.length [91] + List.length r1 ≤ Lim then if List.length ([91] ++ r1) + List.length [93] ≤ Lim then some (([91] ++ r1) ++ [93]) else none else none) else (bif ((Exp.kind a0) == 5) then (if List.length (Exp.text a0) + List.length [40] ≤ Lim then (q2 (Exp.args a0)).bind fun r1 => if List.length ((Exp.text a0) ++ [40]) + List.length r1 ≤ Lim then if List.length (((Exp.text a0) ++ [40]) ++ r1) + List.length [41] ≤ Lim then some ((((Exp.text a0) ++ [40]) ++ r1) ++ [41]) else none else none else none) else (bif ((Exp.kind a0) == 7) then (if List.length [108, 101, 116, 32] + List.length (Exp.text a0) ≤ Lim then if List.length ([108, 101, 116, 32] ++ (Exp.text a0)) + List.length [32, 61, 32] ≤ Lim then if (0 : Int) ≤ 0 ∧ (0 : Int) < (List.length (Exp.args a0)) then (q1 (List.getD (Exp.args a0) (Int.toNat 0) Ty.exp.dflt)).bind fun r1 => if List.length (([108, 101, 116, 32] ++ (Exp.text a0)) ++ [32, 61, 32]) + List.length r1 ≤ Lim then if List.length ((([108, 101, 116, 32] ++ (Exp.text a0)) ++ [32, 61, 32]) ++ r1) + List.length [32, 105, 110, 32] ≤ Lim then if (0 : Int) ≤ 1 ∧ (1 : Int) < (List.length (Exp.args a0)) then (q1 (List.getD (Exp.args a0) (Int.toNat 1) Ty.exp.dflt)).bind fun r2 => if List.length (((([108, 101, 116, 32] ++ (Exp.text a0)) ++ [32, 61, 32]) ++ r1) ++ [32, 105, 110, 32]) + List.length r2 ≤ Lim then some ((((([108, 101, 116, 32] ++ (Exp.text a0)) ++ [32, 61, 32]) ++ r1) ++ [32, 105, 110, 32]) ++ r2)
     else none else none else none else none else none else none else none) else (bif ((Exp.kind a0) == 8) then (if (0 : Int) ≤ 0 ∧ (0 : Int) < (List.length (Exp.args a0)) then (q1 (List.getD (Exp.args a0) (Int.toNat 0) Ty.exp.dflt)).bind fun r1 => if List.length [105, 102, 32] + List.length r1 ≤ Lim then if List.length ([105, 102, 32] ++ r1) + List.length [32, 116, 104, 101, 110, 32] ≤ Lim then if (0 : Int) ≤ 1 ∧ (1 : Int) < (List.length (Exp.args a0)) then (q1 (List.getD (Exp.args a0) (Int.toNat 1) Ty.exp.dflt)).bind fun r2 => if List.length (([105, 102, 32] ++ r1) ++ [32, 116, 104, 101, 110, 32]) + List.length r2 ≤ Lim then if List.length ((([105, 102, 32] ++ r1) ++ [32, 116, 104, 101, 110, 32]) ++ r2) + List.length [32, 101, 108, 115, 101, 32] ≤ Lim then if (0 : Int) ≤ 2 ∧ (2 : Int) < (List.length (Exp.args a0)) then (q1 (List.getD (Exp.args a0) (Int.toNat 2) Ty.exp.dflt)).bind fun r3 => if List.length (((([105, 102, 32] ++ r1) ++ [32, 116, 104, 101, 110, 32]) ++ r2) ++ [32, 101, 108, 115, 101, 32]) + List.length r3 ≤ Lim then some ((((([105, 102, 32] ++ r1) ++ [32, 116, 104, 101, 110, 32]) ++ r2) ++ [32, 101, 108, 115, 101, 32]) ++ r3) else none else none else none else none else none else none else none else none) else (bif ((Exp.kind a0) == 9) then (if List.length [102, 111, 114, 32] + List.length (Exp.text a0) ≤ Lim then if List.length ([102, 111, 114, 32] ++ (Exp.text a0)) + List.length [32, 105, 110, 32] ≤ Lim then if (0 : Int) ≤ 0 ∧ (0 : Int) < (List.length (Exp.args a0)) then (q1 (List.getD (Exp.args a0) (Int.toNat 0) Ty.exp.dflt)).bind fun r1 => if List.length (([102, 111, 114, 32] ++ (Exp.text a0)) ++ [32, 105, 110, 32]) + List.length r1 ≤ Lim then if List.length ((([102, 111, 114, 32] ++ (Exp.text a0)) ++ [32, 105, 110, 32]) ++ r1) + List.length [32, 100, 111, 32] ≤ Lim then if (0 : Int) ≤ 1 ∧ (1 : Int) < (List.length (Exp.args a0)) then (q1 (List.getD (Exp.args a0) (Int.toNat 1) Ty.exp.dflt)).bind fun r2 =>
      if List.length (((([102, 111, 114, 32] ++ (Exp.text a0)) ++ [32, 105, 110, 32]) ++ r1) ++ [32, 100, 111, 32]) + List.length r2 ≤ Lim then some ((((([102, 111, 114, 32] ++ (Exp.text a0)) ++ [32, 105, 110, 32]) ++ r1) ++ [32, 100, 111, 32]) ++ r2) else none else none else none else none else none else none else none) else ((xHS N a0).bind fun r1 => bif (r1 == 1) then (if (0 : Int) ≤ 0 ∧ (0 : Int) < (List.length (Exp.args a0)) then (q0 (List.getD (Exp.args a0) (Int.toNat 0) Ty.exp.dflt) 2).bind fun r2 => if List.length r2 + List.length [32] ≤ Lim then (xEY N (Exp.n a0)).bind fun r3 => if List.length (r2 ++ [32]) + List.length r3 ≤ Lim then if List.length ((r2 ++ [32]) ++ r3) + List.length [32] ≤ Lim then if (0 : Int) ≤ 1 ∧ (1 : Int) < (List.length (Exp.args a0)) then (q0 (List.getD (Exp.args a0) (Int.toNat 1) Ty.exp.dflt) (IntKind.i64.wrap (r1 + 1))).bind fun r4 => if List.length (((r2 ++ [32]) ++ r3) ++ [32]) + List.length r4 ≤ Lim then some ((((r2 ++ [32]) ++ r3) ++ [32]) ++ r4) else none else none else none else none else none else none) else (if (0 : Int) ≤ 0 ∧ (0 : Int) < (List.length (Exp.args a0)) then (q0 (List.getD (Exp.args a0) (Int.toNat 0) Ty.exp.dflt) r1).bind fun r2 => if List.length r2 + List.length [32] ≤ Lim then (xEY N (Exp.n a0)).bind fun r3 => if List.length (r2 ++ [32]) + List.length r3 ≤ Lim then if List.length ((r2 ++ [32]) ++ r3) + List.length [32] ≤ Lim then if (0 : Int) ≤ 1 ∧ (1 : Int) < (List.length (Exp.args a0)) then (q0 (List.getD (Exp.args a0) (Int.toNat 1) Ty.exp.dflt) (IntKind.i64.wrap (r1 + 1))).bind fun r4 => if List.length (((r2 ++ [32]) ++ r3) ++ [32]) + List.length r4 ≤ Lim then some ((((r2 ++ [32]) ++ r3) ++ [32]) ++ r4) else none else none else none else none else none else none)))))))))
def xFe (N : Nat) (q0 : Exp → Int → Option (Str)) (q1 : Exp → Option (Str)) (q2 : (List Exp) → Option (Str)) : Nat → (List Str) → (List Exp) → Int → Int → Option (Str)
 | 0, _, _, _, _ => none
 | n + 1, x3, x7, x8, x9 => bif (decide (x9 < x8)) then (if (0 : Int) ≤ x9 ∧ x9 < (List.length x7) then (q1 (List.getD x7 (Int.toNat x9) Ty.exp.dflt)).bind fun r1 => if List.length x3 + List.length [r1] ≤ Lim then (xFe N q0 q1 q2 n (x3 ++ [r1]) x7 x8 (IntKind.i64.wrap (x9 + 1))) else none else none) else ((xLw N x3 [44, 32]).bind fun r1 => some r1)
def xKB (N : Nat) (q0 : Exp → Int → Option (Str)) (q1 : Exp → Option (Str)) (q2 : (List Exp) → Option (Str)) (a0 : List Exp) : Option (Str) := (xFe N q0 q1 q2 N [] a0 (List.length a0 : Int) 0)
structure impl_enclosed_rec where
 c_impl_enclosed : Exp → Int → Option (Str)
 c_impl_source : Exp → Option (Str)
 c_impl_sources : (List Exp) → Option (Str)
def xAm (N : Nat) : Nat → impl_enclosed_rec
 | 0 => ⟨fun _ _ => none, fun _ => none, fun _ => none⟩
 | d + 1 => ⟨xGB N (xAm N d).c_impl_enclosed (xAm N d).c_impl_source (xAm N d).c_impl_sources, xCK N (xAm N d).c_impl_enclosed (xAm N d).c_impl_source (xAm N d).c_impl_sources, xKB N (xAm N d).c_impl_enclosed (xAm N d).c_impl_source (xAm N d).c_impl_sources⟩
def xLx (N : Nat) (a0 : Exp) : Option (Str) := (xAm N N).c_impl_source a0
def xHs (N : Nat) (a0 : Exp) : Option (Str) := (xCJ N a0).bind fun r1 => bif (!r1) then (some []) else ((xLx N a0).bind fun r2 => some r2)
def xIz (a0 : List Int) : List Arg := [.val (.v false [.sl .ro .byte a0])]
def xDu (r : Bool) : CallO := ⟨.v false [.bool r], [], []⟩
def xJz (N : Nat) (a0 : List Int) : Option (Bool) := some (decide ((List.length a0 : Int) > 1048576))
def xHl (a0 : List Int) : List Arg := [.val (.v false [.sl .ro .byte a0])]
def xFw (r : Cur) : CallO := ⟨.tup [(false, [.ptr 0 0]), (true, (Cu .ro r))], [], []⟩
def xF4 (N : Nat) : Nat → (List Int) → Int → Int → Option (Cur)
 | 0, _, _, _ => none
 | n + 1, x0, x3, x4 => bif (decide (x4 < (List.length x0 : Int))) then (bif (decide (x4 < 4000)) then (if (0 : Int) ≤ x4 ∧ x4 < (List.length x0) then (xF4 N n x0 (andI .i64 (IntKind.i64.wrap ((IntKind.i64.wrap ((IntKind.i64.wrap (x3 * 131)) + (IntKind.i64.wrap ((List.getD x0 (Int.toNat x4) Ty.byte.dflt))))) + 7)) 1073741823) (IntKind.i64.wrap (x4 + 1))) else none) else (some (Cur.mk x0 0 x3))) else (some (Cur.mk x0 0 x3))
def xGY (N : Nat) (a0 : List Int) : Option (Cur) := (xF4 N N a0 (IntKind.i64.wrap (26583 + (List.length a0 : Int))) 0)
def xD4 (a0 : Cur) : List Arg := [.box (Cu .ro a0)]
def xCf (r : Int × Cur) : CallO := ⟨.v false [.int .i64 r.1], [(Cu .ro r.2)], []⟩
def xFt (N : Nat) (a0 : Cur) : Option (Int × Cur) := bif (decide ((Cur.i a0) < (List.length (Cur.b a0) : Int))) then (if (0 : Int) ≤ (Cur.i a0) ∧ (Cur.i a0) < (List.length (Cur.b a0)) then some ((andI .i64 (IntKind.i64.wrap ((andI .i64 (xorI .i64 (Int.fdiv (IntKind.i64.wrap ((IntKind.i64.wrap ((Cur.h a0) * 6364136223846793005)) + 1442695040888963407)) ((2 : Int) ^ (Int.toNat 33))) (Int.fdiv (IntKind.i64.wrap ((IntKind.i64.wrap ((Cur.h a0) * 6364136223846793005)) + 1442695040888963407)) ((2 : Int) ^ (Int.toNat 45)))) 255) + (IntKind.i64.wrap ((List.getD (Cur.b a0) (Int.toNat (Cur.i a0)) Ty.byte.dflt))))) 255), (Cur.mk (Cur.b a0) (IntKind.i64.wrap ((Cur.i a0) + 1)) (IntKind.i64.wrap ((IntKind.i64.wrap ((Cur.h a0) * 6364136223846793005)) + 1442695040888963407)))) else none) else (some ((andI .i64 (xorI .i64 (Int.fdiv (IntKind.i64.wrap ((IntKind.i64.wrap ((Cur.h a0) * 6364136223846793005)) + 1442695040888963407)) ((2 : Int) ^ (Int.toNat 33))) (Int.fdiv (IntKind.i64.wrap ((IntKind.i64.wrap ((Cur.h a0) * 6364136223846793005)) + 1442695040888963407)) ((2 : Int) ^ (Int.toNat 45)))) 255), (Cur.mk (Cur.b a0) (Cur.i a0) (IntKind.i64.wrap ((IntKind.i64.wrap ((Cur.h a0) * 6364136223846793005)) + 1442695040888963407)))))
def xAC (a0 : Cur) (a1 : Int) : List Arg := [.box (Cu .ro a0), .val (.v false [.int .i64 a1])]
def xAc (r : Int × Cur) : CallO := ⟨.v false [.int .i64 r.1], [(Cu .ro r.2)], []⟩
def xAR (N : Nat) (a0 : Cur) (a1 : Int) : Option (Int × Cur) := bif (decide (a1 ≤ 0)) then (some (0, a0)) else (bif (decide (a1 ≤ 256)) then ((xFt N a0).bind fun r1 => if a1 ≠ (0 : Int) then some ((Int.tmod r1.1 a1), r1.2) else none) else ((xFt N a0).bind fun r1 => (xFt N r1.2).bind fun r2 => (xFt N r2.2).bind fun r3 => (xFt N r3.2).bind fun r4 => if a1 ≠ (0 : Int) then some ((Int.tmod (IntKind.i64.wrap ((IntKind.i64.wrap ((IntKind.i64.wrap ((IntKind.i64.wrap (r1.1 * 16777216)) + (IntKind.i64.wrap (r2.1 * 65536)))) + (IntKind.i64.wrap (r3.1 * 256)))) + r4.1)) a1), r4.2) else none))
def xCs (a0 : Cur) (a1 : List Str) : List Arg := [.box (Cu .ro a0), .val (.v false [.sl .ro .str a1])]
def xA0 (r : Str × Cur) : CallO := ⟨.v false [.str r.1], [(Cu .ro r.2)], []⟩
def xC0 (N : Nat) (a0 : Cur) (a1 : List Str) : Option (Str × Cur) := (xAR N a0 (List.length a1 : Int)).bind fun r1 => if (0 : Int) ≤ r1.1 ∧ r1.1 < (List.length a1) then some ((List.getD a1 (Int.toNat r1.1) Ty.str.dflt), r1.2) else none
def xDx (a0 : Cur) (a1 : List Str) : List Arg := [.box (Cu .ro a0), .val (.v false [.sl .ro .str a1])]
def xCk (r : Exp × Cur) : CallO := ⟨.v true (Ex .own r.1), [(Cu .ro r.2)], []⟩
def xGy (N : Nat) (a0 : Cur) (a1 : List Str) : Option (Exp × Cur) := (xAR N a0 5).bind fun r1 => bif (r1.1 == 0) then ((xC0 N r1.2 [[97], [97, 98], [], [98]]).bind fun r2 => some ((Exp.mk 2 0 r2.1 []), r2.2)) else (bif (r1.1 == 1) then ((xAR N r1.2 6).bind fun r2 => (xCH N r2.1).bind fun r3 => some (r3, r2.2)) else (bif (r1.1 == 2) then ((xAR N r1.2 6).bind fun r2 => (xCH N r2.1).bind fun r3 => some (r3, r2.2)) else ((xC0 N r1.2 a1).bind fun r2 => (xHZ N r2.1).bind fun r3 => some (r3, r2.2))))
def xFb (a0 : Cur) (a1 : Int) : List Arg := [.box (Cu .ro a0), .val (.v false [.int .i64 a1])]
def xDb (r : Bool × Cur) : CallO := ⟨.v false [.bool r.1], [(Cu .ro r.2)], []⟩
def xFW (N : Nat) (a0 : Cur) (a1 : Int) : Option (Bool × Cur) := (xAR N a0 a1).bind fun r1 => some ((r1.1 == 0), r1.2)
def xEH (a0 : Cur) (a1 : List Str) : List Arg := [.box (Cu .ro a0), .val (.v false [.sl .ro .str a1])]
def xCl (r : Exp × Cur) : CallO := ⟨.v true (Ex .own r.1), [(Cu .ro r.2)], []⟩
def xEI (N : Nat) : Nat → (List Str) → Int → Int → Cur → Exp → Exp → Option (Exp × Cur)
 | 0, _, _, _, _, _, _ => none
 | n + 1, x1, x6, x7, b0, b4, b5 => bif (decide (x7 < x6)) then ((xAR N b0 5).bind fun r1 => (xCH N r1.1).bind fun r2 => if List.length (Exp.args b5) + List.length [(Exp.re r2)] ≤ Lim then (xFW N r1.2 4).bind fun r3 => bif r3.1 then ((xGy N r3.2 x1).bind fun r4 => if (0 : Int) ≤ x7 ∧ x7 < (List.length ((Exp.args b5) ++ [(Exp.re r2)])) then (xEI N n x1 x6 (IntKind.i64.wrap (x7 + 1)) r4.2 b4 (Exp.mk (Exp.kind b5) (Exp.n b5) (Exp.text b5) ((fun (z2 : List Exp) => List.set z2 (Int.toNat x7) (Exp.re r4.1)) ((Exp.args b5) ++ [(Exp.re r2)])))) else none) else ((xEI N n x1 x6 (IntKind.i64.wrap (x7 + 1)) r3.2 b4 (Exp.mk (Exp.kind b5) (Exp.n b5) (Exp.text b5) ((Exp.args b5) ++ [(Exp.re r2)])))) else none) else (some (b5, b0))
def xFT (N : Nat) (a0 : Cur) (a1 : List Str) : Option (Exp × Cur) := (xAR N a0 4).bind fun r1 => (xEI N N a1 r1.1 0 r1.2 (Exp.mk 0 0 [] []) (Exp.mk 4 0 [] []))
def xCg (a0 : Cur) (a1 : Exp) (a2 : Exp) : List Arg := [.box (Cu .ro a0), .val (.v true (Ex .ro a1)), .val (.v true (Ex .ro a2))]
def xA3 (r : Exp × Cur) : CallO := ⟨.v true (Ex .ro r.1), [(Cu .ro r.2)], []⟩
def xDC (N : Nat) (a0 : Cur) (a1 : Exp) (a2 : Exp) : Option (Exp × Cur) := (xFW N a0 2).bind fun r1 => bif r1.1 then (some (a1, r1.2)) else (some (a2, r1.2))
def xB8 (a0 : Str) (a1 : List Exp) : List Arg := [.val (.v false [.str a0]), .val (.v false [.sl .ro .exp a1])]
def xAQ (r : Exp) : CallO := ⟨.v true (Ex .ro r), [], []⟩
def xC2 (N : Nat) (a0 : Str) (a1 : List Exp) : Option (Exp) := some (Exp.mk 5 0 a0 a1)
def xEA (a0 : Cur) : List Arg := [.box (Cu .ro a0)]
def xCU (r : Exp × Cur) : CallO := ⟨.v true (Ex .own r.1), [(Cu .ro r.2)], []⟩
def xFA (N : Nat) (a0 : Cur) : Option (Exp × Cur) := (xC0 N a0 [[97], [97], [98], [99], [120]]).bind fun r1 => some ((Exp.mk 2 0 r1.1 []), r1.2)
def xEU (a0 : Cur) : List Arg := [.box (Cu .ro a0)]
def xCO (r : Exp × Cur) : CallO := ⟨.v true (Ex .ro r.1), [(Cu .ro r.2)], []⟩
def xEV (N : Nat) : Nat → Int → Int → Cur → Exp → Exp → Option (Exp × Cur)
 | 0, _, _, _, _, _ => none
 | n + 1, x4, x5, b0, b2, b3 => bif (decide (x5 < x4)) then ((xAR N b0 3).bind fun r1 => (xCH N r1.1).bind fun r2 => (xAR N r1.2 4).bind fun r3 => (xCH N r3.1).bind fun r4 => if List.length (Exp.args b3) + List.length [(Exp.mk 4 0 [] [(Exp.re r2), (Exp.re r4)])] ≤ Lim then (xEV N n x4 (IntKind.i64.wrap (x5 + 1)) r3.2 b2 (Exp.mk (Exp.kind b3) (Exp.n b3) (Exp.text b3) ((Exp.args b3) ++ [(Exp.mk 4 0 [] [(Exp.re r2), (Exp.re r4)])]))) else none) else ((xC2 N [116, 97, 98, 108, 101] [(Exp.mk 2 0 [97, 32, 98] []), (Exp.re b3)]).bind fun r1 => some (r1, b0))
def xF2 (N : Nat) (a0 : Cur) : Option (Exp × Cur) := (xAR N a0 4).bind fun r1 => (xEV N N r1.1 0 r1.2 (Exp.mk 0 0 [] []) (Exp.mk 4 0 [] []))
def xAF (a0 : Cur) (a1 : List Str) (a2 : Int) : List Arg := [.box (Cu .ro a0), .val (.v false [.sl .ro .str a1]), .val (.v false [.int .i64 a2])]
def xAj (r : Exp × Cur) : CallO := ⟨.v true (Ex .ro r.1), [(Cu .ro r.2)], []⟩
def xDX (N : Nat) (q0 : Cur → (List Str) → Int → Option (Exp × Cur)) (a0 : Cur) (a1 : List Str) (a2 : Int) : Option (Exp × Cur) := bif (decide (a2 < 2)) then ((xGy N a0 a1).bind fun r1 => some (r1.1, r1.2)) else ((xAR N a0 13).bind fun r1 => bif (r1.1 == 0) then ((xAR N r1.2 5).bind fun r2 => (q0 r2.2 a1 (IntKind.i64.wrap (a2 - 1))).bind fun r3 => (q0 r3.2 a1 (IntKind.i64.wrap (a2 - 1))).bind fun r4 => (xDY N (IntKind.i64.wrap (1 + r2.1)) r3.1 r4.1).bind fun r5 => some (r5, r4.2)) else (bif (r1.1 == 1) then ((xAR N r1.2 5).bind fun r2 => (q0 r2.2 a1 (IntKind.i64.wrap (a2 - 1))).bind fun r3 => (q0 r3.2 a1 (IntKind.i64.wrap (a2 - 1))).bind fun r4 => (xDY N (IntKind.i64.wrap (1 + r2.1)) r3.1 r4.1).bind fun r5 => some (r5, r4.2)) else (bif (r1.1 == 2) then (if (0 : Int) ≤ 0 ∧ (0 : Int) < (List.length a1) then (xC0 N r1.2 [[117], [118], (List.getD a1 (Int.toNat 0) Ty.str.dflt)]).bind fun r2 => (q0 r2.2 a1 (IntKind.i64.wrap (a2 - 1))).bind fun r3 => if List.length [r2.1] + List.length a1 ≤ Lim then (q0 r3.2 ([r2.1] ++ a1) (IntKind.i64.wrap (a2 - 1))).bind fun r4 => some ((Exp.mk 7 0 r2.1 [(Exp.re r3.1), (Exp.re r4.1)]), r4.2) else none else none) else (bif (r1.1 == 3) then ((q0 r1.2 a1 (IntKind.i64.wrap (a2 - 1))).bind fun r2 => (q0 r2.2 a1 (IntKind.i64.wrap (a2 - 1))).bind fun r3 => (q0 r3.2 a1 (IntKind.i64.wrap (a2 - 1))).bind fun r4 => some ((Exp.mk 8 0 [] [(Exp.re r2.1), (Exp.re r3.1), (Exp.re r4.1)]), r4.2)) else (bif (r1.1 == 4) then (if (0 : Int) ≤ 0 ∧ (0 : Int) < (List.length a1) then (xC0 N r1.2 [[117], [118], (List.getD a1 (Int.toNat 0) Ty.str.dflt)]).bind fun r2 => (xFT N r2.2 a1).bind fun r3 => if List.length [r2.1, r2.1] + List.length a1 ≤ Lim then (q0 r3.2 ([r2.1, r2.1] ++ a1) (IntKind.i64.wrap (a2 - 1))).bind fun r4 => some ((Exp.mk 9 0 r2.1 [(Exp.re r3.1), (Exp.re r4.1)]), r4.2)
     else none else none) else (bif (r1.1 == 5) then ((xFT N r1.2 a1).bind fun r2 => some (r2.1, r2.2)) else (bif (r1.1 == 6) then ((xC0 N r1.2 [[108, 101, 110], [115, 117, 109]]).bind fun r2 => (xFT N r2.2 a1).bind fun r3 => (q0 r3.2 a1 (IntKind.i64.wrap (a2 - 1))).bind fun r4 => (xDC N r4.2 r3.1 r4.1).bind fun r5 => (xC2 N r2.1 [(Exp.re r5.1)]).bind fun r6 => some (r6, r5.2)) else (bif (r1.1 == 7) then ((xC0 N r1.2 [[116, 97, 107, 101], [115, 107, 105, 112], [110, 116, 104], [116, 97, 107, 101]]).bind fun r2 => (xAR N r2.2 4).bind fun r3 => (xCH N r3.1).bind fun r4 => (xFT N r3.2 a1).bind fun r5 => (xAR N r5.2 9).bind fun r6 => (xCH N r6.1).bind fun r7 => (xAR N r6.2 4).bind fun r8 => (xCH N r8.1).bind fun r9 => (xC2 N [114, 97, 110, 103, 101] [(Exp.re r7), (Exp.re r9)]).bind fun r10 => (xDC N r8.2 r5.1 r10).bind fun r11 => (xC2 N r2.1 [(Exp.re r4), (Exp.re r11.1)]).bind fun r12 => some (r12, r11.2)) else (bif (r1.1 == 8) then ((xFA N r1.2).bind fun r2 => (xAR N r2.2 3).bind fun r3 => (xCH N r3.1).bind fun r4 => (xF2 N r3.2).bind fun r5 => (q0 r5.2 a1 (IntKind.i64.wrap (a2 - 1))).bind fun r6 => (xDC N r6.2 r5.1 r6.1).bind fun r7 => (xC2 N [119, 104, 101, 114, 101] [(Exp.re r2.1), (Exp.re r4), (Exp.re r7.1)]).bind fun r8 => some (r8, r7.2)) else (bif (r1.1 == 9) then ((xFA N r1.2).bind fun r2 => (xFA N r2.2).bind fun r3 => (xF2 N r3.2).bind fun r4 => (q0 r4.2 a1 (IntKind.i64.wrap (a2 - 1))).bind fun r5 => (xDC N r5.2 r4.1 r5.1).bind fun r6 => (xC2 N [103, 114, 111, 117, 112] [(Exp.re r2.1), (Exp.re r3.1), (Exp.re r6.1)]).bind fun r7 =>
               some (r7, r6.2)) else (bif (r1.1 == 10) then ((xF2 N r1.2).bind fun r2 => (q0 r2.2 a1 (IntKind.i64.wrap (a2 - 1))).bind fun r3 => (xDC N r3.2 r2.1 r3.1).bind fun r4 => (xC2 N [114, 111, 119, 115] [(Exp.re r4.1)]).bind fun r5 => some (r5, r4.2)) else (bif (r1.1 == 11) then ((xAR N r1.2 6).bind fun r2 => (xCH N (IntKind.i64.wrap (1 + r2.1))).bind fun r3 => (xC2 N [99, 104, 97, 110, 99, 101] [(Exp.re r3)]).bind fun r4 => some (r4, r2.2)) else ((xC2 N [99, 108, 111, 99, 107] []).bind fun r2 => (xC0 N r1.2 [[102], [103], [104]]).bind fun r3 => (xC2 N [102, 105, 108, 101] [(Exp.mk 2 0 r3.1 [])]).bind fun r4 => (xDC N r3.2 r2 r4).bind fun r5 => some (r5.1, r5.2))))))))))))))
def xDh (N : Nat) : Nat → Cur → (List Str) → Int → Option (Exp × Cur)
 | 0, _, _, _ => none
 | d + 1, a0, a1, a2 => xDX N (xDh N d) a0 a1 a2
def xJr (N : Nat) (a0 : Cur) (a1 : List Str) (a2 : Int) : Option (Exp × Cur) := xDh N N a0 a1 a2
def xEG (a0 : Cur) : List Arg := [.box (Cu .ro a0)]
def xC8 (r : Exp × Cur) : CallO := ⟨.v true (Ex .ro r.1), [(Cu .ro r.2)], []⟩
def xHY (N : Nat) (a0 : Cur) : Option (Exp × Cur) := (xAR N a0 4).bind fun r1 => (xJr N r1.2 [[97], [98], [99]] (IntKind.i64.wrap (1 + r1.1))).bind fun r2 => (xCj N r2.1).bind fun r3 => bif (!r3) then ((xGy N r2.2 [[97], [98], [99]]).bind fun r4 => some (r4.1, r4.2)) else (some (r2.1, r2.2))
def xEW (a0 : Cur) (a1 : Str) (a2 : List Str) : List Arg := [.box (Cu .ro a0), .val (.v false [.str a1]), .val (.v false [.sl .ro .str a2])]
def xEl (r : Str × Cur) : CallO := ⟨.v false [.str r.1], [(Cu .ro r.2)], []⟩
def xGK (N : Nat) (a0 : Cur) (a1 : Str) (a2 : List Str) : Option (Str × Cur) := (xAR N a0 (IntKind.i64.wrap ((List.length a1 : Int) + 1))).bind fun r1 => (xAR N r1.2 6).bind fun r2 => bif (r2.1 == 0) then (if (0 : Int) ≤ r1.1 ∧ r1.1 ≤ (List.length a1) then (xC0 N r2.2 a2).bind fun r3 => if List.length (List.take (Int.toNat r1.1) a1) + List.length r3.1 ≤ Lim then if List.length ((List.take (Int.toNat r1.1) a1) ++ r3.1) + List.length (List.drop (Int.toNat r1.1) a1) ≤ Lim then some ((((List.take (Int.toNat r1.1) a1) ++ r3.1) ++ (List.drop (Int.toNat r1.1) a1)), r3.2) else none else none else none) else (bif (r2.1 == 1) then (if (0 : Int) ≤ r1.1 ∧ r1.1 ≤ (List.length a1) then some ((List.take (Int.toNat r1.1) a1), r2.2) else none) else (some (a1, r2.2)))
def xFj (a0 : Cur) : List Arg := [.box (Cu .ro a0)]
def xEL (r : Str × Cur) : CallO := ⟨.v false [.str r.1], [(Cu .ro r.2)], []⟩
def xH0 (N : Nat) (a0 : Cur) : Option (Str × Cur) := (xHY N a0).bind fun r1 => (xFf N r1.1).bind fun r2 => (xAR N r1.2 5).bind fun r3 => bif (r3.1 == 0) then ((xGK N r3.2 r2 [[32], [40], [41], [44], [32, 43, 32], [32, 105, 110, 32], [108, 101, 116, 32], [120], [61], [93]]).bind fun r4 => some (r4.1, r4.2)) else (bif (r3.1 == 1) then ((xC0 N r3.2 [[], [49, 32, 43, 32, 50, 32, 42, 32, 51], [40, 49, 32, 43, 32, 50, 41, 32, 42, 32, 51], [49, 32, 60, 32, 50, 32, 60, 32, 51], [97, 32, 45, 32, 98, 32, 45, 32, 99], [108, 101, 116, 32, 120, 32, 61, 32, 49, 32, 105, 110, 32, 120, 32, 43, 32, 120], [102, 111, 114, 32, 117, 32, 105, 110, 32, 91, 49, 44, 32, 50, 93, 32, 100, 111, 32, 117, 32, 42, 32, 117], [105, 102, 32, 97, 32, 116, 104, 101, 110, 32, 98, 32, 101, 108, 115, 101, 32, 99], [115, 117, 109, 40, 49, 44, 32, 50, 41], [102, 40, 49, 41], [108, 101, 116, 32, 108, 101, 116, 32, 61, 32, 49, 32, 105, 110, 32, 50], [115, 117, 109], [49, 32, 50], [91, 49, 44, 93], [91, 93], [40, 40, 97, 41, 41], [49, 32, 43, 32, 108, 101, 116, 32, 120, 32, 61, 32, 49, 32, 105, 110, 32, 120]]).bind fun r4 => some (r4.1, r4.2)) else (some (r2, r3.2)))
def xE1 (a0 : List Int) : List Arg := [.val (.v false [.sl .ro .byte a0])]
def xA4 (r : Str) : CallO := ⟨.v false [.str r], [], []⟩
def xE0 (N : Nat) (a0 : List Int) : Option (Str) := (xGY N a0).bind fun r1 => (xH0 N r1).bind fun r2 => some r2.1
def xBP (a0 : Exp) (a1 : Exp) : List Arg := [.val (.v true (Ex .ro a0)), .val (.v true (Ex .ro a1))]
def xAB (r : Bool) : CallO := ⟨.v false [.bool r], [], []⟩
def xEx (N : Nat) (q0 : Exp → Exp → Option (Bool)) : Nat → Int → Exp → Exp → Option (Bool)
 | 0, _, _, _ => none
 | n + 1, x5, b2, b3 => bif (decide (x5 < (List.length (Exp.args b2) : Int))) then (if (0 : Int) ≤ x5 ∧ x5 < (List.length (Exp.args b2)) then if (0 : Int) ≤ x5 ∧ x5 < (List.length (Exp.args b3)) then (q0 (List.getD (Exp.args b2) (Int.toNat x5) Ty.exp.dflt) (List.getD (Exp.args b3) (Int.toNat x5) Ty.exp.dflt)).bind fun r1 => bif (!r1) then (some false) else ((xEx N q0 n (IntKind.i64.wrap (x5 + 1)) b2 b3)) else none else none) else (some true)
def xED (N : Nat) (q0 : Exp → Exp → Option (Bool)) (a0 : Exp) (a1 : Exp) : Option (Bool) := bif ((Exp.kind a0) != (Exp.kind a1)) then (some false) else (bif ((Exp.n a0) != (Exp.n a1)) then (some false) else (bif (!(((Exp.text a0) : Str) == (Exp.text a1))) then (some false) else (bif ((List.length (Exp.args a0) : Int) != (List.length (Exp.args a1) : Int)) then (some false) else ((xEx N q0 N 0 a0 a1)))))
def xEe (N : Nat) : Nat → Exp → Exp → Option (Bool)
 | 0, _, _ => none
 | d + 1, a0, a1 => xED N (xEe N d) a0 a1
def xId (N : Nat) (a0 : Exp) (a1 : Exp) : Option (Bool) := xEe N N a0 a1
def xBc (a0 : List Int) : List Arg := [.val (.v false [.sl .ro .byte a0])]
def xBd (r : Bool) : CallO := ⟨.v false [.bool r], [], []⟩
def xEZ (N : Nat) (a0 : List Int) : Option (Bool) := (xJz N a0).bind fun r1 => bif r1 then (some true) else ((xE0 N a0).bind fun r2 => (xDq N r2).bind fun r3 => (xE9 N r2).bind fun r4 => bif (r3.2 != r4.2) then (some false) else ((xId N r3.1 r4.1).bind fun r5 => bif (!r5) then (some false) else ((xFL N r2).bind fun r6 => bif (!((r6 : Bool) == (decide (r3.2 ≥ 0)))) then (some false) else (bif (decide (r3.2 ≥ 0)) then (bif (decide (r3.2 ≤ (List.length r2 : Int))) then (bif ((List.length (Exp.args r3.1) : Int) == 0) then (some ((Exp.kind r3.1) == 0)) else (some false)) else (some false)) else (if List.length r2 + List.length [32, 41] ≤ Lim then (xDq N (r2 ++ [32, 41])).bind fun r7 => bif (r7.2 == (IntKind.i64.wrap ((List.length r2 : Int) + 1))) then (some true) else (bif (decide (((IntKind.i64.wrap ((List.length r2 : Int) + 2)) : Int) > 120)) then (some (r7.2 == 120)) else (some false)) else none)))))
end Go.Ab
end
section
namespace Go.Ab
theorem vAI {P : Program} {w : World} {nm : String} {k : IntKind} {zs : List Int} (h : Lib.TabIs P w nm k zs) : ∃ (g : Nat) (o : Obj), w.heap[g]? = some o ∧ ∀ w' : World, w'.heap[g]? = some o → Lib.TabIs P w' nm k zs := by
 unfold Lib.TabIs World.var? at h
 obtain ⟨g, hg, h⟩ := Option.bind_eq_some_iff.1 h
 split at h
 · rename_i cs ty fr hh
   refine ⟨g, _, hh, fun w' hw => ?_⟩
   unfold Lib.TabIs World.var?
   rw [hg, jS, hw]
   exact h
 · cases h
end Go.Ab
namespace Go.Ab
variable [Inhabited Lb]
open Go.Proofs Go.Shelf Go.RowKit Go.Lib
variable {P : Program} {ρ : Ren}
theorem xLu (L : Lays.n137 P ρ) : ∀ args w, (callFunc (ρ.f 137) args).run P w = .ok (.enter (ρ.f 137) args) w := enters_of L.f137 (by kernel_rfl) rfl
theorem xLt (L : Lays.n99 P ρ) : ∀ args w, (callFunc (ρ.f 99) args).run P w = .ok (.enter (ρ.f 99) args) w := enters_of L.f99 (by kernel_rfl) rfl
end Go.Ab
end
section
namespace Go.Ab
open Go.Proofs Go.Shelf Go.RowKit Go.Lib
variable {P : Program} {ρ : Ren}
def xVJ (s : Str) (e : Ending) : Prop :=
 (∃ v, Lib.atoiAll s = .ok v ∧ e = .returned (.tuple #[.int .i64 v, .nilIface])) ∨ ((∀ v, Lib.atoiAll s ≠ .ok v) ∧ ∃ n t b, e = .returned (.tuple #[.int .i64 n, .iface t (.pointer (some ⟨b, 0, none⟩))]))
theorem xRN (L : LaysC.n172 P ρ) (s : ByteArray) (hl : s.size ≤ 1000000) (w : World) (he : (∃ t1 p1, w.var? P "strconv.ErrSyntax" = some #[.iface t1 p1]) ∧ ∃ t2 p2, w.var? P "strconv.ErrRange" = some #[.iface t2 p2]) :
 Calls P (ρ.f 172) #[.string s] w fun e w' => xVJ s.data.toList e ∧ Below w.heap.size w w' := by
 obtain ⟨⟨t1, p1, h1⟩, t2, p2, h2⟩ := he
 cases hc : Lib.atoiAll s.data.toList with
 | ok v =>
   refine (Any.strconv_Atoi_ok L s (by omega) v hc w).mono ?_
   rintro e w' ⟨rfl, hw⟩
   refine ⟨.inl ⟨v, hc, rfl⟩, ?_⟩
   rcases hw with rfl | ⟨t, rfl⟩
   · exact Below.refl _ _
   · exact Lib.bytesWorld_below w _ t
 | range =>
   refine (Any.strconv_Atoi_range_var L s (by omega) hc t2 p2 w h2).mono ?_
   rintro e w' ⟨N, rfl, _, _, hb⟩
   exact ⟨.inr ⟨fun v h => (by rw [hc] at h; cases h), _, _, _, rfl⟩, hb⟩
 | _ =>
   refine (Any.strconv_Atoi_syntax_var L s (by omega) hc t1 p1 w h1).mono ?_
   rintro e w' ⟨N, rfl, _, _, hb⟩
   exact ⟨.inr ⟨fun v h => (by rw [hc] at h; cases h), _, _, _, rfl⟩, hb⟩
theorem xRY (L : LaysM.n171 P ρ) (n : Int) (h0 : -9223372036854775808 ≤ n) (h1 : n ≤ 9223372036854775807) (w : World) (ht : Lib.TabIs P w "internal/strconv.uint64pow10" .u64 Lib.pow10Tab) :
 Calls P (ρ.f 171) #[.int .i64 n] w fun e w' => e = .returned (.string ⟨(Lib.itoa n).toArray⟩) ∧ Below w.heap.size w w' := by
 refine (Any.strconv_Itoa L n h0 h1 w ht).mono ?_
 rintro e w' ⟨he, k, os, rfl⟩
 refine ⟨he, rfl, rfl, rfl, ?_, fun j hj => ?_⟩
 · show w.heap.size ≤ (w.heap ++ os).size
   rw [Array.size_append]; omega
 · show (w.heap ++ os)[j]? = _
   rw [Array.getElem?_append_left hj]
theorem xRJ {w : World} {nm : String} {cs : Array Value} (h : w.var? P nm = some cs) : ∃ (g : Nat) (o : Obj), w.heap[g]? = some o ∧ ∀ w' : World, w'.heap[g]? = some o → w'.var? P nm = some cs := by
 unfold World.var? at h
 obtain ⟨g, hg, h⟩ := Option.bind_eq_some_iff.1 h
 split at h
 · rename_i cs ty fr hh
   refine ⟨g, _, hh, fun w' hw => ?_⟩
   unfold World.var?
   rw [hg, jS, hw]
   exact h
 · cases h
end Go.Ab
end
section
namespace Go.Proofs
open Go.Shelf
def Tryz.lays137_ren : Go.Shelf.Ren := ⟨fun | 137 => 90 | 217 => 112 | 266 => 130 | n => n, fun | 9 => 9 | 5 => 5 | 3 => 3 | n => n, fun | n => n⟩
theorem Tryz.lays137 : Go.Proofs.Lays.n137 Tryz.prog Tryz.lays137_ren := {
 mixed := by kernel_rfl
 f137 := Tryz.func90.trans (congrArg some (by kernel_rfl))
 f217 := Tryz.func112.trans (congrArg some (by kernel_rfl))
 f266 := Tryz.func130.trans (congrArg some (by kernel_rfl))
 t3 := Tryz.underlying3
 a3 := Tryz.isAgg3
 z3 := Tryz.sizeOf3
 v3 := Tryz.zeroValue3
 t5 := Tryz.underlying5
 a5 := Tryz.isAgg5
 z5 := Tryz.sizeOf5
 v5 := Tryz.zeroValue5
 t9 := Tryz.underlying9
 a9 := Tryz.isAgg9
 z9 := Tryz.sizeOf9
 v9 := Tryz.zeroValue9 }
def Tryz.laysM171_ren : Go.Shelf.Ren := ⟨fun | 171 => 102 | 243 => 123 | 246 => 133 | 283 => 143 | 284 => 144 | 285 => 145 | 286 => 146 | 129 => 153 | 317 => 152 | 318 => 154 | 319 => 155 | 320 => 156 | 337 => 161 | 338 => 162 | n => n, fun | 3 => 3 | 9 => 9 | 2 => 2 | 4 => 4 | 171 => 122 | 0 => 0 | 53 => 123 | 37 => 32 | 5 => 5 | 173 => 126 | 212 => 137 | 51 => 138 | 20 => 20 | 213 => 139 | 46 => 104 | 232 => 150 | 233 => 151 | n => n, fun | 17 => 3 | 18 => 4 | 19 => 5 | n => n⟩
theorem Tryz.laysM171 : Go.Proofs.LaysM.n171 Tryz.prog Tryz.laysM171_ren := {
 mixed := by kernel_rfl
 f129 := Tryz.func153.trans (congrArg some (by kernel_rfl))
 f171 := Tryz.func102.trans (congrArg some (by kernel_rfl))
 f243 := Tryz.func123.trans (congrArg some (by kernel_rfl))
 f246 := Tryz.func133.trans (congrArg some (by kernel_rfl))
 f283 := Tryz.func143.trans (congrArg some (by kernel_rfl))
 f284 := Tryz.func144.trans (congrArg some (by kernel_rfl))
 f285 := Tryz.func145.trans (congrArg some (by kernel_rfl))
 f286 := Tryz.func146.trans (congrArg some (by kernel_rfl))
 f317 := Tryz.func152.trans (congrArg some (by kernel_rfl))
 f318 := Tryz.func154.trans (congrArg some (by kernel_rfl))
 f319 := Tryz.func155.trans (congrArg some (by kernel_rfl))
 f320 := Tryz.func156.trans (congrArg some (by kernel_rfl))
 f337 := Tryz.func161.trans (congrArg some (by kernel_rfl))
 f338 := Tryz.func162.trans (congrArg some (by kernel_rfl))
 t0 := Tryz.underlying0
 a0 := Tryz.isAgg0
 z0 := Tryz.sizeOf0
 v0 := Tryz.zeroValue0
 t2 := Tryz.underlying2
 a2 := Tryz.isAgg2
 z2 := Tryz.sizeOf2
 v2 := Tryz.zeroValue2
 t3 := Tryz.underlying3
 a3 := Tryz.isAgg3
 z3 := Tryz.sizeOf3
 v3 := Tryz.zeroValue3
 t4 := Tryz.underlying4
 a4 := Tryz.isAgg4
 z4 := Tryz.sizeOf4
 v4 := Tryz.zeroValue4
 t5 := Tryz.underlying5
 a5 := Tryz.isAgg5
 z5 := Tryz.sizeOf5
 v5 := Tryz.zeroValue5
 t9 := Tryz.underlying9
 a9 := Tryz.isAgg9
 z9 := Tryz.sizeOf9
 v9 := Tryz.zeroValue9
 t20 := Tryz.underlying20
 a20 := Tryz.isAgg20
 z20 := Tryz.sizeOf20
 v20 := Tryz.zeroValue20
 t37 := Tryz.underlying32
 a37 := Tryz.isAgg32
 z37 := Tryz.sizeOf32
 v37 := Tryz.zeroValue32
 t46 := Tryz.underlying104
 a46 := Tryz.isAgg104
 z46 := Tryz.sizeOf104
 v46 := Tryz.zeroValue104
 t51 := Tryz.underlying138
 a51 := Tryz.isAgg138
 z51 := Tryz.sizeOf138
 v51 := Tryz.zeroValue138
 t53 := Tryz.underlying123
 a53 := Tryz.isAgg123
 z53 := Tryz.sizeOf123
 v53 := Tryz.zeroValue123
 t171 := Tryz.underlying122
 a171 := Tryz.isAgg122
 z171 := Tryz.sizeOf122
 v171 := Tryz.zeroValue122
 t173 := Tryz.underlying126
 a173 := Tryz.isAgg126
 z173 := Tryz.sizeOf126
 v173 := Tryz.zeroValue126
 t212 := Tryz.underlying137
 a212 := Tryz.isAgg137
 z212 := Tryz.sizeOf137
 v212 := Tryz.zeroValue137
 t213 := Tryz.underlying139
 a213 := Tryz.isAgg139
 z213 := Tryz.sizeOf139
 t232 := Tryz.underlying150
 a232 := Tryz.isAgg150
 z232 := Tryz.sizeOf150
 v232 := Tryz.zeroValue150
 t233 := Tryz.underlying151
 a233 := Tryz.isAgg151
 z233 := Tryz.sizeOf151
 v233 := Tryz.zeroValue151
 g17 := by kernel_rfl
 g18 := by kernel_rfl
 g19 := by kernel_rfl
 i0 := by kernel_rfl
 i2 := by kernel_rfl
 i3 := by kernel_rfl
 i4 := by kernel_rfl
 i5 := by kernel_rfl
 i9 := by kernel_rfl
 i20 := by kernel_rfl
 i37 := by kernel_rfl
 i46 := by kernel_rfl
 i51 := by kernel_rfl
 i53 := by kernel_rfl
 i171 := by kernel_rfl
 i173 := by kernel_rfl
 i212 := by kernel_rfl
 i232 := by kernel_rfl
 i233 := by kernel_rfl
 m17 := by kernel_rfl
 m18 := by kernel_rfl
 m19 := by kernel_rfl }
def Tryz.laysC172_ren : Go.Shelf.Ren := ⟨fun | 172 => 111 | 244 => 128 | 245 => 129 | 247 => 138 | 279 => 139 | 280 => 140 | 281 => 141 | 282 => 142 | 287 => 149 | 316 => 150 | 171 => 102 | 205 => 151 | 321 => 159 | 322 => 160 | 243 => 123 | 246 => 133 | 283 => 143 | 284 => 144 | 285 => 145 | 286 => 146 | 129 => 153 | 317 => 152 | 318 => 154 | 319 => 155 | 320 => 156 | 337 => 161 | 338 => 162 | n => n, fun | 9 => 9 | 3 => 3 | 75 => 99 | 76 => 100 | 4 => 4 | 5 => 5 | 167 => 116 | 37 => 32 | 0 => 0 | 85 => 117 | 2 => 2 | 168 => 119 | 53 => 123 | 175 => 129 | 46 => 104 | 210 => 133 | 127 => 128 | 145 => 148 | 143 => 146 | 21 => 21 | 171 => 122 | 173 => 126 | 212 => 137 | 51 => 138 | 20 => 20 | 213 => 139 | 232 => 150 | 233 => 151 | 80 => 67 | n => n, fun | 15 => 1 | 16 => 2 | 17 => 3 | 18 => 4 | 19 => 5 | n => n⟩
theorem Tryz.laysC172 : Go.Proofs.LaysC.n172 Tryz.prog Tryz.laysC172_ren := {
 mixed := by kernel_rfl
 f129 := Tryz.func153.trans (congrArg some (by kernel_rfl))
 f171 := Tryz.func102.trans (congrArg some (by kernel_rfl))
 f172 := Tryz.func111.trans (congrArg some (by kernel_rfl))
 f205 := Tryz.func151.trans (congrArg some (by kernel_rfl))
 f243 := Tryz.func123.trans (congrArg some (by kernel_rfl))
 f244 := Tryz.func128.trans (congrArg some (by kernel_rfl))
 f245 := Tryz.func129.trans (congrArg some (by kernel_rfl))
 f246 := Tryz.func133.trans (congrArg some (by kernel_rfl))
 f247 := Tryz.func138.trans (congrArg some (by kernel_rfl))
 f279 := Tryz.func139.trans (congrArg some (by kernel_rfl))
 f280 := Tryz.func140.trans (congrArg some (by kernel_rfl))
 f281 := Tryz.func141.trans (congrArg some (by kernel_rfl))
 f282 := Tryz.func142.trans (congrArg some (by kernel_rfl))
 f283 := Tryz.func143.trans (congrArg some (by kernel_rfl))
 f284 := Tryz.func144.trans (congrArg some (by kernel_rfl))
 f285 := Tryz.func145.trans (congrArg some (by kernel_rfl))
 f286 := Tryz.func146.trans (congrArg some (by kernel_rfl))
 f287 := Tryz.func149.trans (congrArg some (by kernel_rfl))
 f316 := Tryz.func150.trans (congrArg some (by kernel_rfl))
 f317 := Tryz.func152.trans (congrArg some (by kernel_rfl))
 f318 := Tryz.func154.trans (congrArg some (by kernel_rfl))
 f319 := Tryz.func155.trans (congrArg some (by kernel_rfl))
 f320 := Tryz.func156.trans (congrArg some (by kernel_rfl))
 f321 := Tryz.func159.trans (congrArg some (by kernel_rfl))
 f322 := Tryz.func160.trans (congrArg some (by kernel_rfl))
 f337 := Tryz.func161.trans (congrArg some (by kernel_rfl))
 f338 := Tryz.func162.trans (congrArg some (by kernel_rfl))
 t0 := Tryz.underlying0
 a0 := Tryz.isAgg0
 z0 := Tryz.sizeOf0
 v0 := Tryz.zeroValue0
 t2 := Tryz.underlying2
 a2 := Tryz.isAgg2
 z2 := Tryz.sizeOf2
 v2 := Tryz.zeroValue2
 t3 := Tryz.underlying3
 a3 := Tryz.isAgg3
 z3 := Tryz.sizeOf3
 v3 := Tryz.zeroValue3
 t4 := Tryz.underlying4
 a4 := Tryz.isAgg4
 z4 := Tryz.sizeOf4
 v4 := Tryz.zeroValue4
 t5 := Tryz.underlying5
 a5 := Tryz.isAgg5
 z5 := Tryz.sizeOf5
 v5 := Tryz.zeroValue5
 t9 := Tryz.underlying9
 a9 := Tryz.isAgg9
 z9 := Tryz.sizeOf9
 v9 := Tryz.zeroValue9
 t20 := Tryz.underlying20
 a20 := Tryz.isAgg20
 z20 := Tryz.sizeOf20
 v20 := Tryz.zeroValue20
 t21 := Tryz.underlying21
 a21 := Tryz.isAgg21
 z21 := Tryz.sizeOf21
 v21 := Tryz.zeroValue21
 t37 := Tryz.underlying32
 a37 := Tryz.isAgg32
 z37 := Tryz.sizeOf32
 v37 := Tryz.zeroValue32
 t46 := Tryz.underlying104
 a46 := Tryz.isAgg104
 z46 := Tryz.sizeOf104
 v46 := Tryz.zeroValue104
 t51 := Tryz.underlying138
 a51 := Tryz.isAgg138
 z51 := Tryz.sizeOf138
 v51 := Tryz.zeroValue138
 t53 := Tryz.underlying123
 a53 := Tryz.isAgg123
 z53 := Tryz.sizeOf123
 v53 := Tryz.zeroValue123
 t75 := Tryz.underlying99
 a75 := Tryz.isAgg99
 z75 := Tryz.sizeOf99
 v75 := Tryz.zeroValue99
 t76 := Tryz.underlying100
 a76 := Tryz.isAgg100
 z76 := Tryz.sizeOf100
 v76 := Tryz.zeroValue100
 t85 := Tryz.underlying117
 a85 := Tryz.isAgg117
 z85 := Tryz.sizeOf117
 v85 := Tryz.zeroValue117
 t127 := Tryz.underlying128
 a127 := Tryz.isAgg128
 z127 := Tryz.sizeOf128
 v127 := Tryz.zeroValue128
 t143 := Tryz.underlying146
 a143 := Tryz.isAgg146
 z143 := Tryz.sizeOf146
 v143 := Tryz.zeroValue146
 t145 := Tryz.underlying148
 a145 := Tryz.isAgg148
 z145 := Tryz.sizeOf148
 v145 := Tryz.zeroValue148
 t167 := Tryz.underlying116
 a167 := Tryz.isAgg116
 z167 := Tryz.sizeOf116
 v167 := Tryz.zeroValue116
 t168 := Tryz.underlying119
 a168 := Tryz.isAgg119
 z168 := Tryz.sizeOf119
 v168 := Tryz.zeroValue119
 t171 := Tryz.underlying122
 a171 := Tryz.isAgg122
 z171 := Tryz.sizeOf122
 v171 := Tryz.zeroValue122
 t173 := Tryz.underlying126
 a173 := Tryz.isAgg126
 z173 := Tryz.sizeOf126
 v173 := Tryz.zeroValue126
 t175 := Tryz.underlying129
 a175 := Tryz.isAgg129
 z175 := Tryz.sizeOf129
 v175 := Tryz.zeroValue129
 t210 := Tryz.underlying133
 a210 := Tryz.isAgg133
 z210 := Tryz.sizeOf133
 v210 := Tryz.zeroValue133
 t212 := Tryz.underlying137
 a212 := Tryz.isAgg137
 z212 := Tryz.sizeOf137
 v212 := Tryz.zeroValue137
 t213 := Tryz.underlying139
 a213 := Tryz.isAgg139
 z213 := Tryz.sizeOf139
 t232 := Tryz.underlying150
 a232 := Tryz.isAgg150
 z232 := Tryz.sizeOf150
 v232 := Tryz.zeroValue150
 t233 := Tryz.underlying151
 a233 := Tryz.isAgg151
 z233 := Tryz.sizeOf151
 v233 := Tryz.zeroValue151
 g15 := by kernel_rfl
 g16 := by kernel_rfl
 g17 := by kernel_rfl
 g18 := by kernel_rfl
 g19 := by kernel_rfl
 t80 := Tryz.underlying67
 a80 := Tryz.isAgg67
 z80 := Tryz.sizeOf67
 v80 := Tryz.zeroValue67
 i0 := by kernel_rfl
 i2 := by kernel_rfl
 i3 := by kernel_rfl
 i4 := by kernel_rfl
 i5 := by kernel_rfl
 i9 := by kernel_rfl
 i20 := by kernel_rfl
 i21 := by kernel_rfl
 i37 := by kernel_rfl
 i46 := by kernel_rfl
 i51 := by kernel_rfl
 i53 := by kernel_rfl
 i75 := by kernel_rfl
 i76 := by kernel_rfl
 i80 := by kernel_rfl
 i85 := by kernel_rfl
 i127 := by kernel_rfl
 i143 := by kernel_rfl
 i145 := by kernel_rfl
 i167 := by kernel_rfl
 i168 := by kernel_rfl
 i171 := by kernel_rfl
 i173 := by kernel_rfl
 i175 := by kernel_rfl
 i210 := by kernel_rfl
 i212 := by kernel_rfl
 i232 := by kernel_rfl
 i233 := by kernel_rfl
 m15 := by kernel_rfl
 m16 := by kernel_rfl
 m17 := by kernel_rfl
 m18 := by kernel_rfl
 m19 := by kernel_rfl
 c0 := by kernel_rfl
 c2 := by kernel_rfl
 c3 := by kernel_rfl
 c4 := by kernel_rfl
 c5 := by kernel_rfl
 c9 := by kernel_rfl
 c20 := by kernel_rfl
 c21 := by kernel_rfl
 c37 := by kernel_rfl
 c46 := by kernel_rfl
 c51 := by kernel_rfl
 c53 := by kernel_rfl
 c75 := by kernel_rfl
 c76 := by kernel_rfl
 c80 := by kernel_rfl
 c85 := by kernel_rfl
 c127 := by kernel_rfl
 c143 := by kernel_rfl
 c145 := by kernel_rfl
 c167 := by kernel_rfl
 c168 := by kernel_rfl
 c171 := by kernel_rfl
 c173 := by kernel_rfl
 c175 := by kernel_rfl
 c210 := by kernel_rfl
 c212 := by kernel_rfl
 c213 := by kernel_rfl
 c232 := by kernel_rfl
 c233 := by kernel_rfl }
def Tryz.lays99_ren : Go.Shelf.Ren := ⟨fun | 99 => 92 | 206 => 113 | n => n, fun | 9 => 9 | 4 => 4 | 3 => 3 | n => n, fun | n => n⟩
theorem Tryz.lays99 : Go.Proofs.Lays.n99 Tryz.prog Tryz.lays99_ren := {
 mixed := by kernel_rfl
 f99 := Tryz.func92.trans (congrArg some (by kernel_rfl))
 f206 := Tryz.func113.trans (congrArg some (by kernel_rfl))
 t3 := Tryz.underlying3
 a3 := Tryz.isAgg3
 z3 := Tryz.sizeOf3
 v3 := Tryz.zeroValue3
 t4 := Tryz.underlying4
 a4 := Tryz.isAgg4
 z4 := Tryz.sizeOf4
 v4 := Tryz.zeroValue4
 t9 := Tryz.underlying9
 a9 := Tryz.isAgg9
 z9 := Tryz.sizeOf9
 v9 := Tryz.zeroValue9 }
end Go.Proofs
end
section
namespace Go.Ab
open Go.Proofs Go.RowKit Go.Shelf
theorem xNS : ∀ args w, (callFunc 89 args).run Tryz.prog w = .ok (.enter 89 args) w := enters_of Tryz.func89 (by kernel_rfl) rfl
theorem xPs : Enters Tryz.prog 111 := enters_of Tryz.func111 (by kernel_rfl) rfl
theorem xNR : Enters Tryz.prog 102 := enters_of Tryz.func102 (by kernel_rfl) rfl
set_option maxRecDepth 100000 in
set_option maxHeartbeats 4000000 in
theorem xOx (s : ByteArray) (lo hi : Int) (hl : s.size ≤ 1000000) {Q : World → Prop} (hQ : ∀ w w', Q w → Below w.heap.size w w' → Q w') (ht : ∀ w, Q w → Lib.TabIs Tryz.prog w "internal/strconv.uint64pow10" .u64 Lib.pow10Tab)
 (he : ∀ w, Q w → (∃ t1 p1, w.var? Tryz.prog "strconv.ErrSyntax" = some #[.iface t1 p1]) ∧ ∃ t2 p2, w.var? Tryz.prog "strconv.ErrRange" = some #[.iface t2 p2]) (w : World) (hw : Q w) :
 Calls Tryz.prog 89 #[.string s, .int .i64 lo, .int .i64 hi] w fun e w' => e = .returned (.tuple #[.int .i64 (zHF s.data.toList lo hi).1, .bool (zHF s.data.toList lo hi).2]) ∧ Below w.heap.size w w' := by
 have hA := xRN Tryz.laysC172 s hl w (he w hw)
 change Calls Tryz.prog 111 _ _ _ at hA
 have e1 := xPs
 have e2 := xNR
 by_cases hok : ∃ v, Lib.atoiAll s.data.toList = .ok v
 · obtain ⟨v, hv⟩ := hok
   obtain ⟨vb0, vb1⟩ := Lib.atoiAll_bounds hv
   have hA : Calls Tryz.prog 111 #[.string s] w fun e w' => e = .returned (.tuple #[.int .i64 v, .nilIface]) ∧ Below w.heap.size w w' := hA.mono fun e w' ⟨h, hb⟩ => ⟨by
    rcases h with ⟨v', h1, h2⟩ | ⟨h1, _⟩
    · rw [hv] at h1; cases h1; exact h2
    · exact absurd hv (h1 v), hb⟩
   have hI : ∀ W, Below w.heap.size w W → ∀ (f : Ending → World → Prop), (∀ W', Below w.heap.size w W' → f (.returned (.string ⟨(Lib.itoa v).toArray⟩)) W') → Calls Tryz.prog 102 #[.int .i64 v] W f := fun W hb f hf =>
    (xRY Tryz.laysM171 v vb0 vb1 W (ht W (hQ w W hw hb))).mono fun e W' ⟨h1, h2⟩ => by rw [h1]; exact hf W' (hb.trans (h2.mono hb.size))
   have hN : zHF s.data.toList lo hi = if v < lo then (0, false) else if v > hi then (0, false) else if Lib.itoa v = s.data.toList then (v, true) else (0, false) := by unfold zHF; rw [hv]
   rw [hN]
   clear hN hv
   by_cases h1 : v < lo
   · rw [if_pos h1]
     go_enter Tryz.func89, Tryz.ntmps89
     go_wp2_with (go_at_call 111; refine hA.mono ?_; rintro e W1 ⟨rfl, hb⟩)
     go_wp2
     go_ret2
     exact ⟨rfl, hb⟩
   · rw [if_neg h1]
     by_cases h2 : v > hi
     · rw [if_pos h2]
       go_enter Tryz.func89, Tryz.ntmps89
       go_wp2_with (go_at_call 111; refine hA.mono ?_; rintro e W1 ⟨rfl, hb⟩)
       go_wp2
       go_ret2
       exact ⟨rfl, hb⟩
     · rw [if_neg h2]
       go_enter Tryz.func89, Tryz.ntmps89
       go_wp2_with (go_at_call 111; refine hA.mono ?_; rintro e W1 ⟨rfl, hb⟩)
       go_wp2_with (go_at_call 102; refine hI _ (by assumption) _ ?_; intro W2 hb2)
       all_goals first
        | (go_ret2; exact ⟨rfl, hb2⟩)
        | (exfalso; simp_all [ByteArray.toList_eq]; done)
        | (exfalso; rename_i hx; rw [ByteArray.toList_eq, h] at hx; rcases hx with (hx | hx) | hx <;> first | omega | (simp at hx; done))
 · have hN : zHF s.data.toList lo hi = (0, false) := by
    unfold zHF
    cases hc : Lib.atoiAll s.data.toList with
    | ok v => exact absurd ⟨v, hc⟩ hok
    | _ => rfl
   have hA : Calls Tryz.prog 111 #[.string s] w fun e w' => (∃ n t b, e = .returned (.tuple #[.int .i64 n, .iface t (.pointer (some ⟨b, 0, none⟩))])) ∧ Below w.heap.size w w' := hA.mono fun e w' ⟨h, hb⟩ => ⟨by
    rcases h with ⟨v', h1, h2⟩ | ⟨_, h1⟩
    · exact absurd ⟨v', h1⟩ hok
    · exact h1, hb⟩
   rw [hN]
   clear hN hok
   go_enter Tryz.func89, Tryz.ntmps89
   go_wp2_with (go_at_call 111; refine hA.mono ?_; rintro e W1 ⟨⟨n, t, b, rfl⟩, hb⟩)
   go_wp2
   go_ret2
   exact ⟨rfl, hb⟩
end Go.Ab
end
section
open Go.Proofs
namespace Go.Ab.T
variable [Inhabited Lb]
abbrev AbC (f : FuncId) (a : List Arg) (r : CallO) : Prop := AbsCalls Tryz.prog f a r
abbrev W (x : Int) : Int := IntKind.i64.wrap x
abbrev Ln {α : Type} (l : List α) : Nat := List.length l
abbrev tN (x : Int) : Nat := Int.toNat x
abbrev gD {α : Type} (l : List α) (i : Nat) (d : α) : α := List.getD l i d
abbrev iY (b : Bool) : Prop := b = true
abbrev iN (b : Bool) : Prop := b = false
abbrev dc (p : Prop) [Decidable p] : Bool := decide p
abbrev vd : Val := Ty.val.dflt
abbrev rd : Rowd := Ty.row.dflt
end Go.Ab.T
end
section
open Go.Proofs
namespace Go.Ab.T
set_option maxRecDepth 100000
variable [Inhabited Lb]
def p10 : String := ((Go.Proofs.YthbobcapimmnhaaGreatDoor.Rows.fnExactParseErrorRow.laid[2]?).map fun x => x.1).getD ""
def Tab10 : Prop := ∀ w : World, (∀ x ∈ zEH, w.heap[x.1]? = some x.2) → Lib.TabIs Tryz.prog w p10 .u64 Lib.pow10Tab
variable [Nonempty Tab10]
theorem vDn : Tab10 := (inferInstance : Nonempty Tab10).elim fun h => h
def ErrVars : Prop := ∀ w : World, (∀ x ∈ zEH, w.heap[x.1]? = some x.2) → (∃ t1 p1, w.var? Tryz.prog "strconv.ErrSyntax" = some #[.iface t1 p1]) ∧ ∃ t2 p2, w.var? Tryz.prog "strconv.ErrRange" = some #[.iface t2 p2]
variable [Nonempty ErrVars]
theorem xVP : ErrVars := (inferInstance : Nonempty ErrVars).elim fun h => h
def tt : TT := [(3, { zero := some [.int .i64 0], ik := some .i64 }),
 (4, { zero := some [.bool false], isBool := true }),
 (5, { zero := some [.int .u8 0], ik := some .u8 }),
 (9, { zero := some [.str []], isStr := true }),
 (23, { zero := some [.sl .own .exp []], elem := some (25, .exp) }),
 (25, { sz := 4, agg := true, zero := some [.int .i64 0, .int .i64 0, .str [], .sl .own .exp []], offs := [0, 1, 2, 3], fsz := [1, 1, 1, 1] }),
 (32, { zero := some [.sl .own .byte []], elem := some (5, .byte) }),
 (37, { zero := some [.sl .own .tok []], elem := some (50, .tok) }),
 (43, { sz := 4, agg := true, zero := some [.sl .own .tok [], .int .i64 0, .int .i64 0, .int .i64 0], offs := [0, 1, 2, 3], fsz := [1, 1, 1, 1] }),
 (47, { sz := 3, agg := true, zero := some [.sl .own .tok [], .int .i64 0, .int .i64 0], offs := [0, 1, 2], fsz := [1, 1, 1] }),
 (50, { sz := 4, agg := true, zero := some [.int .i64 0, .int .i64 0, .int .i64 0, .str []], offs := [0, 1, 2, 3], fsz := [1, 1, 1, 1] }),
 (69, { zero := some [.sl .own .int []], elem := some (3, .int) }),
 (73, { zero := some [.sl .own .str []], elem := some (9, .str) }),
 (79, { sz := 3, agg := true, zero := some [.sl .own .byte [], .int .i64 0, .int .i64 0], offs := [0, 1, 2], fsz := [1, 1, 1] })]
theorem ttok : TTok Tryz.prog tt := zIa (by kernel_rfl)
theorem mix : Tryz.prog.follows .mixedOrders = true := by kernel_rfl
def F : Bool := false
def Y : Bool := true
noncomputable def rE (I : Info) (ag : List Arg) (bs : List Bool) (cs : List CallO) : Option Res := run tt (AbsCalls Tryz.prog) I 3000 false [.code I.body] ⟨zBp 0 ag, bs, cs, []⟩
noncomputable def rS (k : Nat) (I : Info) (σ : St) (bs : List Bool) (cs : List CallO) : Option Res := run tt (AbsCalls Tryz.prog) I 3000 true (stkAt k I.body) ⟨σ, bs, cs, []⟩
noncomputable def dn (r : CallO) (ob : List Prop) : Option Res := some (.done r ob)
noncomputable def st (k : Nat) (I : Info) (σ : St) (ob : List Prop) : Option Res := some (.stop (stkAt k I.body) σ ob)
def RE (fn : Func) (I : Info) (ag : List Arg) (r : CallO) : Prop := Reach Tryz.prog fn I [.code I.body] (zBp 0 ag) r
def RS (fn : Func) (I : Info) (k : Nat) (σ : St) (r : CallO) : Prop := Reach Tryz.prog fn I (stkAt k I.body) σ r
section
variable {ρ : Type} {f : FuncId} {fn : Func} {I : Info} {ag : List Arg} {bs : List Bool} {cs : List CallO} {k j : Nat} {σ σ' : St} {ob : List Prop} {ro : ρ → CallO} {x r : ρ} {q : CallO}
theorem dE (e : some x = some r) (hf : FnOk Tryz.prog f fn I) (h : rE I ag bs cs = dn (ro x) ob) (o : ∀ p ∈ ob, p) : RE fn I ag (ro r) := by
 cases e; exact Reach.done ttok mix hf h o
theorem dS (e : some x = some r) (hf : FnOk Tryz.prog f fn I) (h : rS k I σ bs cs = dn (ro x) ob) (o : ∀ p ∈ ob, p) : RS fn I k σ (ro r) := by
 cases e; exact Reach.done ttok mix hf h o
theorem tE (hf : FnOk Tryz.prog f fn I) (h : rE I ag bs cs = st k I σ ob) (o : ∀ p ∈ ob, p) (t : RS fn I k σ q) : RE fn I ag q := Reach.stop ttok mix hf h o t
theorem tS (hf : FnOk Tryz.prog f fn I) (h : rS j I σ' bs cs = st k I σ ob) (o : ∀ p ∈ ob, p) (t : RS fn I k σ q) : RS fn I j σ' q := Reach.stop ttok mix hf h o t
end
theorem oc {p : Prop} {l : List Prop} (h : p) (t : ∀ q ∈ l, q) : ∀ q ∈ p :: l, q := zH9 h t
theorem on : ∀ q ∈ ([] : List Prop), q := zId
theorem oc2 {p0 p1 : Prop} {l : List Prop} (h0 : p0) (h1 : p1) (t : ∀ q ∈ l, q) : ∀ q ∈ p0 :: p1 :: l, q := oc h0 (oc h1 t)
theorem oc3 {p0 p1 p2 : Prop} {l : List Prop} (h0 : p0) (h1 : p1) (h2 : p2) (t : ∀ q ∈ l, q) : ∀ q ∈ p0 :: p1 :: p2 :: l, q := oc h0 (oc2 h1 h2 t)
theorem oc4 {p0 p1 p2 p3 : Prop} {l : List Prop} (h0 : p0) (h1 : p1) (h2 : p2) (h3 : p3) (t : ∀ q ∈ l, q) : ∀ q ∈ p0 :: p1 :: p2 :: p3 :: l, q := oc h0 (oc3 h1 h2 h3 t)
theorem oc5 {p0 p1 p2 p3 p4 : Prop} {l : List Prop} (h0 : p0) (h1 : p1) (h2 : p2) (h3 : p3) (h4 : p4) (t : ∀ q ∈ l, q) : ∀ q ∈ p0 :: p1 :: p2 :: p3 :: p4 :: l, q := oc h0 (oc4 h1 h2 h3 h4 t)
theorem oc6 {p0 p1 p2 p3 p4 p5 : Prop} {l : List Prop} (h0 : p0) (h1 : p1) (h2 : p2) (h3 : p3) (h4 : p4) (h5 : p5) (t : ∀ q ∈ l, q) : ∀ q ∈ p0 :: p1 :: p2 :: p3 :: p4 :: p5 :: l, q := oc h0 (oc5 h1 h2 h3 h4 h5 t)
theorem oc7 {p0 p1 p2 p3 p4 p5 p6 : Prop} {l : List Prop} (h0 : p0) (h1 : p1) (h2 : p2) (h3 : p3) (h4 : p4) (h5 : p5) (h6 : p6) (t : ∀ q ∈ l, q) : ∀ q ∈ p0 :: p1 :: p2 :: p3 :: p4 :: p5 :: p6 :: l, q := oc h0 (oc6 h1 h2 h3 h4 h5 h6 t)
theorem oc8 {p0 p1 p2 p3 p4 p5 p6 p7 : Prop} {l : List Prop} (h0 : p0) (h1 : p1) (h2 : p2) (h3 : p3) (h4 : p4) (h5 : p5) (h6 : p6) (h7 : p7) (t : ∀ q ∈ l, q) : ∀ q ∈ p0 :: p1 :: p2 :: p3 :: p4 :: p5 :: p6 :: p7 :: l, q := oc h0 (oc7 h1 h2 h3 h4 h5 h6 h7 t)
theorem oc9 {p0 p1 p2 p3 p4 p5 p6 p7 p8 : Prop} {l : List Prop} (h0 : p0) (h1 : p1) (h2 : p2) (h3 : p3) (h4 : p4) (h5 : p5) (h6 : p6) (h7 : p7) (h8 : p8) (t : ∀ q ∈ l, q) : ∀ q ∈ p0 :: p1 :: p2 :: p3 :: p4 :: p5 :: p6 :: p7 :: p8 :: l, q := oc h0 (oc8 h1 h2 h3 h4 h5 h6 h7 h8 t)
theorem oc10 {p0 p1 p2 p3 p4 p5 p6 p7 p8 p9 : Prop} {l : List Prop} (h0 : p0) (h1 : p1) (h2 : p2) (h3 : p3) (h4 : p4) (h5 : p5) (h6 : p6) (h7 : p7) (h8 : p8) (h9 : p9) (t : ∀ q ∈ l, q) : ∀ q ∈ p0 :: p1 :: p2 :: p3 :: p4 :: p5 :: p6 :: p7 :: p8 :: p9 :: l, q := oc h0 (oc9 h1 h2 h3 h4 h5 h6 h7 h8 h9 t)
theorem oc11 {p0 p1 p2 p3 p4 p5 p6 p7 p8 p9 p10 : Prop} {l : List Prop} (h0 : p0) (h1 : p1) (h2 : p2) (h3 : p3) (h4 : p4) (h5 : p5) (h6 : p6) (h7 : p7) (h8 : p8) (h9 : p9) (h10 : p10) (t : ∀ q ∈ l, q) : ∀ q ∈ p0 :: p1 :: p2 :: p3 :: p4 :: p5 :: p6 :: p7 :: p8 :: p9 :: p10 :: l, q := oc h0 (oc10 h1 h2 h3 h4 h5 h6 h7 h8 h9 h10 t)
theorem oc12 {p0 p1 p2 p3 p4 p5 p6 p7 p8 p9 p10 p11 : Prop} {l : List Prop} (h0 : p0) (h1 : p1) (h2 : p2) (h3 : p3) (h4 : p4) (h5 : p5) (h6 : p6) (h7 : p7) (h8 : p8) (h9 : p9) (h10 : p10) (h11 : p11) (t : ∀ q ∈ l, q) : ∀ q ∈ p0 :: p1 :: p2 :: p3 :: p4 :: p5 :: p6 :: p7 :: p8 :: p9 :: p10 :: p11 :: l, q := oc h0 (oc11 h1 h2 h3 h4 h5 h6 h7 h8 h9 h10 h11 t)
theorem cE {α : Type} {C : Prop} {b : Bool} {x y : Option α} {r : α} (h : cond b x y = some r) (f : b = true → x = some r → C) (g : b = false → y = some r → C) : C := (zH8 h).elim (fun h => f h.1 h.2) fun h => g h.1 h.2
theorem bE {α β : Type} {C : Prop} {o : Option α} {f : α → Option β} {r : β} (h : Option.bind o f = some r) (g : ∀ a, o = some a → f a = some r → C) : C := (zH6 h).elim fun a h => g a h.1 h.2
theorem iE {α : Type} {C p : Prop} [Decidable p] {x : Option α} {r : α} (h : (if p then x else none) = some r) (g : p → x = some r → C) : C := (zIb h).elim g
theorem nE {α : Type} {C : Prop} {r : α} (h : none = some r) : C := nomatch h
noncomputable def I79 : Info := { body := (Tryz.f79.body).getD .skip, nt := 9, results := [.tmp 2], keep := [0, 4], live := [], modes := [(1, [(2, .take, false)])] }
theorem fk79 : FnOk Tryz.prog 79 Tryz.f79 I79 := ⟨Tryz.func79, by kernel_rfl, by kernel_rfl, by kernel_rfl, by kernel_rfl⟩
def xZk (a0 : Int) : rE I79 (xFz a0) [Y] [] = dn (xBS (dc (a0 ≤ 122))) [iY (dc (a0 ≥ 97))] := by kernel_rfl
def xZl (a0 : Int) : rE I79 (xFz a0) [F] [] = dn (xBS false) [iN (dc (a0 ≥ 97))] := by kernel_rfl
theorem vCV {N : Nat} : ∀ a0 r, xF5 N a0 = some r → RE Tryz.f79 I79 (xFz a0) (xBS r) := fun a0 r h =>
 cE h (fun h0 h => dE h fk79 (xZk a0) (oc h0 on)) fun h0 h =>
 dE h fk79 (xZl a0) (oc h0 on)
theorem xDM {N : Nat} {a0 : Int} {r : Bool} (h : xF5 N  a0 = some r) : AbC 79 (xFz a0) (xBS r) :=
 AbsCalls.of_reach fk79 rfl rfl (Nat.le_of_ble_eq_true rfl) (vCV a0 r h)
noncomputable def I80 : Info := { body := (Tryz.f80.body).getD .skip, nt := 9, results := [.tmp 2], keep := [0, 4], live := [], modes := [(1, [(2, .take, false)])] }
theorem fk80 : FnOk Tryz.prog 80 Tryz.f80 I80 := ⟨Tryz.func80, by kernel_rfl, by kernel_rfl, by kernel_rfl, by kernel_rfl⟩
def xZm (a0 : Int) : rE I80 (xFY a0) [Y] [] = dn (xBJ (dc (a0 ≤ 57))) [iY (dc (a0 ≥ 48))] := by kernel_rfl
def xZn (a0 : Int) : rE I80 (xFY a0) [F] [] = dn (xBJ false) [iN (dc (a0 ≥ 48))] := by kernel_rfl
theorem vCW {N : Nat} : ∀ a0 r, xFX N a0 = some r → RE Tryz.f80 I80 (xFY a0) (xBJ r) := fun a0 r h =>
 cE h (fun h0 h => dE h fk80 (xZm a0) (oc h0 on)) fun h0 h =>
 dE h fk80 (xZn a0) (oc h0 on)
theorem xDd {N : Nat} {a0 : Int} {r : Bool} (h : xFX N  a0 = some r) : AbC 80 (xFY a0) (xBJ r) :=
 AbsCalls.of_reach fk80 rfl rfl (Nat.le_of_ble_eq_true rfl) (vCW a0 r h)
noncomputable def I72 : Info := { body := (Tryz.f72.body).getD .skip, nt := 31, results := [.tmp 2], keep := [0, 4, 6, 8, 10, 14, 22, 30, 54], live := [(5, [0, 6, 8])], modes := [(11, [(0, .take, false)])] }
theorem fk72 : FnOk Tryz.prog 72 Tryz.f72 I72 := ⟨Tryz.func72, by kernel_rfl, by kernel_rfl, by kernel_rfl, by kernel_rfl⟩
def xNf (x0 : Int) (x3 : Bool) (x4 : Str) : St := [(0, .v false [.int .i64 x0]), (6, .v false [.bool x3]), (8, .v false [.str x4])]
abbrev xQj (v0 : Int) := List.map (fun n => UInt8.ofNat (tN n)) [(IntKind.u8.wrap ((W (48 + (W (0 - (Int.tmod v0 10)))))))]
def xYL (x0 : Int) (x3 : Bool) (x4 : Str) : rS 5 I72 (xNf x0 x3 x4) [Y, Y] [] = st 5 I72 (xNf (W (Int.tdiv x0 10)) x3 ((xQj x0) ++ x4)) [iY (x0 != 0), 10 ≠ (0 : Int), iY (dc ((Int.tmod x0 10) < 0)), Ln (xQj x0) + Ln x4 ≤ Lim, 10 ≠ (0 : Int)] := by kernel_rfl
abbrev xQk (v0 : Int) := List.map (fun n => UInt8.ofNat (tN n)) [(IntKind.u8.wrap ((W (48 + (Int.tmod v0 10)))))]
def xYM (x0 : Int) (x3 : Bool) (x4 : Str) : rS 5 I72 (xNf x0 x3 x4) [Y, F] [] = st 5 I72 (xNf (W (Int.tdiv x0 10)) x3 ((xQk x0) ++ x4)) [iY (x0 != 0), 10 ≠ (0 : Int), iN (dc ((Int.tmod x0 10) < 0)), Ln (xQk x0) + Ln x4 ≤ Lim, 10 ≠ (0 : Int)] := by kernel_rfl
def xYN (x0 : Int) (x3 : Bool) (x4 : Str) : rS 5 I72 (xNf x0 x3 x4) [F, Y] [] = dn (xBb ([45] ++ x4)) [iN (x0 != 0), iY x3, Ln [45] + Ln x4 ≤ Lim] := by kernel_rfl
def xYO (x0 : Int) (x3 : Bool) (x4 : Str) : rS 5 I72 (xNf x0 x3 x4) [F, F] [] = dn (xBb x4) [iN (x0 != 0), iN x3] := by kernel_rfl
def xYP (a0 : Int) : rE I72 (xCS a0) [Y] [] = dn (xBb [48]) [iY (a0 == 0)] := by kernel_rfl
abbrev xKD (v0 : Int) : Prop := iN (v0 == 0)
def xYQ (a0 : Int) : rE I72 (xCS a0) [F] [] = st 5 I72 (xNf a0 (dc (a0 < 0)) []) [xKD a0] := by kernel_rfl
theorem vCM {N : Nat} : ∀ n x0 x3 x4 r, xCq N n x0 x3 x4 = some r → RS Tryz.f72 I72 5 (xNf x0 x3 x4) (xBb r) := by
 intro n
 induction n with
 | zero => exact fun _ _ _ _ h => nE h
 | succ n ih =>
  exact fun x0 x3 x4 r h =>
   cE h (fun h0 h => cE h (fun h2 h => iE h fun h3 h => tS fk72 (xYL x0 x3 x4) (oc5 h0 (by decide) h2 h3 (by decide) on) (ih _ _ _ _ h)) fun h2 h =>
   iE h fun h3 h => tS fk72 (xYM x0 x3 x4) (oc5 h0 (by decide) h2 h3 (by decide) on) (ih _ _ _ _ h)) fun h0 h =>
   cE h (fun h1 h => iE h fun h2 h => dS h fk72 (xYN x0 x3 x4) (oc3 h0 h1 h2 on)) fun h1 h =>
   dS h fk72 (xYO x0 x3 x4) (oc2 h0 h1 on)
theorem vCN {N : Nat} : ∀ a0 r, xE8 N a0 = some r → RE Tryz.f72 I72 (xCS a0) (xBb r) := fun a0 r h =>
 cE h (fun h0 h => dE h fk72 (xYP a0) (oc h0 on)) fun h0 h =>
 tE fk72 (xYQ a0) (oc h0 on) (vCM _ _ _ _ _ h)
theorem xFg {N : Nat} {a0 : Int} {r : Str} (h : xE8 N  a0 = some r) : AbC 72 (xCS a0) (xBb r) :=
 AbsCalls.of_reach fk72 rfl rfl (Nat.le_of_ble_eq_true rfl) (vCN a0 r h)
noncomputable def I107 : Info := { body := (Tryz.f107.body).getD .skip, nt := 63, results := [.tmp 4, .tmp 5], keep := [0, 2, 8, 10, 12, 14, 16, 18, 38, 60, 68, 92, 110, 122], live := [(9, [0, 12, 14, 16, 18])], modes := [(1, [(3, .take, false)]), (5, [(3, .take, false)]), (11, [(4, .take, false)])] }
theorem xIY : FnOk Tryz.prog 107 Tryz.f107 I107 := ⟨Tryz.func107, by kernel_rfl, by kernel_rfl, by kernel_rfl, by kernel_rfl⟩
def xIN (x0 : Str) (x6 : Bool) (x7 : Str) (x8 x9 : Int) : St := [(0, .v false [.str x0]), (12, .v false [.bool x6]), (14, .v false [.str x7]), (16, .v false [.int .i64 x8]), (18, .v false [.int .i64 x9])]
abbrev xDn (v0 : Int) (v1 : Str) : Prop := iY (dc (v0 < (Ln v1 : Int)))
abbrev xAA (v0 : Int) (v1 : Str) : Prop := (0 : Int) ≤ v0 ∧ v0 < (Ln v1)
abbrev xF8 (v0 : Str) (v1 : Int) := (((gD v0 (tN v1) 0).toNat : Int) : Int)
abbrev xV2 (v0 : Str) (v1 : Int) : Prop := iY (dc ((xF8 v0 v1) < 48))
def xSs (x0 : Str) (x6 : Bool) (x7 : Str) (x8 x9 : Int) : rS 9 I107 (xIN x0 x6 x7 x8 x9) [Y, Y, Y] [] = dn (xBA (0, false)) [xDn x9 x7, xAA x9 x7, xV2 x7 x9, iY true] := by kernel_rfl
abbrev xPx (v0 : Str) (v1 : Int) : Prop := iN (dc ((xF8 v0 v1) < 48))
abbrev xV3 (v0 : Str) (v1 : Int) : Prop := iY (dc ((xF8 v0 v1) > 57))
def xSt (x0 : Str) (x6 : Bool) (x7 : Str) (x8 x9 : Int) : rS 9 I107 (xIN x0 x6 x7 x8 x9) [Y, F, Y] [] = dn (xBA (0, false)) [xDn x9 x7, xAA x9 x7, xPx x7 x9, xAA x9 x7, xV3 x7 x9] := by kernel_rfl
abbrev xV4 (v0 : Str) (v1 : Int) : Prop := iN (dc ((xF8 v0 v1) > 57))
abbrev xMR (v0 : Str) (v1 : Int) := ((gD v0 (tN v1) 0).toNat : Int)
def xSu (x0 : Str) (x6 : Bool) (x7 : Str) (x8 x9 : Int) : rS 9 I107 (xIN x0 x6 x7 x8 x9) [Y, F, F] [] = st 9 I107 (xIN x0 x6 x7 (W ((W (10 * x8)) + (W ((IntKind.u8.wrap ((xMR x7 x9) - 48)))))) (W (x9 + 1))) [xDn x9 x7, xAA x9 x7, xPx x7 x9, xAA x9 x7, xV4 x7 x9, xAA x9 x7] := by kernel_rfl
abbrev xIl (v0 : Int) (v1 : Str) : Prop := iN (dc (v0 < (Ln v1 : Int)))
def xSv (x0 : Str) (x6 : Bool) (x7 : Str) (x8 x9 : Int) (r1 : Str) : rS 9 I107 (xIN x0 x6 x7 x8 x9) [F, Y, Y] [xBb r1] = dn (xBA (0, false)) [xIl x9 x7, iY x6, AbC 72 (xCS (W (0 - x8))) (xBb r1), iY (!((r1 : Str) == x0))] := by kernel_rfl
def xSw (x0 : Str) (x6 : Bool) (x7 : Str) (x8 x9 : Int) (r1 : Str) : rS 9 I107 (xIN x0 x6 x7 x8 x9) [F, Y, F] [xBb r1] = dn (xBA ((W (0 - x8)), true)) [xIl x9 x7, iY x6, AbC 72 (xCS (W (0 - x8))) (xBb r1), iN (!((r1 : Str) == x0))] := by kernel_rfl
def xSx (x0 : Str) (x6 : Bool) (x7 : Str) (x8 x9 : Int) (r1 : Str) : rS 9 I107 (xIN x0 x6 x7 x8 x9) [F, F, Y] [xBb r1] = dn (xBA (0, false)) [xIl x9 x7, iN x6, AbC 72 (xCS x8) (xBb r1), iY (!((r1 : Str) == x0))] := by kernel_rfl
def xSy (x0 : Str) (x6 : Bool) (x7 : Str) (x8 x9 : Int) (r1 : Str) : rS 9 I107 (xIN x0 x6 x7 x8 x9) [F, F, F] [xBb r1] = dn (xBA (x8, true)) [xIl x9 x7, iN x6, AbC 72 (xCS x8) (xBb r1), iN (!((r1 : Str) == x0))] := by kernel_rfl
abbrev xLH (v0 : Str) := dc ((Ln v0 : Int) > 0)
abbrev xPy (v0 : Str) : Prop := iY (xLH v0)
abbrev xPz (v0 : Str) : Prop := (0 : Int) ≤ 0 ∧ (0 : Int) < (Ln v0)
abbrev xMS (v0 : Str) := (((gD v0 (tN 0) 0).toNat : Int) : Int) == 45
abbrev xQf (v0 : Str) : Prop := iY (xMS v0)
abbrev xQg (v0 : Str) : Prop := (0 : Int) ≤ (1 : Int) ∧ (1 : Int) ≤ (Ln v0)
abbrev xMT (v0 : Str) := ((Ln (List.drop (tN (1 : Int)) v0) : Int) : Int)
def xSz (a0 : Str) (a1 : Int) : rE I107 (xCQ a0 a1) [Y, Y, Y, Y] [] = dn (xBA (0, false)) [xPy a0, xPz a0, xQf a0, xQg a0, iY (dc ((xMT a0) < 1)), iY true] := by kernel_rfl
abbrev xVy (v0 : Str) : Prop := iN (dc ((xMT v0) < 1))
def xSA (a0 : Str) (a1 : Int) : rE I107 (xCQ a0 a1) [Y, Y, F, Y] [] = dn (xBA (0, false)) [xPy a0, xPz a0, xQf a0, xQg a0, xVy a0, iY (dc ((xMT a0) > a1))] := by kernel_rfl
abbrev xVZ (v0 : Str) := List.drop (tN (1 : Int)) v0
def xSB (a0 : Str) (a1 : Int) : rE I107 (xCQ a0 a1) [Y, Y, F, F] [] = st 9 I107 (xIN a0 (xMS a0) (xVZ a0) 0 0) [xPy a0, xPz a0, xQf a0, xQg a0, xVy a0, iN (dc ((xMT a0) > a1))] := by kernel_rfl
abbrev xQh (v0 : Str) : Prop := iN (xMS v0)
def xQM (a0 : Str) (a1 : Int) : rE I107 (xCQ a0 a1) [Y, F, Y, Y] [] = dn (xBA (0, false)) [xPy a0, xPz a0, xQh a0, iY (dc ((Ln a0 : Int) < 1)), iY true] := by kernel_rfl
abbrev xOP (v0 : Str) : Prop := iN (dc ((Ln v0 : Int) < 1))
def xQN (a0 : Str) (a1 : Int) : rE I107 (xCQ a0 a1) [Y, F, F, Y] [] = dn (xBA (0, false)) [xPy a0, xPz a0, xQh a0, xOP a0, iY (dc ((Ln a0 : Int) > a1))] := by kernel_rfl
def xQO (a0 : Str) (a1 : Int) : rE I107 (xCQ a0 a1) [Y, F, F, F] [] = st 9 I107 (xIN a0 (xMS a0) a0 0 0) [xPy a0, xPz a0, xQh a0, xOP a0, iN (dc ((Ln a0 : Int) > a1))] := by kernel_rfl
def xQP (a0 : Str) (a1 : Int) : rE I107 (xCQ a0 a1) [F, F, Y, Y] [] = dn (xBA (0, false)) [iN (xLH a0), iN false, iY (dc ((Ln a0 : Int) < 1)), iY true] := by kernel_rfl
def xQQ (a0 : Str) (a1 : Int) : rE I107 (xCQ a0 a1) [F, F, F, Y] [] = dn (xBA (0, false)) [iN (xLH a0), iN false, xOP a0, iY (dc ((Ln a0 : Int) > a1))] := by kernel_rfl
def xQR (a0 : Str) (a1 : Int) : rE I107 (xCQ a0 a1) [F, F, F, F] [] = st 9 I107 (xIN a0 false a0 0 0) [iN (xLH a0), iN false, xOP a0, iN (dc ((Ln a0 : Int) > a1))] := by kernel_rfl
theorem xPY {N : Nat} : ∀ n x0 x6 x7 x8 x9 r, xDs N n x0 x6 x7 x8 x9 = some r → RS Tryz.f107 I107 9 (xIN x0 x6 x7 x8 x9) (xBA r) := by
 intro n
 induction n with
 | zero => exact fun _ _ _ _ _ _ h => nE h
 | succ n ih =>
  exact fun x0 x6 x7 x8 x9 r h =>
   cE h (fun h0 h => iE h fun h1 h => cE h (fun h2 h => dS h xIY (xSs x0 x6 x7 x8 x9) (oc4 h0 h1 h2 rfl on)) fun h2 h =>
   cE h (fun h4 h => dS h xIY (xSt x0 x6 x7 x8 x9) (oc5 h0 h1 h2 h1 h4 on)) fun h4 h =>
   tS xIY (xSu x0 x6 x7 x8 x9) (oc6 h0 h1 h2 h1 h4 h1 on) (ih _ _ _ _ _ _ h)) fun h0 h =>
   cE h (fun h1 h => bE h fun r1 h2 h => cE h (fun h3 h => dS h xIY (xSv x0 x6 x7 x8 x9 r1) (oc4 h0 h1 (xFg h2) h3 on)) fun h3 h =>
   dS h xIY (xSw x0 x6 x7 x8 x9 r1) (oc4 h0 h1 (xFg h2) h3 on)) fun h1 h =>
   bE h fun r1 h2 h => cE h (fun h3 h => dS h xIY (xSx x0 x6 x7 x8 x9 r1) (oc4 h0 h1 (xFg h2) h3 on)) fun h3 h =>
   dS h xIY (xSy x0 x6 x7 x8 x9 r1) (oc4 h0 h1 (xFg h2) h3 on)
theorem vAU {N : Nat} : ∀ a0 a1 r, xHN N a0 a1 = some r → RE Tryz.f107 I107 (xCQ a0 a1) (xBA r) := fun a0 a1 r h =>
 cE h (fun h0 h => iE h fun h1 h => cE h (fun h2 h => iE h fun h3 h => cE h (fun h4 h => dE h xIY (xSz a0 a1) (oc6 h0 h1 h2 h3 h4 rfl on)) fun h4 h =>
 cE h (fun h5 h => dE h xIY (xSA a0 a1) (oc6 h0 h1 h2 h3 h4 h5 on)) fun h5 h =>
 tE xIY (xSB a0 a1) (oc6 h0 h1 h2 h3 h4 h5 on) (xPY _ _ _ _ _ _ _ h)) fun h2 h =>
 cE h (fun h3 h => dE h xIY (xQM a0 a1) (oc5 h0 h1 h2 h3 rfl on)) fun h3 h =>
 cE h (fun h4 h => dE h xIY (xQN a0 a1) (oc5 h0 h1 h2 h3 h4 on)) fun h4 h =>
 tE xIY (xQO a0 a1) (oc5 h0 h1 h2 h3 h4 on) (xPY _ _ _ _ _ _ _ h)) fun h0 h =>
 cE h (fun h2 h => dE h xIY (xQP a0 a1) (oc4 h0 rfl h2 rfl on)) fun h2 h =>
 cE h (fun h3 h => dE h xIY (xQQ a0 a1) (oc4 h0 rfl h2 h3 on)) fun h3 h =>
 tE xIY (xQR a0 a1) (oc4 h0 rfl h2 h3 on) (xPY _ _ _ _ _ _ _ h)
theorem xL9 {N : Nat} {a0 : Str} {a1 : Int} {r : Int × Bool} (h : xHN N  a0 a1 = some r) : AbC 107 (xCQ a0 a1) (xBA r) :=
 AbsCalls.of_reach xIY rfl rfl (Nat.le_of_ble_eq_true rfl) (vAU a0 a1 r h)
noncomputable def I81 : Info := { body := (Tryz.f81.body).getD .skip, nt := 8, results := [.tmp 2, .tmp 3], keep := [0, 4, 6], live := [], modes := [] }
theorem fk81 : FnOk Tryz.prog 81 Tryz.f81 I81 := ⟨Tryz.func81, by kernel_rfl, by kernel_rfl, by kernel_rfl, by kernel_rfl⟩
def xZo (a0 : Str) (r1 : Int × Bool) : rE I81 (xGl a0) [] [xBA r1] = dn (xCL (r1.1, r1.2)) [AbC 107 (xCQ a0 12) (xBA r1)] := by kernel_rfl
theorem vCX {N : Nat} : ∀ a0 r, xFs N a0 = some r → RE Tryz.f81 I81 (xGl a0) (xCL r) := fun a0 r h =>
 bE h fun r1 h0 h => dE h fk81 (xZo a0 r1) (oc (xL9 h0) on)
theorem xES {N : Nat} {a0 : Str} {r : Int × Bool} (h : xFs N  a0 = some r) : AbC 81 (xGl a0) (xCL r) :=
 AbsCalls.of_reach fk81 rfl rfl (Nat.le_of_ble_eq_true rfl) (vCX a0 r h)
noncomputable def I82 : Info := { body := (Tryz.f82.body).getD .skip, nt := 29, results := [.tmp 2], keep := [0, 4, 6, 14, 50], live := [(2, [0, 6])], modes := [(4, [(4, .take, false), (10, .take, false)])] }
theorem fk82 : FnOk Tryz.prog 82 Tryz.f82 I82 := ⟨Tryz.func82, by kernel_rfl, by kernel_rfl, by kernel_rfl, by kernel_rfl⟩
def xNg (x0 : Str) (x3 : Int) : St := [(0, .v false [.str x0]), (6, .v false [.int .i64 x3])]
abbrev xN5 (v0 : Str) (v1 : Int) := dc ((((gD v0 (tN v1) 0).toNat : Int) : Int) < 32)
def xZp (x0 : Str) (x3 : Int) : rS 2 I82 (xNg x0 x3) [Y, Y, Y, Y] [] = dn (xA9 false) [xDn x3 x0, xAA x3 x0, iY (xN5 x0 x3), iY true, iY true] := by kernel_rfl
abbrev xMk (v0 : Str) (v1 : Int) : Prop := iN (xN5 v0 v1)
abbrev xN6 (v0 : Str) (v1 : Int) := dc ((((gD v0 (tN v1) 0).toNat : Int) : Int) > 126)
def xZq (x0 : Str) (x3 : Int) : rS 2 I82 (xNg x0 x3) [Y, F, Y, Y] [] = dn (xA9 false) [xDn x3 x0, xAA x3 x0, xMk x0 x3, xAA x3 x0, iY (xN6 x0 x3), iY true] := by kernel_rfl
abbrev xOQ (v0 : Str) (v1 : Int) : Prop := iN (xN6 v0 v1)
abbrev xJc (v0 : Str) (v1 : Int) : Prop := iY ((xF8 v0 v1) == 34)
def xZr (x0 : Str) (x3 : Int) : rS 2 I82 (xNg x0 x3) [Y, F, F, Y] [] = dn (xA9 false) [xDn x3 x0, xAA x3 x0, xMk x0 x3, xAA x3 x0, xOQ x0 x3, xAA x3 x0, xJc x0 x3] := by kernel_rfl
abbrev xJd (v0 : Str) (v1 : Int) : Prop := iN ((xF8 v0 v1) == 34)
def xZs (x0 : Str) (x3 : Int) : rS 2 I82 (xNg x0 x3) [Y, F, F, F] [] = st 2 I82 (xNg x0 (W (x3 + 1))) [xDn x3 x0, xAA x3 x0, xMk x0 x3, xAA x3 x0, xOQ x0 x3, xAA x3 x0, xJd x0 x3] := by kernel_rfl
def xZt (x0 : Str) (x3 : Int) : rS 2 I82 (xNg x0 x3) [F] [] = dn (xA9 (dc ((Ln x0 : Int) ≤ 20))) [xIl x3 x0] := by kernel_rfl
def xZu (a0 : Str) : rE I82 (xEE a0) [] [] = st 2 I82 (xNg a0 0) [] := by kernel_rfl
theorem vCY {N : Nat} : ∀ n x0 x3 r, xCG N n x0 x3 = some r → RS Tryz.f82 I82 2 (xNg x0 x3) (xA9 r) := by
 intro n
 induction n with
 | zero => exact fun _ _ _ h => nE h
 | succ n ih =>
  exact fun x0 x3 r h =>
   cE h (fun h0 h => iE h fun h1 h => cE h (fun h2 h => dS h fk82 (xZp x0 x3) (oc5 h0 h1 h2 rfl rfl on)) fun h2 h =>
   cE h (fun h4 h => dS h fk82 (xZq x0 x3) (oc6 h0 h1 h2 h1 h4 rfl on)) fun h4 h =>
   cE h (fun h6 h => dS h fk82 (xZr x0 x3) (oc7 h0 h1 h2 h1 h4 h1 h6 on)) fun h6 h =>
   tS fk82 (xZs x0 x3) (oc7 h0 h1 h2 h1 h4 h1 h6 on) (ih _ _ _ h)) fun h0 h =>
   dS h fk82 (xZt x0 x3) (oc h0 on)
theorem vCZ {N : Nat} : ∀ a0 r, xEQ N a0 = some r → RE Tryz.f82 I82 (xEE a0) (xA9 r) := fun a0 r h =>
 tE fk82 (xZu a0) on (vCY _ _ _ _ h)
theorem xEF {N : Nat} {a0 : Str} {r : Bool} (h : xEQ N  a0 = some r) : AbC 82 (xEE a0) (xA9 r) :=
 AbsCalls.of_reach fk82 rfl rfl (Nat.le_of_ble_eq_true rfl) (vCZ a0 r h)
noncomputable def I83 : Info := { body := (Tryz.f83.body).getD .skip, nt := 32, results := [.tmp 4], keep := [0, 2, 8, 14, 16, 36, 62], live := [], modes := [(13, [(5, .take, false)])] }
theorem fk83 : FnOk Tryz.prog 83 Tryz.f83 I83 := ⟨Tryz.func83, by kernel_rfl, by kernel_rfl, by kernel_rfl, by kernel_rfl⟩
abbrev xN7 (v0 : Str) (v1 : Int) := (((gD v0 (tN v1) 0).toNat : Int) : Int) == 40
def xZv (a0 : Str) (a1 : Int) : rE I83 (xBn a0 a1) [Y, Y] [] = dn (xBe 1) [xAA a1 a0, iY (xN7 a0 a1), iY (xN7 a0 a1)] := by kernel_rfl
abbrev xIP (v0 : Str) (v1 : Int) : Prop := iN (xN7 v0 v1)
abbrev xN8 (v0 : Str) (v1 : Int) := (((gD v0 (tN v1) 0).toNat : Int) : Int) == 41
def xZw (a0 : Str) (a1 : Int) : rE I83 (xBn a0 a1) [F, Y, Y] [] = dn (xBe 1) [xAA a1 a0, xIP a0 a1, iY (xN8 a0 a1), iY (xN8 a0 a1)] := by kernel_rfl
abbrev xJg (v0 : Str) (v1 : Int) : Prop := iN (xN8 v0 v1)
abbrev xN9 (v0 : Str) (v1 : Int) := (((gD v0 (tN v1) 0).toNat : Int) : Int) == 91
def xZx (a0 : Str) (a1 : Int) : rE I83 (xBn a0 a1) [F, F, Y, Y] [] = dn (xBe 1) [xAA a1 a0, xIP a0 a1, xJg a0 a1, iY (xN9 a0 a1), iY (xN9 a0 a1)] := by kernel_rfl
abbrev xJN (v0 : Str) (v1 : Int) : Prop := iN (xN9 v0 v1)
abbrev xOa (v0 : Str) (v1 : Int) := (((gD v0 (tN v1) 0).toNat : Int) : Int) == 93
def xZy (a0 : Str) (a1 : Int) : rE I83 (xBn a0 a1) [F, F, F, Y, Y] [] = dn (xBe 1) [xAA a1 a0, xIP a0 a1, xJg a0 a1, xJN a0 a1, iY (xOa a0 a1), iY (xOa a0 a1)] := by kernel_rfl
abbrev xKl (v0 : Str) (v1 : Int) : Prop := iN (xOa v0 v1)
abbrev xOb (v0 : Str) (v1 : Int) := (((gD v0 (tN v1) 0).toNat : Int) : Int) == 44
def xZz (a0 : Str) (a1 : Int) : rE I83 (xBn a0 a1) [F, F, F, F, Y, Y] [] = dn (xBe 1) [xAA a1 a0, xIP a0 a1, xJg a0 a1, xJN a0 a1, xKl a0 a1, iY (xOb a0 a1), iY (xOb a0 a1)] := by kernel_rfl
abbrev xK1 (v0 : Str) (v1 : Int) : Prop := iN (xOb v0 v1)
abbrev xOc (v0 : Str) (v1 : Int) := (((gD v0 (tN v1) 0).toNat : Int) : Int) == 43
def xZA (a0 : Str) (a1 : Int) : rE I83 (xBn a0 a1) [F, F, F, F, F, Y, Y] [] = dn (xBe 1) [xAA a1 a0, xIP a0 a1, xJg a0 a1, xJN a0 a1, xKl a0 a1, xK1 a0 a1, iY (xOc a0 a1), iY (xOc a0 a1)] := by kernel_rfl
abbrev xLJ (v0 : Str) (v1 : Int) : Prop := iN (xOc v0 v1)
abbrev xOd (v0 : Str) (v1 : Int) := (((gD v0 (tN v1) 0).toNat : Int) : Int) == 45
def xZB (a0 : Str) (a1 : Int) : rE I83 (xBn a0 a1) [F, F, F, F, F, F, Y, Y] [] = dn (xBe 1) [xAA a1 a0, xIP a0 a1, xJg a0 a1, xJN a0 a1, xKl a0 a1, xK1 a0 a1, xLJ a0 a1, iY (xOd a0 a1), iY (xOd a0 a1)] := by kernel_rfl
abbrev xMl (v0 : Str) (v1 : Int) : Prop := iN (xOd v0 v1)
abbrev xOe (v0 : Str) (v1 : Int) := (((gD v0 (tN v1) 0).toNat : Int) : Int) == 42
def xZC (a0 : Str) (a1 : Int) : rE I83 (xBn a0 a1) [F, F, F, F, F, F, F, Y, Y] [] = dn (xBe 1) [xAA a1 a0, xIP a0 a1, xJg a0 a1, xJN a0 a1, xKl a0 a1, xK1 a0 a1, xLJ a0 a1, xMl a0 a1, iY (xOe a0 a1), iY (xOe a0 a1)] := by kernel_rfl
abbrev xNp (v0 : Str) (v1 : Int) : Prop := iN (xOe v0 v1)
def xZD (a0 : Str) (a1 : Int) : rE I83 (xBn a0 a1) [F, F, F, F, F, F, F, F, Y] [] = dn (xBe 1) [xAA a1 a0, xIP a0 a1, xJg a0 a1, xJN a0 a1, xKl a0 a1, xK1 a0 a1, xLJ a0 a1, xMl a0 a1, xNp a0 a1, iY ((xF8 a0 a1) == 60)] := by kernel_rfl
abbrev xOR (v0 : Str) (v1 : Int) : Prop := iN ((xF8 v0 v1) == 60)
abbrev xQw (v0 : Str) (v1 : Int) : Prop := iY ((xF8 v0 v1) == 61)
abbrev xOf (v0 : Int) := tN (W (v0 + 1))
def xZE (a0 : Str) (a1 : Int) : rE I83 (xBn a0 a1) [F, F, F, F, F, F, F, F, F, Y, Y, Y] [] = dn (xBe 2) [xAA a1 a0, xIP a0 a1, xJg a0 a1, xJN a0 a1, xKl a0 a1, xK1 a0 a1, xLJ a0 a1, xMl a0 a1, xNp a0 a1, xOR a0 a1, xQw a0 a1, iY (dc ((W (a1 + 1)) < (Ln a0 : Int))), (0 : Int) ≤ (W (a1 + 1)) ∧ (W (a1 + 1)) < (Ln a0), iY ((((gD a0 (xOf a1) 0).toNat : Int) : Int) == 61)] := by kernel_rfl
def xUT (a0 : Str) (a1 : Int) : rE I83 (xBn a0 a1) [F, F, F, F, F, F, F, F, F, Y, Y, F] [] = dn (xBe 1) [xAA a1 a0, xIP a0 a1, xJg a0 a1, xJN a0 a1, xKl a0 a1, xK1 a0 a1, xLJ a0 a1, xMl a0 a1, xNp a0 a1, xOR a0 a1, xQw a0 a1, iY (dc ((W (a1 + 1)) < (Ln a0 : Int))), (0 : Int) ≤ (W (a1 + 1)) ∧ (W (a1 + 1)) < (Ln a0), iN ((((gD a0 (xOf a1) 0).toNat : Int) : Int) == 61)] := by kernel_rfl
def xUU (a0 : Str) (a1 : Int) : rE I83 (xBn a0 a1) [F, F, F, F, F, F, F, F, F, Y, F, F] [] = dn (xBe 1) [xAA a1 a0, xIP a0 a1, xJg a0 a1, xJN a0 a1, xKl a0 a1, xK1 a0 a1, xLJ a0 a1, xMl a0 a1, xNp a0 a1, xOR a0 a1, xQw a0 a1, iN (dc ((W (a1 + 1)) < (Ln a0 : Int))), iN false] := by kernel_rfl
def xUV (a0 : Str) (a1 : Int) : rE I83 (xBn a0 a1) [F, F, F, F, F, F, F, F, F, F] [] = dn (xBe 0) [xAA a1 a0, xIP a0 a1, xJg a0 a1, xJN a0 a1, xKl a0 a1, xK1 a0 a1, xLJ a0 a1, xMl a0 a1, xNp a0 a1, xOR a0 a1, iN ((xF8 a0 a1) == 61)] := by kernel_rfl
theorem vC0 {N : Nat} : ∀ a0 a1 r, xGM N a0 a1 = some r → RE Tryz.f83 I83 (xBn a0 a1) (xBe r) := fun a0 a1 r h =>
 iE h fun h0 h => cE h (fun h1 h => dE h fk83 (xZv a0 a1) (oc3 h0 h1 h1 on)) fun h1 h =>
 cE h (fun h2 h => dE h fk83 (xZw a0 a1) (oc4 h0 h1 h2 h2 on)) fun h2 h =>
 cE h (fun h3 h => dE h fk83 (xZx a0 a1) (oc5 h0 h1 h2 h3 h3 on)) fun h3 h =>
 cE h (fun h4 h => dE h fk83 (xZy a0 a1) (oc6 h0 h1 h2 h3 h4 h4 on)) fun h4 h =>
 cE h (fun h5 h => dE h fk83 (xZz a0 a1) (oc7 h0 h1 h2 h3 h4 h5 h5 on)) fun h5 h =>
 cE h (fun h6 h => dE h fk83 (xZA a0 a1) (oc8 h0 h1 h2 h3 h4 h5 h6 h6 on)) fun h6 h =>
 cE h (fun h7 h => dE h fk83 (xZB a0 a1) (oc9 h0 h1 h2 h3 h4 h5 h6 h7 h7 on)) fun h7 h =>
 cE h (fun h8 h => dE h fk83 (xZC a0 a1) (oc10 h0 h1 h2 h3 h4 h5 h6 h7 h8 h8 on)) fun h8 h =>
 cE h (fun h9 h => dE h fk83 (xZD a0 a1) (oc10 h0 h1 h2 h3 h4 h5 h6 h7 h8 h9 on)) fun h9 h =>
 cE h (fun h10 h => cE h (fun h11 h => iE h fun h12 h => cE h (fun h13 h => dE h fk83 (xZE a0 a1) (oc12 h0 h1 h2 h3 h4 h5 h6 h7 h8 h9 h10 h11 (oc2 h12 h13 on))) fun h13 h =>
 dE h fk83 (xUT a0 a1) (oc12 h0 h1 h2 h3 h4 h5 h6 h7 h8 h9 h10 h11 (oc2 h12 h13 on))) fun h11 h =>
 dE h fk83 (xUU a0 a1) (oc12 h0 h1 h2 h3 h4 h5 h6 h7 h8 h9 h10 h11 (oc rfl on))) fun h10 h =>
 dE h fk83 (xUV a0 a1) (oc11 h0 h1 h2 h3 h4 h5 h6 h7 h8 h9 h10 on)
theorem xLi {N : Nat} {a0 : Str} {a1 : Int} {r : Int} (h : xGM N  a0 a1 = some r) : AbC 83 (xBn a0 a1) (xBe r) :=
 AbsCalls.of_reach fk83 rfl rfl (Nat.le_of_ble_eq_true rfl) (vC0 a0 a1 r h)
noncomputable def I43 : Info := { body := (Tryz.f43.body).getD .skip, nt := 136, results := [.cell 4 50, .tmp 5], keep := [0, 2, 8, 10, 12, 14, 16, 18, 48, 88, 112, 116, 144, 182, 186, 218, 256, 9, 13], live := [(7, [0, 2, 8, 12, 14, 9, 13]), (14, [0, 2, 8, 12, 14, 9, 13]), (23, [0, 2, 8, 12, 14, 9, 13])], modes := [(7, [(4, .take, false), (9, .take, false)]), (14, [(4, .take, false)]), (16, [(5, .take, false)]), (19, [(0, .take, false), (2, .take, false)]), (23, [(4, .take, false)]), (27, [(4, .take, false)])] }
theorem fk43 : FnOk Tryz.prog 43 Tryz.f43 I43 := ⟨Tryz.func43, by kernel_rfl, by kernel_rfl, by kernel_rfl, by kernel_rfl⟩
def xL4 (x0 : Str) (x1 x7 : Int) (b4 b6 : Tok) : St := [(0, .v false [.str x0]), (2, .v false [.int .i64 x1]), (8, .v false [.ptr 4 0]), (12, .v false [.ptr 6 0]), (14, .v false [.int .i64 x7]), (9, .v true [.int .i64 (Tok.kind b4), .int .i64 (Tok.n b4), .int .i64 (Tok.pos b4), .str (Tok.text b4)]), (13, .v true [.int .i64 (Tok.kind b6), .int .i64 (Tok.n b6), .int .i64 (Tok.pos b6), .str (Tok.text b6)])]
def xJJ (x0 : Str) (x1 x7 : Int) (b4 b6 : Tok) : St := [(0, .v false [.str x0]), (2, .v false [.int .i64 x1]), (8, .v false [.ptr 4 0]), (12, .v false [.ptr 6 0]), (14, .v false [.int .i64 x7]), (9, .v true [.int .i64 (Tok.kind b4), .int .i64 (Tok.n b4), .int .i64 (Tok.pos b4), .str (Tok.text b4)]), (13, .v true [.int .i64 (Tok.kind b6), .int .i64 (Tok.n b6), .int .i64 (Tok.pos b6), .str (Tok.text b6)])]
def xJK (x0 : Str) (x1 x7 : Int) (b4 b6 : Tok) : St := [(0, .v false [.str x0]), (2, .v false [.int .i64 x1]), (8, .v false [.ptr 4 0]), (12, .v false [.ptr 6 0]), (14, .v false [.int .i64 x7]), (9, .v true [.int .i64 (Tok.kind b4), .int .i64 (Tok.n b4), .int .i64 (Tok.pos b4), .str (Tok.text b4)]), (13, .v true [.int .i64 (Tok.kind b6), .int .i64 (Tok.n b6), .int .i64 (Tok.pos b6), .str (Tok.text b6)])]
abbrev xK2 (v0 : Str) (v1 : Int) (v2 : Bool) : Prop := AbC 79 (xFz (xMR v0 v1)) (xBS v2)
def xXy (x0 : Str) (x1 x7 : Int) (b4 b6 : Tok) (r1 : Bool) : rS 7 I43 (xL4 x0 x1 x7 b4 b6) [Y, Y, Y] [xBS r1] = st 7 I43 (xL4 x0 x1 (W (x7 + 1)) b4 b6) [xDn x7 x0, xAA x7 x0, xK2 x0 x7 r1, iY r1, iY true] := by kernel_rfl
abbrev xJO (v0 : Str) (v1 : Int) (v2 : Bool) : Prop := AbC 80 (xFY (xMR v0 v1)) (xBJ v2)
def xXz (x0 : Str) (x1 x7 : Int) (b4 b6 : Tok) (r1 r2 : Bool) : rS 7 I43 (xL4 x0 x1 x7 b4 b6) [Y, F, Y] [xBS r1, xBJ r2] = st 7 I43 (xL4 x0 x1 (W (x7 + 1)) b4 b6) [xDn x7 x0, xAA x7 x0, xK2 x0 x7 r1, iN r1, xAA x7 x0, xJO x0 x7 r2, iY r2] := by kernel_rfl
abbrev xGP (v0 v1 : Int) (v2 : Str) : Prop := (0 : Int) ≤ v0 ∧ v0 ≤ v1 ∧ v1 ≤ (Ln v2)
abbrev xMU (v0 : Tok) (v1 v2 : Int) (v3 : Str) := Tok.mk 1 (Tok.n v0) (Tok.pos v0) (List.drop (tN v1) (List.take (tN v2) v3))
def xXA (x0 : Str) (x1 x7 : Int) (b4 b6 : Tok) (r1 r2 : Bool) : rS 7 I43 (xL4 x0 x1 x7 b4 b6) [Y, F, F, Y] [xBS r1, xBJ r2] = dn (xA7 ((xMU b6 x1 x7 x0), 0)) [xDn x7 x0, xAA x7 x0, xK2 x0 x7 r1, iN r1, xAA x7 x0, xJO x0 x7 r2, iN r2, xGP x1 x7 x0, iY (dc ((W (x7 - x1)) > 8))] := by kernel_rfl
def xXB (x0 : Str) (x1 x7 : Int) (b4 b6 : Tok) (r1 r2 : Bool) : rS 7 I43 (xL4 x0 x1 x7 b4 b6) [Y, F, F, F] [xBS r1, xBJ r2] = dn (xA7 ((xMU b6 x1 x7 x0), (W (x7 - x1)))) [xDn x7 x0, xAA x7 x0, xK2 x0 x7 r1, iN r1, xAA x7 x0, xJO x0 x7 r2, iN r2, xGP x1 x7 x0, iN (dc ((W (x7 - x1)) > 8))] := by kernel_rfl
def xXC (x0 : Str) (x1 x7 : Int) (b4 b6 : Tok) : rS 7 I43 (xL4 x0 x1 x7 b4 b6) [F, F, Y] [] = dn (xA7 ((xMU b6 x1 x7 x0), 0)) [xIl x7 x0, iN false, xGP x1 x7 x0, iY (dc ((W (x7 - x1)) > 8))] := by kernel_rfl
def xXD (x0 : Str) (x1 x7 : Int) (b4 b6 : Tok) : rS 7 I43 (xL4 x0 x1 x7 b4 b6) [F, F, F] [] = dn (xA7 ((xMU b6 x1 x7 x0), (W (x7 - x1)))) [xIl x7 x0, iN false, xGP x1 x7 x0, iN (dc ((W (x7 - x1)) > 8))] := by kernel_rfl
def xT9 (x0 : Str) (x1 x7 : Int) (b4 b6 : Tok) (r1 : Bool) : rS 14 I43 (xJJ x0 x1 x7 b4 b6) [Y, Y] [xBJ r1] = st 14 I43 (xJJ x0 x1 (W (x7 + 1)) b4 b6) [xDn x7 x0, xAA x7 x0, xJO x0 x7 r1, iY r1] := by kernel_rfl
abbrev xQl (v0 v1 : Int) (v2 : Str) := List.drop (tN v0) (List.take (tN v1) v2)
abbrev xMm (v0 v1 : Int) (v2 : Str) (v3 : Int × Bool) : Prop := AbC 81 (xGl (xQl v0 v1 v2)) (xCL v3)
abbrev xMV (v0 : Int × Bool) (v1 : Tok) := xA7 ((Tok.mk 2 v0.1 (Tok.pos v1) (Tok.text v1)), 0)
def xUa (x0 : Str) (x1 x7 : Int) (b4 b6 : Tok) (r1 : Bool) (r2 : Int × Bool) : rS 14 I43 (xJJ x0 x1 x7 b4 b6) [Y, F, Y, Y] [xBJ r1, xCL r2] = dn (xMV r2 b6) [xDn x7 x0, xAA x7 x0, xJO x0 x7 r1, iN r1, xGP x1 x7 x0, xMm x1 x7 x0 r2, iY (!r2.2), iY true] := by kernel_rfl
def xUb (x0 : Str) (x1 x7 : Int) (b4 b6 : Tok) (r1 : Bool) (r2 : Int × Bool) : rS 14 I43 (xJJ x0 x1 x7 b4 b6) [Y, F, F, Y] [xBJ r1, xCL r2] = dn (xMV r2 b6) [xDn x7 x0, xAA x7 x0, xJO x0 x7 r1, iN r1, xGP x1 x7 x0, xMm x1 x7 x0 r2, iN (!r2.2), iY (dc (r2.1 > 1000000000))] := by kernel_rfl
abbrev xQm (v0 : Int × Bool) (v1 : Tok) := Tok.mk 2 v0.1 (Tok.pos v1) (Tok.text v1)
def xUc (x0 : Str) (x1 x7 : Int) (b4 b6 : Tok) (r1 : Bool) (r2 : Int × Bool) : rS 14 I43 (xJJ x0 x1 x7 b4 b6) [Y, F, F, F] [xBJ r1, xCL r2] = dn (xA7 ((xQm r2 b6), (W (x7 - x1)))) [xDn x7 x0, xAA x7 x0, xJO x0 x7 r1, iN r1, xGP x1 x7 x0, xMm x1 x7 x0 r2, iN (!r2.2), iN (dc (r2.1 > 1000000000))] := by kernel_rfl
def xQ7 (x0 : Str) (x1 x7 : Int) (b4 b6 : Tok) (r1 : Int × Bool) : rS 14 I43 (xJJ x0 x1 x7 b4 b6) [F, F, Y, Y] [xCL r1] = dn (xMV r1 b6) [xIl x7 x0, iN false, xGP x1 x7 x0, xMm x1 x7 x0 r1, iY (!r1.2), iY true] := by kernel_rfl
def xQ8 (x0 : Str) (x1 x7 : Int) (b4 b6 : Tok) (r1 : Int × Bool) : rS 14 I43 (xJJ x0 x1 x7 b4 b6) [F, F, F, Y] [xCL r1] = dn (xMV r1 b6) [xIl x7 x0, iN false, xGP x1 x7 x0, xMm x1 x7 x0 r1, iN (!r1.2), iY (dc (r1.1 > 1000000000))] := by kernel_rfl
def xQ9 (x0 : Str) (x1 x7 : Int) (b4 b6 : Tok) (r1 : Int × Bool) : rS 14 I43 (xJJ x0 x1 x7 b4 b6) [F, F, F, F] [xCL r1] = dn (xA7 ((xQm r1 b6), (W (x7 - x1)))) [xIl x7 x0, iN false, xGP x1 x7 x0, xMm x1 x7 x0 r1, iN (!r1.2), iN (dc (r1.1 > 1000000000))] := by kernel_rfl
def xRa (x0 : Str) (x1 x7 : Int) (b4 b6 : Tok) : rS 23 I43 (xJK x0 x1 x7 b4 b6) [Y, Y] [] = st 23 I43 (xJK x0 x1 (W (x7 + 1)) b4 b6) [xDn x7 x0, xAA x7 x0, iY ((xF8 x0 x7) != 34)] := by kernel_rfl
abbrev xQA (v0 : Str) (v1 : Int) : Prop := iN ((xF8 v0 v1) != 34)
abbrev xMn (v0 v1 : Int) (v2 : Str) : Prop := (0 : Int) ≤ (W (v0 + 1)) ∧ (W (v0 + 1)) ≤ v1 ∧ v1 ≤ (Ln v2)
abbrev xMW (v0 : Tok) (v1 v2 : Int) (v3 : Str) := xA7 ((Tok.mk 3 (Tok.n v0) (Tok.pos v0) (List.drop (tN (W (v1 + 1))) (List.take (tN v2) v3))), 0)
def xRb (x0 : Str) (x1 x7 : Int) (b4 b6 : Tok) : rS 23 I43 (xJK x0 x1 x7 b4 b6) [Y, F, Y, Y] [] = dn (xMW b6 x1 x7 x0) [xDn x7 x0, xAA x7 x0, xQA x0 x7, xMn x1 x7 x0, iY (x7 == (Ln x0 : Int)), iY true] := by kernel_rfl
abbrev xV0 (v0 v1 : Int) (v2 : Str) := List.drop (tN (W (v0 + 1))) (List.take (tN v1) v2)
abbrev xOS (v0 v1 : Int) (v2 : Str) (v3 : Bool) : Prop := AbC 82 (xEE (xV0 v0 v1 v2)) (xA9 v3)
def xRc (x0 : Str) (x1 x7 : Int) (b4 b6 : Tok) (r1 : Bool) : rS 23 I43 (xJK x0 x1 x7 b4 b6) [Y, F, F, Y] [xA9 r1] = dn (xMW b6 x1 x7 x0) [xDn x7 x0, xAA x7 x0, xQA x0 x7, xMn x1 x7 x0, iN (x7 == (Ln x0 : Int)), xOS x1 x7 x0 r1, iY (!r1)] := by kernel_rfl
abbrev xQn (v0 : Tok) (v1 v2 : Int) (v3 : Str) := xA7 ((Tok.mk 3 (Tok.n v0) (Tok.pos v0) (List.drop (tN (W (v1 + 1))) (List.take (tN v2) v3))), (W ((W (v2 + 1)) - v1)))
def xRd (x0 : Str) (x1 x7 : Int) (b4 b6 : Tok) (r1 : Bool) : rS 23 I43 (xJK x0 x1 x7 b4 b6) [Y, F, F, F] [xA9 r1] = dn (xQn b6 x1 x7 x0) [xDn x7 x0, xAA x7 x0, xQA x0 x7, xMn x1 x7 x0, iN (x7 == (Ln x0 : Int)), xOS x1 x7 x0 r1, iN (!r1)] := by kernel_rfl
def xRe (x0 : Str) (x1 x7 : Int) (b4 b6 : Tok) : rS 23 I43 (xJK x0 x1 x7 b4 b6) [F, F, Y, Y] [] = dn (xMW b6 x1 x7 x0) [xIl x7 x0, iN false, xMn x1 x7 x0, iY (x7 == (Ln x0 : Int)), iY true] := by kernel_rfl
def xRf (x0 : Str) (x1 x7 : Int) (b4 b6 : Tok) (r1 : Bool) : rS 23 I43 (xJK x0 x1 x7 b4 b6) [F, F, F, Y] [xA9 r1] = dn (xMW b6 x1 x7 x0) [xIl x7 x0, iN false, xMn x1 x7 x0, iN (x7 == (Ln x0 : Int)), xOS x1 x7 x0 r1, iY (!r1)] := by kernel_rfl
def xRg (x0 : Str) (x1 x7 : Int) (b4 b6 : Tok) (r1 : Bool) : rS 23 I43 (xJK x0 x1 x7 b4 b6) [F, F, F, F] [xA9 r1] = dn (xQn b6 x1 x7 x0) [xIl x7 x0, iN false, xMn x1 x7 x0, iN (x7 == (Ln x0 : Int)), xOS x1 x7 x0 r1, iN (!r1)] := by kernel_rfl
def xUd (a0 : Str) (a1 : Int) (r1 : Bool) : rE I43 (xD5 a0 a1) [Y] [xBS r1] = st 7 I43 (xL4 a0 a1 a1 (Tok.mk 0 0 0 []) (Tok.mk 0 0 a1 [])) [xAA a1 a0, xK2 a0 a1 r1, iY r1] := by kernel_rfl
def xUe (a0 : Str) (a1 : Int) (r1 r2 : Bool) : rE I43 (xD5 a0 a1) [F, Y] [xBS r1, xBJ r2] = st 14 I43 (xJJ a0 a1 a1 (Tok.mk 0 0 0 []) (Tok.mk 0 0 a1 [])) [xAA a1 a0, xK2 a0 a1 r1, iN r1, xAA a1 a0, xJO a0 a1 r2, iY r2] := by kernel_rfl
def xUf (a0 : Str) (a1 : Int) (r1 r2 : Bool) : rE I43 (xD5 a0 a1) [F, F, Y] [xBS r1, xBJ r2] = st 23 I43 (xJK a0 a1 (W (a1 + 1)) (Tok.mk 0 0 0 []) (Tok.mk 0 0 a1 [])) [xAA a1 a0, xK2 a0 a1 r1, iN r1, xAA a1 a0, xJO a0 a1 r2, iN r2, xAA a1 a0, xJc a0 a1] := by kernel_rfl
def xUg (a0 : Str) (a1 : Int) (r1 r2 : Bool) (r3 : Int) : rE I43 (xD5 a0 a1) [F, F, F] [xBS r1, xBJ r2, xBe r3] = dn (xA7 ((Tok.mk 4 0 a1 (List.drop (tN a1) (List.take (tN (W (a1 + r3))) a0))), (W ((W (a1 + r3)) - a1)))) [xAA a1 a0, xK2 a0 a1 r1, iN r1, xAA a1 a0, xJO a0 a1 r2, iN r2, xAA a1 a0, xJd a0 a1, AbC 83 (xBn a0 a1) (xBe r3), (0 : Int) ≤ a1 ∧ a1 ≤ (W (a1 + r3)) ∧ (W (a1 + r3)) ≤ (Ln a0)] := by kernel_rfl
theorem vCj {N : Nat} : ∀ n x0 x1 x7 b4 b6 r, xD6 N n x0 x1 x7 b4 b6 = some r → RS Tryz.f43 I43 7 (xL4 x0 x1 x7 b4 b6) (xA7 r) := by
 intro n
 induction n with
 | zero => exact fun _ _ _ _ _ _ h => nE h
 | succ n ih =>
  exact fun x0 x1 x7 b4 b6 r h =>
   cE h (fun h0 h => iE h fun h1 h => bE h fun r1 h2 h => cE h (fun h3 h => tS fk43 (xXy x0 x1 x7 b4 b6 r1) (oc5 h0 h1 (xDM h2) h3 rfl on) (ih _ _ _ _ _ _ h)) fun h3 h =>
   bE h fun r2 h5 h => cE h (fun h6 h => tS fk43 (xXz x0 x1 x7 b4 b6 r1 r2) (oc7 h0 h1 (xDM h2) h3 h1 (xDd h5) h6 on) (ih _ _ _ _ _ _ h)) fun h6 h =>
   iE h fun h7 h => cE h (fun h8 h => dS h fk43 (xXA x0 x1 x7 b4 b6 r1 r2) (oc9 h0 h1 (xDM h2) h3 h1 (xDd h5) h6 h7 h8 on)) fun h8 h =>
   dS h fk43 (xXB x0 x1 x7 b4 b6 r1 r2) (oc9 h0 h1 (xDM h2) h3 h1 (xDd h5) h6 h7 h8 on)) fun h0 h =>
   iE h fun h2 h => cE h (fun h3 h => dS h fk43 (xXC x0 x1 x7 b4 b6) (oc4 h0 rfl h2 h3 on)) fun h3 h =>
   dS h fk43 (xXD x0 x1 x7 b4 b6) (oc4 h0 rfl h2 h3 on)
theorem vBm {N : Nat} : ∀ n x0 x1 x7 b4 b6 r, xDD N n x0 x1 x7 b4 b6 = some r → RS Tryz.f43 I43 14 (xJJ x0 x1 x7 b4 b6) (xA7 r) := by
 intro n
 induction n with
 | zero => exact fun _ _ _ _ _ _ h => nE h
 | succ n ih =>
  exact fun x0 x1 x7 b4 b6 r h =>
   cE h (fun h0 h => iE h fun h1 h => bE h fun r1 h2 h => cE h (fun h3 h => tS fk43 (xT9 x0 x1 x7 b4 b6 r1) (oc4 h0 h1 (xDd h2) h3 on) (ih _ _ _ _ _ _ h)) fun h3 h =>
   iE h fun h4 h => bE h fun r2 h5 h => cE h (fun h6 h => dS h fk43 (xUa x0 x1 x7 b4 b6 r1 r2) (oc8 h0 h1 (xDd h2) h3 h4 (xES h5) h6 rfl on)) fun h6 h =>
   cE h (fun h7 h => dS h fk43 (xUb x0 x1 x7 b4 b6 r1 r2) (oc8 h0 h1 (xDd h2) h3 h4 (xES h5) h6 h7 on)) fun h7 h =>
   dS h fk43 (xUc x0 x1 x7 b4 b6 r1 r2) (oc8 h0 h1 (xDd h2) h3 h4 (xES h5) h6 h7 on)) fun h0 h =>
   iE h fun h2 h => bE h fun r1 h3 h => cE h (fun h4 h => dS h fk43 (xQ7 x0 x1 x7 b4 b6 r1) (oc6 h0 rfl h2 (xES h3) h4 rfl on)) fun h4 h =>
   cE h (fun h5 h => dS h fk43 (xQ8 x0 x1 x7 b4 b6 r1) (oc6 h0 rfl h2 (xES h3) h4 h5 on)) fun h5 h =>
   dS h fk43 (xQ9 x0 x1 x7 b4 b6 r1) (oc6 h0 rfl h2 (xES h3) h4 h5 on)
theorem vBn {N : Nat} : ∀ n x0 x1 x7 b4 b6 r, xFm N n x0 x1 x7 b4 b6 = some r → RS Tryz.f43 I43 23 (xJK x0 x1 x7 b4 b6) (xA7 r) := by
 intro n
 induction n with
 | zero => exact fun _ _ _ _ _ _ h => nE h
 | succ n ih =>
  exact fun x0 x1 x7 b4 b6 r h =>
   cE h (fun h0 h => iE h fun h1 h => cE h (fun h2 h => tS fk43 (xRa x0 x1 x7 b4 b6) (oc3 h0 h1 h2 on) (ih _ _ _ _ _ _ h)) fun h2 h =>
   iE h fun h3 h => cE h (fun h4 h => dS h fk43 (xRb x0 x1 x7 b4 b6) (oc6 h0 h1 h2 h3 h4 rfl on)) fun h4 h =>
   bE h fun r1 h5 h => cE h (fun h6 h => dS h fk43 (xRc x0 x1 x7 b4 b6 r1) (oc7 h0 h1 h2 h3 h4 (xEF h5) h6 on)) fun h6 h =>
   dS h fk43 (xRd x0 x1 x7 b4 b6 r1) (oc7 h0 h1 h2 h3 h4 (xEF h5) h6 on)) fun h0 h =>
   iE h fun h2 h => cE h (fun h3 h => dS h fk43 (xRe x0 x1 x7 b4 b6) (oc5 h0 rfl h2 h3 rfl on)) fun h3 h =>
   bE h fun r1 h4 h => cE h (fun h5 h => dS h fk43 (xRf x0 x1 x7 b4 b6 r1) (oc6 h0 rfl h2 h3 (xEF h4) h5 on)) fun h5 h =>
   dS h fk43 (xRg x0 x1 x7 b4 b6 r1) (oc6 h0 rfl h2 h3 (xEF h4) h5 on)
theorem vCk {N : Nat} : ∀ a0 a1 r, xHP N a0 a1 = some r → RE Tryz.f43 I43 (xD5 a0 a1) (xA7 r) := fun a0 a1 r h =>
 iE h fun h0 h => bE h fun r1 h1 h => cE h (fun h2 h => tE fk43 (xUd a0 a1 r1) (oc3 h0 (xDM h1) h2 on) (vCj _ _ _ _ _ _ _ h)) fun h2 h =>
 bE h fun r2 h4 h => cE h (fun h5 h => tE fk43 (xUe a0 a1 r1 r2) (oc6 h0 (xDM h1) h2 h0 (xDd h4) h5 on) (vBm _ _ _ _ _ _ _ h)) fun h5 h =>
 cE h (fun h7 h => tE fk43 (xUf a0 a1 r1 r2) (oc8 h0 (xDM h1) h2 h0 (xDd h4) h5 h0 h7 on) (vBn _ _ _ _ _ _ _ h)) fun h7 h =>
 bE h fun r3 h8 h => iE h fun h9 h => dE h fk43 (xUg a0 a1 r1 r2 r3) (oc10 h0 (xDM h1) h2 h0 (xDd h4) h5 h0 h7 (xLi h8) h9 on)
theorem xIf {N : Nat} {a0 : Str} {a1 : Int} {r : Tok × Int} (h : xHP N  a0 a1 = some r) : AbC 43 (xD5 a0 a1) (xA7 r) :=
 AbsCalls.of_reach fk43 rfl rfl (Nat.le_of_ble_eq_true rfl) (vCk a0 a1 r h)
noncomputable def I23 : Info := { body := (Tryz.f23.body).getD .skip, nt := 46, results := [.tmp 2, .tmp 3], keep := [0, 4, 6, 8, 10, 12, 14, 20, 32, 40, 70, 13], live := [(5, [0, 8, 10])], modes := [(8, [(3, .take, false)]), (9, [(2, .take, false)]), (11, [(0, .take, false)]), (13, [(0, .take, false)])] }
theorem fk23 : FnOk Tryz.prog 23 Tryz.f23 I23 := ⟨Tryz.func23, by kernel_rfl, by kernel_rfl, by kernel_rfl, by kernel_rfl⟩
def xMy (x0 : Str) (x4 : List Tok) (x5 : Int) : St := [(0, .v false [.str x0]), (8, .v false [.sl .own .tok x4]), (10, .v false [.int .i64 x5])]
abbrev xOg (v0 : Str) (v1 : Int) := (((gD v0 (tN v1) 0).toNat : Int) : Int) == 32
def xWy (x0 : Str) (x4 : List Tok) (x5 : Int) : rS 5 I23 (xMy x0 x4 x5) [Y, Y] [] = st 5 I23 (xMy x0 x4 (W (x5 + 1))) [xDn x5 x0, xAA x5 x0, iY (xOg x0 x5)] := by kernel_rfl
abbrev xMo (v0 : Str) (v1 : Int) : Prop := iN (xOg v0 v1)
def xWz (x0 : Str) (x4 : List Tok) (x5 : Int) (r1 : Tok × Int) : rS 5 I23 (xMy x0 x4 x5) [Y, F, Y, Y] [xA7 r1] = dn (xA6 ([], x5)) [xDn x5 x0, xAA x5 x0, xMo x0 x5, AbC 43 (xD5 x0 x5) (xA7 r1), iY (r1.2 == 0), iY true] := by kernel_rfl
def xWA (x0 : Str) (x4 : List Tok) (x5 : Int) (r1 : Tok × Int) : rS 5 I23 (xMy x0 x4 x5) [Y, F, F, Y] [xA7 r1] = dn (xA6 ([], x5)) [xDn x5 x0, xAA x5 x0, xMo x0 x5, AbC 43 (xD5 x0 x5) (xA7 r1), iN (r1.2 == 0), iY ((Ln x4 : Int) == 60)] := by kernel_rfl
def xWB (x0 : Str) (x4 : List Tok) (x5 : Int) (r1 : Tok × Int) : rS 5 I23 (xMy x0 x4 x5) [Y, F, F, F] [xA7 r1] = st 5 I23 (xMy x0 (x4 ++ [r1.1]) (W (x5 + r1.2))) [xDn x5 x0, xAA x5 x0, xMo x0 x5, AbC 43 (xD5 x0 x5) (xA7 r1), iN (r1.2 == 0), iN ((Ln x4 : Int) == 60), Ln x4 + Ln [r1.1] ≤ Lim] := by kernel_rfl
def xWC (x0 : Str) (x4 : List Tok) (x5 : Int) : rS 5 I23 (xMy x0 x4 x5) [F] [] = dn (xA6 (x4, (-1))) [xIl x5 x0] := by kernel_rfl
abbrev xMX (v0 : Str) := dc ((Ln v0 : Int) > 120)
def xWD (a0 : Str) : rE I23 (xFy a0) [Y] [] = dn (xA6 ([], 120)) [iY (xMX a0)] := by kernel_rfl
def xWE (a0 : Str) : rE I23 (xFy a0) [F] [] = st 5 I23 (xMy a0 [] 0) [iN (xMX a0)] := by kernel_rfl
theorem vBZ {N : Nat} : ∀ n x0 x4 x5 r, xEj N n x0 x4 x5 = some r → RS Tryz.f23 I23 5 (xMy x0 x4 x5) (xA6 r) := by
 intro n
 induction n with
 | zero => exact fun _ _ _ _ h => nE h
 | succ n ih =>
  exact fun x0 x4 x5 r h =>
   cE h (fun h0 h => iE h fun h1 h => cE h (fun h2 h => tS fk23 (xWy x0 x4 x5) (oc3 h0 h1 h2 on) (ih _ _ _ _ h)) fun h2 h =>
   bE h fun r1 h3 h => cE h (fun h4 h => dS h fk23 (xWz x0 x4 x5 r1) (oc6 h0 h1 h2 (xIf h3) h4 rfl on)) fun h4 h =>
   cE h (fun h5 h => dS h fk23 (xWA x0 x4 x5 r1) (oc6 h0 h1 h2 (xIf h3) h4 h5 on)) fun h5 h =>
   iE h fun h6 h => tS fk23 (xWB x0 x4 x5 r1) (oc7 h0 h1 h2 (xIf h3) h4 h5 h6 on) (ih _ _ _ _ h)) fun h0 h =>
   dS h fk23 (xWC x0 x4 x5) (oc h0 on)
theorem vB0 {N : Nat} : ∀ a0 r, xF1 N a0 = some r → RE Tryz.f23 I23 (xFy a0) (xA6 r) := fun a0 r h =>
 cE h (fun h0 h => dE h fk23 (xWD a0) (oc h0 on)) fun h0 h =>
 tE fk23 (xWE a0) (oc h0 on) (vBZ _ _ _ _ _ h)
theorem xCM {N : Nat} {a0 : Str} {r : (List Tok) × Int} (h : xF1 N  a0 = some r) : AbC 23 (xFy a0) (xA6 r) :=
 AbsCalls.of_reach fk23 rfl rfl (Nat.le_of_ble_eq_true rfl) (vB0 a0 r h)
noncomputable def I85 : Info := { body := (Tryz.f85.body).getD .skip, nt := 14, results := [.tmp 4], keep := [0, 2, 4, 8, 5], live := [], modes := [(1, [(3, .take, false)])] }
theorem fk85 : FnOk Tryz.prog 85 Tryz.f85 I85 := ⟨Tryz.func85, by kernel_rfl, by kernel_rfl, by kernel_rfl, by kernel_rfl⟩
def xZI (a0 : Tok) (a1 : Str) : rE I85 (xDI a0 a1) [Y] [] = dn (xAV (((Tok.text a0) : Str) == a1)) [iY ((Tok.kind a0) == 4)] := by kernel_rfl
def xZJ (a0 : Tok) (a1 : Str) : rE I85 (xDI a0 a1) [F] [] = dn (xAV false) [iN ((Tok.kind a0) == 4)] := by kernel_rfl
theorem vC2 {N : Nat} : ∀ a0 a1 r, xDw N a0 a1 = some r → RE Tryz.f85 I85 (xDI a0 a1) (xAV r) := fun a0 a1 r h =>
 cE h (fun h0 h => dE h fk85 (xZI a0 a1) (oc h0 on)) fun h0 h =>
 dE h fk85 (xZJ a0 a1) (oc h0 on)
theorem xB6 {N : Nat} {a0 : Tok} {a1 : Str} {r : Bool} (h : xDw N  a0 a1 = some r) : AbC 85 (xDI a0 a1) (xAV r) :=
 AbsCalls.of_reach fk85 rfl rfl (Nat.le_of_ble_eq_true rfl) (vC2 a0 a1 r h)
noncomputable def I86 : Info := { body := (Tryz.f86.body).getD .skip, nt := 14, results := [.tmp 4], keep := [0, 2, 4, 8, 5], live := [], modes := [(1, [(3, .take, false)])] }
theorem fk86 : FnOk Tryz.prog 86 Tryz.f86 I86 := ⟨Tryz.func86, by kernel_rfl, by kernel_rfl, by kernel_rfl, by kernel_rfl⟩
def xZK (a0 : Tok) (a1 : Str) : rE I86 (xFh a0 a1) [Y] [] = dn (xEy (((Tok.text a0) : Str) == a1)) [iY ((Tok.kind a0) == 1)] := by kernel_rfl
def xZL (a0 : Tok) (a1 : Str) : rE I86 (xFh a0 a1) [F] [] = dn (xEy false) [iN ((Tok.kind a0) == 1)] := by kernel_rfl
theorem vC3 {N : Nat} : ∀ a0 a1 r, xGe N a0 a1 = some r → RE Tryz.f86 I86 (xFh a0 a1) (xEy r) := fun a0 a1 r h =>
 cE h (fun h0 h => dE h fk86 (xZK a0 a1) (oc h0 on)) fun h0 h =>
 dE h fk86 (xZL a0 a1) (oc h0 on)
theorem xKW {N : Nat} {a0 : Tok} {a1 : Str} {r : Bool} (h : xGe N  a0 a1 = some r) : AbC 86 (xFh a0 a1) (xEy r) :=
 AbsCalls.of_reach fk86 rfl rfl (Nat.le_of_ble_eq_true rfl) (vC3 a0 a1 r h)
noncomputable def I45 : Info := { body := (Tryz.f45.body).getD .skip, nt := 50, results := [.tmp 4], keep := [0, 2, 8, 1], live := [], modes := [(1, [(5, .take, false), (17, .take, false), (30, .take, false)])], ext := [0] }
theorem fk45 : FnOk Tryz.prog 45 Tryz.f45 I45 := ⟨Tryz.func45, by kernel_rfl, by kernel_rfl, by kernel_rfl, by kernel_rfl⟩
abbrev xLN (v0 : Rdr) : Prop := iY (dc ((Rdr.bad v0) < 0))
abbrev xOh (v0 : Rdr) := dc ((Rdr.i v0) < (Ln (Rdr.toks v0) : Int))
abbrev xQB (v0 : Rdr) : Prop := iY (xOh v0)
abbrev xGE (v0 : Rdr) : Prop := (0 : Int) ≤ (Rdr.i v0) ∧ (Rdr.i v0) < (Ln (Rdr.toks v0))
abbrev xJ0 (v0 : Rdr) := gD (Rdr.toks v0) (tN (Rdr.i v0)) Ty.tok.dflt
def xXH (a0 : Rdr) (a1 : Str) (r1 : Bool) : rE I45 (xAG a0 a1) [Y, Y, Y] [xAV r1] = dn (xAe (true, a0)) [xLN a0, xQB a0, xGE a0, AbC 85 (xDI (xJ0 a0) a1) (xAV r1), iY r1] := by kernel_rfl
def xXI (a0 : Rdr) (a1 : Str) (r1 r2 : Bool) : rE I45 (xAG a0 a1) [Y, Y, F] [xAV r1, xEy r2] = dn (xAe (r2, a0)) [xLN a0, xQB a0, xGE a0, AbC 85 (xDI (xJ0 a0) a1) (xAV r1), iN r1, xGE a0, AbC 86 (xFh (xJ0 a0) a1) (xEy r2)] := by kernel_rfl
def xXJ (a0 : Rdr) (a1 : Str) : rE I45 (xAG a0 a1) [Y, F] [] = dn (xAe (false, a0)) [xLN a0, iN (xOh a0)] := by kernel_rfl
def xXK (a0 : Rdr) (a1 : Str) : rE I45 (xAG a0 a1) [F, F] [] = dn (xAe (false, a0)) [iN (dc ((Rdr.bad a0) < 0)), iN false] := by kernel_rfl
theorem vCm {N : Nat} : ∀ a0 a1 r, xBz N a0 a1 = some r → RE Tryz.f45 I45 (xAG a0 a1) (xAe r) := fun a0 a1 r h =>
 cE h (fun h0 h => cE h (fun h1 h => iE h fun h2 h => bE h fun r1 h3 h => cE h (fun h4 h => dE h fk45 (xXH a0 a1 r1) (oc5 h0 h1 h2 (xB6 h3) h4 on)) fun h4 h =>
 bE h fun r2 h6 h => dE h fk45 (xXI a0 a1 r1 r2) (oc7 h0 h1 h2 (xB6 h3) h4 h2 (xKW h6) on)) fun h1 h =>
 dE h fk45 (xXJ a0 a1) (oc2 h0 h1 on)) fun h0 h =>
 dE h fk45 (xXK a0 a1) (oc2 h0 rfl on)
theorem xAq {N : Nat} {a0 : Rdr} {a1 : Str} {r : Bool × Rdr} (h : xBz N  a0 a1 = some r) : AbC 45 (xAG a0 a1) (xAe r) :=
 AbsCalls.of_reach fk45 rfl rfl (Nat.le_of_ble_eq_true rfl) (vCm a0 a1 r h)
noncomputable def I108 : Info := { body := (Tryz.f108.body).getD .skip, nt := 45, results := [.tmp 2], keep := [0, 4, 6, 8, 10, 18, 82], live := [(2, [0, 6])], modes := [(4, [(4, .take, false)]), (5, [(4, .take, false)]), (6, [(0, .take, false), (2, .take, false), (5, .take, false), (6, .take, false)])] }
theorem xJQ : FnOk Tryz.prog 108 Tryz.f108 I108 := ⟨Tryz.func108, by kernel_rfl, by kernel_rfl, by kernel_rfl, by kernel_rfl⟩
def xGz (x0 : Str) (x3 : Int) : St := [(0, .v false [.str x0]), (6, .v false [.int .i64 x3])]
abbrev xFn (v0 : Str) (v1 : Int) : Prop := iY (dc ((xF8 v0 v1) ≥ 97))
abbrev xFN (v0 : Str) (v1 : Int) : Prop := iY (dc ((xF8 v0 v1) ≥ 48))
abbrev xLI (v0 : Str) (v1 : Int) := dc ((((gD v0 (tN v1) 0).toNat : Int) : Int) ≤ 122)
abbrev xKm (v0 : Str) (v1 : Int) : Prop := iY (!(xLI v0 v1))
def xSC (x0 : Str) (x3 : Int) : rS 2 I108 (xGz x0 x3) [Y, Y, Y, Y, Y, Y] [] = dn (xBk false) [xDn x3 x0, xAA x3 x0, xFn x0 x3, xAA x3 x0, xAA x3 x0, xFN x0 x3, xAA x3 x0, xKm x0 x3, iY (x3 == 0), iY true] := by kernel_rfl
abbrev xKR (v0 : Str) (v1 : Int) := dc ((((gD v0 (tN v1) 0).toNat : Int) : Int) ≤ 57)
def xSD (x0 : Str) (x3 : Int) : rS 2 I108 (xGz x0 x3) [Y, Y, Y, Y, F, Y] [] = dn (xBk false) [xDn x3 x0, xAA x3 x0, xFn x0 x3, xAA x3 x0, xAA x3 x0, xFN x0 x3, xAA x3 x0, xKm x0 x3, xKD x3, iY (!(xKR x0 x3))] := by kernel_rfl
def xSE (x0 : Str) (x3 : Int) : rS 2 I108 (xGz x0 x3) [Y, Y, Y, Y, F, F] [] = st 2 I108 (xGz x0 (W (x3 + 1))) [xDn x3 x0, xAA x3 x0, xFn x0 x3, xAA x3 x0, xAA x3 x0, xFN x0 x3, xAA x3 x0, xKm x0 x3, xKD x3, iN (!(xKR x0 x3))] := by kernel_rfl
abbrev xQC (v0 : Str) (v1 : Int) : Prop := iN (!(xLI v0 v1))
def xSF (x0 : Str) (x3 : Int) : rS 2 I108 (xGz x0 x3) [Y, Y, Y, F, F] [] = st 2 I108 (xGz x0 (W (x3 + 1))) [xDn x3 x0, xAA x3 x0, xFn x0 x3, xAA x3 x0, xAA x3 x0, xFN x0 x3, xAA x3 x0, xQC x0 x3, iN false] := by kernel_rfl
abbrev xHh (v0 : Str) (v1 : Int) : Prop := iN (dc ((xF8 v0 v1) ≥ 48))
def xSG (x0 : Str) (x3 : Int) : rS 2 I108 (xGz x0 x3) [Y, Y, F, Y, Y, Y] [] = dn (xBk false) [xDn x3 x0, xAA x3 x0, xFn x0 x3, xAA x3 x0, xAA x3 x0, xHh x0 x3, xKm x0 x3, iY (x3 == 0), iY true] := by kernel_rfl
def xSH (x0 : Str) (x3 : Int) : rS 2 I108 (xGz x0 x3) [Y, Y, F, Y, F, Y] [] = dn (xBk false) [xDn x3 x0, xAA x3 x0, xFn x0 x3, xAA x3 x0, xAA x3 x0, xHh x0 x3, xKm x0 x3, xKD x3, iY (!false)] := by kernel_rfl
def xSI (x0 : Str) (x3 : Int) : rS 2 I108 (xGz x0 x3) [Y, Y, F, F, F] [] = st 2 I108 (xGz x0 (W (x3 + 1))) [xDn x3 x0, xAA x3 x0, xFn x0 x3, xAA x3 x0, xAA x3 x0, xHh x0 x3, xQC x0 x3, iN false] := by kernel_rfl
abbrev xGc (v0 : Str) (v1 : Int) : Prop := iN (dc ((xF8 v0 v1) ≥ 97))
def xSJ (x0 : Str) (x3 : Int) : rS 2 I108 (xGz x0 x3) [Y, F, Y, Y, Y, Y] [] = dn (xBk false) [xDn x3 x0, xAA x3 x0, xGc x0 x3, xAA x3 x0, xFN x0 x3, xAA x3 x0, iY (!false), iY (x3 == 0), iY true] := by kernel_rfl
def xSK (x0 : Str) (x3 : Int) : rS 2 I108 (xGz x0 x3) [Y, F, Y, Y, F, Y] [] = dn (xBk false) [xDn x3 x0, xAA x3 x0, xGc x0 x3, xAA x3 x0, xFN x0 x3, xAA x3 x0, iY (!false), xKD x3, iY (!(xKR x0 x3))] := by kernel_rfl
def xSL (x0 : Str) (x3 : Int) : rS 2 I108 (xGz x0 x3) [Y, F, Y, Y, F, F] [] = st 2 I108 (xGz x0 (W (x3 + 1))) [xDn x3 x0, xAA x3 x0, xGc x0 x3, xAA x3 x0, xFN x0 x3, xAA x3 x0, iY (!false), xKD x3, iN (!(xKR x0 x3))] := by kernel_rfl
def xQS (x0 : Str) (x3 : Int) : rS 2 I108 (xGz x0 x3) [Y, F, F, Y, Y, Y] [] = dn (xBk false) [xDn x3 x0, xAA x3 x0, xGc x0 x3, xAA x3 x0, xHh x0 x3, iY (!false), iY (x3 == 0), iY true] := by kernel_rfl
def xQT (x0 : Str) (x3 : Int) : rS 2 I108 (xGz x0 x3) [Y, F, F, Y, F, Y] [] = dn (xBk false) [xDn x3 x0, xAA x3 x0, xGc x0 x3, xAA x3 x0, xHh x0 x3, iY (!false), xKD x3, iY (!false)] := by kernel_rfl
def xQU (x0 : Str) (x3 : Int) : rS 2 I108 (xGz x0 x3) [F] [] = dn (xBk (xLH x0)) [xIl x3 x0] := by kernel_rfl
def xQV (a0 : Str) : rE I108 (xFl a0) [] [] = st 2 I108 (xGz a0 0) [] := by kernel_rfl
theorem vAV {N : Nat} : ∀ n x0 x3 r, xDc N n x0 x3 = some r → RS Tryz.f108 I108 2 (xGz x0 x3) (xBk r) := by
 intro n
 induction n with
 | zero => exact fun _ _ _ h => nE h
 | succ n ih =>
  exact fun x0 x3 r h =>
   cE h (fun h0 h => iE h fun h1 h => cE h (fun h2 h => cE h (fun h5 h => cE h (fun h7 h => cE h (fun h8 h => dS h xJQ (xSC x0 x3) (oc10 h0 h1 h2 h1 h1 h5 h1 h7 h8 rfl on)) fun h8 h =>
   cE h (fun h9 h => dS h xJQ (xSD x0 x3) (oc10 h0 h1 h2 h1 h1 h5 h1 h7 h8 h9 on)) fun h9 h =>
   tS xJQ (xSE x0 x3) (oc10 h0 h1 h2 h1 h1 h5 h1 h7 h8 h9 on) (ih _ _ _ h)) fun h7 h =>
   tS xJQ (xSF x0 x3) (oc9 h0 h1 h2 h1 h1 h5 h1 h7 rfl on) (ih _ _ _ h)) fun h5 h =>
   cE h (fun h6 h => cE h (fun h7 h => dS h xJQ (xSG x0 x3) (oc9 h0 h1 h2 h1 h1 h5 h6 h7 rfl on)) fun h7 h =>
   dS h xJQ (xSH x0 x3) (oc9 h0 h1 h2 h1 h1 h5 h6 h7 rfl on)) fun h6 h =>
   tS xJQ (xSI x0 x3) (oc8 h0 h1 h2 h1 h1 h5 h6 rfl on) (ih _ _ _ h)) fun h2 h =>
   cE h (fun h4 h => cE h (fun h7 h => dS h xJQ (xSJ x0 x3) (oc9 h0 h1 h2 h1 h4 h1 rfl h7 rfl on)) fun h7 h =>
   cE h (fun h8 h => dS h xJQ (xSK x0 x3) (oc9 h0 h1 h2 h1 h4 h1 rfl h7 h8 on)) fun h8 h =>
   tS xJQ (xSL x0 x3) (oc9 h0 h1 h2 h1 h4 h1 rfl h7 h8 on) (ih _ _ _ h)) fun h4 h =>
   cE h (fun h6 h => dS h xJQ (xQS x0 x3) (oc8 h0 h1 h2 h1 h4 rfl h6 rfl on)) fun h6 h =>
   dS h xJQ (xQT x0 x3) (oc8 h0 h1 h2 h1 h4 rfl h6 rfl on)) fun h0 h =>
   dS h xJQ (xQU x0 x3) (oc h0 on)
theorem vAW {N : Nat} : ∀ a0 r, xH3 N a0 = some r → RE Tryz.f108 I108 (xFl a0) (xBk r) := fun a0 r h =>
 tE xJQ (xQV a0) on (vAV _ _ _ _ h)
theorem xHO {N : Nat} {a0 : Str} {r : Bool} (h : xH3 N  a0 = some r) : AbC 108 (xFl a0) (xBk r) :=
 AbsCalls.of_reach xJQ rfl rfl (Nat.le_of_ble_eq_true rfl) (vAW a0 r h)
noncomputable def I126 : Info := { body := (Tryz.f126.body).getD .skip, nt := 2, results := [.tmp 0], keep := [0], live := [], modes := [] }
theorem vBu : FnOk Tryz.prog 126 Tryz.f126 I126 := ⟨Tryz.func126, by kernel_rfl, by kernel_rfl, by kernel_rfl, by kernel_rfl⟩
def xTH : rE I126 (xFI ) [] [] = dn (xE4 [[108, 101, 116], [105, 110], [105, 102], [116, 104, 101, 110], [101, 108, 115, 101], [102, 111, 114], [100, 111], [108, 101, 110], [115, 117, 109], [116, 97, 107, 101], [115, 107, 105, 112], [114, 97, 110, 103, 101], [110, 116, 104], [119, 104, 101, 114, 101], [107, 101, 101, 112], [97, 100, 100], [103, 114, 111, 117, 112], [106, 111, 105, 110], [99, 111, 108, 117, 109, 110], [114, 111, 119, 115], [99, 108, 111, 99, 107], [99, 104, 97, 110, 99, 101], [102, 105, 108, 101], [116, 97, 98, 108, 101]]) [] := by kernel_rfl
theorem vBe {N : Nat} : ∀ r, xGL N = some r → RE Tryz.f126 I126 (xFI ) (xE4 r) := fun r h =>
 dE h vBu (xTH) on
theorem xKu {N : Nat} {r : (List Str)} (h : xGL N   = some r) : AbC 126 (xFI ) (xE4 r) :=
 AbsCalls.of_reach vBu rfl rfl (Nat.le_of_ble_eq_true rfl) (vBe  r h)
noncomputable def I125 : Info := { body := (Tryz.f125.body).getD .skip, nt := 18, results := [.tmp 4], keep := [0, 2, 8, 10, 18, 34], live := [(2, [0, 2, 10])], modes := [] }
theorem xP3 : FnOk Tryz.prog 125 Tryz.f125 I125 := ⟨Tryz.func125, by kernel_rfl, by kernel_rfl, by kernel_rfl, by kernel_rfl⟩
def xMa (x0 : List Str) (x1 : Str) (x5 : Int) : St := [(0, .v false [.sl .ro .str x0]), (2, .v false [.str x1]), (10, .v false [.int .i64 x5])]
abbrev xKS (v0 : List Str) (v1 : Int) := gD v0 (tN v1) Ty.str.dflt
def xTD (x0 : List Str) (x1 : Str) (x5 : Int) : rS 2 I125 (xMa x0 x1 x5) [Y, Y] [] = dn (xFv true) [iY (dc (x5 < (Ln x0 : Int))), (0 : Int) ≤ x5 ∧ x5 < (Ln x0), iY (((xKS x0 x5) : Str) == x1)] := by kernel_rfl
def xTE (x0 : List Str) (x1 : Str) (x5 : Int) : rS 2 I125 (xMa x0 x1 x5) [Y, F] [] = st 2 I125 (xMa x0 x1 (W (x5 + 1))) [iY (dc (x5 < (Ln x0 : Int))), (0 : Int) ≤ x5 ∧ x5 < (Ln x0), iN (((xKS x0 x5) : Str) == x1)] := by kernel_rfl
def xTF (x0 : List Str) (x1 : Str) (x5 : Int) : rS 2 I125 (xMa x0 x1 x5) [F] [] = dn (xFv false) [iN (dc (x5 < (Ln x0 : Int)))] := by kernel_rfl
def xTG (a0 : List Str) (a1 : Str) : rE I125 (xHk a0 a1) [] [] = st 2 I125 (xMa a0 a1 0) [] := by kernel_rfl
theorem vBc {N : Nat} : ∀ n x0 x1 x5 r, xFu N n x0 x1 x5 = some r → RS Tryz.f125 I125 2 (xMa x0 x1 x5) (xFv r) := by
 intro n
 induction n with
 | zero => exact fun _ _ _ _ h => nE h
 | succ n ih =>
  exact fun x0 x1 x5 r h =>
   cE h (fun h0 h => iE h fun h1 h => cE h (fun h2 h => dS h xP3 (xTD x0 x1 x5) (oc3 h0 h1 h2 on)) fun h2 h =>
   tS xP3 (xTE x0 x1 x5) (oc3 h0 h1 h2 on) (ih _ _ _ _ h)) fun h0 h =>
   dS h xP3 (xTF x0 x1 x5) (oc h0 on)
theorem vBd {N : Nat} : ∀ a0 a1 r, xJB N a0 a1 = some r → RE Tryz.f125 I125 (xHk a0 a1) (xFv r) := fun a0 a1 r h =>
 tE xP3 (xTG a0 a1) on (vBc _ _ _ _ _ h)
theorem xM6 {N : Nat} {a0 : List Str} {a1 : Str} {r : Bool} (h : xJB N  a0 a1 = some r) : AbC 125 (xHk a0 a1) (xFv r) :=
 AbsCalls.of_reach xP3 rfl rfl (Nat.le_of_ble_eq_true rfl) (vBd a0 a1 r h)
noncomputable def I109 : Info := { body := (Tryz.f109.body).getD .skip, nt := 6, results := [.tmp 2], keep := [0, 4], live := [], modes := [] }
theorem vBr : FnOk Tryz.prog 109 Tryz.f109 I109 := ⟨Tryz.func109, by kernel_rfl, by kernel_rfl, by kernel_rfl, by kernel_rfl⟩
def xSM (a0 : Str) (r1 : (List Str)) (r2 : Bool) : rE I109 (xFH a0) [] [xE4 r1, xFv r2] = dn (xE2 r2) [AbC 126 xFI (xE4 r1), AbC 125 (xHk r1 a0) (xFv r2)] := by kernel_rfl
theorem vAX {N : Nat} : ∀ a0 r, xFQ N a0 = some r → RE Tryz.f109 I109 (xFH a0) (xE2 r) := fun a0 r h =>
 bE h fun r1 h0 h => bE h fun r2 h1 h => dE h vBr (xSM a0 r1 r2) (oc2 (xKu h0) (xM6 h1) on)
theorem xKs {N : Nat} {a0 : Str} {r : Bool} (h : xFQ N  a0 = some r) : AbC 109 (xFH a0) (xE2 r) :=
 AbsCalls.of_reach vBr rfl rfl (Nat.le_of_ble_eq_true rfl) (vAX a0 r h)
noncomputable def I87 : Info := { body := (Tryz.f87.body).getD .skip, nt := 15, results := [.tmp 2], keep := [0, 4], live := [], modes := [(1, [(2, .take, false), (7, .take, false)])] }
theorem fk87 : FnOk Tryz.prog 87 Tryz.f87 I87 := ⟨Tryz.func87, by kernel_rfl, by kernel_rfl, by kernel_rfl, by kernel_rfl⟩
def xZM (a0 : Str) (r1 r2 : Bool) : rE I87 (xCi a0) [Y, Y] [xBk r1, xE2 r2] = dn (xAK (!r2)) [AbC 108 (xFl a0) (xBk r1), iY r1, iY (dc ((Ln a0 : Int) ≤ 8)), AbC 109 (xFH a0) (xE2 r2)] := by kernel_rfl
def xZN (a0 : Str) (r1 : Bool) : rE I87 (xCi a0) [Y, F] [xBk r1] = dn (xAK false) [AbC 108 (xFl a0) (xBk r1), iY r1, iN (dc ((Ln a0 : Int) ≤ 8))] := by kernel_rfl
def xZO (a0 : Str) (r1 : Bool) : rE I87 (xCi a0) [F, F] [xBk r1] = dn (xAK false) [AbC 108 (xFl a0) (xBk r1), iN r1, iN false] := by kernel_rfl
theorem vC4 {N : Nat} : ∀ a0 r, xDg N a0 = some r → RE Tryz.f87 I87 (xCi a0) (xAK r) := fun a0 r h =>
 bE h fun r1 h0 h => cE h (fun h1 h => cE h (fun h2 h => bE h fun r2 h3 h => dE h fk87 (xZM a0 r1 r2) (oc4 (xHO h0) h1 h2 (xKs h3) on)) fun h2 h =>
 dE h fk87 (xZN a0 r1) (oc3 (xHO h0) h1 h2 on)) fun h1 h =>
 dE h fk87 (xZO a0 r1) (oc3 (xHO h0) h1 rfl on)
theorem xB1 {N : Nat} {a0 : Str} {r : Bool} (h : xDg N  a0 = some r) : AbC 87 (xCi a0) (xAK r) :=
 AbsCalls.of_reach fk87 rfl rfl (Nat.le_of_ble_eq_true rfl) (vC4 a0 r h)
noncomputable def I29 : Info := { body := (Tryz.f29.body).getD .skip, nt := 40, results := [.cell 2 25], keep := [0, 4, 14, 48, 1, 5], live := [], modes := [], ext := [0] }
theorem fk29 : FnOk Tryz.prog 29 Tryz.f29 I29 := ⟨Tryz.func29, by kernel_rfl, by kernel_rfl, by kernel_rfl, by kernel_rfl⟩
def xWS (a0 : Rdr) : rE I29 (xC9 a0) [Y, Y] [] = dn (xAU ((Exp.mk 0 0 [] []), (Rdr.mk (Rdr.toks a0) (Rdr.i a0) (Rdr.fin a0) (Tok.pos (xJ0 a0))))) [xLN a0, xQB a0, xGE a0] := by kernel_rfl
def xWT (a0 : Rdr) : rE I29 (xC9 a0) [Y, F] [] = dn (xAU ((Exp.mk 0 0 [] []), (Rdr.mk (Rdr.toks a0) (Rdr.i a0) (Rdr.fin a0) (Rdr.fin a0)))) [xLN a0, iN (xOh a0)] := by kernel_rfl
def xWU (a0 : Rdr) : rE I29 (xC9 a0) [F] [] = dn (xAU ((Exp.mk 0 0 [] []), a0)) [iN (dc ((Rdr.bad a0) < 0))] := by kernel_rfl
theorem vB5 {N : Nat} : ∀ a0 r, xBW N a0 = some r → RE Tryz.f29 I29 (xC9 a0) (xAU r) := fun a0 r h =>
 cE h (fun h0 h => cE h (fun h1 h => iE h fun h2 h => dE h fk29 (xWS a0) (oc3 h0 h1 h2 on)) fun h1 h =>
 dE h fk29 (xWT a0) (oc2 h0 h1 on)) fun h0 h =>
 dE h fk29 (xWU a0) (oc h0 on)
theorem xCo {N : Nat} {a0 : Rdr} {r : Exp × Rdr} (h : xBW N  a0 = some r) : AbC 29 (xC9 a0) (xAU r) :=
 AbsCalls.of_reach fk29 rfl rfl (Nat.le_of_ble_eq_true rfl) (vB5 a0 r h)
noncomputable def I46 : Info := { body := (Tryz.f46.body).getD .skip, nt := 71, results := [.tmp 2], keep := [0, 4, 96, 1], live := [], modes := [(1, [(5, .take, false), (17, .take, false), (31, .take, false)])], ext := [0] }
theorem fk46 : FnOk Tryz.prog 46 Tryz.f46 I46 := ⟨Tryz.func46, by kernel_rfl, by kernel_rfl, by kernel_rfl, by kernel_rfl⟩
abbrev xK3 (v0 : Rdr) (v1 : Exp × Rdr) : Prop := AbC 29 (xC9 v0) (xAU v1)
def xXL (a0 : Rdr) (r1 : Exp × Rdr) : rE I46 (xEa a0) [Y, Y, Y, Y] [xAU r1] = dn (xDa ([], r1.2)) [iY (dc ((Rdr.bad a0) ≥ 0)), iY true, iY true, iY true, xK3 a0 r1] := by kernel_rfl
abbrev xHD (v0 : Rdr) : Prop := iN (dc ((Rdr.bad v0) ≥ 0))
abbrev xOi (v0 : Rdr) := dc ((Rdr.i v0) ≥ (Ln (Rdr.toks v0) : Int))
def xXM (a0 : Rdr) (r1 : Exp × Rdr) : rE I46 (xEa a0) [F, Y, Y, Y] [xAU r1] = dn (xDa ([], r1.2)) [xHD a0, iY (xOi a0), iY true, iY true, xK3 a0 r1] := by kernel_rfl
abbrev xIk (v0 : Rdr) : Prop := iN (xOi v0)
abbrev xQo (v0 : Rdr) := ((Tok.kind (gD (Rdr.toks v0) (tN (Rdr.i v0)) Ty.tok.dflt)) : Int) != 1
def xXN (a0 : Rdr) (r1 : Exp × Rdr) : rE I46 (xEa a0) [F, F, Y, Y] [xAU r1] = dn (xDa ([], r1.2)) [xHD a0, xIk a0, xGE a0, iY (xQo a0), iY true, xK3 a0 r1] := by kernel_rfl
abbrev xVz (v0 : Rdr) : Prop := iN (xQo v0)
abbrev xLK (v0 : Rdr) := Tok.text (gD (Rdr.toks v0) (tN (Rdr.i v0)) Ty.tok.dflt)
abbrev xLO (v0 : Rdr) (v1 : Bool) : Prop := AbC 87 (xCi (xLK v0)) (xAK v1)
def xXO (a0 : Rdr) (r1 : Bool) (r2 : Exp × Rdr) : rE I46 (xEa a0) [F, F, F, Y] [xAK r1, xAU r2] = dn (xDa ([], r2.2)) [xHD a0, xIk a0, xGE a0, xVz a0, xGE a0, xLO a0 r1, iY (!r1), xK3 a0 r2] := by kernel_rfl
abbrev xLL (v0 : Rdr) := Rdr.mk (Rdr.toks v0) (W ((Rdr.i v0) + 1)) (Rdr.fin v0) (Rdr.bad v0)
abbrev xOj (v0 : Rdr) := W ((Rdr.i v0) + 1)
def xXP (a0 : Rdr) (r1 : Bool) : rE I46 (xEa a0) [F, F, F, F] [xAK r1] = dn (xDa ((Tok.text (gD (Rdr.toks a0) (tN (W ((xOj a0) - 1))) Ty.tok.dflt)), (xLL a0))) [xHD a0, xIk a0, xGE a0, xVz a0, xGE a0, xLO a0 r1, iN (!r1), (0 : Int) ≤ (W ((xOj a0) - 1)) ∧ (W ((xOj a0) - 1)) < (Ln (Rdr.toks a0))] := by kernel_rfl
theorem vCn {N : Nat} : ∀ a0 r, xDK N a0 = some r → RE Tryz.f46 I46 (xEa a0) (xDa r) := fun a0 r h =>
 cE h (fun h0 h => bE h fun r1 h4 h => dE h fk46 (xXL a0 r1) (oc5 h0 rfl rfl rfl (xCo h4) on)) fun h0 h =>
 cE h (fun h1 h => bE h fun r1 h4 h => dE h fk46 (xXM a0 r1) (oc5 h0 h1 rfl rfl (xCo h4) on)) fun h1 h =>
 iE h fun h2 h => cE h (fun h3 h => bE h fun r1 h5 h => dE h fk46 (xXN a0 r1) (oc6 h0 h1 h2 h3 rfl (xCo h5) on)) fun h3 h =>
 bE h fun r1 h5 h => cE h (fun h6 h => bE h fun r2 h7 h => dE h fk46 (xXO a0 r1 r2) (oc8 h0 h1 h2 h3 h2 (xB1 h5) h6 (xCo h7) on)) fun h6 h =>
 iE h fun h7 h => dE h fk46 (xXP a0 r1) (oc8 h0 h1 h2 h3 h2 (xB1 h5) h6 h7 on)
theorem xJu {N : Nat} {a0 : Rdr} {r : Str × Rdr} (h : xDK N  a0 = some r) : AbC 46 (xEa a0) (xDa r) :=
 AbsCalls.of_reach fk46 rfl rfl (Nat.le_of_ble_eq_true rfl) (vCn a0 r h)
noncomputable def I47 : Info := { body := (Tryz.f47.body).getD .skip, nt := 18, results := [], keep := [0, 2, 14, 1], live := [], modes := [], ext := [0] }
theorem fk47 : FnOk Tryz.prog 47 Tryz.f47 I47 := ⟨Tryz.func47, by kernel_rfl, by kernel_rfl, by kernel_rfl, by kernel_rfl⟩
def xXQ (a0 : Rdr) (a1 : Str) (r1 : Bool × Rdr) (r2 : Exp × Rdr) : rE I47 (xBI a0 a1) [Y] [xAe r1, xAU r2] = dn (xAI r2.2) [AbC 45 (xAG a0 a1) (xAe r1), iY (!r1.1), AbC 29 (xC9 r1.2) (xAU r2)] := by kernel_rfl
abbrev xJh (v0 : Bool × Rdr) := Rdr.mk (Rdr.toks v0.2) (W ((Rdr.i v0.2) + 1)) (Rdr.fin v0.2) (Rdr.bad v0.2)
def xXR (a0 : Rdr) (a1 : Str) (r1 : Bool × Rdr) : rE I47 (xBI a0 a1) [F] [xAe r1] = dn (xAI (xJh r1)) [AbC 45 (xAG a0 a1) (xAe r1), iN (!r1.1)] := by kernel_rfl
theorem vCo {N : Nat} : ∀ a0 a1 r, xBv N a0 a1 = some r → RE Tryz.f47 I47 (xBI a0 a1) (xAI r) := fun a0 a1 r h =>
 bE h fun r1 h0 h => cE h (fun h1 h => bE h fun r2 h2 h => dE h fk47 (xXQ a0 a1 r1 r2) (oc3 (xAq h0) h1 (xCo h2) on)) fun h1 h =>
 dE h fk47 (xXR a0 a1 r1) (oc2 (xAq h0) h1 on)
theorem xCI {N : Nat} {a0 : Rdr} {a1 : Str} {r : Rdr} (h : xBv N  a0 a1 = some r) : AbC 47 (xBI a0 a1) (xAI r) :=
 AbsCalls.of_reach fk47 rfl rfl (Nat.le_of_ble_eq_true rfl) (vCo a0 a1 r h)
noncomputable def I67 : Info := { body := (Tryz.f67.body).getD .skip, nt := 5, results := [.cell 2 25], keep := [0, 4, 5], live := [], modes := [] }
theorem fk67 : FnOk Tryz.prog 67 Tryz.f67 I67 := ⟨Tryz.func67, by kernel_rfl, by kernel_rfl, by kernel_rfl, by kernel_rfl⟩
def xYK (a0 : Int) : rE I67 (xFB a0) [] [] = dn (xBs (Exp.mk 1 a0 [] [])) [] := by kernel_rfl
theorem vCL {N : Nat} : ∀ a0 r, xCH N a0 = some r → RE Tryz.f67 I67 (xFB a0) (xBs r) := fun a0 r h =>
 dE h fk67 (xYK a0) on
theorem xCN {N : Nat} {a0 : Int} {r : Exp} (h : xCH N  a0 = some r) : AbC 67 (xFB a0) (xBs r) :=
 AbsCalls.of_reach fk67 rfl rfl (Nat.le_of_ble_eq_true rfl) (vCL a0 r h)
noncomputable def I101 : Info := { body := (Tryz.f101.body).getD .skip, nt := 5, results := [.cell 2 25], keep := [0, 4, 5], live := [], modes := [] }
theorem vBq : FnOk Tryz.prog 101 Tryz.f101 I101 := ⟨Tryz.func101, by kernel_rfl, by kernel_rfl, by kernel_rfl, by kernel_rfl⟩
def xSb (a0 : Str) : rE I101 (xFU a0) [] [] = dn (xEJ (Exp.mk 3 0 a0 [])) [] := by kernel_rfl
theorem vAP {N : Nat} : ∀ a0 r, xHZ N a0 = some r → RE Tryz.f101 I101 (xFU a0) (xEJ r) := fun a0 r h =>
 dE h vBq (xSb a0) on
theorem xJt {N : Nat} {a0 : Str} {r : Exp} (h : xHZ N  a0 = some r) : AbC 101 (xFU a0) (xEJ r) :=
 AbsCalls.of_reach vBq rfl rfl (Nat.le_of_ble_eq_true rfl) (vAP a0 r h)
noncomputable def I106 : Info := { body := (Tryz.f106.body).getD .skip, nt := 26, results := [.tmp 2], keep := [0, 4, 6, 8, 12, 24, 40, 48], live := [], modes := [] }
theorem xIr : FnOk Tryz.prog 106 Tryz.f106 I106 := ⟨Tryz.func106, by kernel_rfl, by kernel_rfl, by kernel_rfl, by kernel_rfl⟩
abbrev xOk (v0 : Str) := (v0 : Str) == [99, 108, 111, 99, 107]
def xSi (a0 : Str) : rE I106 (xAs a0) [Y] [] = dn (xAk 0) [iY (xOk a0)] := by kernel_rfl
abbrev xEd (v0 : Str) : Prop := iN (xOk v0)
abbrev xOT (v0 : Str) : Prop := iY ((v0 : Str) == [108, 101, 110])
def xSj (a0 : Str) : rE I106 (xAs a0) [F, Y, Y] [] = dn (xAk 1) [xEd a0, xOT a0, xOT a0] := by kernel_rfl
abbrev xEs (v0 : Str) : Prop := iN ((v0 : Str) == [108, 101, 110])
abbrev xOU (v0 : Str) : Prop := iY ((v0 : Str) == [115, 117, 109])
def xSk (a0 : Str) : rE I106 (xAs a0) [F, F, Y, Y] [] = dn (xAk 1) [xEd a0, xEs a0, xOU a0, xOU a0] := by kernel_rfl
abbrev xEN (v0 : Str) : Prop := iN ((v0 : Str) == [115, 117, 109])
abbrev xOV (v0 : Str) : Prop := iY ((v0 : Str) == [114, 111, 119, 115])
def xSl (a0 : Str) : rE I106 (xAs a0) [F, F, F, Y, Y] [] = dn (xAk 1) [xEd a0, xEs a0, xEN a0, xOV a0, xOV a0] := by kernel_rfl
abbrev xFc (v0 : Str) : Prop := iN ((v0 : Str) == [114, 111, 119, 115])
abbrev xOW (v0 : Str) : Prop := iY ((v0 : Str) == [99, 104, 97, 110, 99, 101])
def xSm (a0 : Str) : rE I106 (xAs a0) [F, F, F, F, Y, Y] [] = dn (xAk 1) [xEd a0, xEs a0, xEN a0, xFc a0, xOW a0, xOW a0] := by kernel_rfl
abbrev xFo (v0 : Str) : Prop := iN ((v0 : Str) == [99, 104, 97, 110, 99, 101])
abbrev xOl (v0 : Str) := (v0 : Str) == [102, 105, 108, 101]
def xSn (a0 : Str) : rE I106 (xAs a0) [F, F, F, F, F, Y] [] = dn (xAk 1) [xEd a0, xEs a0, xEN a0, xFc a0, xFo a0, iY (xOl a0)] := by kernel_rfl
abbrev xFF (v0 : Str) : Prop := iN (xOl v0)
abbrev xOX (v0 : Str) : Prop := iY ((v0 : Str) == [116, 97, 107, 101])
def xSo (a0 : Str) : rE I106 (xAs a0) [F, F, F, F, F, F, Y, Y] [] = dn (xAk 2) [xEd a0, xEs a0, xEN a0, xFc a0, xFo a0, xFF a0, xOX a0, xOX a0] := by kernel_rfl
abbrev xF7 (v0 : Str) : Prop := iN ((v0 : Str) == [116, 97, 107, 101])
abbrev xOY (v0 : Str) : Prop := iY ((v0 : Str) == [115, 107, 105, 112])
def xSp (a0 : Str) : rE I106 (xAs a0) [F, F, F, F, F, F, F, Y, Y] [] = dn (xAk 2) [xEd a0, xEs a0, xEN a0, xFc a0, xFo a0, xFF a0, xF7 a0, xOY a0, xOY a0] := by kernel_rfl
abbrev xGw (v0 : Str) : Prop := iN ((v0 : Str) == [115, 107, 105, 112])
abbrev xOZ (v0 : Str) : Prop := iY ((v0 : Str) == [114, 97, 110, 103, 101])
def xSq (a0 : Str) : rE I106 (xAs a0) [F, F, F, F, F, F, F, F, Y, Y] [] = dn (xAk 2) [xEd a0, xEs a0, xEN a0, xFc a0, xFo a0, xFF a0, xF7 a0, xGw a0, xOZ a0, xOZ a0] := by kernel_rfl
abbrev xGQ (v0 : Str) : Prop := iN ((v0 : Str) == [114, 97, 110, 103, 101])
abbrev xO0 (v0 : Str) : Prop := iY ((v0 : Str) == [110, 116, 104])
def xSr (a0 : Str) : rE I106 (xAs a0) [F, F, F, F, F, F, F, F, F, Y, Y] [] = dn (xAk 2) [xEd a0, xEs a0, xEN a0, xFc a0, xFo a0, xFF a0, xF7 a0, xGw a0, xGQ a0, xO0 a0, xO0 a0] := by kernel_rfl
abbrev xHi (v0 : Str) : Prop := iN ((v0 : Str) == [110, 116, 104])
abbrev xO1 (v0 : Str) : Prop := iY ((v0 : Str) == [107, 101, 101, 112])
def xQE (a0 : Str) : rE I106 (xAs a0) [F, F, F, F, F, F, F, F, F, F, Y, Y] [] = dn (xAk 2) [xEd a0, xEs a0, xEN a0, xFc a0, xFo a0, xFF a0, xF7 a0, xGw a0, xGQ a0, xHi a0, xO1 a0, xO1 a0] := by kernel_rfl
abbrev xHU (v0 : Str) : Prop := iN ((v0 : Str) == [107, 101, 101, 112])
abbrev xO2 (v0 : Str) : Prop := iY ((v0 : Str) == [99, 111, 108, 117, 109, 110])
def xQF (a0 : Str) : rE I106 (xAs a0) [F, F, F, F, F, F, F, F, F, F, F, Y, Y] [] = dn (xAk 2) [xEd a0, xEs a0, xEN a0, xFc a0, xFo a0, xFF a0, xF7 a0, xGw a0, xGQ a0, xHi a0, xHU a0, xO2 a0, xO2 a0] := by kernel_rfl
abbrev xIQ (v0 : Str) : Prop := iN ((v0 : Str) == [99, 111, 108, 117, 109, 110])
abbrev xOm (v0 : Str) := (v0 : Str) == [116, 97, 98, 108, 101]
def xQG (a0 : Str) : rE I106 (xAs a0) [F, F, F, F, F, F, F, F, F, F, F, F, Y] [] = dn (xAk 2) [xEd a0, xEs a0, xEN a0, xFc a0, xFo a0, xFF a0, xF7 a0, xGw a0, xGQ a0, xHi a0, xHU a0, xIQ a0, iY (xOm a0)] := by kernel_rfl
abbrev xJP (v0 : Str) : Prop := iN (xOm v0)
abbrev xO3 (v0 : Str) : Prop := iY ((v0 : Str) == [119, 104, 101, 114, 101])
def xQH (a0 : Str) : rE I106 (xAs a0) [F, F, F, F, F, F, F, F, F, F, F, F, F, Y, Y] [] = dn (xAk 3) [xEd a0, xEs a0, xEN a0, xFc a0, xFo a0, xFF a0, xF7 a0, xGw a0, xGQ a0, xHi a0, xHU a0, xIQ a0, xJP a0, xO3 a0, xO3 a0] := by kernel_rfl
abbrev xK4 (v0 : Str) : Prop := iN ((v0 : Str) == [119, 104, 101, 114, 101])
abbrev xO4 (v0 : Str) : Prop := iY ((v0 : Str) == [103, 114, 111, 117, 112])
def xQI (a0 : Str) : rE I106 (xAs a0) [F, F, F, F, F, F, F, F, F, F, F, F, F, F, Y, Y] [] = dn (xAk 3) [xEd a0, xEs a0, xEN a0, xFc a0, xFo a0, xFF a0, xF7 a0, xGw a0, xGQ a0, xHi a0, xHU a0, xIQ a0, xJP a0, xK4 a0, xO4 a0, xO4 a0] := by kernel_rfl
abbrev xMp (v0 : Str) : Prop := iN ((v0 : Str) == [103, 114, 111, 117, 112])
abbrev xOn (v0 : Str) := (v0 : Str) == [106, 111, 105, 110]
def xQJ (a0 : Str) : rE I106 (xAs a0) [F, F, F, F, F, F, F, F, F, F, F, F, F, F, F, Y] [] = dn (xAk 3) [xEd a0, xEs a0, xEN a0, xFc a0, xFo a0, xFF a0, xF7 a0, xGw a0, xGQ a0, xHi a0, xHU a0, xIQ a0, xJP a0, xK4 a0, xMp a0, iY (xOn a0)] := by kernel_rfl
abbrev xO5 (v0 : Str) : Prop := iN (xOn v0)
abbrev xMY (v0 : Str) := (v0 : Str) == [97, 100, 100]
def xQK (a0 : Str) : rE I106 (xAs a0) [F, F, F, F, F, F, F, F, F, F, F, F, F, F, F, F, Y] [] = dn (xAk 4) [xEd a0, xEs a0, xEN a0, xFc a0, xFo a0, xFF a0, xF7 a0, xGw a0, xGQ a0, xHi a0, xHU a0, xIQ a0, xJP a0, xK4 a0, xMp a0, xO5 a0, iY (xMY a0)] := by kernel_rfl
def xQL (a0 : Str) : rE I106 (xAs a0) [F, F, F, F, F, F, F, F, F, F, F, F, F, F, F, F, F] [] = dn (xAk (-1)) [xEd a0, xEs a0, xEN a0, xFc a0, xFo a0, xFF a0, xF7 a0, xGw a0, xGQ a0, xHi a0, xHU a0, xIQ a0, xJP a0, xK4 a0, xMp a0, xO5 a0, iN (xMY a0)] := by kernel_rfl
theorem vAT {N : Nat} : ∀ a0 r, xCc N a0 = some r → RE Tryz.f106 I106 (xAs a0) (xAk r) := fun a0 r h =>
 cE h (fun h0 h => dE h xIr (xSi a0) (oc h0 on)) fun h0 h =>
 cE h (fun h1 h => dE h xIr (xSj a0) (oc3 h0 h1 h1 on)) fun h1 h =>
 cE h (fun h2 h => dE h xIr (xSk a0) (oc4 h0 h1 h2 h2 on)) fun h2 h =>
 cE h (fun h3 h => dE h xIr (xSl a0) (oc5 h0 h1 h2 h3 h3 on)) fun h3 h =>
 cE h (fun h4 h => dE h xIr (xSm a0) (oc6 h0 h1 h2 h3 h4 h4 on)) fun h4 h =>
 cE h (fun h5 h => dE h xIr (xSn a0) (oc6 h0 h1 h2 h3 h4 h5 on)) fun h5 h =>
 cE h (fun h6 h => dE h xIr (xSo a0) (oc8 h0 h1 h2 h3 h4 h5 h6 h6 on)) fun h6 h =>
 cE h (fun h7 h => dE h xIr (xSp a0) (oc9 h0 h1 h2 h3 h4 h5 h6 h7 h7 on)) fun h7 h =>
 cE h (fun h8 h => dE h xIr (xSq a0) (oc10 h0 h1 h2 h3 h4 h5 h6 h7 h8 h8 on)) fun h8 h =>
 cE h (fun h9 h => dE h xIr (xSr a0) (oc11 h0 h1 h2 h3 h4 h5 h6 h7 h8 h9 h9 on)) fun h9 h =>
 cE h (fun h10 h => dE h xIr (xQE a0) (oc12 h0 h1 h2 h3 h4 h5 h6 h7 h8 h9 h10 h10 on)) fun h10 h =>
 cE h (fun h11 h => dE h xIr (xQF a0) (oc12 h0 h1 h2 h3 h4 h5 h6 h7 h8 h9 h10 h11 (oc h11 on))) fun h11 h =>
 cE h (fun h12 h => dE h xIr (xQG a0) (oc12 h0 h1 h2 h3 h4 h5 h6 h7 h8 h9 h10 h11 (oc h12 on))) fun h12 h =>
 cE h (fun h13 h => dE h xIr (xQH a0) (oc12 h0 h1 h2 h3 h4 h5 h6 h7 h8 h9 h10 h11 (oc3 h12 h13 h13 on))) fun h13 h =>
 cE h (fun h14 h => dE h xIr (xQI a0) (oc12 h0 h1 h2 h3 h4 h5 h6 h7 h8 h9 h10 h11 (oc4 h12 h13 h14 h14 on))) fun h14 h =>
 cE h (fun h15 h => dE h xIr (xQJ a0) (oc12 h0 h1 h2 h3 h4 h5 h6 h7 h8 h9 h10 h11 (oc4 h12 h13 h14 h15 on))) fun h15 h =>
 cE h (fun h16 h => dE h xIr (xQK a0) (oc12 h0 h1 h2 h3 h4 h5 h6 h7 h8 h9 h10 h11 (oc5 h12 h13 h14 h15 h16 on))) fun h16 h =>
 dE h xIr (xQL a0) (oc12 h0 h1 h2 h3 h4 h5 h6 h7 h8 h9 h10 h11 (oc5 h12 h13 h14 h15 h16 on))
theorem xD8 {N : Nat} {a0 : Str} {r : Int} (h : xCc N  a0 = some r) : AbC 106 (xAs a0) (xAk r) :=
 AbsCalls.of_reach xIr rfl rfl (Nat.le_of_ble_eq_true rfl) (vAT a0 r h)
noncomputable def I66 : Info := { body := (Tryz.f66.body).getD .skip, nt := 12, results := [.cell 6 25], keep := [0, 2, 4, 8, 10, 12, 9, 11, 13], live := [], modes := [] }
theorem fk66 : FnOk Tryz.prog 66 Tryz.f66 I66 := ⟨Tryz.func66, by kernel_rfl, by kernel_rfl, by kernel_rfl, by kernel_rfl⟩
def xYJ (a0 : Int) (a1 a2 : Exp) : rE I66 (xDi a0 a1 a2) [] [] = dn (xBp (Exp.mk 6 a0 [] [(Exp.re a1), (Exp.re a2)])) [] := by kernel_rfl
theorem vCK {N : Nat} : ∀ a0 a1 a2 r, xDY N a0 a1 a2 = some r → RE Tryz.f66 I66 (xDi a0 a1 a2) (xBp r) := fun a0 a1 a2 r h =>
 dE h fk66 (xYJ a0 a1 a2) on
theorem xEp {N : Nat} {a0 : Int} {a1 : Exp} {a2 : Exp} {r : Exp} (h : xDY N  a0 a1 a2 = some r) : AbC 66 (xDi a0 a1 a2) (xBp r) :=
 AbsCalls.of_reach fk66 rfl rfl (Nat.le_of_ble_eq_true rfl) (vCK a0 a1 a2 r h)
end Go.Ab.T
end
